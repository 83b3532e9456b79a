import PyProof.Rows.All
import Wide.All
import OpenK.AllK
import Wide.FinOn
import PySem.Challenge.RW_sf0013_01
open PySem PySem.W PySem.Calls PyProof.Rows
set_option Elab.async false
set_option compiler.extract_closed false
set_option maxRecDepth 100000
set_option maxHeartbeats 8000000
set_option linter.unusedVariables false
namespace Mine
local macro_rules | `(tactic| omega) => `(tactic| lia)
-- L0

theorem hide {P : Prop} (h : ∀ G : Prop, (P → G) → G) : P := h P id
theorem and10e {P0 P1 P2 P3 P4 P5 P6 P7 P8 P9 G : Prop} (h : P0 ∧ P1 ∧ P2 ∧ P3 ∧ P4 ∧ P5 ∧ P6 ∧ P7 ∧ P8 ∧ P9) (k : P0 → P1 → P2 → P3 → P4 → P5 → P6 → P7 → P8 → P9 → G) : G := by
  obtain ⟨h0, h1, h2, h3, h4, h5, h6, h7, h8, h9⟩ := h; exact k h0 h1 h2 h3 h4 h5 h6 h7 h8 h9
theorem and2e {P0 P1 G : Prop} (h : P0 ∧ P1) (k : P0 → P1 → G) : G := by
  obtain ⟨h0, h1⟩ := h; exact k h0 h1
theorem and3e {P0 P1 P2 G : Prop} (h : P0 ∧ P1 ∧ P2) (k : P0 → P1 → P2 → G) : G := by
  obtain ⟨h0, h1, h2⟩ := h; exact k h0 h1 h2
theorem and4e {P0 P1 P2 P3 G : Prop} (h : P0 ∧ P1 ∧ P2 ∧ P3) (k : P0 → P1 → P2 → P3 → G) : G := by
  obtain ⟨h0, h1, h2, h3⟩ := h; exact k h0 h1 h2 h3
theorem and5e {P0 P1 P2 P3 P4 G : Prop} (h : P0 ∧ P1 ∧ P2 ∧ P3 ∧ P4) (k : P0 → P1 → P2 → P3 → P4 → G) : G := by
  obtain ⟨h0, h1, h2, h3, h4⟩ := h; exact k h0 h1 h2 h3 h4
theorem and6e {P0 P1 P2 P3 P4 P5 G : Prop} (h : P0 ∧ P1 ∧ P2 ∧ P3 ∧ P4 ∧ P5) (k : P0 → P1 → P2 → P3 → P4 → P5 → G) : G := by
  obtain ⟨h0, h1, h2, h3, h4, h5⟩ := h; exact k h0 h1 h2 h3 h4 h5
theorem and7e {P0 P1 P2 P3 P4 P5 P6 G : Prop} (h : P0 ∧ P1 ∧ P2 ∧ P3 ∧ P4 ∧ P5 ∧ P6) (k : P0 → P1 → P2 → P3 → P4 → P5 → P6 → G) : G := by
  obtain ⟨h0, h1, h2, h3, h4, h5, h6⟩ := h; exact k h0 h1 h2 h3 h4 h5 h6
theorem and8e {P0 P1 P2 P3 P4 P5 P6 P7 G : Prop} (h : P0 ∧ P1 ∧ P2 ∧ P3 ∧ P4 ∧ P5 ∧ P6 ∧ P7) (k : P0 → P1 → P2 → P3 → P4 → P5 → P6 → P7 → G) : G := by
  obtain ⟨h0, h1, h2, h3, h4, h5, h6, h7⟩ := h; exact k h0 h1 h2 h3 h4 h5 h6 h7
theorem ex1e {T0 : Sort _} {P : T0 → Prop} {G : Prop} (h : ∃ x0, P x0) (k : ∀ x0, P x0 → G) : G := by
  obtain ⟨x0, h⟩ := h; exact k x0 h
theorem ex2e {T0 : Sort _} {T1 : Sort _} {P : T0 → T1 → Prop} {G : Prop} (h : ∃ x0 x1, P x0 x1) (k : ∀ x0 x1, P x0 x1 → G) : G := by
  obtain ⟨x0, x1, h⟩ := h; exact k x0 x1 h
theorem ex3e {T0 : Sort _} {T1 : Sort _} {T2 : Sort _} {P : T0 → T1 → T2 → Prop} {G : Prop} (h : ∃ x0 x1 x2, P x0 x1 x2) (k : ∀ x0 x1 x2, P x0 x1 x2 → G) : G := by
  obtain ⟨x0, x1, x2, h⟩ := h; exact k x0 x1 x2 h
theorem ex4e {T0 : Sort _} {T1 : Sort _} {T2 : Sort _} {T3 : Sort _} {P : T0 → T1 → T2 → T3 → Prop} {G : Prop} (h : ∃ x0 x1 x2 x3, P x0 x1 x2 x3) (k : ∀ x0 x1 x2 x3, P x0 x1 x2 x3 → G) : G := by
  obtain ⟨x0, x1, x2, x3, h⟩ := h; exact k x0 x1 x2 x3 h
theorem ex5e {T0 : Sort _} {T1 : Sort _} {T2 : Sort _} {T3 : Sort _} {T4 : Sort _} {P : T0 → T1 → T2 → T3 → T4 → Prop} {G : Prop} (h : ∃ x0 x1 x2 x3 x4, P x0 x1 x2 x3 x4) (k : ∀ x0 x1 x2 x3 x4, P x0 x1 x2 x3 x4 → G) : G := by
  obtain ⟨x0, x1, x2, x3, x4, h⟩ := h; exact k x0 x1 x2 x3 x4 h
theorem ex6e {T0 : Sort _} {T1 : Sort _} {T2 : Sort _} {T3 : Sort _} {T4 : Sort _} {T5 : Sort _} {P : T0 → T1 → T2 → T3 → T4 → T5 → Prop} {G : Prop} (h : ∃ x0 x1 x2 x3 x4 x5, P x0 x1 x2 x3 x4 x5) (k : ∀ x0 x1 x2 x3 x4 x5, P x0 x1 x2 x3 x4 x5 → G) : G := by
  obtain ⟨x0, x1, x2, x3, x4, x5, h⟩ := h; exact k x0 x1 x2 x3 x4 x5 h
theorem ex7e {T0 : Sort _} {T1 : Sort _} {T2 : Sort _} {T3 : Sort _} {T4 : Sort _} {T5 : Sort _} {T6 : Sort _} {P : T0 → T1 → T2 → T3 → T4 → T5 → T6 → Prop} {G : Prop} (h : ∃ x0 x1 x2 x3 x4 x5 x6, P x0 x1 x2 x3 x4 x5 x6) (k : ∀ x0 x1 x2 x3 x4 x5 x6, P x0 x1 x2 x3 x4 x5 x6 → G) : G := by
  obtain ⟨x0, x1, x2, x3, x4, x5, x6, h⟩ := h; exact k x0 x1 x2 x3 x4 x5 x6 h
theorem and10i {P0 P1 P2 P3 P4 P5 P6 P7 P8 P9 : Prop} (h0 : P0) (h1 : P1) (h2 : P2) (h3 : P3) (h4 : P4) (h5 : P5) (h6 : P6) (h7 : P7) (h8 : P8) (h9 : P9) : P0 ∧ P1 ∧ P2 ∧ P3 ∧ P4 ∧ P5 ∧ P6 ∧ P7 ∧ P8 ∧ P9 := ⟨h0, h1, h2, h3, h4, h5, h6, h7, h8, h9⟩
theorem and11i {P0 P1 P2 P3 P4 P5 P6 P7 P8 P9 P10 : Prop} (h0 : P0) (h1 : P1) (h2 : P2) (h3 : P3) (h4 : P4) (h5 : P5) (h6 : P6) (h7 : P7) (h8 : P8) (h9 : P9) (h10 : P10) : P0 ∧ P1 ∧ P2 ∧ P3 ∧ P4 ∧ P5 ∧ P6 ∧ P7 ∧ P8 ∧ P9 ∧ P10 := ⟨h0, h1, h2, h3, h4, h5, h6, h7, h8, h9, h10⟩
theorem and3i {P0 P1 P2 : Prop} (h0 : P0) (h1 : P1) (h2 : P2) : P0 ∧ P1 ∧ P2 := ⟨h0, h1, h2⟩
theorem and4i {P0 P1 P2 P3 : Prop} (h0 : P0) (h1 : P1) (h2 : P2) (h3 : P3) : P0 ∧ P1 ∧ P2 ∧ P3 := ⟨h0, h1, h2, h3⟩
theorem and5i {P0 P1 P2 P3 P4 : Prop} (h0 : P0) (h1 : P1) (h2 : P2) (h3 : P3) (h4 : P4) : P0 ∧ P1 ∧ P2 ∧ P3 ∧ P4 := ⟨h0, h1, h2, h3, h4⟩
theorem and6i {P0 P1 P2 P3 P4 P5 : Prop} (h0 : P0) (h1 : P1) (h2 : P2) (h3 : P3) (h4 : P4) (h5 : P5) : P0 ∧ P1 ∧ P2 ∧ P3 ∧ P4 ∧ P5 := ⟨h0, h1, h2, h3, h4, h5⟩
theorem and7i {P0 P1 P2 P3 P4 P5 P6 : Prop} (h0 : P0) (h1 : P1) (h2 : P2) (h3 : P3) (h4 : P4) (h5 : P5) (h6 : P6) : P0 ∧ P1 ∧ P2 ∧ P3 ∧ P4 ∧ P5 ∧ P6 := ⟨h0, h1, h2, h3, h4, h5, h6⟩
theorem and8i {P0 P1 P2 P3 P4 P5 P6 P7 : Prop} (h0 : P0) (h1 : P1) (h2 : P2) (h3 : P3) (h4 : P4) (h5 : P5) (h6 : P6) (h7 : P7) : P0 ∧ P1 ∧ P2 ∧ P3 ∧ P4 ∧ P5 ∧ P6 ∧ P7 := ⟨h0, h1, h2, h3, h4, h5, h6, h7⟩
theorem and9i {P0 P1 P2 P3 P4 P5 P6 P7 P8 : Prop} (h0 : P0) (h1 : P1) (h2 : P2) (h3 : P3) (h4 : P4) (h5 : P5) (h6 : P6) (h7 : P7) (h8 : P8) : P0 ∧ P1 ∧ P2 ∧ P3 ∧ P4 ∧ P5 ∧ P6 ∧ P7 ∧ P8 := ⟨h0, h1, h2, h3, h4, h5, h6, h7, h8⟩
theorem ex13i {T0 : Sort _} {T1 : Sort _} {T2 : Sort _} {T3 : Sort _} {T4 : Sort _} {T5 : Sort _} {T6 : Sort _} {T7 : Sort _} {T8 : Sort _} {T9 : Sort _} {T10 : Sort _} {T11 : Sort _} {T12 : Sort _} {P : T0 → T1 → T2 → T3 → T4 → T5 → T6 → T7 → T8 → T9 → T10 → T11 → T12 → Prop} (x0 : T0) (x1 : T1) (x2 : T2) (x3 : T3) (x4 : T4) (x5 : T5) (x6 : T6) (x7 : T7) (x8 : T8) (x9 : T9) (x10 : T10) (x11 : T11) (x12 : T12) (h : P x0 x1 x2 x3 x4 x5 x6 x7 x8 x9 x10 x11 x12) : ∃ x0 x1 x2 x3 x4 x5 x6 x7 x8 x9 x10 x11 x12, P x0 x1 x2 x3 x4 x5 x6 x7 x8 x9 x10 x11 x12 := ⟨x0, x1, x2, x3, x4, x5, x6, x7, x8, x9, x10, x11, x12, h⟩
theorem ex2i {T0 : Sort _} {T1 : Sort _} {P : T0 → T1 → Prop} (x0 : T0) (x1 : T1) (h : P x0 x1) : ∃ x0 x1, P x0 x1 := ⟨x0, x1, h⟩
theorem ex3i {T0 : Sort _} {T1 : Sort _} {T2 : Sort _} {P : T0 → T1 → T2 → Prop} (x0 : T0) (x1 : T1) (x2 : T2) (h : P x0 x1 x2) : ∃ x0 x1 x2, P x0 x1 x2 := ⟨x0, x1, x2, h⟩
theorem ex4i {T0 : Sort _} {T1 : Sort _} {T2 : Sort _} {T3 : Sort _} {P : T0 → T1 → T2 → T3 → Prop} (x0 : T0) (x1 : T1) (x2 : T2) (x3 : T3) (h : P x0 x1 x2 x3) : ∃ x0 x1 x2 x3, P x0 x1 x2 x3 := ⟨x0, x1, x2, x3, h⟩
theorem ex5i {T0 : Sort _} {T1 : Sort _} {T2 : Sort _} {T3 : Sort _} {T4 : Sort _} {P : T0 → T1 → T2 → T3 → T4 → Prop} (x0 : T0) (x1 : T1) (x2 : T2) (x3 : T3) (x4 : T4) (h : P x0 x1 x2 x3 x4) : ∃ x0 x1 x2 x3 x4, P x0 x1 x2 x3 x4 := ⟨x0, x1, x2, x3, x4, h⟩
theorem ex6i {T0 : Sort _} {T1 : Sort _} {T2 : Sort _} {T3 : Sort _} {T4 : Sort _} {T5 : Sort _} {P : T0 → T1 → T2 → T3 → T4 → T5 → Prop} (x0 : T0) (x1 : T1) (x2 : T2) (x3 : T3) (x4 : T4) (x5 : T5) (h : P x0 x1 x2 x3 x4 x5) : ∃ x0 x1 x2 x3 x4 x5, P x0 x1 x2 x3 x4 x5 := ⟨x0, x1, x2, x3, x4, x5, h⟩
theorem ex7i {T0 : Sort _} {T1 : Sort _} {T2 : Sort _} {T3 : Sort _} {T4 : Sort _} {T5 : Sort _} {T6 : Sort _} {P : T0 → T1 → T2 → T3 → T4 → T5 → T6 → Prop} (x0 : T0) (x1 : T1) (x2 : T2) (x3 : T3) (x4 : T4) (x5 : T5) (x6 : T6) (h : P x0 x1 x2 x3 x4 x5 x6) : ∃ x0 x1 x2 x3 x4 x5 x6, P x0 x1 x2 x3 x4 x5 x6 := ⟨x0, x1, x2, x3, x4, x5, x6, h⟩
noncomputable def er : Value → Value
  | .int i _ => .int i 0
  | .str s _ => .str s 0
  | .float b _ => .float b 0
  | .bytes b _ => .bytes b 0
  | v => v
noncomputable abbrev vI (i : Int) : Value := .int i 0
noncomputable abbrev vS (s : Str) : Value := .str s 0

@[simp] theorem er_int (i : Int) (t : Tok) : er (.int i t) = .int i 0 := rfl
@[simp] theorem er_str (i : Str) (t : Tok) : er (.str i t) = .str i 0 := rfl
@[simp] theorem er_ref (a : Addr) : er (.ref a) = .ref a := rfl
@[simp] theorem er_none : er .none = .none := rfl
@[simp] theorem er_bool (b : Bool) : er (.bool b) = .bool b := rfl
@[simp] theorem er_type (b : String) : er (.type b) = .type b := rfl
@[simp] theorem er_builtin (b : String) : er (.builtin b) = .builtin b := rfl
theorem er_int_inv {v : Value} {i : Int} (h : er v = .int i 0) : ∃ t, v = .int i t := by
  cases v <;> simp [er] at h; exact ⟨_, by rw [h]⟩
theorem er_str_inv {v : Value} {i : Str} (h : er v = .str i 0) : ∃ t, v = .str i t := by
  cases v <;> simp [er] at h; exact ⟨_, by rw [h]⟩
theorem er_ref_inv {v : Value} {i : Addr} (h : er v = .ref i) : v = .ref i := by
  cases v <;> simp [er] at h; rw [h]
theorem er_none_inv {v : Value} (h : er v = .none) : v = .none := by
  cases v <;> simp [er] at h; rfl
theorem er_bool_inv {v : Value} {b : Bool} (h : er v = .bool b) : v = .bool b := by
  cases v <;> simp [er] at h; rw [h]
theorem er_type_inv {v : Value} {b : String} (h : er v = .type b) : v = .type b := by
  cases v <;> simp [er] at h; rw [h]
theorem er_builtin_inv {v : Value} {b : String} (h : er v = .builtin b) : v = .builtin b := by
  cases v <;> simp [er] at h; rw [h]

inductive AO where
  | list (vs : List Value)
  | xlist (vs : List Value)
  | tup (vs : List Value)
  | dict (n : Nat) (f : Str → Option Value)
  | dicti (n : Nat) (f : Int → Option Value)
  | inst (C dx : Addr)
  | attrs (kvs : List (Str × Value))
  | rng (a b : Int)
  | lit (l : Addr)
  | enm (it : Addr)

structure Cx where
  prog : Program
  w : World
  K : Frag
  h0 : Heap
  p : Program
  loose : List Str
  mg : Str → Option Value
  mb : Str → Option Value

noncomputable abbrev Cx.M (c : Cx) : Model := model c.prog c.w

structure Cx.Ok (c : Cx) : Prop where
  X : c.K.In c.h0
  T : TopRead c.p c.loose c.mg c.mb c.h0

noncomputable def EntIs (e : DictEntry) (kv : Str × Value) : Prop := (∃ t, e.key = .str kv.1 t) ∧ er e.val = kv.2

inductive EntsAre : List DictEntry → List (Str × Value) → Prop
  | nil : EntsAre [] []
  | cons {e kv es kvs} : EntIs e kv → EntsAre es kvs → EntsAre (e :: es) (kv :: kvs)

noncomputable def Rep (c : Cx) (h : Heap) (a : Addr) : AO → Prop
  | .list vs => ∃ (items : List Value) (n : Nat), IsL h a items.toArray n ∧ items.map er = vs
  | .xlist vs => ∃ items : List Value, h.IsList a items.toArray ∧ items.map er = vs
  | .tup vs => ∃ (items : List Value) (n : Nat), IsT h a items.toArray n ∧ items.map er = vs
  | .dict n f => ∃ kvs, h.DictOf (PySem.strKind c.prog c.w) a kvs ∧ (∀ k, (valueAt kvs k).map er = f k) ∧ kvs.length ≤ n ∧ (a == sysModules) = false
  | .dicti n f => ∃ kvs, h.DictOf (PySem.intKind c.prog c.w) a kvs ∧ (∀ k, (valueAt kvs k).map er = f k) ∧ kvs.length ≤ n ∧ (a == sysModules) = false
  | .inst C dx => h.get? a = some (instObj C dx)
  | .attrs kvs => ∃ es n, h.get? a = some (dictOf es n) ∧ EntsAre es kvs
  | .rng x y => ∃ t u v, IsRange h a x y 1 t u v
  | .lit l => h.IsListIter a l 0
  | .enm it => IsEnum h a it 0 .none

theorem Rep.get {c : Cx} {h : Heap} {a : Addr} {o : AO} (r : Rep c h a o) : ∃ ob, h.get? a = some ob := by
  cases o with
  | list vs => obtain ⟨_, _, ho, _⟩ := r; exact ⟨_, ho⟩
  | xlist vs => obtain ⟨_, ⟨o, ho, _⟩, _⟩ := r; exact ⟨o, ho⟩
  | tup vs => obtain ⟨_, _, ho, _⟩ := r; exact ⟨_, ho⟩
  | dict n f => obtain ⟨_, ⟨o, _, _, ho, _⟩, _⟩ := r; exact ⟨o, ho⟩
  | dicti n f => obtain ⟨_, ⟨o, _, _, ho, _⟩, _⟩ := r; exact ⟨o, ho⟩
  | inst C dx => exact ⟨_, r⟩
  | attrs kvs => obtain ⟨_, _, ho, _⟩ := r; exact ⟨_, ho⟩
  | rng x y => obtain ⟨_, _, _, ho⟩ := r; exact ⟨_, ho⟩
  | lit l => obtain ⟨o, ho, _⟩ := r; exact ⟨o, ho⟩
  | enm it => exact ⟨_, r⟩

theorem Rep.at' {c : Cx} {h h' : Heap} {a : Addr} {o : AO} (r : Rep c h a o) (e : ∀ ob, h.get? a = some ob → h'.get? a = some ob) : Rep c h' a o := by
  cases o with
  | list vs => obtain ⟨i, n, ho, y⟩ := r; exact (ex2i i n ⟨e _ ho, y⟩)
  | xlist vs => obtain ⟨i, ⟨o, ho, x⟩, y⟩ := r; exact ⟨i, ⟨o, e _ ho, x⟩, y⟩
  | tup vs => obtain ⟨i, n, ho, y⟩ := r; exact (ex2i i n ⟨e _ ho, y⟩)
  | dict n f => obtain ⟨i, ⟨o, x, y, ho, z⟩, q⟩ := r; exact ⟨i, (ex3i o x y ⟨e _ ho, z⟩), q⟩
  | dicti n f => obtain ⟨i, ⟨o, x, y, ho, z⟩, q⟩ := r; exact ⟨i, (ex3i o x y ⟨e _ ho, z⟩), q⟩
  | inst C dx => exact e _ r
  | attrs kvs => obtain ⟨i, j, ho, x⟩ := r; exact (ex2i i j ⟨e _ ho, x⟩)
  | rng x y => obtain ⟨t, u, v, ho⟩ := r; exact (ex3i t u v (e _ ho))
  | lit l => obtain ⟨o, ho, x⟩ := r; exact ⟨o, e _ ho, x⟩
  | enm it => exact e _ r

noncomputable abbrev ZT := Addr → Option AO
noncomputable abbrev HT := List (Addr × AO)

structure RelH (c : Cx) (B : Addr → Option Obj) (Z : ZT) (H : HT) (h : Heap) : Prop where
  keep : ∀ b o, B b = some o → h.get? b = some o
  fz : ∀ a o, Z a = some o → Rep c h a o ∧ B a = none
  mu : ∀ p ∈ H, Rep c h p.1 p.2 ∧ B p.1 = none ∧ Z p.1 = none
  nd : (H.map (·.1)).Nodup

noncomputable def Sh (s₀ s : Shared) : Prop := ∃ h tk, s = { s₀ with heap := h, toks := tk }
theorem Sh.step {s₀ s : Shared} (x : Sh s₀ s) (h : Heap) (tk : Nat) : Sh s₀ { s with heap := h, toks := tk } := by
  obtain ⟨_, _, rfl⟩ := x; exact ⟨h, tk, rfl⟩

noncomputable def Base (c : Cx) (B : Addr → Option Obj) : Prop := ∀ b o, c.h0.get? b = some o → B b = some o

noncomputable def Room (n : Nat) (A : Around) : Prop := A.handled = none ∧ A.depth + 2 * n + 2 < recursionLimit ∧ A.units + 30 * n + 30 < cLine

noncomputable def NoE : Value → Shared → Prop := fun _ _ => False

structure St where
  m : List (Str × Value)
  Z : ZT
  H : HT

noncomputable abbrev mkE (sc : Scope) (L : Addr) (cl : List (Str × Addr)) (q : Str) (f : Option Addr) (cd : Value) (fr : Option Addr) : Env :=
  { scope := sc, locals := L, globals := mainGlobals, cells := cl, qual := q, func := f, code := cd, frame := fr, builtins := builtinsNs }

structure Rel (c : Cx) (sc : Scope) (cmp : Bool) (L : Addr) (cl : List (Str × Addr)) (s₀ : Shared) (B : Addr → Option Obj) (σ : St) (s : Shared) : Prop where
  sh : Sh s₀ s
  rh : RelH c B σ.Z σ.H s.heap
  ns : ∃ ml, s.heap.Ns L ml ∧ ∀ x v, σ.m.lookup x = some v → sc.names.lookup x = some .local → ∃ v', ml x = some v' ∧ er v' = v
  ce : ∀ x v, σ.m.lookup x = some v → sc.names.lookup x = some .cell → ∃ a v', cl.lookup x = some a ∧ s.heap.IsCell a (some v') ∧ er v' = v
  cs : cmp = false → ∀ x a, cl.lookup x = some a → ∃ v₀, s.heap.IsCell a v₀
  ck : ∀ x, sc.names.lookup x = some .cell → ∃ a, cl.lookup x = some a
  cn : cmp = false → ∀ x y a, cl.lookup x = some a → cl.lookup y = some a → x = y
  cc : cmp = true → ∀ x a, cl.lookup x = some a → ∃ o, B a = some o
  oL : B L = none ∧ σ.Z L = none ∧ ∀ p ∈ σ.H, p.1 ≠ L
  oC : cmp = false → ∀ x a, cl.lookup x = some a → B a = none ∧ σ.Z a = none ∧ a ≠ L ∧ ∀ p ∈ σ.H, p.1 ≠ a

noncomputable def T {α : Type} (c : Cx) (n : Nat) (sc : Scope) (cmp : Bool) (t : Env → Sem α) (Q : α → St → Prop) (σ : St) : Prop :=
  ∀ L cl q f cd fr A B s₀ s, c.Ok → Room n A → Base c B → Rel c sc cmp L cl s₀ B σ s →
    wpAny c.M A (t (mkE sc L cl q f cd fr)) (fun v s' => ∃ σ', Q v σ' ∧ Rel c sc cmp L cl s₀ B σ' s') NoE s

noncomputable def CallOk (c : Cx) (n : Nat) (f : Value) (args : List Value) (Q : Value → ZT → HT → Prop) (Z : ZT) (H : HT) : Prop :=
  ∀ A B s₀ s vs, c.Ok → Room n A → Base c B → Sh s₀ s → RelH c B Z H s.heap → vs.map er = args →
    codeAny c.M A (.call f ⟨vs, []⟩) (fun r s' => match r with | .ok (.ret v) => ∃ Z' H', Q (er v) Z' H' ∧ RelH c B Z' H' s'.heap ∧ Sh s₀ s' | .ok _ => False | .error _ => False) s

section
variable {c : Cx} {n : Nat} {sc : Scope} {cmp : Bool} {α β : Type} {σ : St}


theorem T.use {t : Env → Sem α} {Q : α → St → Prop} {L cl q f cd fr A B s₀ s} {R : α → Shared → Prop} (h : T c n sc cmp t Q σ) (ok : c.Ok) (r : Room n A) (b : Base c B) (x : Rel c sc cmp L cl s₀ B σ s)
    (k : ∀ a σ' s', Q a σ' → Rel c sc cmp L cl s₀ B σ' s' → R a s') : wpAny c.M A (t (mkE sc L cl q f cd fr)) R NoE s :=
  wpAny_mono (h L cl q f cd fr A B s₀ s ok r b x) (fun _ _ ⟨σ', y, z⟩ => k _ σ' _ y z) fun _ _ e => e



end

theorem RelH.lt {c : Cx} {B Z H h} (x : RelH c B Z H h) {p : Addr × AO} (hp : p ∈ H) : p.1 < h.objs.size := by
  obtain ⟨o, ho⟩ := (x.mu p hp).1.get; exact Heap.lt_size ho
theorem RelH.fresh {c : Cx} {B Z H h} (x : RelH c B Z H h) : B h.objs.size = none ∧ Z h.objs.size = none ∧ ∀ p ∈ H, p.1 ≠ h.objs.size := by
  refine (and3i ?_ ?_ (fun p hp => Nat.ne_of_lt (x.lt hp)))
  · cases e : B h.objs.size with
    | none => rfl
    | some o => exact absurd (Heap.lt_size (x.keep _ _ e)) (Nat.lt_irrefl _)
  · cases e : Z h.objs.size with
    | none => rfl
    | some o => obtain ⟨o, ho⟩ := (x.fz _ _ e).1.get; exact absurd (Heap.lt_size ho) (Nat.lt_irrefl _)

theorem RelH.keeps {c : Cx} {B Z H h h'} (x : RelH c B Z H h) (k : ∀ b o, h.get? b = some o → h'.get? b = some o) : RelH c B Z H h' :=
  ⟨fun b o e => k b o (x.keep b o e), fun a o e => ⟨(x.fz a o e).1.at' fun _ => k _ _, (x.fz a o e).2⟩, fun p hp => ⟨(x.mu p hp).1.at' fun _ => k _ _, (x.mu p hp).2⟩, x.nd⟩
theorem RelH.extBut {c : Cx} {B Z H h h'} {d : Addr} (x : RelH c B Z H h) (k : Heap.ExtBut d h h') (hB : B d = none) (hZ : Z d = none) (hH : ∀ p ∈ H, p.1 ≠ d) : RelH c B Z H h' :=
  ⟨fun b o e => k b o (by rintro rfl; rw [hB] at e; cases e) (x.keep b o e), fun a o e => ⟨(x.fz a o e).1.at' fun ob => k _ _ (by rintro rfl; rw [hZ] at e; cases e), (x.fz a o e).2⟩,
    fun p hp => ⟨(x.mu p hp).1.at' fun _ => k _ _ (hH p hp), (x.mu p hp).2⟩, x.nd⟩
theorem RelH.new {c : Cx} {B Z H h h'} {a : Addr} {o : AO} (x : RelH c B Z H h) (k : ∀ b o, h.get? b = some o → h'.get? b = some o) (ha : h.objs.size ≤ a) (r : Rep c h' a o) : RelH c B Z ((a, o) :: H) h' := by
  have y := x.keeps k
  have hB : B a = none := by
    cases e : B a with
    | none => rfl
    | some o => exact absurd (Heap.lt_size (x.keep _ _ e)) (Nat.not_lt.mpr ha)
  have hZ : Z a = none := by
    cases e : Z a with
    | none => rfl
    | some o => obtain ⟨o, ho⟩ := (x.fz _ _ e).1.get; exact absurd (Heap.lt_size ho) (Nat.not_lt.mpr ha)
  refine ⟨y.keep, y.fz, fun p hp => ?_, ?_⟩
  · rcases List.mem_cons.mp hp with rfl | hp
    · exact (and3i r hB hZ)
    · exact y.mu p hp
  · rw [List.map_cons, List.nodup_cons]
    refine ⟨fun hm => ?_, x.nd⟩
    refine ex1e (List.mem_map.mp hm) fun p h9x => ?_
    refine and2e h9x fun hp e => ?_
    try clear h9x
    exact absurd (x.lt hp) (by rw [e]; exact Nat.not_lt.mpr ha)

inductive HUpd (a : Addr) (o o' : AO) : HT → HT → Prop
  | head {r} : HUpd a o o' ((a, o) :: r) ((a, o') :: r)
  | tail {p r r'} : HUpd a o o' r r' → HUpd a o o' (p :: r) (p :: r')
theorem HUpd.mem {a o o'} : ∀ {H H'}, HUpd a o o' H H' → (a, o) ∈ H
  | _, _, .head => .head _
  | _, _, .tail h => .tail _ h.mem
theorem HUpd.map {a o o'} : ∀ {H H'}, HUpd a o o' H H' → H'.map (·.1) = H.map (·.1)
  | _, _, .head => rfl
  | _, _, .tail h => by rw [List.map_cons, List.map_cons, h.map]
theorem HUpd.back {a o o'} : ∀ {H H'}, HUpd a o o' H H' → (H.map (·.1)).Nodup → ∀ p ∈ H', p = (a, o') ∨ (p.1 ≠ a ∧ p ∈ H)
  | _, _, .head, nd, p, hp => by
    rcases List.mem_cons.mp hp with rfl | hp
    · exact .inl rfl
    · refine .inr ⟨fun e => ?_, .tail _ hp⟩
      rw [List.map_cons, List.nodup_cons] at nd
      exact nd.1 (by have := List.mem_map_of_mem (f := fun q : Addr × AO => q.1) hp; rw [e] at this; exact this)
  | _, _, .tail h, nd, p, hp => by
    rw [List.map_cons, List.nodup_cons] at nd
    rcases List.mem_cons.mp hp with rfl | hp
    · refine .inr ⟨fun e => ?_, .head _⟩
      have := List.mem_map_of_mem (f := (·.1)) h.mem
      exact nd.1 (by rw [e]; exact this)
    · rcases h.back nd.2 p hp with e | ⟨e, m⟩
      · exact .inl e
      · exact .inr ⟨e, .tail _ m⟩

theorem RelH.upd {c : Cx} {B Z H H' h h'} {a : Addr} {o o' : AO} (x : RelH c B Z H h) (U : HUpd a o o' H H') (k : Heap.ExtBut a h h') (r : Rep c h' a o') : RelH c B Z H' h' := by
  have m := x.mu _ U.mem
  refine ⟨fun b ob e => k b ob (by rintro rfl; rw [m.2.1] at e; cases e) (x.keep b ob e), fun b ob e => ⟨(x.fz b ob e).1.at' fun ob' => k _ _ (by rintro rfl; rw [m.2.2] at e; cases e), (x.fz b ob e).2⟩, fun p hp => ?_, by rw [U.map]; exact x.nd⟩
  rcases U.back x.nd p hp with rfl | ⟨e, hm⟩
  · exact ⟨r, m.2⟩
  · exact ⟨(x.mu p hm).1.at' fun _ => k _ _ e, (x.mu p hm).2⟩

theorem RelH.perm {c : Cx} {B Z H H' h} (x : RelH c B Z H h) (p : H.Perm H') : RelH c B Z H' h :=
  ⟨x.keep, x.fz, fun q hq => x.mu q (p.mem_iff.mpr hq), (p.map _).nodup_iff.mp x.nd⟩
theorem RelH.sub {c : Cx} {B Z H H' h} (x : RelH c B Z H h) (p : H'.Sublist H) : RelH c B Z H' h :=
  ⟨x.keep, x.fz, fun q hq => x.mu q (p.subset hq), (p.map _).nodup x.nd⟩

section
variable {c : Cx} {sc : Scope} {cmp : Bool} {L : Addr} {cl : List (Str × Addr)} {s₀ s : Shared} {B : Addr → Option Obj} {σ : St}

theorem Rel.ltL (x : Rel c sc cmp L cl s₀ B σ s) : L < s.heap.objs.size := let ⟨_, a, _⟩ := x.ns; a.lt

theorem Rel.go (x : Rel c sc cmp L cl s₀ B σ s) {h' : Heap} {tk : Nat} {Z' : ZT} {H' : HT} (rh : RelH c B Z' H' h') (kL : ∀ o, s.heap.get? L = some o → h'.get? L = some o)
    (kC : ∀ y a o, cl.lookup y = some a → s.heap.get? a = some o → h'.get? a = some o) (oL : Z' L = none ∧ ∀ p ∈ H', p.1 ≠ L)
    (oC : cmp = false → ∀ y a, cl.lookup y = some a → Z' a = none ∧ ∀ p ∈ H', p.1 ≠ a) : Rel c sc cmp L cl s₀ B ⟨σ.m, Z', H'⟩ { s with heap := h', toks := tk } := by
  refine hide fun G9 hG9 => ?_
  obtain ⟨sh, r, ⟨ml, ns, nv⟩, ce, cs, ck, cn, cc, ol, oc⟩ := x
  refine hG9 ?_; clear hG9 G9
  refine ⟨sh.step _ _, rh, ⟨ml, ?_, nv⟩, ?_, ?_, ck, cn, cc, ⟨ol.1, oL⟩, fun e y a hy => (and4i ((oc e y a hy).1) ((oC e y a hy).1) ((oc e y a hy).2.2.1) ((oC e y a hy).2))⟩
  · obtain ⟨o, es, ep, ho, z⟩ := ns; exact ⟨o, es, ep, kL _ ho, z⟩
  · intro y v hv hk
    refine hide fun G9 hG9 => ?_
    refine ex2e (ce y v hv hk) fun a v' h9x => ?_
    refine and3e h9x fun h1 n9d h3 => ?_
    try clear h9x
    refine ex1e n9d fun o h9x => ?_
    refine and2e h9x fun ho z => ?_
    try clear h9x n9d
    refine hG9 ?_; clear hG9 G9
    exact (ex2i a v' (and3i h1 ⟨o, kC y a o h1 ho, z⟩ h3))
  · intro e y a h1
    refine ex1e (cs e y a h1) fun v' n9b => ?_
    obtain ⟨o, ho, z⟩ := n9b
    exact ⟨v', ⟨o, kC y a o h1 ho, z⟩⟩
theorem Rel.keeps (x : Rel c sc cmp L cl s₀ B σ s) {h' : Heap} {tk : Nat} (k : ∀ b o, s.heap.get? b = some o → h'.get? b = some o) : Rel c sc cmp L cl s₀ B σ { s with heap := h', toks := tk } :=
  x.go (x.rh.keeps k) (fun _ => k _ _) (fun _ _ _ _ => k _ _) x.oL.2 fun e y a hy => ⟨(x.oC e y a hy).2.1, (x.oC e y a hy).2.2.2⟩
theorem Rel.toks (x : Rel c sc cmp L cl s₀ B σ s) (tk : Nat) : Rel c sc cmp L cl s₀ B σ { s with toks := tk } := x.keeps fun _ _ e => e
theorem Rel.ltC (x : Rel c sc cmp L cl s₀ B σ s) {y : Str} {a : Addr} (hy : cl.lookup y = some a) : a < s.heap.objs.size := by
  cases e : cmp with
  | false => obtain ⟨v, ⟨o, ho, _⟩⟩ := x.cs e y a hy; exact Heap.lt_size ho
  | true => obtain ⟨o, ho⟩ := x.cc e y a hy; exact Heap.lt_size (x.rh.keep _ _ ho)
theorem Rel.new (x : Rel c sc cmp L cl s₀ B σ s) {h' : Heap} {tk : Nat} {a : Addr} {o : AO} (k : ∀ b o, s.heap.get? b = some o → h'.get? b = some o) (ha : s.heap.objs.size ≤ a) (r : Rep c h' a o) :
    Rel c sc cmp L cl s₀ B ⟨σ.m, σ.Z, (a, o) :: σ.H⟩ { s with heap := h', toks := tk } := by
  refine x.go (x.rh.new k ha r) (fun _ => k _ _) (fun _ _ _ _ => k _ _) ⟨x.oL.2.1, fun p hp => ?_⟩ fun e y b hy => ⟨(x.oC e y b hy).2.1, fun p hp => ?_⟩
  · rcases List.mem_cons.mp hp with rfl | hp
    · exact Nat.ne_of_gt (Nat.lt_of_lt_of_le x.ltL ha)
    · exact x.oL.2.2 _ hp
  · rcases List.mem_cons.mp hp with rfl | hp
    · exact Nat.ne_of_gt (Nat.lt_of_lt_of_le (x.ltC hy) ha)
    · exact (x.oC e y b hy).2.2.2 _ hp
theorem Rel.upd (x : Rel c sc cmp L cl s₀ B σ s) {h' : Heap} {tk : Nat} {H' : HT} {a : Addr} {o o' : AO} (U : HUpd a o o' σ.H H') (k : Heap.ExtBut a s.heap h') (r : Rep c h' a o') :
    Rel c sc cmp L cl s₀ B ⟨σ.m, σ.Z, H'⟩ { s with heap := h', toks := tk } := by
  have hm := U.mem
  refine x.go (x.rh.upd U k r) (fun ob => k _ _ (Ne.symm (x.oL.2.2 _ hm))) (fun y b ob hy e => k _ _ ?_ e) ⟨x.oL.2.1, fun p hp => ?_⟩ fun e y b hy => ⟨(x.oC e y b hy).2.1, fun p hp => ?_⟩
  · cases hc : cmp with
    | false => exact Ne.symm ((x.oC hc y b hy).2.2.2 _ hm)
    | true =>
      refine ex1e (x.cc hc y b hy) fun ob hb => ?_
      rintro rfl
      rw [(x.rh.mu _ hm).2.1] at hb; cases hb
  · rcases U.back x.rh.nd p hp with rfl | ⟨_, q⟩
    · exact x.oL.2.2 (a, o) hm
    · exact x.oL.2.2 _ q
  · rcases U.back x.rh.nd p hp with rfl | ⟨_, q⟩
    · exact (x.oC e y b hy).2.2.2 (a, o) hm
    · exact (x.oC e y b hy).2.2.2 _ q
end

-- L1

noncomputable def erF : Flow → Flow
  | .ret v => .ret (er v)
  | f => f

section
variable (c : Cx) (n : Nat) (sc : Scope) (cmp : Bool)
@[irreducible] noncomputable def TE (e : PySem.Expr) (Q : Value → St → Prop) (σ : St) : Prop := T c n sc cmp (eval e) (fun v σ' => Q (er v) σ') σ
@[irreducible] noncomputable def TT (e : PySem.Expr) (Q : Bool → St → Prop) (σ : St) : Prop := T c n sc cmp (fun env => isTrue e env (eval e env)) Q σ
@[irreducible] noncomputable def TA (op : BoolOp) (es : List PySem.Expr) (Q : Bool → St → Prop) (σ : St) : Prop := T c n sc cmp (allTrue op es) Q σ
@[irreducible] noncomputable def TL (es : List PySem.Expr) (Q : List Value → St → Prop) (σ : St) : Prop := ∀ pos, T c n sc cmp (fun env => spliced (backTo pos (starEach es env))) (fun vs σ' => Q (vs.map er) σ') σ
@[irreducible] noncomputable def TS (st : Stmt) (Q : Flow → St → Prop) (σ : St) : Prop := T c n sc cmp (exec st) (fun f σ' => Q (erF f) σ') σ
@[irreducible] noncomputable def TB (st : List Stmt) (Q : Flow → St → Prop) (σ : St) : Prop := T c n sc cmp (execs st) (fun f σ' => Q (erF f) σ') σ
@[irreducible] noncomputable def BO (op : Operator) (a b : Value) (Q : Value → St → Prop) (σ : St) : Prop := ∀ a' b', er a' = a → er b' = b → T c n sc cmp (fun _ => binaryOp op a' b') (fun v σ' => Q (er v) σ') σ
@[irreducible] noncomputable def CO (op : CmpOp) (a b : Value) (Q : Value → St → Prop) (σ : St) : Prop := ∀ a' b', er a' = a → er b' = b → T c n sc cmp (fun _ => compareOp op a' b') (fun v σ' => Q (er v) σ') σ
@[irreducible] noncomputable def TV (a : Value) (Q : Bool → St → Prop) (σ : St) : Prop := ∀ a', er a' = a → T c n sc cmp (fun _ => truthy a') Q σ
@[irreducible] noncomputable def GA (a : Value) (name : Str) (Q : Value → St → Prop) (σ : St) : Prop := ∀ a', er a' = a → T c n sc cmp (fun _ => getAttr a' name true) (fun v σ' => Q (er v) σ') σ
@[irreducible] noncomputable def SA (a : Value) (name : Str) (v : Value) (Q : St → Prop) (σ : St) : Prop := ∀ a' v', er a' = a → er v' = v → T c n sc cmp (fun _ => setAttr a' name v') (fun _ σ' => Q σ') σ
@[irreducible] noncomputable def SI (a i v : Value) (Q : St → Prop) (σ : St) : Prop := ∀ a' i' v', er a' = a → er i' = i → er v' = v → T c n sc cmp (fun _ => setItem a' i' v') (fun _ σ' => Q σ') σ
@[irreducible] noncomputable def GI (a i : Value) (Q : Value → St → Prop) (σ : St) : Prop := ∀ a' i', er a' = a → er i' = i → ∀ value slice, T c n sc cmp (fun _ => subscriptTail value slice a' i') (fun v σ' => Q (er v) σ') σ
@[irreducible] noncomputable def SN (x : Str) (v : Value) (Q : St → Prop) (σ : St) : Prop := ∀ v', er v' = v → T c n sc cmp (fun env => storeName env x v') (fun _ σ' => Q σ') σ
@[irreducible] noncomputable def BC (f : Value) (vs : List Value) (Q : Value → St → Prop) (σ : St) : Prop := ∀ ws, ws.map er = vs → T c n sc cmp (fun _ => call f ws []) (fun v σ' => Q (er v) σ') σ
end

section
variable (c : Cx) (n : Nat) (sc : Scope) (cmp : Bool)
noncomputable abbrev kRet (Q : Flow → St → Prop) : Value → St → Prop := fun v σ' => Q (.ret v) σ'
noncomputable abbrev kIf (body orelse : List Stmt) (Q : Flow → St → Prop) : Bool → St → Prop := fun t σ' => (t = true → TB c n sc cmp body Q σ') ∧ (t = false → TB c n sc cmp orelse Q σ')
noncomputable abbrev kDrop (Q : Flow → St → Prop) : Value → St → Prop := fun v σ' => (∀ a, v ≠ .ref a) ∧ Q .next σ'
noncomputable abbrev kAsg (x : Str) (Q : Flow → St → Prop) : Value → St → Prop := fun v σ' => SN c n sc cmp x v (Q .next) σ'
noncomputable abbrev kSa2 (attr : Str) (v : Value) (Q : Flow → St → Prop) : Value → St → Prop := fun ov σ' => SA c n sc cmp ov attr v (Q .next) σ'
noncomputable abbrev kSa (o : PySem.Expr) (attr : Str) (Q : Flow → St → Prop) : Value → St → Prop := fun v σ' => TE c n sc cmp o (kSa2 c n sc cmp attr v Q) σ'
noncomputable abbrev kSi3 (ov v : Value) (Q : Flow → St → Prop) : Value → St → Prop := fun iv σ' => SI c n sc cmp ov iv v (Q .next) σ'
noncomputable abbrev kSi2 (i : PySem.Expr) (v : Value) (Q : Flow → St → Prop) : Value → St → Prop := fun ov σ' => TE c n sc cmp i (kSi3 c n sc cmp ov v Q) σ'
noncomputable abbrev kSi (o i : PySem.Expr) (Q : Flow → St → Prop) : Value → St → Prop := fun v σ' => TE c n sc cmp o (kSi2 c n sc cmp i v Q) σ'
noncomputable abbrev kBo2 (op : Operator) (a : Value) (Q : Value → St → Prop) : Value → St → Prop := fun b σ' => BO c n sc cmp op a b Q σ'
noncomputable abbrev kBo (op : Operator) (r : PySem.Expr) (Q : Value → St → Prop) : Value → St → Prop := fun a σ' => TE c n sc cmp r (kBo2 c n sc cmp op a Q) σ'
noncomputable abbrev kCo2 (op : CmpOp) (a : Value) (Q : Value → St → Prop) : Value → St → Prop := fun b σ' => CO c n sc cmp op a b Q σ'
noncomputable abbrev kCo (op : CmpOp) (r : PySem.Expr) (Q : Value → St → Prop) : Value → St → Prop := fun a σ' => TE c n sc cmp r (kCo2 c n sc cmp op a Q) σ'
noncomputable abbrev kNeg (Q : Value → St → Prop) : Value → St → Prop := fun v σ' => ∃ i, v = vI i ∧ Q (vI (-i)) σ'
noncomputable abbrev kIfe (body orelse : PySem.Expr) (Q : Value → St → Prop) : Bool → St → Prop := fun t σ' => (t = true → TE c n sc cmp body Q σ') ∧ (t = false → TE c n sc cmp orelse Q σ')
noncomputable abbrev kAn2 (y : PySem.Expr) (v : Value) (Q : Value → St → Prop) : Bool → St → Prop := fun t σ' => (t = true → TE c n sc cmp y Q σ') ∧ (t = false → Q v σ')
noncomputable abbrev kAn (y : PySem.Expr) (Q : Value → St → Prop) : Value → St → Prop := fun v σ' => TV c n sc cmp v (kAn2 c n sc cmp y v Q) σ'
noncomputable abbrev kOr2 (y : PySem.Expr) (v : Value) (Q : Value → St → Prop) : Bool → St → Prop := fun t σ' => (t = true → Q v σ') ∧ (t = false → TE c n sc cmp y Q σ')
noncomputable abbrev kOr (y : PySem.Expr) (Q : Value → St → Prop) : Value → St → Prop := fun v σ' => TV c n sc cmp v (kOr2 c n sc cmp y v Q) σ'
noncomputable abbrev kNo2 (Q : Value → St → Prop) : Bool → St → Prop := fun t σ' => Q (.bool (!t)) σ'
noncomputable abbrev kNo (Q : Value → St → Prop) : Value → St → Prop := fun v σ' => TV c n sc cmp v (kNo2 Q) σ'
noncomputable abbrev kTv (Q : Bool → St → Prop) : Value → St → Prop := fun v σ' => TV c n sc cmp v Q σ'
noncomputable abbrev kNt (Q : Bool → St → Prop) : Bool → St → Prop := fun t σ' => Q (!t) σ'
noncomputable abbrev kTa (es : List PySem.Expr) (Q : Bool → St → Prop) : Bool → St → Prop := fun t σ' => (t = true → TA c n sc cmp .And es Q σ') ∧ (t = false → Q false σ')
noncomputable abbrev kTo (es : List PySem.Expr) (Q : Bool → St → Prop) : Bool → St → Prop := fun t σ' => (t = true → Q true σ') ∧ (t = false → TA c n sc cmp .Or es Q σ')
noncomputable abbrev kTl2 (v : Value) (Q : List Value → St → Prop) : List Value → St → Prop := fun vs σ' => Q (v :: vs) σ'
noncomputable abbrev kTl (es : List PySem.Expr) (Q : List Value → St → Prop) : Value → St → Prop := fun v σ' => TL c n sc cmp es (kTl2 v Q) σ'
end

section
variable {c : Cx} {n : Nat} {sc : Scope} {cmp : Bool} {σ : St}

theorem kdn {Q : Flow → St → Prop} {v : Value} (h : Q .next σ) (hv : ∀ a, v ≠ .ref a := by exact fun _ h => (nomatch h)) : kDrop Q v σ := ⟨hv, h⟩
theorem T.useC {α : Type} {t : Sem α} {Q : α → St → Prop} {L cl A B s₀ s} {R : α → Shared → Prop} (h : T c n sc cmp (fun _ => t) Q σ) (ok : c.Ok) (r : Room n A) (b : Base c B) (x : Rel c sc cmp L cl s₀ B σ s)
    (k : ∀ a σ' s', Q a σ' → Rel c sc cmp L cl s₀ B σ' s' → R a s') : wpAny c.M A t R NoE s := h.use (q := Str.empty) (f := none) (cd := .none) (fr := none) ok r b x k

theorem tb_nil {Q : Flow → St → Prop} (h : Q .next σ) : TB c n sc cmp [] Q σ := by
  unfold TB
  intro L cl q f cd fr A B s₀ s ok r b x
  exact wpAny_execs_nil ⟨σ, h, x⟩

noncomputable abbrev sq (c : Cx) (n : Nat) (sc : Scope) (cmp : Bool) (rest : List Stmt) (Q : Flow → St → Prop) : Flow → St → Prop := fun f σ' => match f with | .next => TB c n sc cmp rest Q σ' | f => Q f σ'
theorem tb_cons {st rest} {Q : Flow → St → Prop} (h : TS c n sc cmp st (sq c n sc cmp rest Q) σ) : TB c n sc cmp (st :: rest) Q σ := by
  unfold sq at h
  unfold TB TS at *
  intro L cl q f cd fr A B s₀ s ok r b x
  refine wpAny_execs_cons (h.use ok r b x fun fl σ' s' y z => ?_)
  cases fl with
  | next => exact y L cl q f cd fr A B s₀ s' ok r b z
  | brk => exact ⟨_, y, z⟩
  | cont => exact ⟨_, y, z⟩
  | ret v => exact ⟨_, y, z⟩

theorem ts_return {e pos} {Q : Flow → St → Prop} (h : TE c n sc cmp e (kRet Q) σ) : TS c n sc cmp (.Return (some e) pos) Q σ := by
  unfold kRet TS TE at *
  intro L cl q f cd fr A B s₀ s ok r b x
  exact wpAny_Return_some (h.use ok r b x fun v σ' s' y z => ⟨_, y, z⟩)
theorem ts_return0 {pos} {Q : Flow → St → Prop} (h : Q (.ret .none) σ) : TS c n sc cmp (.Return none pos) Q σ := by
  unfold TS
  intro L cl q f cd fr A B s₀ s ok r b x
  exact wpAny_Return_none ⟨_, h, x⟩
theorem ts_break {pos} {Q : Flow → St → Prop} (h : Q .brk σ) : TS c n sc cmp (.Break pos) Q σ := by
  unfold TS
  intro L cl q f cd fr A B s₀ s ok r b x
  exact wpAny_Break ⟨_, h, x⟩

theorem ts_if {test body orelse pos} {Q : Flow → St → Prop}
    (h : TT c n sc cmp test (kIf c n sc cmp body orelse Q) σ) : TS c n sc cmp (.If test body orelse pos) Q σ := by
  unfold kIf TS TT TB at *
  intro L cl q f cd fr A B s₀ s ok r b x
  refine wpAny_If (h.use ok r b x fun t σ' s' y z => ?_)
  cases t with
  | true => exact y.1 rfl L cl q f cd fr A B s₀ s' ok r b z
  | false => exact y.2 rfl L cl q f cd fr A B s₀ s' ok r b z

theorem ts_expr {e pos} {Q : Flow → St → Prop} (h : TE c n sc cmp e (kDrop Q) σ)
    (hs : ∀ L cl q f cd fr, swapsWith e none pos.line (mkE sc L cl q f cd fr) = pure false := by intros; rfl)
    (hk : (sc.kind == .module) = false := by rfl) : TS c n sc cmp (.Expr e pos) Q σ := by
  unfold kDrop TS TE at *
  intro L cl q f cd fr A B s₀ s ok r b x
  refine wpAny_Expr (h.use ok r b x fun v σ' s' y z => ?_) ?_ (hs _ _ _ _ _ _)
  · cases v with
    | ref a => exact absurd rfl (y.1 a)
    | _ => exact ⟨_, y.2, z⟩
  · unfold interactive; show (sc.kind == .module && _) = false; rw [hk]; rfl

theorem sn_local {x : Str} {v : Value} {Q : St → Prop} (hk : sc.kind = .function) (hx : sc.names.lookup x = some .local) (h : Q ⟨(x, v) :: σ.m, σ.Z, σ.H⟩) : SN c n sc cmp x v Q σ := by
  unfold SN
  intro v' hv' L cl q f cd fr A B s₀ s ok r b X
  refine ex1e (X.ns) fun ml h9x => ?_
  refine and2e h9x fun ns nv => ?_
  try clear h9x
  refine wpAny_storeName_local (env := mkE sc L cl q f cd fr) hx ns (fun h' hn hs => ⟨_, h, ?_⟩) (by show (sc.kind == .class || (sc.kind == .module && L != mainGlobals)) = false; rw [hk]; rfl)
  have nL : ∀ y a, cl.lookup y = some a → a ≠ L := fun y a hy e => by
    cases hc : cmp with
    | false => exact (X.oC hc y a hy).2.2.1 e
    | true => obtain ⟨o, ho⟩ := X.cc hc y a hy; rw [e, X.oL.1] at ho; cases ho
  refine ⟨X.sh.step _ _, X.rh.extBut hs.extBut X.oL.1 X.oL.2.1 X.oL.2.2, ⟨_, hn, fun y u hy hk' => ?_⟩, fun y u hy hk' => ?_, fun e y a hy => ?_, X.ck, X.cn, X.cc, X.oL, X.oC⟩
  · rw [List.lookup_cons] at hy
    by_cases hyx : y = x
    · subst hyx; simp at hy; subst hy; exact ⟨v', by simp, hv'⟩
    · have hb : (y == x) = false := by simpa using hyx
      simp only [hb] at hy; obtain ⟨u', h1, h2⟩ := nv y u hy hk'; exact ⟨u', by simp [hyx, h1], h2⟩
  · rw [List.lookup_cons] at hy
    by_cases hyx : y = x
    · subst hyx; rw [hx] at hk'; cases hk'
    · have hb : (y == x) = false := by simpa using hyx
      simp only [hb] at hy
      refine hide fun G9 hG9 => ?_
      refine ex2e (X.ce y u hy hk') fun a u' h9x => ?_
      refine and3e h9x fun h1 n9d h3 => ?_
      try clear h9x
      refine ex1e n9d fun o h9x => ?_
      refine and2e h9x fun ho z => ?_
      try clear h9x n9d
      refine hG9 ?_; clear hG9 G9
      exact (ex2i a u' (and3i h1 ⟨o, hs.extBut _ _ (nL y a h1) ho, z⟩ h3))
  · refine ex2e (X.cs e y a hy) fun u' o h9x => ?_
    refine and2e h9x fun ho z => ?_
    try clear h9x
    exact (ex2i u' o ⟨hs.extBut _ _ (nL y a hy) ho, z⟩)

theorem sn_cell {x : Str} {v : Value} {Q : St → Prop} (hc : cmp = false) (hk : sc.kind = .function) (hx : sc.names.lookup x = some .cell) (h : Q ⟨(x, v) :: σ.m, σ.Z, σ.H⟩) : SN c n sc cmp x v Q σ := by
  unfold SN
  intro v' hv' L cl q f cd fr A B s₀ s ok r b X
  refine ex1e (X.ck x hx) fun a ha => ?_
  refine ex1e (X.cs hc x a ha) fun v₀ hv₀ => ?_
  refine wpAny_storeName_cell (env := mkE sc L cl q f cd fr) hk hx ha hv₀ (fun h' hn hs => ⟨_, h, ?_⟩)
  have o := X.oC hc x a ha
  have x' : Sh s₀ { s with heap := h' } := X.sh.step h' s.toks
  refine ex1e (X.ns) fun ml h9x => ?_
  refine and2e h9x fun ns nv => ?_
  try clear h9x
  refine ⟨x', X.rh.extBut hs.extBut o.1 o.2.1 o.2.2.2, ⟨ml, ns.extBut hs.extBut (Ne.symm o.2.2.1), fun y u hy hk' => ?_⟩, fun y u hy hk' => ?_, fun e y d hy => ?_, X.ck, X.cn, X.cc, X.oL, X.oC⟩
  · rw [List.lookup_cons] at hy
    by_cases hyx : y = x
    · subst hyx; rw [hx] at hk'; cases hk'
    · have hb : (y == x) = false := by simpa using hyx
      simp only [hb] at hy; exact nv y u hy hk'
  · rw [List.lookup_cons] at hy
    by_cases hyx : y = x
    · subst hyx; simp at hy; subst hy; exact (ex2i a v' (and3i ha hn hv'))
    · have hb : (y == x) = false := by simpa using hyx
      simp only [hb] at hy
      refine hide fun G9 hG9 => ?_
      refine ex2e (X.ce y u hy hk') fun d u' h9x => ?_
      refine and3e h9x fun h1 n9d h3 => ?_
      try clear h9x
      refine ex1e n9d fun ob h9x => ?_
      refine and2e h9x fun ho z => ?_
      try clear h9x n9d
      refine hG9 ?_; clear hG9 G9
      exact (ex2i d u' (and3i h1 ⟨ob, hs.extBut _ _ (fun e => hyx (X.cn hc y x a (e ▸ h1) ha)) ho, z⟩ h3))
  · by_cases hda : d = a
    · subst hda; exact ⟨_, hn⟩
    · refine ex2e (X.cs e y d hy) fun u' ob h9x => ?_
      refine and2e h9x fun ho z => ?_
      try clear h9x
      exact (ex2i u' ob ⟨hs.extBut _ _ hda ho, z⟩)

theorem ts_assign {x px value pos} {Q : Flow → St → Prop} (h : TE c n sc cmp value (kAsg c n sc cmp x Q) σ)
    (hs : ∀ L cl q f cd fr, swapsWith value (some (.Name x px)) pos.line (mkE sc L cl q f cd fr) = pure false := by intros; rfl) : TS c n sc cmp (.Assign [.Name x px] value pos) Q σ := by
  unfold kAsg TS TE SN at *
  intro L cl q f cd fr A B s₀ s ok r b X
  exact wpAny_Assign_Name (h.use ok r b X fun v σ' s' y z => (y v rfl).use ok r b z fun _ σ'' s'' y' z' => ⟨_, y', z'⟩) (hs _ _ _ _ _ _)

theorem ts_setattr {o attr px value pos} {Q : Flow → St → Prop} (h : TE c n sc cmp value (kSa c n sc cmp o attr Q) σ)
    (hs : ∀ L cl q f cd fr, swapsWith value (some (.Attribute o attr px)) pos.line (mkE sc L cl q f cd fr) = pure false := by intros; rfl) : TS c n sc cmp (.Assign [.Attribute o attr px] value pos) Q σ := by
  unfold kSa kSa2 TS TE SA at *
  intro L cl q f cd fr A B s₀ s ok r b X
  exact plainObj_wpAny_Assign_Attribute (h.use ok r b X fun v σ' s' y z => y.use ok r b z fun ov σ2 s2 y2 z2 => (y2 _ _ rfl rfl).useC ok r b z2 fun _ σ'' s'' y' z' => ⟨_, y', z'⟩) (hs _ _ _ _ _ _)

theorem ts_setitem {o i px value pos} {Q : Flow → St → Prop} (h : TE c n sc cmp value (kSi c n sc cmp o i Q) σ)
    (hs : ∀ L cl q f cd fr, swapsWith value (some (.Subscript o i px)) pos.line (mkE sc L cl q f cd fr) = pure false := by intros; rfl) : TS c n sc cmp (.Assign [.Subscript o i px] value pos) Q σ := by
  unfold kSi kSi2 kSi3 TS TE SI at *
  intro L cl q f cd fr A B s₀ s ok r b X
  exact wpAny_Assign_Subscript (h.use ok r b X fun v σ' s' y z => y.use ok r b z fun ov σ2 s2 y2 z2 => y2.use ok r b z2 fun iv σ3 s3 y3 z3 => (y3 _ _ _ rfl rfl rfl).useC ok r b z3 fun _ σ'' s'' y' z' => ⟨_, y', z'⟩) (hs _ _ _ _ _ _)

theorem te_local {x pos} {v : Value} {Q : Value → St → Prop} (hv : σ.m.lookup x = some v) (hk : sc.kind = .function) (hx : sc.names.lookup x = some .local) (h : Q v σ) (hd : (x == ("__debug__" : Str)) = false := by decide) :
    TE c n sc cmp (.Name x pos) Q σ := by
  unfold TE
  intro L cl q f cd fr A B s₀ s ok r b X
  refine hide fun G9 hG9 => ?_
  refine ex1e (X.ns) fun ml h9x => ?_
  refine and2e h9x fun ns nv => ?_
  try clear h9x
  refine ex1e (nv x v hv hx) fun v' h9x => ?_
  refine and2e h9x fun h1 h2 => ?_
  try clear h9x
  refine hG9 ?_; clear hG9 G9
  exact wpAny_Name (wpAny_loadName_local (env := mkE sc L cl q f cd fr) hk hx ns h1 ⟨σ, by show Q (er v') σ; rw [h2]; exact h, X⟩) hd
theorem te_cell {x pos} {v : Value} {Q : Value → St → Prop} (hv : σ.m.lookup x = some v) (hk : sc.kind = .function) (hx : sc.names.lookup x = some .cell) (h : Q v σ) (hd : (x == ("__debug__" : Str)) = false := by decide) :
    TE c n sc cmp (.Name x pos) Q σ := by
  unfold TE
  intro L cl q f cd fr A B s₀ s ok r b X
  refine ex2e (X.ce x v hv hx) fun a v' h9x => ?_
  refine and3e h9x fun h1 h2 h3 => ?_
  try clear h9x
  exact wpAny_Name (wpAny_loadName_cell (env := mkE sc L cl q f cd fr) hk hx h1 h2 ⟨σ, by show Q (er v') σ; rw [h3]; exact h, X⟩) hd
theorem te_global {x pos} {v : Value} {Q : Value → St → Prop} (hv : nsIn c.K mainGlobals x = some (some v)) (hk : sc.kind = .function) (hx : sc.names.lookup x = some .globalImplicit) (h : Q (er v) σ) (hd : (x == ("__debug__" : Str)) = false := by decide) :
    TE c n sc cmp (.Name x pos) Q σ := by
  unfold TE
  intro L cl q f cd fr A B s₀ s ok r b X
  have k : ∀ a o, c.h0.get? a = some o → s.heap.get? a = some o := fun a o e => X.rh.keep a o (b a o e)
  exact Name_function_global (env := mkE sc L cl q f cd fr) hk hx (loadGlobal_global (env := mkE sc L cl q f cd fr) (ok.T.g.keeps k) (mg_of ok.X ok.T.g hv) ⟨σ, h, X⟩) hd
theorem te_builtin {x pos} {v : Value} {Q : Value → St → Prop} (hv : nsIn c.K mainGlobals x = some none) (hb : bootBuiltins x = some v) (hn : x ≠ "__name__") (hk : sc.kind = .function) (hx : sc.names.lookup x = some .globalImplicit) (h : Q (er v) σ) (hd : (x == ("__debug__" : Str)) = false := by decide) :
    TE c n sc cmp (.Name x pos) Q σ := by
  unfold TE
  intro L cl q f cd fr A B s₀ s ok r b X
  have k : ∀ a o, c.h0.get? a = some o → s.heap.get? a = some o := fun a o e => X.rh.keep a o (b a o e)
  exact Name_function_global (env := mkE sc L cl q f cd fr) hk hx (loadGlobal_builtin (env := mkE sc L cl q f cd fr) (ok.T.g.keeps k) (mg_none_of ok.X ok.T.g hv) (ok.T.b.keeps k) ((ok.T.builtins x hn).trans hb) ⟨σ, h, X⟩) hd

theorem te_int {i k pos} {Q : Value → St → Prop} (h : Q (vI i) σ) : TE c n sc cmp (.Constant (.int i) k pos) Q σ := by
  unfold TE
  intro L cl q f cd fr A B s₀ s ok r b X
  exact wpAny_Constant_int ⟨σ, h, X.toks _⟩
theorem te_str {i k pos} {Q : Value → St → Prop} (h : Q (vS i) σ) : TE c n sc cmp (.Constant (.str i) k pos) Q σ := by
  unfold TE
  intro L cl q f cd fr A B s₀ s ok r b X
  exact wpAny_Constant_str ⟨σ, h, X.toks _⟩
theorem te_none {k pos} {Q : Value → St → Prop} (h : Q .none σ) : TE c n sc cmp (.Constant .none k pos) Q σ := by
  unfold TE
  intro L cl q f cd fr A B s₀ s ok r b X
  exact wpAny_Constant_none ⟨σ, h, X⟩
theorem te_bool {i k pos} {Q : Value → St → Prop} (h : Q (.bool i) σ) : TE c n sc cmp (.Constant (.bool i) k pos) Q σ := by
  unfold TE
  intro L cl q f cd fr A B s₀ s ok r b X
  exact wpAny_Constant_bool ⟨σ, h, X⟩

theorem te_binop {l op r pos} {Q : Value → St → Prop} (h : TE c n sc cmp l (kBo c n sc cmp op r Q) σ) : TE c n sc cmp (.BinOp l op r pos) Q σ := by
  unfold kBo kBo2 TE BO at *
  intro L cl q f cd fr A B s₀ s ok rm b X
  exact wpAny_BinOp (h.use ok rm b X fun a σ1 s1 y1 z1 => y1.use ok rm b z1 fun d σ2 s2 y2 z2 => y2 a d rfl rfl L cl q f cd fr A B s₀ s2 ok rm b z2)
theorem te_compare {l op r pos} {Q : Value → St → Prop} (h : TE c n sc cmp l (kCo c n sc cmp op r Q) σ)
    (hm : behindInMarks op r = false := by with_unfolding_all rfl) : TE c n sc cmp (.Compare l [op] [r] pos) Q σ := by
  unfold kCo kCo2 TE CO at *
  intro L cl q f cd fr A B s₀ s ok rm b X
  exact wpAny_Compare1 (h.use ok rm b X fun a σ1 s1 y1 z1 => y1.use ok rm b z1 fun d σ2 s2 y2 z2 => y2 a d rfl rfl L cl q f cd fr A B s₀ s2 ok rm b z2) hm
theorem te_neg {e pos} {Q : Value → St → Prop} (h : TE c n sc cmp e (kNeg Q) σ) : TE c n sc cmp (.UnaryOp .USub e pos) Q σ := by
  unfold kNeg TE at *
  intro L cl q f cd fr A B s₀ s ok rm b X
  refine wpAny_UnaryOp (h.use ok rm b X fun a σ1 s1 y1 z1 => ?_)
  refine hide fun G9 hG9 => ?_
  refine ex1e y1 fun j h9x => ?_
  refine and2e h9x fun e hq => ?_
  try clear h9x y1
  refine ex1e (er_int_inv e) fun t e9b => ?_
  obtain rfl := e9b
  refine hG9 ?_; clear hG9 G9
  exact neg_int ⟨σ1, hq, z1.toks _⟩
theorem te_ifexp {test body orelse pos} {Q : Value → St → Prop}
    (h : TT c n sc cmp test (kIfe c n sc cmp body orelse Q) σ) : TE c n sc cmp (.IfExp test body orelse pos) Q σ := by
  unfold kIfe TE TT at *
  intro L cl q f cd fr A B s₀ s ok r b x
  refine wpAny_IfExp (h.use ok r b x fun t σ' s' y z => ?_)
  cases t with
  | true => exact y.1 rfl L cl q f cd fr A B s₀ s' ok r b z
  | false => exact y.2 rfl L cl q f cd fr A B s₀ s' ok r b z
theorem te_and {x y pos} {Q : Value → St → Prop}
    (h : TE c n sc cmp x (kAn c n sc cmp y Q) σ) : TE c n sc cmp (.BoolOp .And [x, y] pos) Q σ := by
  unfold kAn kAn2 TE TV at *
  intro L cl q f cd fr A B s₀ s ok r b X
  refine wpAny_And2 (h.use ok r b X fun v σ' s' y1 z1 => (y1 v rfl).useC ok r b z1 fun t σ2 s2 y2 z2 => ?_)
  cases t with
  | true => exact y2.1 rfl L cl q f cd fr A B s₀ s2 ok r b z2
  | false => exact ⟨_, y2.2 rfl, z2⟩
theorem te_or {x y pos} {Q : Value → St → Prop}
    (h : TE c n sc cmp x (kOr c n sc cmp y Q) σ) : TE c n sc cmp (.BoolOp .Or [x, y] pos) Q σ := by
  unfold kOr kOr2 TE TV at *
  intro L cl q f cd fr A B s₀ s ok r b X
  refine wpAny_Or2 (h.use ok r b X fun v σ' s' y1 z1 => (y1 v rfl).useC ok r b z1 fun t σ2 s2 y2 z2 => ?_)
  cases t with
  | true => exact ⟨_, y2.1 rfl, z2⟩
  | false => exact y2.2 rfl L cl q f cd fr A B s₀ s2 ok r b z2
theorem te_not {e pos} {Q : Value → St → Prop} (h : TE c n sc cmp e (kNo c n sc cmp Q) σ) : TE c n sc cmp (.UnaryOp .Not e pos) Q σ := by
  unfold kNo kNo2 TE TV at *
  intro L cl q f cd fr A B s₀ s ok rm b X
  exact wpAny_UnaryOp (h.use ok rm b X fun a σ1 s1 y1 z1 => not_value ((y1 a rfl).useC ok rm b z1 fun t σ2 s2 y2 z2 => ⟨_, y2, z2⟩))

theorem tv_bool {b : Bool} {Q : Bool → St → Prop} (h : Q b σ) : TV c n sc cmp (.bool b) Q σ := by
  unfold TV
  intro a' ha L cl q f cd fr A B s₀ s ok rm b X
  rw [er_bool_inv ha]; exact wpAny_truthy_bool ⟨_, h, X⟩
theorem tt_compare {l op r pos} {Q : Bool → St → Prop} (h : TE c n sc cmp l (kCo c n sc cmp op r (kTv c n sc cmp Q)) σ)
    (hm : behindInMarks op r = false := by with_unfolding_all rfl) : TT c n sc cmp (.Compare l [op] [r] pos) Q σ := by
  unfold kCo kCo2 kTv TT TE CO TV at *
  intro L cl q f cd fr A B s₀ s ok rm b X
  exact wpAny_isTrue_Compare1 (h.use ok rm b X fun a σ1 s1 y1 z1 => y1.use ok rm b z1 fun d σ2 s2 y2 z2 => (y2 a d rfl rfl).useC ok rm b z2 fun v σ3 s3 y3 z3 => (y3 v rfl).useC ok rm b z3 fun t σ4 s4 y4 z4 => ⟨_, y4, z4⟩) hm
theorem tt_not {e pos} {Q : Bool → St → Prop} (h : TT c n sc cmp e (kNt Q) σ) : TT c n sc cmp (.UnaryOp .Not e pos) Q σ := by
  unfold kNt TT at *
  intro L cl q f cd fr A B s₀ s ok rm b X
  exact wpAny_isTrue_Not (h.use ok rm b X fun t σ2 s2 y2 z2 => ⟨_, y2, z2⟩)
theorem tt_boolop {op es pos} {Q : Bool → St → Prop} (h : TA c n sc cmp op es Q σ) : TT c n sc cmp (.BoolOp op es pos) Q σ := by
  unfold TT TA at *
  intro L cl q f cd fr A B s₀ s ok rm b X
  exact wpAny_isTrue_BoolOp (h L cl q f cd fr A B s₀ s ok rm b X)
theorem ta_and_nil {Q : Bool → St → Prop} (h : Q true σ) : TA c n sc cmp .And [] Q σ := by
  unfold TA
  intro L cl q f cd fr A B s₀ s ok rm b X
  exact wpAny_allTrue_And_nil ⟨_, h, X⟩
theorem ta_or_nil {Q : Bool → St → Prop} (h : Q false σ) : TA c n sc cmp .Or [] Q σ := by
  unfold TA
  intro L cl q f cd fr A B s₀ s ok rm b X
  exact wpAny_allTrue_Or_nil ⟨_, h, X⟩
theorem ta_and {e es} {Q : Bool → St → Prop} (h : TT c n sc cmp e (kTa c n sc cmp es Q) σ) : TA c n sc cmp .And (e :: es) Q σ := by
  unfold kTa TA TT at *
  intro L cl q f cd fr A B s₀ s ok rm b X
  refine wpAny_allTrue_And_cons (h.use ok rm b X fun t σ2 s2 y2 z2 => ?_)
  cases t with
  | true => exact y2.1 rfl L cl q f cd fr A B s₀ s2 ok rm b z2
  | false => exact ⟨_, y2.2 rfl, z2⟩
theorem ta_or {e es} {Q : Bool → St → Prop} (h : TT c n sc cmp e (kTo c n sc cmp es Q) σ) : TA c n sc cmp .Or (e :: es) Q σ := by
  unfold kTo TA TT at *
  intro L cl q f cd fr A B s₀ s ok rm b X
  refine wpAny_allTrue_Or_cons (h.use ok rm b X fun t σ2 s2 y2 z2 => ?_)
  cases t with
  | true => exact ⟨_, y2.1 rfl, z2⟩
  | false => exact y2.2 rfl L cl q f cd fr A B s₀ s2 ok rm b z2
theorem tt_value {e} {Q : Bool → St → Prop} (h : TE c n sc cmp e (kTv c n sc cmp Q) σ)
    (he : ∀ env whole, isTrue e env whole = (do let v ← whole; standAt e.pos; holding [v] (truthy v)) := by intros; rfl) : TT c n sc cmp e Q σ := by
  unfold kTv TT TE TV at *
  intro L cl q f cd fr A B s₀ s ok rm b X
  exact isTrue_plain (h.use ok rm b X fun v σ2 s2 y2 z2 => (y2 v rfl).useC ok rm b z2 fun t σ3 s3 y3 z3 => ⟨_, y3, z3⟩) (he _ _)

theorem tl_nil {Q : List Value → St → Prop} (h : Q [] σ) : TL c n sc cmp [] Q σ := by
  unfold TL
  intro pos L cl q f cd fr A B s₀ s ok rm b X
  exact wpAny_items_nil ⟨_, h, X⟩
theorem tl_cons {e es} {Q : List Value → St → Prop} (h : TE c n sc cmp e (kTl c n sc cmp es Q) σ)
    (he : ∀ env, starEach (e :: es) env = (false, eval e env) :: starEach es env := by intros; rfl) : TL c n sc cmp (e :: es) Q σ := by
  unfold kTl kTl2 TL TE at *
  intro pos L cl q f cd fr A B s₀ s ok rm b X
  exact wpAny_items_cons (h.use ok rm b X fun v σ1 s1 y1 z1 => (y1 pos).use ok rm b z1 fun vs σ2 s2 y2 z2 => ⟨_, y2, z2⟩) (he _)

theorem bo_add {i j : Int} {Q : Value → St → Prop} (h : Q (vI (i + j)) σ) : BO c n sc cmp .Add (vI i) (vI j) Q σ := by
  unfold BO
  intro a' b' ha hb L cl q f cd fr A B s₀ s ok rm b X
  obtain ⟨t, rfl⟩ := er_int_inv ha; obtain ⟨u, rfl⟩ := er_int_inv hb
  exact PyProof.Rows.add_int ⟨_, h, X.toks _⟩
theorem bo_sub {i j : Int} {Q : Value → St → Prop} (h : Q (vI (i - j)) σ) : BO c n sc cmp .Sub (vI i) (vI j) Q σ := by
  unfold BO
  intro a' b' ha hb L cl q f cd fr A B s₀ s ok rm b X
  obtain ⟨t, rfl⟩ := er_int_inv ha; obtain ⟨u, rfl⟩ := er_int_inv hb
  exact PyProof.Rows.sub_int ⟨_, h, X.toks _⟩
theorem bo_mul {i j : Int} {Q : Value → St → Prop} (hm : IntMulOk i j) (h : Q (vI (i * j)) σ) : BO c n sc cmp .Mult (vI i) (vI j) Q σ := by
  unfold BO
  intro a' b' ha hb L cl q f cd fr A B s₀ s ok rm b X
  obtain ⟨t, rfl⟩ := er_int_inv ha; obtain ⟨u, rfl⟩ := er_int_inv hb
  exact PyProof.Rows.mul_int ⟨_, h, X.toks _⟩ hm
theorem bo_mod {i j : Int} {Q : Value → St → Prop} (hj : j ≠ 0) (h : Q (vI (i.fmod j)) σ) : BO c n sc cmp .Mod (vI i) (vI j) Q σ := by
  unfold BO
  intro a' b' ha hb L cl q f cd fr A B s₀ s ok rm b X
  obtain ⟨t, rfl⟩ := er_int_inv ha; obtain ⟨u, rfl⟩ := er_int_inv hb
  exact PyProof.Rows.mod_int hj ⟨_, h, X.toks _⟩
theorem bo_cat {i j : Str} {Q : Value → St → Prop} (hs : i.length + j.length ≤ sizeLine) (h : Q (vS (i ++ j)) σ) : BO c n sc cmp .Add (vS i) (vS j) Q σ := by
  unfold BO
  intro a' b' ha hb L cl q f cd fr A B s₀ s ok rm b X
  obtain ⟨t, rfl⟩ := er_str_inv ha; obtain ⟨u, rfl⟩ := er_str_inv hb
  exact PyProof.Rows.add_str (fun _ _ => ⟨_, h, X.toks _⟩) hs
theorem co_lt {i j : Int} {Q : Value → St → Prop} (h : Q (.bool (decide (i < j))) σ) : CO c n sc cmp .Lt (vI i) (vI j) Q σ := by
  unfold CO
  intro a' b' ha hb L cl q f cd fr A B s₀ s ok rm b X
  obtain ⟨t, rfl⟩ := er_int_inv ha; obtain ⟨u, rfl⟩ := er_int_inv hb
  exact PyProof.Rows.lt_int ⟨_, h, X⟩
theorem co_gt {i j : Int} {Q : Value → St → Prop} (h : Q (.bool (decide (j < i))) σ) : CO c n sc cmp .Gt (vI i) (vI j) Q σ := by
  unfold CO
  intro a' b' ha hb L cl q f cd fr A B s₀ s ok rm b X
  obtain ⟨t, rfl⟩ := er_int_inv ha; obtain ⟨u, rfl⟩ := er_int_inv hb
  exact PyProof.Rows.gt_int ⟨_, h, X⟩
theorem co_le {i j : Int} {Q : Value → St → Prop} (h : Q (.bool (decide (i ≤ j))) σ) : CO c n sc cmp .LtE (vI i) (vI j) Q σ := by
  unfold CO
  intro a' b' ha hb L cl q f cd fr A B s₀ s ok rm b X
  obtain ⟨t, rfl⟩ := er_int_inv ha; obtain ⟨u, rfl⟩ := er_int_inv hb
  exact PyProof.Rows.le_int ⟨_, h, X⟩
theorem co_ge {i j : Int} {Q : Value → St → Prop} (h : Q (.bool (decide (j ≤ i))) σ) : CO c n sc cmp .GtE (vI i) (vI j) Q σ := by
  unfold CO
  intro a' b' ha hb L cl q f cd fr A B s₀ s ok rm b X
  obtain ⟨t, rfl⟩ := er_int_inv ha; obtain ⟨u, rfl⟩ := er_int_inv hb
  exact PyProof.Rows.ge_int ⟨_, h, X⟩
theorem co_eq {i j : Int} {Q : Value → St → Prop} (h : Q (.bool (i == j)) σ) : CO c n sc cmp .Eq (vI i) (vI j) Q σ := by
  unfold CO
  intro a' b' ha hb L cl q f cd fr A B s₀ s ok rm b X
  obtain ⟨t, rfl⟩ := er_int_inv ha; obtain ⟨u, rfl⟩ := er_int_inv hb
  exact PyProof.Rows.eq_int ⟨_, h, X⟩
theorem co_ne {i j : Int} {Q : Value → St → Prop} (h : Q (.bool (i != j)) σ) : CO c n sc cmp .NotEq (vI i) (vI j) Q σ := by
  unfold CO
  intro a' b' ha hb L cl q f cd fr A B s₀ s ok rm b X
  obtain ⟨t, rfl⟩ := er_int_inv ha; obtain ⟨u, rfl⟩ := er_int_inv hb
  exact PyProof.Rows.ne_int ⟨_, h, X⟩
theorem co_eqs {i j : Str} {Q : Value → St → Prop} (h : Q (.bool (i == j)) σ) : CO c n sc cmp .Eq (vS i) (vS j) Q σ := by
  unfold CO
  intro a' b' ha hb L cl q f cd fr A B s₀ s ok rm b X
  obtain ⟨t, rfl⟩ := er_str_inv ha; obtain ⟨u, rfl⟩ := er_str_inv hb
  exact PyProof.Rows.eq_str ⟨_, h, X⟩
theorem co_nes {i j : Str} {Q : Value → St → Prop} (h : Q (.bool (i != j)) σ) : CO c n sc cmp .NotEq (vS i) (vS j) Q σ := by
  unfold CO
  intro a' b' ha hb L cl q f cd fr A B s₀ s ok rm b X
  obtain ⟨t, rfl⟩ := er_str_inv ha; obtain ⟨u, rfl⟩ := er_str_inv hb
  exact PyProof.Rows.ne_str ⟨_, h, X⟩
end

-- L2

theorem Room.less {n m : Nat} {A : Around} (h : Room n A) (hm : m ≤ n) : Room m A := (and3i h.1 (by have := h.2.1; omega) (by have := h.2.2; omega))
theorem Room.in1 {n : Nat} {A : Around} (h : Room (n + 1) A) : Room n A.in1 := (and3i h.1 (by have := h.2.1; show A.depth + _ + _ < _; omega) (by have := h.2.2; show A.units + 1 + _ + _ < _; omega))
theorem Room.deeper {n : Nat} {A : Around} {env : Env} (h : Room (n + 1) A) : Room n (A.deeper env) := (and3i h.1 (by have := h.2.1; show A.depth + 1 + _ + _ < _; omega) (by have := h.2.2; show A.units + 3 + _ + _ < _; omega))

noncomputable def hideB (Z : ZT) (H : HT) (h : Heap) : Addr → Option Obj := fun a => if (Z a).isSome ∨ a ∈ H.map (·.1) then none else h.get? a
theorem hideB_some {Z H h a o} (e : hideB Z H h a = some o) : h.get? a = some o ∧ Z a = none ∧ a ∉ H.map (·.1) := by
  unfold hideB at e
  split at e
  · cases e
  · rename_i q
    rw [not_or] at q
    exact (and3i e (by simpa using q.1) q.2)
theorem hideB_of {Z H h a o} (e : h.get? a = some o) (hz : Z a = none) (hh : ∀ p ∈ H, p.1 ≠ a) : hideB Z H h a = some o := by
  unfold hideB
  rw [if_neg]
  · exact e
  · rw [not_or]
    refine ⟨by simp [hz], fun hm => ?_⟩
    refine ex1e (List.mem_map.mp hm) fun p h9x => ?_
    refine and2e h9x fun hp e => ?_
    try clear h9x
    exact hh p hp e
theorem RelH.hide {c : Cx} {B Z H h} (x : RelH c B Z H h) : RelH c (hideB Z H h) Z H h := by
  refine ⟨fun b o e => (hideB_some e).1, fun a o e => ⟨(x.fz a o e).1, ?_⟩, fun p hp => (and3i ((x.mu p hp).1) ?_ ((x.mu p hp).2.2)), x.nd⟩
  · unfold hideB; rw [if_pos (.inl (by rw [e]; rfl))]
  · unfold hideB; rw [if_pos (.inr (List.mem_map_of_mem hp))]
theorem RelH.le_hide {c : Cx} {B Z H h} (x : RelH c B Z H h) {b : Addr} {o : Obj} (e : B b = some o) : hideB Z H h b = some o := by
  refine hideB_of (x.keep b o e) ?_ fun p hp q => ?_
  · cases hz : Z b with
    | none => rfl
    | some z => have := (x.fz b z hz).2; rw [e] at this; cases this
  · have := (x.mu p hp).2.1; rw [q, e] at this; cases this
theorem RelH.rebase {c : Cx} {B B' Z H h} (x : RelH c B' Z H h) (k : ∀ b o, B b = some o → B' b = some o) : RelH c B Z H h := by
  have n : ∀ a, B' a = none → B a = none := fun a e => by
    cases q : B a with
    | none => rfl
    | some o => rw [k _ _ q] at e; cases e
  exact ⟨fun b o e => x.keep b o (k b o e), fun a o e => ⟨(x.fz a o e).1, n _ (x.fz a o e).2⟩, fun p hp => (and3i ((x.mu p hp).1) (n _ (x.mu p hp).2.1) ((x.mu p hp).2.2)), x.nd⟩

theorem bindL_lookup (kindOf : Str → Option NameKind) {x : Str} (hx : kindOf x = some .local) : ∀ (binds : List (Str × Value)) (m : Str → Option Value), bindL kindOf binds m x = (binds.reverse.lookup x).or (m x)
  | [], m => by simp [bindL]
  | (y, v) :: r, m => by
    rw [bindL, bindL_lookup kindOf hx r]
    rw [List.reverse_cons, List.lookup_append]
    cases hr : r.reverse.lookup x with
    | some u => rfl
    | none =>
      rw [Option.none_or, Option.none_or]
      by_cases hxy : x = y
      · subst hxy; rw [if_pos hx]; simp
      · have hb : (x == y) = false := by simpa using hxy
        simp only [List.lookup_cons, hb, List.lookup_nil, Option.none_or]
        split <;> simp [hxy]
theorem bindC_lookup (kindOf : Str → Option NameKind) {x : Str} (hx : kindOf x ≠ some .local) : ∀ (binds : List (Str × Value)) (m : Str → Option Value), bindC kindOf binds m x = (binds.reverse.lookup x).or (m x)
  | [], m => by simp [bindC]
  | (y, v) :: r, m => by
    rw [bindC, bindC_lookup kindOf hx r]
    rw [List.reverse_cons, List.lookup_append]
    cases hr : r.reverse.lookup x with
    | some u => rfl
    | none =>
      rw [Option.none_or, Option.none_or]
      by_cases hxy : x = y
      · subst hxy; rw [if_neg hx]; simp
      · have hb : (x == y) = false := by simpa using hxy
        simp only [List.lookup_cons, hb, List.lookup_nil, Option.none_or]
        split <;> simp [hxy]

theorem lookup_nodup {α : Type} : ∀ {l : List (Str × α)} {x : Str} {v : α}, (l.map (·.1)).Nodup → (x, v) ∈ l → l.lookup x = some v
  | (y, u) :: r, x, v, nd, hm => by
    rw [List.map_cons, List.nodup_cons] at nd
    rcases List.mem_cons.mp hm with e | hm
    · cases e; simp
    · have hxy : (x == y) = false := by
        cases q : x == y with
        | false => rfl
        | true => rw [beq_iff_eq.mp q] at hm; exact absurd (List.mem_map_of_mem (f := fun p : Str × α => p.1) hm) nd.1
      rw [List.lookup_cons, hxy]; exact lookup_nodup nd.2 hm
theorem lookup_rev {α : Type} {l : List (Str × α)} {x : Str} {v : α} (nd : (l.map (·.1)).Nodup) (h : l.lookup x = some v) : l.reverse.lookup x = some v :=
  lookup_nodup (by rw [List.map_reverse]; exact (List.reverse_perm _).nodup_iff.mpr nd) (List.mem_reverse.mpr (mem_of_lookup h))
theorem lookup_map_er {x : Str} {v : Value} : ∀ {l : List (Str × Value)}, (l.map fun p => (p.1, er p.2)).lookup x = some v → ∃ v', l.lookup x = some v' ∧ er v' = v
  | (y, u) :: r, h => by
    rw [List.map_cons, List.lookup_cons] at h
    rw [List.lookup_cons]
    cases q : x == y with
    | true => rw [q] at h; cases h; exact ⟨u, rfl, rfl⟩
    | false => rw [q] at h; exact lookup_map_er h

structure IsFn (c : Cx) (f : Addr) (ps : List Str) (k : Nat) (dfl : List Value) (body : List Stmt) (sc : Scope) : Prop where
  at_ : ∃ oc od osl name qual params dV kV doc pm an cdv ct, c.K.lookup f = some ⟨oc, od, .func (fnX name qual params body sc [] dV kV doc pm an cdv ct), osl⟩ ∧ codeIn c.K cdv qual = true ∧
    ∀ s vs, c.K.In s.heap → vs.length = k → ∃ binds, BindsTo s (fnX name qual params body sc [] dV kV doc pm an cdv ct) ⟨vs, []⟩ binds ∧ binds.map (fun p => (p.1, er p.2)) = ps.zip (vs.map er ++ dfl)
  kind : sc.kind = .function
  co : sc.isCoroutine = false
  gen : sc.isGenerator = false
  nd : ps.Nodup
  loc : ps.all (fun x => sc.names.lookup x == some .local || sc.names.lookup x == some .cell) = true
  cnd : ((cellsFrom 0 sc.names []).map (·.1)).Nodup


theorem zip_keys : ∀ (ps : List Str) (vs : List Value), (ps.zip vs).map (·.1) = ps.take vs.length
  | [], _ => by simp
  | _ :: _, [] => by simp
  | p :: ps, v :: vs => by simp [zip_keys ps vs]
noncomputable abbrev kFn (Q : Value → ZT → HT → Prop) : Flow → St → Prop := fun fl σ' => Q (match fl with | .ret v => v | _ => .none) σ'.Z σ'.H
theorem call_fn {c : Cx} {n : Nat} {f : Addr} {ps : List Str} {k : Nat} {dfl : List Value} {body : List Stmt} {sc : Scope} {args : List Value} {Q : Value → ZT → HT → Prop} {Z : ZT} {H : HT}
    (F : IsFn c f ps k dfl body sc) (hk : args.length = k)
    (h : TB c n sc false body (kFn Q) ⟨ps.zip (args ++ dfl), Z, H⟩) : CallOk c (n + 1) (.ref f) args Q Z H := by
  intro A B s₀ s vs ok r b sh x hv
  refine hide fun G9 hG9 => ?_
  obtain ⟨⟨oc, od, osl, name, qual, params, dV, kV, doc, pm, an, cdv, ct, ho, hcd, hbind⟩, hkind, hco, hgen, hnd, hloc, hcnd⟩ := F
  refine hG9 ?_; clear hG9 G9
  have XK : c.K.In s.heap := fun a o e => x.keep a o (b a o (ok.X a o e))
  refine ex1e (hbind s vs XK (by rw [← hk, ← hv, List.length_map])) fun binds h9x => ?_
  refine and2e h9x fun hb hbm => ?_
  try clear h9x
  rw [hv] at hbm
  have hlim : s.heap.NoLimit := ok.T.nolimit.keeps fun a o e => x.keep a o (b a o e)
  refine codeAny_call_function (fd := fnX name qual params body sc [] dV kV doc pm an cdv ct) (by have := r.2.1; omega) (XK _ _ ho) rfl hco hgen rfl (codeRec_of XK hcd) (hb _ _ _ _ ?_)
  have hkeys : binds.map (·.1) = (ps.zip (args ++ dfl)).map (·.1) := by
    rw [← hbm, List.map_map]; rfl
  have hsub : ∀ y ∈ binds, y.1 ∈ ps := fun y hy => by
    have : y.1 ∈ binds.map (·.1) := List.mem_map_of_mem hy
    rw [hkeys, zip_keys] at this
    exact List.mem_of_mem_take this
  have hndb : (binds.map (·.1)).Nodup := by
    rw [hkeys, zip_keys]
    exact (List.take_sublist _ _).nodup hnd
  have hkinds : ∀ m, ∀ y ∈ binds, sc.names.lookup y.1 = some .local ∨ (sc.names.lookup y.1 = some .cell ∧ ((cellsFrom m sc.names []).lookup y.1).isSome = true) := fun m y hy => by
    have := List.all_eq_true.mp hloc _ (hsub y hy)
    rcases Bool.or_eq_true_iff.mp this with q | q
    · exact .inl (by simpa using q)
    · have q' : sc.names.lookup y.1 = some .cell := by simpa using q
      exact .inr ⟨q', cellsFrom_some _ _ _ (.inl q')⟩
  refine wpAny_newFunctionEnv_cells hkind (hkinds _) fun env' he s' X => ?_
  subst he
  refine ⟨hlim.keeps X.toInCall.keep, codeAny_func ?_⟩
  refine hide fun G9 hG9 => ?_
  refine ex2e (X.done) fun h₁ tk h9x => ?_
  refine and2e h9x fun e9c hk₁ => ?_
  try clear h9x
  obtain rfl := e9c
  refine hG9 ?_; clear hG9 G9
  have hX := X
  refine hide fun G9 hG9 => ?_
  obtain ⟨xi, xc, xa, xab⟩ := X
  refine hG9 ?_; clear hG9 G9
  have hnd' : ((cellsFrom (s.heap.objs.size + 1) sc.names []).map (·.1)).Nodup := by
    rw [cellsFrom_names sc.names _ 0 [] [] rfl]; exact hcnd
  let cl := cellsFrom (s.heap.objs.size + 1) sc.names []
  let L := s.heap.objs.size
  let σ : St := ⟨ps.zip (args ++ dfl), Z, H⟩
  have hfr := x.fresh
  have hZ0 : ∀ a, s.heap.objs.size ≤ a → Z a = none := fun a ha => by
    cases e : Z a with
    | none => rfl
    | some o => obtain ⟨o, ho⟩ := (x.fz _ _ e).1.get; exact absurd (Heap.lt_size ho) (Nat.not_lt.mpr ha)
  have hH0 : ∀ a, s.heap.objs.size ≤ a → ∀ p ∈ H, p.1 ≠ a := fun a ha p hp e => absurd (x.lt hp) (by rw [e]; exact Nat.not_lt.mpr ha)
  have hB0 : ∀ a, s.heap.objs.size ≤ a → hideB Z H s.heap a = none := fun a ha => by
    cases e : hideB Z H s.heap a with
    | none => rfl
    | some o => exact absurd (Heap.lt_size (hideB_some e).1) (Nat.not_lt.mpr ha)
  have hclt : ∀ y a, cl.lookup y = some a → s.heap.objs.size < a := fun y a hy => xab y a (mem_of_lookup hy)
  have R : Rel c sc false L cl s₀ (hideB Z H s.heap) σ { s with heap := h₁, toks := tk } := by
    refine ⟨sh.step _ _, x.hide.keeps hk₁, ⟨_, xi.ns, fun y v hy hky => ?_⟩, fun y v hy hky => ?_, fun _ y a hy => ⟨_, xc y a hy⟩, fun y hy => ?_, fun _ y z a hy hz => ?_, (fun e => by cases e), (and3i (hB0 _ (Nat.le_refl _)) (hZ0 _ (Nat.le_refl _)) (hH0 _ (Nat.le_refl _))),
      fun _ y a hy => (and4i (hB0 _ (Nat.le_of_lt (hclt y a hy))) (hZ0 _ (Nat.le_of_lt (hclt y a hy))) (Nat.ne_of_gt (hclt y a hy)) (hH0 _ (Nat.le_of_lt (hclt y a hy))))⟩
    · have hy' : (binds.map fun p => (p.1, er p.2)).lookup y = some v := by rw [hbm]; exact hy
      refine ex1e (lookup_map_er hy') fun v' h9x => ?_
      refine and2e h9x fun h1 h2 => ?_
      try clear h9x
      refine ⟨v', ?_, h2⟩
      rw [bindL_lookup _ (by exact hky), lookup_rev hndb h1]; rfl
    · have hy' : (binds.map fun p => (p.1, er p.2)).lookup y = some v := by rw [hbm]; exact hy
      refine ex1e (lookup_map_er hy') fun v' h9x => ?_
      refine and2e h9x fun h1 h2 => ?_
      try clear h9x
      have hm := mem_of_lookup h1
      rcases hkinds (s.heap.objs.size + 1) _ hm with q | ⟨_, q⟩
      · rw [hky] at q; cases q
      · refine ex1e (Option.isSome_iff_exists.mp q) fun a ha => ?_
        refine (ex2i a v' (and3i ha ?_ h2))
        have := xc y a ha
        rw [bindC_lookup _ (by show sc.names.lookup y ≠ some .local; rw [hky]; exact fun e => by cases e), lookup_rev hndb h1] at this
        exact this
    · exact Option.isSome_iff_exists.mp (cellsFrom_some sc.names (s.heap.objs.size + 1) [] (.inl hy))
    · exact name_of_addr xa (mem_of_lookup hy) (mem_of_lookup hz)
  unfold kFn TB at h
  refine h.use (q := qual ++ ".<locals>.") (f := some f) (cd := cdv) (fr := some s.heap.objs.size) (R := _) ok r.deeper ?_ R ?_ |> fun w => wpAny_mono w (fun _ _ z => z) (fun _ _ e => e.elim)
  · exact fun a o e => x.le_hide (b a o e)
  · intro fl σ' s' hq x'
    cases fl with
    | next => exact (ex2i σ'.Z σ'.H (and3i hq (x'.rh.rebase fun a o e => x.le_hide e) x'.sh))
    | brk => exact (ex2i σ'.Z σ'.H (and3i hq (x'.rh.rebase fun a o e => x.le_hide e) x'.sh))
    | cont => exact (ex2i σ'.Z σ'.H (and3i hq (x'.rh.rebase fun a o e => x.le_hide e) x'.sh))
    | ret v => exact (ex2i σ'.Z σ'.H (and3i hq (x'.rh.rebase fun a o e => x.le_hide e) x'.sh))

theorem CallOk.perm {c n f args Q Z H H'} (h : CallOk c n f args Q Z H') (p : H.Perm H') : CallOk c n f args Q Z H :=
  fun A B s₀ s vs ok r b sh x hv => h A B s₀ s vs ok r b sh (x.perm p) hv
theorem CallOk.sub {c n f args Q Z H H'} (h : CallOk c n f args Q Z H') (p : H'.Sublist H) : CallOk c n f args Q Z H :=
  fun A B s₀ s vs ok r b sh x hv => h A B s₀ s vs ok r b sh (x.sub p) hv
theorem CallOk.more {c n m f args Q Z H} (h : CallOk c n f args Q Z H) (hm : n ≤ m) : CallOk c m f args Q Z H :=
  fun A B s₀ s vs ok r b sh x hv => h A B s₀ s vs ok (r.less hm) b sh x hv

noncomputable abbrev kCl (m : List (Str × Value)) (Q : Value → St → Prop) : Value → ZT → HT → Prop := fun v Z' H' => Q v ⟨m, Z', H'⟩
section
variable {c : Cx} {n : Nat} {sc : Scope} {cmp : Bool} {σ : St}

theorem bc_call {f : Value} {args : List Value} {Q : Value → St → Prop} (h : CallOk c n f args (kCl σ.m Q) σ.Z σ.H) : BC c n sc cmp f args Q σ := by
  unfold kCl at h; unfold BC
  intro ws hw L cl q f' cd fr A B s₀ s ok r b X
  have hb : Base c (hideB σ.Z σ.H s.heap) := fun a o e => X.rh.le_hide (b a o e)
  refine wpAny_call (codeAny_mono (h A (hideB σ.Z σ.H s.heap) s₀ s ws ok r hb X.sh X.rh.hide hw) fun rr s' hq => ?_)
  rcases rr with e | (v | _ | _ | v) <;> try exact hq.elim
  refine hide fun G9 hG9 => ?_
  obtain ⟨Z', H', hq, x', sh'⟩ := hq
  refine hG9 ?_; clear hG9 G9
  obtain ⟨h', tk, rfl⟩ : ∃ h' tk, s' = { s with heap := h', toks := tk } := by
    refine hide fun G9 hG9 => ?_
    refine ex2e (X.sh) fun h1 t1 e9c => ?_
    obtain rfl := e9c
    refine ex2e sh' fun h2 t2 e9c => ?_
    try clear sh'
    obtain rfl := e9c
    refine hG9 ?_; clear hG9 G9
    exact (ex2i h2 t2 rfl)
  have kk : ∀ a o, s.heap.get? a = some o → σ.Z a = none → (∀ p ∈ σ.H, p.1 ≠ a) → hideB σ.Z σ.H s.heap a = some o := fun a o e hz hh => hideB_of e hz hh
  have nn : ∀ a o, hideB σ.Z σ.H s.heap a = some o → Z' a = none ∧ ∀ p ∈ H', p.1 ≠ a := fun a o e => by
    refine ⟨?_, fun p hp q => ?_⟩
    · cases hz : Z' a with
      | none => rfl
      | some z => have := (x'.fz a z hz).2; rw [e] at this; cases this
    · have := (x'.mu p hp).2.1; rw [q, e] at this; cases this
  refine hide fun G9 hG9 => ?_
  refine ex1e (X.ns) fun ml h9x => ?_
  refine and2e h9x fun n9b nv => ?_
  try clear h9x
  refine ex3e n9b fun oL es ep h9x => ?_
  refine and2e h9x fun hoL zL => ?_
  try clear h9x n9b
  refine hG9 ?_; clear hG9 G9
  refine ⟨⟨σ.m, Z', H'⟩, hq, X.go (x'.rebase fun a o e => X.rh.le_hide e) (fun o e => x'.keep _ _ (kk _ _ e X.oL.2.1 X.oL.2.2)) (fun y a o hy e => x'.keep _ _ ?_) (nn L oL (kk _ _ hoL X.oL.2.1 X.oL.2.2)) fun e y a hy => ?_⟩
  · cases hc : cmp with
    | false => exact kk a o e (X.oC hc y a hy).2.1 (X.oC hc y a hy).2.2.2
    | true =>
      refine ex1e (X.cc hc y a hy) fun o' ho' => ?_
      have := X.rh.keep _ _ ho'
      rw [e] at this; cases this
      exact X.rh.le_hide ho'
  · refine ex2e (X.cs e y a hy) fun v₀ o h9x => ?_
    refine and2e h9x fun ho _ => ?_
    try clear h9x
    exact nn a o (kk a o ho (X.oC e y a hy).2.1 (X.oC e y a hy).2.2.2)

end

-- L3

noncomputable def Ob (σ : St) (a : Addr) (o : AO) : Prop := σ.Z a = some o ∨ (a, o) ∈ σ.H
theorem Ob.rep {c : Cx} {sc cmp L cl s₀ B} {σ : St} {s : Shared} {a : Addr} {o : AO} (h : Ob σ a o) (x : Rel c sc cmp L cl s₀ B σ s) : Rep c s.heap a o := h.elim (fun e => (x.rh.fz _ _ e).1) fun e => (x.rh.mu _ e).1
theorem Rel.K {c : Cx} {sc cmp L cl s₀ B} {σ : St} {s : Shared} (x : Rel c sc cmp L cl s₀ B σ s) (ok : c.Ok) (b : Base c B) : c.K.In s.heap := fun a o e => x.rh.keep a o (b a o (ok.X a o e))

structure IsCls (c : Cx) (C : Addr) (flds : List Str) : Prop where
  get : plainGet c.K C Str.empty = true
  dict : hasDictIn c.K C = true
  setattr : findIn c.K (.ref C) "__setattr__" = some (some (.builtin "object.__setattr__"))
  over : plainOver c.K C = true
  makes : makesIn c.K C = true
  fld : ∀ x ∈ flds, findIn c.K (.ref C) x = some none ∧ takerIn c.K C x = some none

theorem isStr_key {e : DictEntry} {k : Str} {t : Tok} (h : e.key = .str k t) (name : Str) : e.key.isStr name = (name == k) := by
  rw [h]; show (k == name) = (name == k)
  rw [Bool.eq_iff_iff, beq_iff_eq, beq_iff_eq]; exact eq_comm
theorem EntsAre.noRef {es kvs} (h : EntsAre es kvs) : es.any (·.refKey) = false := by
  induction h with
  | nil => rfl
  | cons h1 _ ih => obtain ⟨⟨t, h1⟩, _⟩ := h1; rw [List.any_cons, ih]; simp [DictEntry.refKey, h1]
theorem EntsAre.len {es kvs} (h : EntsAre es kvs) : es.length = kvs.length := by
  induction h with
  | nil => rfl
  | cons _ _ ih => simp [ih]
theorem EntsAre.get {es kvs} (h : EntsAre es kvs) {name : Str} {v : Value} (hv : kvs.lookup name = some v) : ∃ v', getL name es = some (some v') ∧ er v' = v := by
  induction h with
  | nil => cases hv
  | @cons e kv es kvs h1 h2 ih =>
    refine hide fun G9 hG9 => ?_
    refine and2e h1 fun n9a h3 => ?_
    try clear h1
    obtain ⟨t, h1⟩ := n9a
    obtain ⟨k, u⟩ := kv
    refine hG9 ?_; clear hG9 G9
    rw [List.lookup_cons] at hv
    cases q : name == k with
    | true =>
      rw [q] at hv; cases hv
      refine ⟨e.val, ?_, h3⟩
      unfold getL
      rw [List.find?_cons, isStr_key h1, q]
    | false =>
      rw [q] at hv
      refine ex1e (ih hv) fun v' h9x => ?_
      refine and2e h9x fun a b => ?_
      try clear h9x
      refine ⟨v', ?_, b⟩
      unfold getL at a ⊢
      rw [List.find?_cons, isStr_key h1, q]
      have nr : e.refKey = false := by simp [DictEntry.refKey, h1]
      simp only [List.any_cons, nr, Bool.false_or]; exact a
theorem EntsAre.get_none {es kvs} (h : EntsAre es kvs) {name : Str} (hv : kvs.lookup name = none) : getL name es = some none := by
  have e : es.find? (·.key.isStr name) = none := by
    induction h with
    | nil => rfl
    | @cons e kv es kvs h1 h2 ih =>
      refine hide fun G9 hG9 => ?_
      refine and2e h1 fun n9a h3 => ?_
      try clear h1
      obtain ⟨t, h1⟩ := n9a
      obtain ⟨k, u⟩ := kv
      refine hG9 ?_; clear hG9 G9
      rw [List.lookup_cons] at hv
      cases q : name == k with
      | true => rw [q] at hv; cases hv
      | false => rw [q] at hv; rw [List.find?_cons, isStr_key h1, q]; exact ih hv
  unfold getL
  rw [e, h.noRef]; rfl
noncomputable def putA (name : Str) (v : Value) : List (Str × Value) → List (Str × Value)
  | [] => [(name, v)]
  | (k, u) :: r => if name == k then (k, v) :: r else (k, u) :: putA name v r
theorem EntsAre.put {es kvs} (h : EntsAre es kvs) (name : Str) (hsh : Int) (t : Tok) (v : Value) : EntsAre (putL name hsh (.str name t) v es) (putA name (er v) kvs) := by
  induction h with
  | nil => exact .cons ⟨⟨t, rfl⟩, rfl⟩ .nil
  | @cons e kv es kvs h1 h2 ih =>
    refine hide fun G9 hG9 => ?_
    refine and2e h1 fun n9a h3 => ?_
    try clear h1
    obtain ⟨t', h1⟩ := n9a
    obtain ⟨k, u⟩ := kv
    refine hG9 ?_; clear hG9 G9
    unfold putL putA
    rw [isStr_key h1]
    cases q : name == k with
    | true => simp only [if_true]; exact .cons ⟨⟨t', h1⟩, rfl⟩ h2
    | false => simp only [Bool.false_eq_true, if_false]; exact .cons ⟨⟨t', h1⟩, h3⟩ ih
theorem putA_len (name : Str) (v : Value) : ∀ kvs : List (Str × Value), (putA name v kvs).length ≤ kvs.length + 1
  | [] => Nat.le_refl _
  | (k, u) :: r => by
    unfold putA
    split
    · simp
    · simp only [List.length_cons]; have := putA_len name v r; omega

section
variable {c : Cx} {n : Nat} {sc : Scope} {cmp : Bool} {σ : St}

theorem inst_at {h : Heap} {a C dx : Addr} {es : List DictEntry} {k : Nat} (h1 : h.get? a = some (instObj C dx)) (h2 : h.get? dx = some (dictOf es k)) : InstAt h a (instObj C dx) C (some (dictOf es k)) := ⟨h1, rfl, rfl, h2⟩

theorem ga_own {a C dx : Addr} {kvs : List (Str × Value)} {name : Str} {v : Value} {flds : List Str} {Q : Value → St → Prop} (P : IsCls c C flds) (ha : Ob σ a (.inst C dx)) (hd : Ob σ dx (.attrs kvs)) (hn : name ∈ flds) (hv : kvs.lookup name = some v)
    (hb : ∀ i, v ≠ .builtin i) (h : Q v σ) : GA c n sc cmp (.ref a) name Q σ := by
  unfold GA
  intro a' ha' L cl q f cd fr A B s₀ s ok r b X
  rw [er_ref_inv ha']
  refine ex2e (hd.rep X) fun es k h9x => ?_
  refine and2e h9x fun h2 E => ?_
  try clear h9x
  have I := inst_at (ha.rep X) h2
  refine ex1e (E.get hv) fun v' h9x => ?_
  refine and2e h9x fun g1 g2 => ?_
  try clear h9x
  have XK := X.K ok b
  have hf := (P.fld _ hn).1
  refine get_value XK I (plainGet_of P.get).1 (findObj_own P.dict hf rfl g1) ?_ ⟨σ, by show Q (er v') σ; rw [g2]; exact h, X.toks _⟩
  cases v' <;> first | rfl | skip
  rename_i i; exact absurd g2.symm (hb i)

theorem osa_mine {A : Around} {s : Shared} {x C dx : Addr} {es : List DictEntry} {k : Nat} {name : Str} {tk : Tok} {v : Value} {R : Result → Shared → Prop} (X : c.K.In s.heap)
    (hx : s.heap.get? x = some (instObj C dx)) (D : s.heap.get? dx = some (dictOf es k)) (hp : plainOver c.K C = true) (ht : takerIn c.K C name = some none) (hh : (clsIn c.K C).any (·.hasDict) = true) (hr : es.any (·.refKey) = false)
    (hz : (putL name (PyData.keyHash c.w.params name) (.str name s.toks) v es).length ≤ 1000)
    (h : ∀ h', h'.get? dx = some (dictOf (putL name (PyData.keyHash c.w.params name) (.str name s.toks) v es) (putN name es k)) → Heap.SameBut dx s.heap h' → R (.ok (.ret .none)) { s with heap := h', toks := s.toks + 1 }) :
    codeAny c.M A (.call (.builtin "object.__setattr__") ⟨[.ref x, .str name tk, v], []⟩) R s := by
  refine osa_open X (inst_at hx D) hp ht fun b => ?_
  refine ex1e (any_some hh) fun cd h9x => ?_
  refine and2e h9x fun hc hd' => ?_
  try clear h9x
  have fe : Obj.putName name (PyData.keyHash c.w.params name) (.str name s.toks) v (dictOf es k) = dictOf (putL name (PyData.keyHash c.w.params name) (.str name s.toks) v es) (putN name es k) := putName_dict _ _ _ _ _ _
  have D' : (s.heap.update dx (Obj.putName name (PyData.keyHash c.w.params name) (.str name s.toks) v)).get? dx = some (dictOf (putL name (PyData.keyHash c.w.params name) (.str name s.toks) v es) (putN name es k)) := by
    rw [← fe]; exact Heap.get?_update_self _ D (by rw [fe]; rfl)
  refine wpAny_bind (wpAny_pure (wpAny_bind (wpAny_bind (wpAny_loadPart hx (wpAny_bind ((looks_clsIn X hc).here ?_))))))
  rw [hd']
  refine wpAny_pure (a := some dx) (wpAny_bind (wpAny_pure (wpAny_bind ?_)))
  unfold nsSet
  refine wpAny_bind (wpAny_bind (wpAny_askSetting (wpAny_pure (wpAny_bind (wpAny_mkText (wpAny_bind (wpAny_loadPart D ?_)))))))
  dsimp only
  have cc : (!es.toArray.any (·.key.isStr name) && es.toArray.any (·.refKey)) = false := by
    have e : es.toArray.any (·.refKey) = false := by rw [← Array.any_toList]; exact hr
    rw [e, Bool.and_false]
  rw [aRefKeyMayBeTheName_at, cc]
  refine wpAny_updatePart D ?_
  refine wpAny_bind (wpAny_lookBehind D' (pastItsLine_dict (by rw [List.size_toArray, sizeLine_eq]; omega)) ?_)
  exact wpAny_pure (h _ D' (Heap.SameBut.update ..))

theorem sa_own {a C dx : Addr} {kvs : List (Str × Value)} {name : Str} {v : Value} {flds : List Str} {H' : HT} {Q : St → Prop} (P : IsCls c C flds) (ha : Ob σ a (.inst C dx)) (hn : name ∈ flds) (hk : kvs.length ≤ 100)
    (U : HUpd dx (.attrs kvs) (.attrs (putA name v kvs)) σ.H H') (h : Q ⟨σ.m, σ.Z, H'⟩) : SA c n sc cmp (.ref a) name v Q σ := by
  unfold SA
  intro a' v' ha' hv' L cl q f cd fr A B s₀ s ok r b X
  rw [er_ref_inv ha']
  have od : Ob σ dx (.attrs kvs) := Or.inr U.mem
  refine ex2e (od.rep X) fun es k h9x => ?_
  refine and2e h9x fun D Es => ?_
  try clear h9x
  have hx := ha.rep X
  have XK := X.K ok b
  refine and2e (P.fld _ hn) fun hf ht => ?_
  refine set_plain XK (inst_at hx D) P.setattr ?_
  have E := Es.put name (PyData.keyHash c.w.params name) (s.toks + 1) v'
  have hz := putA_len name (er v') kvs
  refine osa_mine (s := { s with toks := s.toks + 1 }) XK hx D P.over ht P.dict Es.noRef (by rw [E.len]; omega) fun h' D' hs => ?_
  refine ⟨_, h, X.upd U hs.extBut (ex2i _ _ ⟨D', by rw [← hv']; exact E⟩)⟩
end

-- L4

theorem subTail {prog : Program} {w : World} {A : Around} {E : Value → Shared → Prop} {s : Shared} {value slice : PySem.Expr} {o i : Value} {T id : String} {Q : Value → Shared → Prop} (hT : s.TypeIs o T)
    (hl : typeLookup (.type T) "__getitem__" = pure (some (.builtin id))) (h : wpAny (model prog w) A (getItem o i) Q E s) :
    wpAny (model prog w) A (subscriptTail value slice o i) Q E s := by
  unfold subscriptTail
  refine wpAny_bind ?_
  rw [getitemInPython_of_ne hT.not_modules]
  refine wpAny_bind (wpAny_specialOf hT hl ?_)
  have fin : wpAny (model prog w) A (subscripted slice false o i) (fun r s₃ => wpAny (model prog w) A (letTemporaryGo value o r >>= fun _ => pure r) Q E s₃) E s := by
    unfold subscripted
    split
    · exact wpAny_operating (wpAny_mono h (fun r s₃ h₃ => wpAny_bind (wpAny_letTemporaryGo (wpAny_pure h₃))) fun _ _ x => x)
    · rename_i q; cases q
    · exact wpAny_operating (wpAny_mono h (fun r s₃ h₃ => wpAny_bind (wpAny_letTemporaryGo (wpAny_pure h₃))) fun _ _ x => x)
  first
    | exact wpAny_pure (wpAny_bind fin)
    | exact wpAny_bind (wpAny_pure (wpAny_bind fin))
    | exact wpAny_bind fin

theorem getElem_er {items : List Value} {vs : List Value} (e : items.map er = vs) {j : Nat} {v : Value} (h : vs[j]? = some v) : ∃ v', items[j]? = some v' ∧ er v' = v := by
  subst e
  rw [List.getElem?_map] at h
  exact Option.map_eq_some_iff.mp h

section
variable (c : Cx) (n : Nat) (sc : Scope) (cmp : Bool)
noncomputable abbrev kSb2 (o : Value) (Q : Value → St → Prop) : Value → St → Prop := fun i σ' => GI c n sc cmp o i Q σ'
noncomputable abbrev kSb (slice : PySem.Expr) (Q : Value → St → Prop) : Value → St → Prop := fun o σ' => TE c n sc cmp slice (kSb2 c n sc cmp o Q) σ'
noncomputable abbrev kAt (attr : Str) (Q : Value → St → Prop) : Value → St → Prop := fun o σ' => GA c n sc cmp o attr Q σ'
noncomputable abbrev kSq (mk : List Value → AO) (Q : Value → St → Prop) : List Value → St → Prop := fun vs σ' => vs.length ≤ 100000 ∧ ∀ D, Q (.ref D) ⟨σ'.m, σ'.Z, (D, mk vs) :: σ'.H⟩
end

section
variable {c : Cx} {n : Nat} {sc : Scope} {cmp : Bool} {σ : St}

theorem ksq {mk : List Value → AO} {Q : Value → St → Prop} {vs : List Value} (hl : Nat.ble vs.length 100000 = true) (h : ∀ D, Q (.ref D) ⟨σ.m, σ.Z, (D, mk vs) :: σ.H⟩) : kSq mk Q vs σ := ⟨Nat.le_of_ble_eq_true hl, h⟩
theorem te_subscript {value slice pos} {Q : Value → St → Prop} (h : TE c n sc cmp value (kSb c n sc cmp slice Q) σ) : TE c n sc cmp (.Subscript value slice pos) Q σ := by
  unfold kSb kSb2 TE GI at *
  intro L cl q f cd fr A B s₀ s ok rm b X
  exact Subscript_ (h.use ok rm b X fun a σ1 s1 y1 z1 => y1.use ok rm b z1 fun d σ2 s2 y2 z2 => (y2 a d rfl rfl value slice).useC ok rm b z2 fun v σ3 s3 y3 z3 => ⟨_, y3, z3⟩)

theorem te_attr {value attr pos} {Q : Value → St → Prop} (h : TE c n sc cmp value (kAt c n sc cmp attr Q) σ)
    (he : ∀ env, eval (.Attribute value attr pos) env = (do
      let o ← eval value env
      standAt pos.atName
      let r ← holding [o] (getAttr o attr true)
      letTemporaryGo value o r
      pure r) := by intros; with_unfolding_all rfl) : TE c n sc cmp (.Attribute value attr pos) Q σ := by
  unfold kAt TE GA at *
  intro L cl q f cd fr A B s₀ s ok rm b X
  exact Attribute_any_ (h.use ok rm b X fun a σ1 s1 y1 z1 => (y1 a rfl).useC ok rm b z1 fun v σ3 s3 y3 z3 => ⟨_, y3, z3⟩) (he _)

theorem gi_list {a : Addr} {vs : List Value} {i : Int} {v : Value} {Q : Value → St → Prop} (ha : Ob σ a (.list vs)) (h0 : 0 ≤ i) (hi : i < 2 ^ 63) (hv : vs[i.toNat]? = some v) (h : Q v σ) : GI c n sc cmp (.ref a) (vI i) Q σ := by
  unfold GI
  intro a' i' ha' hi' value slice L cl q f cd fr A B s₀ s ok r b X
  rw [er_ref_inv ha']; obtain ⟨t, rfl⟩ := er_int_inv hi'
  refine hide fun G9 hG9 => ?_
  refine ex2e (ha.rep X) fun items k h9x => ?_
  refine and2e h9x fun hL e => ?_
  try clear h9x
  refine ex1e (getElem_er e hv) fun v' h9x => ?_
  refine and2e h9x fun h1 h2 => ?_
  try clear h9x
  refine hG9 ?_; clear hG9 G9
  exact subTail hL.isList.typeIs slot_list_getitem.lookup (wpAny_getItem_list hL.isList h0 hi (by simpa using h1) ⟨σ, by show Q (er v') σ; rw [h2]; exact h, X⟩)
theorem gi_list_neg {a : Addr} {vs : List Value} {i : Int} {v : Value} {Q : Value → St → Prop} (ha : Ob σ a (.list vs)) (h0 : i < 0) (h1 : -(vs.length : Int) ≤ i) (hs : -(2 ^ 63) ≤ i) (hv : vs[(i + vs.length).toNat]? = some v) (h : Q v σ) : GI c n sc cmp (.ref a) (vI i) Q σ := by
  unfold GI
  intro a' i' ha' hi' value slice L cl q f cd fr A B s₀ s ok r b X
  rw [er_ref_inv ha']; obtain ⟨t, rfl⟩ := er_int_inv hi'
  refine ex2e (ha.rep X) fun items k h9x => ?_
  refine and2e h9x fun hL e => ?_
  try clear h9x
  have hl : vs.length = items.length := by rw [← e, List.length_map]
  refine ex1e (getElem_er e hv) fun v' h9x => ?_
  refine and2e h9x fun h3 h2 => ?_
  try clear h9x
  exact subTail hL.isList.typeIs slot_list_getitem.lookup (wpAny_getItem_list_neg hL.isList h0 (by simpa [← hl] using h1) hs (by simpa [← hl] using h3) ⟨σ, by show Q (er v') σ; rw [h2]; exact h, X⟩)
theorem gi_tup {a : Addr} {vs : List Value} {i : Int} {v : Value} {Q : Value → St → Prop} (ha : Ob σ a (.tup vs)) (h0 : 0 ≤ i) (hi : i < 2 ^ 63) (hv : vs[i.toNat]? = some v) (h : Q v σ) : GI c n sc cmp (.ref a) (vI i) Q σ := by
  unfold GI
  intro a' i' ha' hi' value slice L cl q f cd fr A B s₀ s ok r b X
  rw [er_ref_inv ha']; obtain ⟨t, rfl⟩ := er_int_inv hi'
  refine hide fun G9 hG9 => ?_
  refine ex2e (ha.rep X) fun items k h9x => ?_
  refine and2e h9x fun hL e => ?_
  try clear h9x
  refine ex1e (getElem_er e hv) fun v' h9x => ?_
  refine and2e h9x fun h1 h2 => ?_
  try clear h9x
  refine hG9 ?_; clear hG9 G9
  have hlt : i.toNat < items.length := (List.getElem?_eq_some_iff.mp h1).1
  have hT : s.TypeIs (.ref a) "tuple" := ⟨_, hL, rfl⟩
  refine subTail hT slot_tuple_getitem.lookup (getItem_tuple (j := i.toNat) (x := v') (⟨_, and3i hL rfl ⟨_, rfl⟩⟩) (by omega) hi ?_ (by simpa using h1) ⟨σ, by show Q (er v') σ; rw [h2]; exact h, X⟩)
  unfold seqIndex?
  have : ¬ (i < 0) := by omega
  simp only [this, if_false, List.size_toArray]
  rw [if_pos (by simp only [Bool.and_eq_true, decide_eq_true_eq]; omega)]

theorem gi_dict {a : Addr} {k : Nat} {f : Str → Option Value} {x : Str} {v : Value} {Q : Value → St → Prop} (ha : Ob σ a (.dict k f)) (hv : f x = some v) (h : Q v σ) : GI c n sc cmp (.ref a) (vS x) Q σ := by
  unfold GI
  intro a' i' ha' hi' value slice L cl q f' cd fr A B s₀ s ok r b X
  rw [er_ref_inv ha']; obtain ⟨t, rfl⟩ := er_str_inv hi'
  refine ex1e (ha.rep X) fun kvs h9x => ?_
  refine and4e h9x fun hD hf hk _ => ?_
  try clear h9x
  rw [← hf] at hv
  refine ex1e (Option.map_eq_some_iff.mp hv) fun v' h9x => ?_
  refine and2e h9x fun h1 h2 => ?_
  try clear h9x
  exact subTail hD.typeIs slot_dict_getitem.lookup (wpAny_getItem_of (knd := PySem.strKind c.prog c.w) (strKind_is _ _ _ _) hD.mapOf h1 ⟨σ, by show Q (er v') σ; rw [h2]; exact h, X.toks _⟩)

noncomputable def updF {K : Type} [DecidableEq K] (f : K → Option Value) (k : K) (v : Value) : K → Option Value := fun x => if x = k then some v else f x
theorem valueAt_stored {K : Type} [DecidableEq K] (kvs : List (K × Value)) (k x : K) (v : Value) : valueAt (stored kvs k v) x = if x = k then some v else valueAt kvs x := by
  unfold stored valueAt
  split
  · rename_i h
    induction kvs with
    | nil => simp at h
    | cons p r ih =>
      obtain ⟨y, u⟩ := p
      simp only [List.map_cons, List.find?_cons]
      by_cases hyk : y = k
      · subst hyk
        simp only [if_true, decide_true]
        by_cases hxk : x = y
        · subst hxk; simp
        · have hxk' : ¬ y = x := fun e => hxk e.symm
          simp only [hxk, hxk', decide_false, if_false]
          by_cases hr : r.any (fun kv => decide (kv.1 = y)) = true
          · have := ih hr; simp only [hxk, if_false] at this; exact this
          · have : r.map (fun kv => if kv.1 = y then (kv.1, v) else kv) = r := by
              conv => rhs; rw [← List.map_id r]
              apply List.map_congr_left
              intro p hp
              rw [if_neg]; rfl
              intro e; exact hr (List.any_eq_true.mpr ⟨p, hp, by simpa using e⟩)
            rw [this]
      · simp only [hyk, if_false]
        have hr : r.any (fun kv => decide (kv.1 = k)) = true := by simpa [hyk] using h
        by_cases hxy : y = x
        · subst hxy; simp [hyk]
        · simp only [hxy, decide_false]
          exact ih hr
  · rename_i h
    have hno : ∀ p ∈ kvs, p.1 ≠ k := fun p hp e => h (List.any_eq_true.mpr ⟨p, hp, by simpa using e⟩)
    rw [List.find?_append]
    by_cases hxk : x = k
    · subst hxk
      have : kvs.find? (fun kv => decide (kv.1 = x)) = none := List.find?_eq_none.mpr fun p hp => by simpa using hno p hp
      rw [this]; simp
    · have hxk' : ¬ k = x := fun e => hxk e.symm
      simp only [hxk, if_false, List.find?_cons, hxk', decide_false, List.find?_nil, Option.or_none]
theorem stored_len {K : Type} [DecidableEq K] (kvs : List (K × Value)) (k : K) (v : Value) : (stored kvs k v).length ≤ kvs.length + 1 := by
  unfold stored; split <;> simp
theorem stored_len_old {K : Type} [DecidableEq K] (kvs : List (K × Value)) (k : K) (v : Value) (h : (valueAt kvs k).isSome) : (stored kvs k v).length = kvs.length := by
  unfold stored
  rw [if_pos]; simp
  unfold valueAt at h
  rw [Option.isSome_map] at h
  refine ex1e (Option.isSome_iff_exists.mp h) fun p hp => ?_
  exact List.any_eq_true.mpr ⟨p, List.mem_of_find?_eq_some hp, by simpa using List.find?_some hp⟩

theorem si_dict_old {a : Addr} {k : Nat} {f : Str → Option Value} {x : Str} {v : Value} {H' : HT} {Q : St → Prop} (U : HUpd a (.dict k f) (.dict k (updF f x v)) σ.H H') (ho : (f x).isSome) (hk : k ≤ 1000000) (h : Q ⟨σ.m, σ.Z, H'⟩) :
    SI c n sc cmp (.ref a) (vS x) v Q σ := by
  unfold SI
  intro a' i' v' ha' hi' hv' L cl q f' cd fr A B s₀ s ok r b X
  rw [er_ref_inv ha']; obtain ⟨t, rfl⟩ := er_str_inv hi'
  have od : Ob σ a (.dict k f) := Or.inr U.mem
  refine ex1e (od.rep X) fun kvs h9x => ?_
  refine and4e h9x fun hD hf hk' hm => ?_
  try clear h9x
  have ho' : (valueAt kvs x).isSome := by have := hf x; rw [← this, Option.isSome_map] at ho; exact ho
  refine wpAny_setItem_pairs (knd := PySem.strKind c.prog c.w) (hsz := by rw [sizeLine_eq]; omega) (strKind_is _ _ _ _) hD fun h' hD' hs => ⟨_, h, X.upd U hs.extBut (⟨_, and4i hD' (fun y => ?_) (by rw [stored_len_old _ _ _ ho']; exact hk') hm⟩)⟩
  rw [valueAt_stored]; unfold updF
  split
  · simp [hv']
  · exact hf y
theorem ext_upd (h : Heap) (a : Addr) (f : Obj → Obj) : Heap.ExtBut a h (h.update a f) := (Heap.SameBut.update h a _).extBut
theorem rep_upd {h : Heap} {a : Addr} {items vs' : List Value} {k : Nat} (x : IsL h a items.toArray k) (f : Array Value → Array Value) (e : (f items.toArray).toList.map er = vs') : Rep c (h.update a (Obj.mapSeq f)) a (.list vs') :=
  (ex2i ((f items.toArray).toList) _ ⟨by simpa using x.update f, e⟩)
theorem si_list {a : Addr} {vs : List Value} {i : Int} {v : Value} {H' : HT} {Q : St → Prop} (h0 : 0 ≤ i) (hi : i < vs.length) (hf : i < 2 ^ 63) (U : HUpd a (.list vs) (.list (vs.set i.toNat v)) σ.H H') (h : Q ⟨σ.m, σ.Z, H'⟩) :
    SI c n sc cmp (.ref a) (vI i) v Q σ := by
  unfold SI
  intro a' i' v' ha' hi' hv' L cl q f' cd fr A B s₀ s ok r b X
  rw [er_ref_inv ha']; obtain ⟨t, rfl⟩ := er_int_inv hi'
  have od : Ob σ a (.list vs) := Or.inr U.mem
  refine ex2e (od.rep X) fun items k h9x => ?_
  refine and2e h9x fun hL e => ?_
  try clear h9x
  have hl : vs.length = items.length := by rw [← e, List.length_map]
  refine ki_setAt hL h0 hf (by simpa [← hl] using hi) ⟨_, h, X.upd (tk := s.toks) U (ext_upd _ _ _) (rep_upd hL _ ?_)⟩
  simp [← e, ← hv']
theorem si_list_neg {a : Addr} {vs : List Value} {i : Int} {v : Value} {H' : HT} {Q : St → Prop} (h0 : i < 0) (hi : -(vs.length : Int) ≤ i) (hf : -(2 ^ 63) ≤ i) (U : HUpd a (.list vs) (.list (vs.set (i + vs.length).toNat v)) σ.H H') (h : Q ⟨σ.m, σ.Z, H'⟩) :
    SI c n sc cmp (.ref a) (vI i) v Q σ := by
  unfold SI
  intro a' i' v' ha' hi' hv' L cl q f' cd fr A B s₀ s ok r b X
  rw [er_ref_inv ha']; obtain ⟨t, rfl⟩ := er_int_inv hi'
  have od : Ob σ a (.list vs) := Or.inr U.mem
  refine ex2e (od.rep X) fun items k h9x => ?_
  refine and2e h9x fun hL e => ?_
  try clear h9x
  have hl : vs.length = items.length := by rw [← e, List.length_map]
  refine ki_setBack hL h0 (by simpa [← hl] using hi) hf ⟨_, h, X.upd (tk := s.toks) U (ext_upd _ _ _) (rep_upd hL _ ?_)⟩
  simp [← e, ← hv', hl]

theorem te_list {es pos} {Q : Value → St → Prop} (h : TL c n sc cmp es (kSq .list Q) σ) : TE c n sc cmp (.List es pos) Q σ := by
  unfold kSq TE TL at *
  intro L cl q f cd fr A B s₀ s ok rm b X
  refine wpAny_List ((h pos).use ok rm b X fun vs σ1 s1 y1 z1 => ?_)
  simp only [List.length_map] at y1
  exact ⟨by rw [sizeLine_eq]; omega, _, y1.2 _, z1.new (tk := s1.toks) (fun _ _ e => Heap.get?_push_of_some _ e) (Nat.le_refl _) (ex2i vs 0 ⟨Heap.get?_push_size _ rfl, rfl⟩)⟩
theorem te_tup {es k pos} {Q : Value → St → Prop} (h : TL c n sc cmp es (kSq .tup Q) σ) : TE c n sc cmp (.Tuple es k pos) Q σ := by
  unfold kSq TE TL at *
  intro L cl q f cd fr A B s₀ s ok rm b X
  refine wpAny_Tuple ((h pos).use ok rm b X fun vs σ1 s1 y1 z1 => ?_)
  simp only [List.length_map] at y1
  exact ⟨by rw [sizeLine_eq]; omega, _, y1.2 _, z1.new (tk := s1.toks) (fun _ _ e => Heap.get?_push_of_some _ e) (Nat.le_refl _) (ex2i vs 0 ⟨Heap.get?_push_size _ rfl, rfl⟩)⟩
theorem modules_low' (ok : c.Ok) {B s₀ s L cl} (b : Base c B) (X : Rel c sc cmp L cl s₀ B σ s) {a : Addr} (h : s.heap.objs.size ≤ a) : (a == sysModules) = false := by
  have hl : s.heap.NoLimit := ok.T.nolimit.keeps fun a o e => X.rh.keep a o (b a o e)
  have := modules_low hl
  exact beq_eq_false_iff_ne.mpr (Nat.ne_of_gt (Nat.lt_of_lt_of_le this h))
theorem te_dict0 {pos} {Q : Value → St → Prop} (h : ∀ D, Q (.ref D) ⟨σ.m, σ.Z, (D, .dict 0 fun _ => none) :: σ.H⟩) : TE c n sc cmp (.Dict [] [] pos) Q σ := by
  unfold TE
  intro L cl q f cd fr A B s₀ s ok rm b X
  refine wpAny_Dict_empty ⟨_, h _, X.new (tk := s.toks) (fun _ _ e => Heap.get?_push_of_some _ e) (Nat.le_refl _) (⟨[], and4i ?_ (fun _ => rfl) (Nat.le_refl _) (modules_low' ok b X (Nat.le_refl _))⟩)⟩
  exact (ex3i _ (#[]) 0 (and6i (Heap.get?_push_size _ rfl) (and3i rfl rfl rfl) rfl (fun _ he => by simp at he) (.nil) List.nodup_nil))
theorem te_dict0i {pos} {Q : Value → St → Prop} (h : ∀ D, Q (.ref D) ⟨σ.m, σ.Z, (D, .dicti 0 fun _ => none) :: σ.H⟩) : TE c n sc cmp (.Dict [] [] pos) Q σ := by
  unfold TE
  intro L cl q f cd fr A B s₀ s ok rm b X
  refine wpAny_Dict_empty ⟨_, h _, X.new (tk := s.toks) (fun _ _ e => Heap.get?_push_of_some _ e) (Nat.le_refl _) (⟨[], and4i ?_ (fun _ => rfl) (Nat.le_refl _) (modules_low' ok b X (Nat.le_refl _))⟩)⟩
  exact (ex3i _ (#[]) 0 (and6i (Heap.get?_push_size _ rfl) (and3i rfl rfl rfl) rfl (fun _ he => by simp at he) (.nil) List.nodup_nil))
end

-- L5

theorem star_any {es : List PySem.Expr} {env : Env} {pos : Pos} (h : starEach es env = es.map fun e => (false, eval e env)) : (backTo pos (starEach es env)).any (·.1) = false := by
  rw [h]
  unfold backTo
  induction es with
  | nil => rfl
  | cons e r ih => simp [List.any_cons]

theorem evalArgs_zero {M : Model} {A : Around} {E : Value → Shared → Prop} {s : Shared} {f : Value} {Q : Args → Shared → Prop}
    (h : wpAny M A (spliced []) (fun vs s' => Q ⟨vs, []⟩ s') E s) : wpAny M A (evalArgs f true [] []) Q E s := by
  unfold evalArgs
  show wpAny M A (spliced [] >>= _) Q E s
  refine wpAny_bind (wpAny_mono h (fun vs s' h' => ?_) fun _ _ x => x)
  refine wpAny_bind (wpAny_pure ?_)
  refine wpAny_holding ?_
  exact wpAny_bind (wpAny_pure (wpAny_bind (wpAny_pure (wpAny_pure h'))))

section
variable {c : Cx} {n : Nat} {sc : Scope} {cmp : Bool} {σ : St}

noncomputable def Kp (c : Cx) (f : Value) : Prop := keepIn c.K f = true ∨ (∃ i, f = .builtin i) ∨ (∃ i, f = .type i)
theorem Kp.looks {f : Value} (k : Kp c f) (M : Model) (h : Heap) (X : c.K.In h) : ∃ k, (k = Keeper.frame ∨ k = Keeper.machine ∨ k = Keeper.boundFrame) ∧ Looks M h (keeperOf f) k := by
  rcases k with k | ⟨i, rfl⟩ | ⟨i, rfl⟩
  · exact keeps_K k h X
  · exact ⟨.machine, .inr (.inl rfl), .now⟩
  · exact ⟨.machine, .inr (.inl rfl), .now⟩

theorem callWith_mine {L cl q f' cd fr A B s₀} {s : Shared} {f : Value} {first : List Value} {args : List PySem.Expr} {pos : Pos} {Q : Value → St → Prop} (ok : c.Ok) (rm : Room n A) (b : Base c B) (X : Rel c sc cmp L cl s₀ B σ s)
    (k : Kp c f) (hf : er f = f) (hst : ∀ env, starEach args env = args.map fun e => (false, eval e env))
    (h : TL c n sc cmp args (fun vs σ1 => BC c n sc cmp f (first.map er ++ vs) Q σ1) σ) :
    wpAny c.M A (callWith pos f first (backTo pos (starEach args (mkE sc L cl q f' cd fr))) []) (fun v s' => ∃ σ', Q (er v) σ' ∧ Rel c sc cmp L cl s₀ B σ' s') NoE s := by
  unfold TL BC at h
  have key : wpAny c.M A (spliced (backTo pos (starEach args (mkE sc L cl q f' cd fr)))) (fun vs s1 => c.K.In s1.heap ∧ wpAny c.M A (call f (first ++ vs) []) (fun v s' => ∃ σ', Q (er v) σ' ∧ Rel c sc cmp L cl s₀ B σ' s') NoE s1) NoE s :=
    (h pos).use ok rm b X fun vs σ1 s1 y1 z1 => ⟨z1.K ok b, (y1 _ (by rw [List.map_append])).useC ok rm b z1 fun v σ2 s2 y2 z2 => ⟨_, y2, z2⟩⟩
  have hany := star_any (pos := pos) (hst (mkE sc L cl q f' cd fr))
  refine callWith_of (P := fun h => c.K.In h) (by rw [hany]; rfl) (fun h X => k.looks _ h X) ?_
  rw [hst] at key ⊢
  cases args with
  | nil => exact evalArgs_zero key
  | cons e r => exact evalArgs_plain key

noncomputable abbrev kBc (c : Cx) (n : Nat) (sc : Scope) (cmp : Bool) (f : Value) (Q : Value → St → Prop) : List Value → St → Prop := fun vs σ' => BC c n sc cmp f vs Q σ'
noncomputable abbrev kCa (c : Cx) (n : Nat) (sc : Scope) (cmp : Bool) (args : List PySem.Expr) (Q : Value → St → Prop) : Value → St → Prop := fun f σ' => Kp c f ∧ (∀ v, er v = f → v = f) ∧ TL c n sc cmp args (kBc c n sc cmp f Q) σ'
theorem te_call {x px args pos} {Q : Value → St → Prop} (h : TE c n sc cmp (.Name x px) (kCa c n sc cmp args Q) σ)
    (hst : ∀ env, starEach args env = args.map fun e => (false, eval e env) := by intros; rfl) : TE c n sc cmp (.Call (.Name x px) args [] pos) Q σ := by
  unfold kCa kBc TE at *
  intro L cl q f cd fr A B s₀ s ok rm b X
  refine wpAny_Call_NameR (h.use ok rm b X fun f' σ1 s1 y1 z1 => ?_)
  have e := y1.2.1 f' rfl
  rw [← e] at y1
  exact callWith_mine ok rm b z1 y1.1 e.symm hst (by simpa using y1.2.2)

@[irreducible] noncomputable def GM (c : Cx) (n : Nat) (sc : Scope) (cmp : Bool) (a : Value) (name : Str) (Q : Value → List Value → St → Prop) (σ : St) : Prop :=
  ∀ a', er a' = a → ∀ pl, T c n sc cmp (fun _ => getMethod a' name pl) (fun fx σ' => er fx.1 = fx.1 ∧ Q fx.1 (fx.2.map er) σ') σ

noncomputable abbrev kMt3 (c : Cx) (n : Nat) (sc : Scope) (cmp : Bool) (f : Value) (first : List Value) (Q : Value → St → Prop) : List Value → St → Prop := fun vs σ' => BC c n sc cmp f (first ++ vs) Q σ'
noncomputable abbrev kMt2 (c : Cx) (n : Nat) (sc : Scope) (cmp : Bool) (args : List PySem.Expr) (Q : Value → St → Prop) : Value → List Value → St → Prop := fun f first σ' => Kp c f ∧ TL c n sc cmp args (kMt3 c n sc cmp f first Q) σ'
noncomputable abbrev kMt (c : Cx) (n : Nat) (sc : Scope) (cmp : Bool) (name : Str) (args : List PySem.Expr) (Q : Value → St → Prop) : Value → St → Prop := fun ov σ' => GM c n sc cmp ov name (kMt2 c n sc cmp args Q) σ'
theorem te_method {o name apos args pos} {Q : Value → St → Prop} (h : TE c n sc cmp o (kMt c n sc cmp name args Q) σ)
    (hst : ∀ env, starEach args env = args.map fun e => (false, eval e env) := by intros; rfl)
    {pl : Env → Sem Bool}
    (he : ∀ env, eval (.Call (.Attribute o name apos) args [] pos) env = (do
      let ov ← eval o env
      standAt apos.atName
      let (f, first) ← holding [ov] (getMethod ov name (pl env))
      callWith pos f first (backTo pos (starEach args env)) []) := by intros; rfl) : TE c n sc cmp (.Call (.Attribute o name apos) args [] pos) Q σ := by
  unfold kMt kMt2 kMt3 TE GM at *
  intro L cl q f cd fr A B s₀ s ok rm b X
  refine MethodCall_ (h.use ok rm b X fun f' σ1 s1 y1 z1 => (y1 _ rfl (pl (mkE sc L cl q f cd fr))).useC ok rm b z1 fun fx σ2 s2 y2 z2 => ?_) (he _)
  exact callWith_mine ok rm b z2 y2.2.1 y2.1 hst y2.2.2

end

-- L6

section
variable {c : Cx} {n : Nat} {sc : Scope} {cmp : Bool} {σ : St}

theorem gm_list {a : Addr} {vs : List Value} {name : Str} {id : String} {Q : Value → List Value → St → Prop} (ha : Ob σ a (.list vs)) (slot : Slot "list" name id) (hty : typeOf (.builtin id) = pure (.type "method_descriptor"))
    (h : Q (.builtin id) [.ref a] σ) : GM c n sc cmp (.ref a) name Q σ := by
  unfold GM
  intro a' ha' pl L cl q f cd fr A B s₀ s ok r b X
  rw [er_ref_inv ha']
  refine ex2e (ha.rep X) fun items k h9x => ?_
  refine and2e h9x fun hL e => ?_
  try clear h9x
  exact getMethod_list_of slot hty hL.isList ⟨_, hL, rfl⟩ ⟨σ, ⟨rfl, h⟩, X⟩
theorem gm_dict {a : Addr} {k : Nat} {f : Str → Option Value} {name : Str} {id : String} {Q : Value → List Value → St → Prop} (ha : Ob σ a (.dict k f)) (slot : Slot "dict" name id) (hty : typeOf (.builtin id) = pure (.type "method_descriptor"))
    (h : Q (.builtin id) [.ref a] σ) : GM c n sc cmp (.ref a) name Q σ := by
  unfold GM
  intro a' ha' pl L cl q f' cd fr A B s₀ s ok r b X
  rw [er_ref_inv ha']
  refine ex1e (ha.rep X) fun kvs h9x => ?_
  refine and2e h9x fun hD _ => ?_
  try clear h9x
  exact getMethod_builtin hD.typeIs PySem.F.plainAttrs_dict slot hty hD.mapOf.noDict ⟨σ, ⟨rfl, h⟩, X⟩
theorem gm_dicti {a : Addr} {k : Nat} {f : Int → Option Value} {name : Str} {id : String} {Q : Value → List Value → St → Prop} (ha : Ob σ a (.dicti k f)) (slot : Slot "dict" name id) (hty : typeOf (.builtin id) = pure (.type "method_descriptor"))
    (h : Q (.builtin id) [.ref a] σ) : GM c n sc cmp (.ref a) name Q σ := by
  unfold GM
  intro a' ha' pl L cl q f' cd fr A B s₀ s ok r b X
  rw [er_ref_inv ha']
  refine ex1e (ha.rep X) fun kvs h9x => ?_
  refine and2e h9x fun hD _ => ?_
  try clear h9x
  exact getMethod_builtin hD.typeIs PySem.F.plainAttrs_dict slot hty hD.mapOf.noDict ⟨σ, ⟨rfl, h⟩, X⟩
theorem gm_own {a C dx f : Addr} {kvs : List (Str × Value)} {name : Str} {flds : List Str} {Q : Value → List Value → St → Prop} (P : IsCls c C flds) (ha : Ob σ a (.inst C dx)) (hd : Ob σ dx (.attrs kvs))
    (hf : findIn c.K (.ref C) name = some (some (.ref f))) (ht : isFn c.K (.ref f) = true) (hv : kvs.lookup name = none) (h : Q (.ref f) [.ref a] σ) : GM c n sc cmp (.ref a) name Q σ := by
  unfold GM
  intro a' ha' pl L cl q f' cd fr A B s₀ s ok r b X
  rw [er_ref_inv ha']
  refine ex2e (hd.rep X) fun es k h9x => ?_
  refine and2e h9x fun h2 E => ?_
  try clear h9x
  have I := inst_at (ha.rep X) h2
  exact method_fn (X.K ok b) I (plainGet_of P.get).1 (plainGet_of P.get).2 hf (beq_iff_eq.mp ht) (by show (lookIn name (dictOf es k)).map _ = _; rw [lookIn_dict, E.get_none hv]; rfl) ⟨σ, ⟨rfl, h⟩, X⟩

theorem map_nil {ws : List Value} (h : ws.map er = []) : ws = [] := List.map_eq_nil_iff.mp h
theorem map_head {ws vs : List Value} {a : Value} (h : ws.map er = a :: vs) : ∃ x l, ws = x :: l ∧ er x = a ∧ l.map er = vs := List.map_eq_cons_iff.mp h
theorem map_one {ws : List Value} {a : Value} (h : ws.map er = [a]) : ∃ x, ws = [x] ∧ er x = a := by
  refine ex2e (map_head h) fun x l h9x => ?_
  refine and3e h9x fun e e1 h => ?_
  try clear h9x
  rw [map_nil h] at e
  exact ⟨x, e, e1⟩
theorem map_two {ws : List Value} {a b : Value} (h : ws.map er = [a, b]) : ∃ x y, ws = [x, y] ∧ er x = a ∧ er y = b := by
  refine hide fun G9 hG9 => ?_
  refine ex2e (map_head h) fun x l h9x => ?_
  refine and3e h9x fun e e1 h => ?_
  try clear h9x
  refine ex1e (map_one h) fun y h9x => ?_
  refine and2e h9x fun f e2 => ?_
  try clear h9x
  refine hG9 ?_; clear hG9 G9
  rw [f] at e
  exact (ex2i x y (and3i e e1 e2))
theorem map_three {ws : List Value} {a b d : Value} (h : ws.map er = [a, b, d]) : ∃ x y z, ws = [x, y, z] ∧ er x = a ∧ er y = b ∧ er z = d := by
  refine hide fun G9 hG9 => ?_
  refine ex2e (map_head h) fun x l h9x => ?_
  refine and3e h9x fun e e1 h => ?_
  try clear h9x
  refine ex2e (map_two h) fun y z h9x => ?_
  refine and2e h9x fun f e2 => ?_
  try clear h9x
  refine hG9 ?_; clear hG9 G9
  rw [f] at e
  exact (ex3i x y z (and3i e e1 e2))

theorem bc_append {l : Addr} {vs : List Value} {v : Value} {H' : HT} {Q : Value → St → Prop} (U : HUpd l (.list vs) (.list (vs ++ [v])) σ.H H') (hs : vs.length ≤ 1000000) (h : Q .none ⟨σ.m, σ.Z, H'⟩) : BC c n sc cmp (.builtin "list.append") [.ref l, v] Q σ := by
  unfold BC
  intro ws hw L cl q f' cd fr A B s₀ s ok r b X
  refine hide fun G9 hG9 => ?_
  refine ex2e (map_two hw) fun x y h9x => ?_
  refine and3e h9x fun e9c h1 h2 => ?_
  try clear h9x
  obtain rfl := e9c
  refine hG9 ?_; clear hG9 G9
  rw [er_ref_inv h1]
  have od : Ob σ l (.list vs) := Or.inr U.mem
  refine ex2e (od.rep X) fun items k h9x => ?_
  refine and2e h9x fun hL e => ?_
  try clear h9x
  have hl : vs.length = items.length := by rw [← e, List.length_map]
  exact call_meets F.slot_list_append ⟨_, hL, rfl⟩ F.entry_list_append (F.args_list_append_2 _ _) (PySem.list_append l items.toArray k y (by rw [List.size_toArray, sizeLine_eq]; omega))
    ⟨hL, ⟨_, h, X.upd (tk := s.toks) U (ext_upd _ _ _) (rep_upd hL _ (by simp [e, h2]))⟩⟩
theorem bc_extend {l d : Addr} {vs us : List Value} {H' : HT} {Q : Value → St → Prop} (U : HUpd l (.list vs) (.list (vs ++ us)) σ.H H') (hd : Ob σ d (.list us)) (hs : vs.length + us.length ≤ 1000000) (h : Q .none ⟨σ.m, σ.Z, H'⟩) : BC c n sc cmp (.builtin "list.extend") [.ref l, .ref d] Q σ := by
  unfold BC
  intro ws hw L cl q f' cd fr A B s₀ s ok r b X
  refine hide fun G9 hG9 => ?_
  refine ex2e (map_two hw) fun x y h9x => ?_
  refine and3e h9x fun e9c h1 h2 => ?_
  try clear h9x
  obtain rfl := e9c
  refine hG9 ?_; clear hG9 G9
  rw [er_ref_inv h1, er_ref_inv h2]
  have od : Ob σ l (.list vs) := Or.inr U.mem
  refine hide fun G9 hG9 => ?_
  refine ex2e (od.rep X) fun items k h9x => ?_
  refine and2e h9x fun hL e => ?_
  try clear h9x
  refine ex2e (hd.rep X) fun items2 k2 h9x => ?_
  refine and2e h9x fun hL2 e2 => ?_
  try clear h9x
  refine hG9 ?_; clear hG9 G9
  have hl : vs.length = items.length := by rw [← e, List.length_map]
  have hl2 : us.length = items2.length := by rw [← e2, List.length_map]
  exact call_meets F.slot_list_extend ⟨_, hL, rfl⟩ F.entry_list_extend (F.args_list_extend_2 _ _) (AutoSeq1.list_extend_list_list_0 l items.toArray k d items2.toArray k2 (extend_door (by rw [List.size_toArray, List.size_toArray, sizeLine_eq]; omega)) (by rw [List.size_toArray, sizeLine_eq]; omega) (by rw [List.size_toArray, List.size_toArray, sizeLine_eq]; omega))
    (and3i hL hL2 ⟨_, h, X.upd (tk := s.toks) U (ext_upd _ _ _) (rep_upd hL _ (by simp [e, e2]))⟩)
theorem bc_pop {l : Addr} {vs : List Value} {v : Value} {H' : HT} {Q : Value → St → Prop} (U : HUpd l (.list (vs ++ [v])) (.list vs) σ.H H') (hs : vs.length ≤ 1000000) (h : Q v ⟨σ.m, σ.Z, H'⟩) : BC c n sc cmp (.builtin "list.pop") [.ref l] Q σ := by
  unfold BC
  intro ws hw L cl q f' cd fr A B s₀ s ok r b X
  refine ex1e (map_one hw) fun x h9x => ?_
  refine and2e h9x fun e9b h1 => ?_
  try clear h9x
  obtain rfl := e9b
  rw [er_ref_inv h1]
  have od : Ob σ l (.list (vs ++ [v])) := Or.inr U.mem
  refine ex2e (od.rep X) fun items k h9x => ?_
  refine and2e h9x fun hL e => ?_
  try clear h9x
  obtain ⟨it, y, rfl, e1, e2⟩ : ∃ it y, items = it ++ [y] ∧ it.map er = vs ∧ er y = v := by
    refine hide fun G9 hG9 => ?_
    refine ex2e (List.map_eq_append_iff.mp e) fun a1 a2 h9x => ?_
    refine and3e h9x fun h1 h2 h3 => ?_
    try clear h9x
    refine ex1e (map_one h3) fun y h9x => ?_
    refine and2e h9x fun e9b h5 => ?_
    try clear h9x
    obtain rfl := e9b
    refine hG9 ?_; clear hG9 G9
    exact (ex2i a1 y (and3i h1 h2 h5))
  have hl : vs.length = it.length := by rw [← e1, List.length_map]
  refine call_meets F.slot_list_pop ⟨_, hL, rfl⟩ F.entry_list_pop (F.args_list_pop_1 _) (MeetsSeq.list_pop_last l (it ++ [y]).toArray k y (by simp) (by rw [List.size_toArray, sizeLine_eq]; simp; omega))
    ⟨hL, ⟨_, by show Q (er y) _; rw [e2]; exact h, X.upd (tk := s.toks) U (ext_upd _ _ _) (rep_upd hL _ ?_)⟩⟩
  simp [List.eraseIdx_append_of_length_le, e1]
theorem er_isInt (x : Int) (v : Value) : PyProof.Rows.isInt x v = decide (er v = vI x) := by
  cases v <;> simp [PyProof.Rows.isInt, er, BEq.beq]
theorem eqGives_int {y : Value} {x : Int} {t : Tok} (h : ∃ i, er y = vI i) : MeetsSeq.EqGives y (.int x t) (PyProof.Rows.isInt x y) := by
  refine hide fun G9 hG9 => ?_
  obtain ⟨i, h⟩ := h
  refine ex1e (er_int_inv h) fun u e9b => ?_
  obtain rfl := e9b
  refine hG9 ?_; clear hG9 G9
  exact MeetsSeq.EqGives.int i x u t
theorem bc_remove {l : Addr} {pre post : List Value} {x : Int} {H' : HT} {Q : Value → St → Prop} (U : HUpd l (.list (pre ++ vI x :: post)) (.list (pre ++ post)) σ.H H') (hs : pre.length + post.length ≤ 1000000)
    (hi : ∀ v ∈ pre ++ post, ∃ i, v = vI i) (hn : vI x ∉ pre) (h : Q .none ⟨σ.m, σ.Z, H'⟩) : BC c n sc cmp (.builtin "list.remove") [.ref l, vI x] Q σ := by
  unfold BC
  intro ws hw L cl q f' cd fr A B s₀ s ok r b X
  refine hide fun G9 hG9 => ?_
  refine ex2e (map_two hw) fun x' y' h9x => ?_
  refine and3e h9x fun e9c h1 h2 => ?_
  try clear h9x
  obtain rfl := e9c
  refine hG9 ?_; clear hG9 G9
  rw [er_ref_inv h1]
  refine ex1e (er_int_inv h2) fun t e9b => ?_
  obtain rfl := e9b
  have od : Ob σ l (.list (pre ++ vI x :: post)) := Or.inr U.mem
  refine ex2e (od.rep X) fun items k h9x => ?_
  refine and2e h9x fun hL e => ?_
  try clear h9x
  obtain ⟨p1, y, p2, rfl, e1, e2, e3⟩ : ∃ p1 y p2, items = p1 ++ y :: p2 ∧ p1.map er = pre ∧ er y = vI x ∧ p2.map er = post := by
    refine hide fun G9 hG9 => ?_
    refine ex2e (List.map_eq_append_iff.mp e) fun a1 a2 h9x => ?_
    refine and3e h9x fun h1 h2 h3 => ?_
    try clear h9x
    refine ex2e (List.map_eq_cons_iff.mp h3) fun y a3 h9x => ?_
    refine and3e h9x fun e9c h5 h6 => ?_
    try clear h9x
    obtain rfl := e9c
    refine hG9 ?_; clear hG9 G9
    exact (ex3i a1 y a3 (and4i h1 h2 h5 h6))
  have hl : pre.length = p1.length := by rw [← e1, List.length_map]
  have hl2 : post.length = p2.length := by rw [← e3, List.length_map]
  have hall : ∀ z, z ∈ (p1 ++ y :: p2).toArray → MeetsSeq.EqGives z (.int x t) (PyProof.Rows.isInt x z) := fun z hz => by
    refine eqGives_int ?_
    have hz' : z ∈ p1 ++ y :: p2 := by simpa using hz
    rcases List.mem_append.mp hz' with hz' | hz'
    · obtain ⟨i, hi⟩ := hi (er z) (List.mem_append.mpr (.inl (e1 ▸ List.mem_map_of_mem hz'))); exact ⟨i, hi⟩
    · rcases List.mem_cons.mp hz' with rfl | hz'
      · exact ⟨x, e2⟩
      · obtain ⟨i, hi⟩ := hi (er z) (List.mem_append.mpr (.inr (e3 ▸ List.mem_map_of_mem hz'))); exact ⟨i, hi⟩
  refine call_meets F.slot_list_remove ⟨_, hL, rfl⟩ F.entry_list_remove (F.args_list_remove_2 _ _) (MeetsSeq.list_remove l (p1 ++ y :: p2).toArray k (.int x t) (PyProof.Rows.isInt x) hall p1.length (by simp) ?_ ?_ (by rw [List.size_toArray, sizeLine_eq]; simp; omega))
    ⟨hL, ⟨_, h, X.upd (tk := s.toks) U (ext_upd _ _ _) (rep_upd hL _ ?_)⟩⟩
  · rw [er_isInt]; simp [e2]
  · intro m hm hlt
    rw [er_isInt]
    have : (p1 ++ y :: p2).toArray[m] = p1[m] := by simp [List.getElem_append_left hlt]
    rw [this]
    refine decide_eq_false fun q => hn ?_
    rw [← e1, ← q]
    exact List.mem_map_of_mem (List.getElem_mem hlt)
  · simp [List.eraseIdx_append_of_length_le, e1, e3]
end

-- L7

theorem ints_of : ∀ {items : List Value} {ns : List Int}, items.map er = ns.map vI → IntsAre items ns
  | [], [], _ => .nil
  | v :: r, i :: ns, h => by
    simp only [List.map_cons, List.cons.injEq] at h
    refine ex1e (er_int_inv h.1) fun t e9b => ?_
    obtain rfl := e9b
    exact .cons i t (ints_of h.2)
  | [], _ :: _, h => by simp at h
  | _ :: _, [], h => by simp at h
theorem of_ints : ∀ {items : List Value} {ns : List Int}, IntsAre items ns → items.map er = ns.map vI
  | _, _, .nil => rfl
  | _, _, .cons i t h => by simp [of_ints h]

section
variable {c : Cx} {n : Nat} {sc : Scope} {cmp : Bool} {σ : St}

theorem Room.u {n : Nat} {A : Around} (h : Room n A) : A.units + 30 < cLine := by have := h.2.2; omega

theorem bc_len {l : Addr} {vs : List Value} {Q : Value → St → Prop} (ha : Ob σ l (.list vs)) (hs : vs.length ≤ 1000000) (h : Q (vI vs.length) σ) : BC c n sc cmp (.builtin "len") [.ref l] Q σ := by
  unfold BC
  intro ws hw L cl q f' cd fr A B s₀ s ok r b X
  refine ex1e (map_one hw) fun x h9x => ?_
  refine and2e h9x fun e9b h1 => ?_
  try clear h9x
  obtain rfl := e9b
  rw [er_ref_inv h1]
  refine ex2e (ha.rep X) fun items k h9x => ?_
  refine and2e h9x fun hL e => ?_
  try clear h9x
  have hl : vs.length = items.length := by rw [← e, List.length_map]
  refine call_len_list hL.isList (by rw [List.size_toArray]; omega) ⟨σ, ?_, X.toks _⟩
  show Q (er (.int _ _)) σ
  rw [List.size_toArray, ← hl]; exact h
theorem bc_lenm {α : Type} {f : α → Value} {l : Addr} {vs : List α} {Q : Value → St → Prop} (ha : Ob σ l (.list (vs.map f))) (hs : vs.length ≤ 1000000) (h : Q (vI vs.length) σ) : BC c n sc cmp (.builtin "len") [.ref l] Q σ :=
  bc_len ha (by rw [List.length_map]; exact hs) (by rw [List.length_map]; exact h)
theorem bc_len_dict {l : Addr} {k : Nat} {f : Str → Option Value} {Q : Value → St → Prop} (ha : Ob σ l (.dict k f)) (hs : k ≤ 1000000) (h : ∀ ks : List Str, ks.Nodup → (∀ x, x ∈ ks ↔ (f x).isSome) → Q (vI ks.length) σ) : BC c n sc cmp (.builtin "len") [.ref l] Q σ := by
  unfold BC
  intro ws hw L cl q f' cd fr A B s₀ s ok r b X
  refine ex1e (map_one hw) fun x h9x => ?_
  refine and2e h9x fun e9b h1 => ?_
  try clear h9x
  obtain rfl := e9b
  rw [er_ref_inv h1]
  refine ex1e (ha.rep X) fun kvs h9x => ?_
  refine and4e h9x fun hD hf hk hm => ?_
  try clear h9x
  refine call_len_dict hm hD (by omega) ⟨σ, ?_, X.toks _⟩
  have nd : (kvs.map (·.1)).Nodup := let ⟨_, _, _, _, _, _, _, _, hn⟩ := hD; hn
  have := h (kvs.map (·.1)) nd fun x => by
    rw [← hf x, Option.isSome_map]
    unfold valueAt
    rw [Option.isSome_map, List.find?_isSome]
    simp only [List.mem_map, decide_eq_true_eq]
  rw [List.length_map] at this
  exact this

theorem bc_int {i : Int} {Q : Value → St → Prop} (h : Q (vI i) σ) : BC c n sc cmp (.type "int") [vI i] Q σ := by
  unfold BC
  intro ws hw L cl q f' cd fr A B s₀ s ok r b X
  refine hide fun G9 hG9 => ?_
  refine ex1e (map_one hw) fun x h9x => ?_
  refine and2e h9x fun e9b h1 => ?_
  try clear h9x
  obtain rfl := e9b
  refine ex1e (er_int_inv h1) fun t e9b => ?_
  obtain rfl := e9b
  refine hG9 ?_; clear hG9 G9
  exact call_int_int ⟨σ, h, X⟩
theorem bc_abs {i : Int} {Q : Value → St → Prop} (h : Q (vI (if i < 0 then -i else i)) σ) : BC c n sc cmp (.builtin "abs") [vI i] Q σ := by
  unfold BC
  intro ws hw L cl q f' cd fr A B s₀ s ok r b X
  refine hide fun G9 hG9 => ?_
  refine ex1e (map_one hw) fun x h9x => ?_
  refine and2e h9x fun e9b h1 => ?_
  try clear h9x
  obtain rfl := e9b
  refine ex1e (er_int_inv h1) fun t e9b => ?_
  obtain rfl := e9b
  refine hG9 ?_; clear hG9 G9
  exact call_abs_int fun u tk => ⟨σ, h, X.toks _⟩
theorem bc_str {i : Int} {Q : Value → St → Prop} (hi : i.natAbs.log2 < 1920) (h : Q (vS (Str.ofString (toString i))) σ) : BC c n sc cmp (.type "str") [vI i] Q σ := by
  unfold BC
  intro ws hw L cl q f' cd fr A B s₀ s ok r b X
  refine hide fun G9 hG9 => ?_
  refine ex1e (map_one hw) fun x h9x => ?_
  refine and2e h9x fun e9b h1 => ?_
  try clear h9x
  obtain rfl := e9b
  refine ex1e (er_int_inv h1) fun t e9b => ?_
  obtain rfl := e9b
  refine hG9 ?_; clear hG9 G9
  exact PySem.P.str_of_int hi ⟨σ, h, X.toks _⟩

theorem bc_list {l : Addr} {vs : List Value} {Q : Value → St → Prop} (ha : Ob σ l (.list vs)) (hs : vs.length ≤ 1000000) (h : ∀ D, Q (.ref D) ⟨σ.m, σ.Z, (D, .list vs) :: σ.H⟩) : BC c n sc cmp (.type "list") [.ref l] Q σ := by
  unfold BC
  intro ws hw L cl q f' cd fr A B s₀ s ok r b X
  refine ex1e (map_one hw) fun x h9x => ?_
  refine and2e h9x fun e9b h1 => ?_
  try clear h9x
  obtain rfl := e9b
  rw [er_ref_inv h1]
  refine ex2e (ha.rep X) fun items k h9x => ?_
  refine and2e h9x fun hL e => ?_
  try clear h9x
  have hl : vs.length = items.length := by rw [← e, List.length_map]
  exact call_list_seq l (.inl rfl) hL rfl rfl (fun h' c' hk hn => ⟨_, h _, X.new (tk := s.toks) hk (Nat.le_refl _) (ex2i items c' ⟨hn, e⟩)⟩) (by rw [List.size_toArray, sizeLine_eq]; omega)

theorem intItems_of : ∀ {items : List Value} {ns : List Int}, IntsAre items ns → ∃ xs : List (Int × Tok), items = xs.map (fun p => .int p.1 p.2) ∧ xs.map (·.1) = ns
  | _, _, .nil => ⟨[], rfl, rfl⟩
  | _, _, .cons i t h => by obtain ⟨xs, h1, h2⟩ := intItems_of h; exact ⟨(i, t) :: xs, by simp [h1], by simp [h2]⟩
theorem bc_min {l : Addr} {ns : List Int} {Q : Value → St → Prop} (ha : Ob σ l (.list (ns.map vI))) (hne : ns ≠ []) (h : ∀ m, m ∈ ns → (∀ a ∈ ns, m ≤ a) → Q (vI m) σ) : BC c n sc cmp (.builtin "min") [.ref l] Q σ := by
  unfold BC
  intro ws hw L cl q f' cd fr A B s₀ s ok r b X
  refine ex1e (map_one hw) fun x h9x => ?_
  refine and2e h9x fun e9b h1 => ?_
  try clear h9x
  obtain rfl := e9b
  rw [er_ref_inv h1]
  refine hide fun G9 hG9 => ?_
  refine ex2e (ha.rep X) fun items k h9x => ?_
  refine and2e h9x fun hL e => ?_
  try clear h9x
  refine ex1e (intItems_of (ints_of e)) fun xs h9x => ?_
  refine and2e h9x fun e9b e9c => ?_
  try clear h9x
  obtain rfl := e9b
  obtain rfl := e9c
  refine hG9 ?_; clear hG9 G9
  have hl : s.heap.IsList l (PySem.intItems xs.toArray) := by
    have := hL.isList
    simpa [PySem.intItems] using this
  have hsz : 0 < xs.toArray.size := by
    cases xs with
    | nil => exact absurd rfl hne
    | cons _ _ => simp
  refine min_intList r.1 hl hsz fun v h' tk hv hk => ?_
  refine hide fun G9 hG9 => ?_
  refine ex1e (intItems_at hv) fun t e9b => ?_
  obtain rfl := e9b
  refine and2e (argBest_lt (numAt xs.toArray) (xs.toArray.size - 1)) fun h1 h2 => ?_
  refine hG9 ?_; clear hG9 G9
  refine ⟨σ, h _ ?_ ?_, X.keeps hk⟩
  · rw [numAt_eq]; exact getD_mem (by rw [List.length_map, Array.length_toList]; exact Nat.lt_of_le_of_lt h1 (Nat.sub_lt hsz Nat.one_pos))
  · intro a ha
    refine ex1e (mem_getD ha) fun j h9x => ?_
    refine and2e h9x fun hj e9c => ?_
    try clear h9x
    obtain rfl := e9c
    rw [List.length_map] at hj
    have := h2 j (by rw [List.size_toArray]; omega)
    rw [numAt_eq xs.toArray j] at this
    exact this
theorem bc_sorted {l : Addr} {ns : List Int} {Q : Value → St → Prop} (ha : Ob σ l (.list (ns.map vI))) (h64 : ns.length < 64) (h : ∀ D (ms : List Int), ms.Perm ns → ms.Pairwise (· ≤ ·) → Q (.ref D) ⟨σ.m, σ.Z, (D, .list (ms.map vI)) :: σ.H⟩) : BC c n sc cmp (.builtin "sorted") [.ref l] Q σ := by
  unfold BC
  intro ws hw L cl q f' cd fr A B s₀ s ok r b X
  refine ex1e (map_one hw) fun x h9x => ?_
  refine and2e h9x fun e9b h1 => ?_
  try clear h9x
  obtain rfl := e9b
  rw [er_ref_inv h1]
  refine ex2e (ha.rep X) fun items k h9x => ?_
  refine and2e h9x fun hL e => ?_
  try clear h9x
  have hi := ints_of e
  refine sorted_ints hL.isList hi (by rw [hi.length]; exact h64) fun out ns' a1 a2 a3 => ?_
  refine ex1e (sortedAll_at s.heap items out) fun k' he => ?_
  exact ⟨_, h _ ns' a2 a3, X.new (tk := s.toks) (fun _ _ => sortedAll_old) (Nat.le_succ _) (ex2i out.toList k' ⟨by simpa using he, of_ints a1⟩)⟩

theorem bc_get {l : Addr} {k : Nat} {f : Str → Option Value} {x : Str} {d : Value} {Q : Value → St → Prop} (ha : Ob σ l (.dict k f)) (h : Q ((f x).getD d) σ) : BC c n sc cmp (.builtin "dict.get") [.ref l, vS x, d] Q σ := by
  unfold BC
  intro ws hw L cl q f' cd fr A B s₀ s ok r b X
  refine hide fun G9 hG9 => ?_
  refine ex3e (map_three hw) fun x1 x2 x3 h9x => ?_
  refine and4e h9x fun e9d h1 h2 h3 => ?_
  try clear h9x
  obtain rfl := e9d
  refine hG9 ?_; clear hG9 G9
  rw [er_ref_inv h1]; obtain ⟨t, rfl⟩ := er_str_inv h2
  refine ex1e (ha.rep X) fun kvs h9x => ?_
  refine and4e h9x fun hD hf hk hm => ?_
  try clear h9x
  refine call_meetsIn PySem.F.slot_dict_get hD.typeIs PySem.F.entry_dict_get (PySem.F.args_dict_get_3 _ _ _) (meets_dict_get_default (PySem.strKind c.prog c.w) l (strKind_is _ _ x t) hm x3) ⟨_, hD.mapOf, σ, ?_, X.toks _⟩
  show Q (er ((valueAt kvs x).getD x3)) σ
  rw [← hf x] at h
  cases hv : valueAt kvs x with
  | none => rw [hv] at h; show Q (er x3) σ; rw [h3]; exact h
  | some v => rw [hv] at h; exact h
theorem bc_geti {l : Addr} {k : Nat} {f : Int → Option Value} {x : Int} {d : Value} {Q : Value → St → Prop} (ha : Ob σ l (.dicti k f)) (h : Q ((f x).getD d) σ) : BC c n sc cmp (.builtin "dict.get") [.ref l, vI x, d] Q σ := by
  unfold BC
  intro ws hw L cl q f' cd fr A B s₀ s ok r b X
  refine hide fun G9 hG9 => ?_
  refine ex3e (map_three hw) fun x1 x2 x3 h9x => ?_
  refine and4e h9x fun e9d h1 h2 h3 => ?_
  try clear h9x
  obtain rfl := e9d
  refine hG9 ?_; clear hG9 G9
  rw [er_ref_inv h1]; obtain ⟨t, rfl⟩ := er_int_inv h2
  refine ex1e (ha.rep X) fun kvs h9x => ?_
  refine and4e h9x fun hD hf hk hm => ?_
  try clear h9x
  refine call_meetsIn PySem.F.slot_dict_get hD.typeIs PySem.F.entry_dict_get (PySem.F.args_dict_get_3 _ _ _) (meets_dict_get_default (PySem.intKind c.prog c.w) l (intKind_is _ _ x t) hm x3) ⟨_, hD.mapOf, σ, ?_, X.toks _⟩
  show Q (er ((valueAt kvs x).getD x3)) σ
  rw [← hf x] at h
  cases hv : valueAt kvs x with
  | none => rw [hv] at h; show Q (er x3) σ; rw [h3]; exact h
  | some v => rw [hv] at h; exact h
noncomputable def delF {K : Type} [DecidableEq K] (f : K → Option Value) (k : K) : K → Option Value := fun x => if x = k then none else f x
theorem valueAt_without {K : Type} [DecidableEq K] (kvs : List (K × Value)) (k x : K) : valueAt (without kvs k) x = if x = k then none else valueAt kvs x := by
  unfold without valueAt
  induction kvs with
  | nil => simp
  | cons p r ih =>
    obtain ⟨y, u⟩ := p
    simp only [List.filter_cons]
    by_cases hyk : y = k
    · subst hyk
      simp only [ne_eq, not_true_eq_false, decide_false, Bool.false_eq_true, if_false]
      rw [ih]
      by_cases hxy : x = y
      · simp [hxy]
      · have : ¬ y = x := fun e => hxy e.symm
        simp [hxy, List.find?_cons, this]
    · simp only [ne_eq, hyk, not_false_eq_true, decide_true, if_true, List.find?_cons]
      by_cases hxy : y = x
      · subst hxy; simp [hyk]
      · simp only [hxy, decide_false]; exact ih
theorem without_len {K : Type} [DecidableEq K] (kvs : List (K × Value)) (k : K) : (without kvs k).length ≤ kvs.length := List.length_filter_le _ _
theorem bc_dpop {l : Addr} {k : Nat} {f : Str → Option Value} {x : Str} {v : Value} {H' : HT} {Q : Value → St → Prop} (U : HUpd l (.dict k f) (.dict k (delF f x)) σ.H H') (hv : f x = some v) (hk : k ≤ 1000000) (h : Q v ⟨σ.m, σ.Z, H'⟩) : BC c n sc cmp (.builtin "dict.pop") [.ref l, vS x] Q σ := by
  unfold BC
  intro ws hw L cl q f' cd fr A B s₀ s ok r b X
  refine hide fun G9 hG9 => ?_
  refine ex2e (map_two hw) fun x1 x2 h9x => ?_
  refine and3e h9x fun e9c h1 h2 => ?_
  try clear h9x
  obtain rfl := e9c
  refine hG9 ?_; clear hG9 G9
  rw [er_ref_inv h1]; obtain ⟨t, rfl⟩ := er_str_inv h2
  have od : Ob σ l (.dict k f) := Or.inr U.mem
  refine ex1e (od.rep X) fun kvs h9x => ?_
  refine and4e h9x fun hD hf hk' hm => ?_
  try clear h9x
  rw [← hf x] at hv
  refine ex1e (Option.map_eq_some_iff.mp hv) fun v' h9x => ?_
  refine and2e h9x fun hv1 hv2 => ?_
  try clear h9x
  refine call_meetsIn PySem.F.slot_dict_pop hD.typeIs PySem.F.entry_dict_pop (PySem.F.args_dict_pop_2 _ _) (meets_dict_pop_there (PySem.strKind c.prog c.w) l (strKind_is _ _ x t) [] (.inl rfl) rfl) (ex2i kvs v' (and4i hD (by rw [sizeLine_eq]; omega) hv1 (fun h' hD' hs => ⟨_, by show Q (er v') _; rw [hv2]; exact h, X.upd U hs.extBut (⟨_, and4i hD' (fun y => ?_) (Nat.le_trans (without_len _ _) hk') hm⟩)⟩)))
  rw [valueAt_without]; unfold delF
  split
  · rfl
  · exact hf y
theorem bc_setd_there {l : Addr} {k : Nat} {f : Int → Option Value} {x : Int} {d v : Value} {Q : Value → St → Prop} (ha : Ob σ l (.dicti k f)) (hv : f x = some v) (hk : k ≤ 1000000) (h : Q v σ) : BC c n sc cmp (.builtin "dict.setdefault") [.ref l, vI x, d] Q σ := by
  unfold BC
  intro ws hw L cl q f' cd fr A B s₀ s ok r b X
  refine hide fun G9 hG9 => ?_
  refine ex3e (map_three hw) fun x1 x2 x3 h9x => ?_
  refine and4e h9x fun e9d h1 h2 h3 => ?_
  try clear h9x
  obtain rfl := e9d
  refine hG9 ?_; clear hG9 G9
  rw [er_ref_inv h1]; obtain ⟨t, rfl⟩ := er_int_inv h2
  refine ex1e (ha.rep X) fun kvs h9x => ?_
  refine and4e h9x fun hD hf hk' hm => ?_
  try clear h9x
  rw [← hf x] at hv
  refine ex1e (Option.map_eq_some_iff.mp hv) fun v' h9x => ?_
  refine and2e h9x fun hv1 hv2 => ?_
  try clear h9x
  have hle : s.heap.DictLe l sizeLine := by
    refine ex3e hD fun o es ep h9x => ?_
    refine and6e h9x fun ho hc hd hks hp hn => ?_
    try clear h9x hD
    intro o' es' ep' ho' hd'
    rw [ho] at ho'; cases ho'; rw [hd] at hd'; cases hd'
    have e1 := hp.length
    have e2 : es.toList.length = es.size := by simp
    rw [sizeLine_eq]; omega
  refine call_meetsIn PySem.F.slot_dict_setdefault hD.typeIs PySem.F.entry_dict_setdefault (PySem.F.args_dict_setdefault_3 _ _ _) (meets_dict_setdefault (PySem.intKind c.prog c.w) l (intKind_is _ _ x t) hm x3) (⟨_, and4i hD.mapOf hle (fun u hu => ?_) (fun hu => ?_)⟩)
  · rw [hv1] at hu; cases hu; exact ⟨σ, by show Q (er v') _; rw [hv2]; exact h, X.toks _⟩
  · rw [hv1] at hu; cases hu
end

-- L8

section
variable {c : Cx} {n : Nat} {sc : Scope} {cmp : Bool} {σ : St}

noncomputable def pairsOf (ks : List Str) (es : List PySem.Expr) (env : Env) (pos : Pos) : List (Sem Value × Sem Value) :=
  (ks.zip es).map fun p => (constValue env (.str p.1), do let x ← eval p.2 env; standAt pos; pure x)
@[irreducible] noncomputable def TP (c : Cx) (n : Nat) (sc : Scope) (cmp : Bool) (ks : List Str) (es : List PySem.Expr) (Q : List Value → St → Prop) (σ : St) : Prop :=
  ∀ pos, T c n sc cmp (fun env => evalPairs (pairsOf ks es env pos)) (fun vs σ' => vs.map (fun p => er p.1) = (ks.take es.length).map vS ∧ Q (vs.map fun p => er p.2) σ') σ
theorem tp_nil {es} {Q : List Value → St → Prop} (h : Q [] σ) : TP c n sc cmp [] es Q σ := by
  unfold TP
  intro pos L cl q f cd fr A B s₀ s ok rm b X
  exact evalPairs_nil ⟨_, ⟨by simp, h⟩, X⟩
noncomputable abbrev kTp2 (v : Value) (Q : List Value → St → Prop) : List Value → St → Prop := fun vs σ' => Q (v :: vs) σ'
noncomputable abbrev kTp (c : Cx) (n : Nat) (sc : Scope) (cmp : Bool) (ks : List Str) (es : List PySem.Expr) (Q : List Value → St → Prop) : Value → St → Prop := fun v σ' => TP c n sc cmp ks es (kTp2 v Q) σ'
theorem tp_cons {k ks e es} {Q : List Value → St → Prop} (h : TE c n sc cmp e (kTp c n sc cmp ks es Q) σ) : TP c n sc cmp (k :: ks) (e :: es) Q σ := by
  unfold kTp kTp2 TP TE at *
  intro pos L cl q f cd fr A B s₀ s ok rm b X
  refine evalPairs_cons (show wpAny _ _ (mkText k) _ _ _ from wpAny_mkText ?_)
  refine wpAny_bind (h.use ok rm b (X.toks _) fun v σ1 s1 y1 z1 => wpAny_bind (wpAny_standAt (wpAny_pure ?_)))
  exact (y1 pos).use ok rm b z1 fun vs σ2 s2 y2 z2 => ⟨_, ⟨by simp [y2.1], y2.2⟩, z2⟩

theorem carries_of : ∀ {vs : List (Value × Value)} {ks : List Str}, vs.map (fun p => er p.1) = ks.map vS → Carries (PySem.strKind c.prog c.w) vs (ks.zip (vs.map (·.2)))
  | [], [], _ => trivial
  | (x, v) :: vs, k :: ks, h => by
    simp only [List.map_cons, List.cons.injEq] at h
    refine ex1e (er_str_inv h.1) fun t e9b => ?_
    obtain rfl := e9b
    exact (and3i (strKind_is _ _ k t) rfl (carries_of h.2))
  | [], _ :: _, h => by simp at h
  | _ :: _, [], h => by simp at h
noncomputable def funOf : List (Str × Value) → Str → Option Value
  | [], _ => none
  | (k, v) :: r, x => if x = k then some v else funOf r x
theorem funOf_valueAt (x : Str) : ∀ (ks : List Str) (vs : List Value), (valueAt (ks.zip vs) x).map er = funOf (ks.zip (vs.map er)) x
  | [], _ => rfl
  | _ :: _, [] => rfl
  | k :: ks, v :: vs => by
    have ih := funOf_valueAt x ks vs
    unfold valueAt at ih ⊢
    simp only [List.zip_cons_cons, List.map_cons, List.find?_cons, funOf]
    by_cases h : x = k
    · subst h; simp
    · have h' : ¬ k = x := fun e => h e.symm
      simp only [h, h', decide_false, if_false]; exact ih
theorem te_dict {keys : List (Option PySem.Expr)} {values : List PySem.Expr} {pos : Pos} {ks : List Str} {Q : Value → St → Prop}
    (hks : ks.Nodup) (hk0 : ks ≠ []) (hkl : ks.length ≤ 15) (hlen : ks.length = values.length)
    (h : ∀ D, TP c n sc cmp ks values (fun vs σ1 => ∃ H', HUpd D (.dict 0 fun _ => none) (.dict ks.length (funOf (ks.zip vs))) σ1.H H' ∧ Q (.ref D) ⟨σ1.m, σ1.Z, H'⟩) ⟨σ.m, σ.Z, (D, .dict 0 fun _ => none) :: σ.H⟩)
    (hshape : ∀ env, (evalEachOpt keys env).zip ((evalEach values env).map fun v => do let x ← v; standAt pos; pure x) = (pairsOf ks values env pos).map fun p => (some p.1, p.2) := by intros; rfl) :
    TE c n sc cmp (.Dict keys values pos) Q σ := by
  unfold TE
  unfold TP at h
  intro L cl q f cd fr A B s₀ s ok rm b X
  have hl : (pairsOf ks values (mkE sc L cl q f cd fr) pos).length = ks.length := by unfold pairsOf; rw [List.length_map, List.length_zip, hlen, Nat.min_self]
  have hsys := modules_low' ok b X (Nat.le_refl _)
  refine wpAny_Dict_pairs (knd := PySem.strKind c.prog c.w) (hshape _) (fun e => hk0 (by rw [e] at hl; exact List.length_eq_zero_iff.mp hl.symm)) (by omega) ?_
  have X1 : Rel c sc cmp L cl s₀ B ⟨σ.m, σ.Z, (s.heap.objs.size, .dict 0 fun _ => none) :: σ.H⟩ { s with heap := s.heap.push { cls := .type "dict", data := .dict #[] } } :=
    X.new (tk := s.toks) (fun _ _ e => Heap.get?_push_of_some _ e) (Nat.le_refl _) (⟨[], and4i (Heap.DictOf.new s.heap) (fun _ => rfl) (Nat.le_refl _) hsys⟩)
  refine (h s.heap.objs.size pos).use ok rm b X1 fun vs σ1 s1 y1 z1 => ?_
  refine hide fun G9 hG9 => ?_
  refine and2e y1 fun hk h9x => ?_
  refine ex1e h9x fun H' h9y => ?_
  refine and2e h9y fun U hq => ?_
  try clear h9y h9x y1
  refine hG9 ?_; clear hG9 G9
  rw [List.take_of_length_le (by omega)] at hk
  have od : Ob σ1 s.heap.objs.size (.dict 0 fun _ => none) := Or.inr U.mem
  refine ex1e (od.rep z1) fun kvs h9x => ?_
  refine and4e h9x fun hD hf hn hm => ?_
  try clear h9x
  have hkv : kvs = [] := List.length_eq_zero_iff.mp (by omega)
  subst hkv
  have hzk : (ks.zip (vs.map (·.2))).map (·.1) = ks := by
    have : vs.length = ks.length := by have := congrArg List.length hk; simpa using this
    rw [zip_keys, List.length_map, this, List.take_length]
  refine (⟨ks.zip (vs.map (·.2)), and3i (carries_of hk) hD (fun h' hD' hs => ⟨_, hq, z1.upd U hs.extBut (⟨_, and4i hD' (fun x => ?_) ?_ hm⟩)⟩)⟩)
  · rw [merged_nil_of_nodup _ (by rw [hzk]; exact hks), funOf_valueAt]
    simp [List.map_map, Function.comp_def]
  · rw [merged_nil_of_nodup _ (by rw [hzk]; exact hks)]
    have := congrArg List.length hzk
    rw [List.length_map] at this; omega

theorem co_in_dict {l : Addr} {k : Nat} {f : Str → Option Value} {x : Str} {Q : Value → St → Prop} (ha : Ob σ l (.dict k f)) (h : Q (.bool (f x).isSome) σ) : CO c n sc cmp .In (vS x) (.ref l) Q σ := by
  unfold CO
  intro a' b' ha' hb' L cl q f' cd fr A B s₀ s ok r b X
  rw [er_ref_inv hb']; obtain ⟨t, rfl⟩ := er_str_inv ha'
  refine ex1e (ha.rep X) fun kvs h9x => ?_
  refine and4e h9x fun hD hf hk hm => ?_
  try clear h9x
  refine wpAny_in_of (knd := PySem.strKind c.prog c.w) (strKind_is _ _ _ _) hm hD.mapOf ⟨σ, ?_, X.toks _⟩
  rw [← hf x, Option.isSome_map] at h; exact h
theorem strs_of : ∀ {items : List Value} {ns : List Str}, items.map er = ns.map vS → StrsAre items ns
  | [], [], _ => .nil
  | v :: r, i :: ns, h => by
    simp only [List.map_cons, List.cons.injEq] at h
    refine ex1e (er_str_inv h.1) fun t e9b => ?_
    obtain rfl := e9b
    exact .cons i t (strs_of h.2)
  | [], _ :: _, h => by simp at h
  | _ :: _, [], h => by simp at h
theorem co_in_tup {l : Addr} {ys : List Str} {x : Str} {Q : Value → St → Prop} (ha : Ob σ l (.tup (ys.map vS))) (h : Q (.bool (ys.any (· == x))) σ) : CO c n sc cmp .In (vS x) (.ref l) Q σ := by
  unfold CO
  intro a' b' ha' hb' L cl q f' cd fr A B s₀ s ok r b X
  rw [er_ref_inv hb']; obtain ⟨t, rfl⟩ := er_str_inv ha'
  refine ex2e (ha.rep X) fun items k h9x => ?_
  refine and2e h9x fun hL e => ?_
  try clear h9x
  exact in_tuple_strs (⟨_, and3i hL rfl ⟨_, rfl⟩⟩) (strs_of (by simpa using e)) ⟨σ, h, X⟩
theorem eqAt_str (A : Around) (s : Shared) (x y : Str) (t u : Tok) : SeqAt.EqAt A s (.str x t) (.str y u) (decide (x = y)) := by
  have := keq_flat (A := A) (s := s) (PyProof.V.Flat.str x t) (PyProof.V.Flat.str y u)
  have e : PyData.eqv (.str x) (.str y) = decide (x = y) := by
    rw [Bool.eq_iff_iff]; simp [PyData.eqv]
  rw [e] at this; exact this
theorem any_map_er {items : List Value} {vs : List Value} {x : Value} (e : items.map er = vs) : (items.toArray.any fun y => decide (er y = x)) = decide (x ∈ vs) := by
  subst e
  rw [Bool.eq_iff_iff, decide_eq_true_eq]
  simp only [List.any_toArray, List.any_eq_true, decide_eq_true_eq, List.mem_map]
theorem co_in_strs {l : Addr} {ys : List Str} {x : Str} {Q : Value → St → Prop} (ha : Ob σ l (.list (ys.map vS))) (h : Q (.bool (decide (x ∈ ys))) σ) : CO c n sc cmp .In (vS x) (.ref l) Q σ := by
  unfold CO
  intro a' b' ha' hb' L cl q f' cd fr A B s₀ s ok r b X
  rw [er_ref_inv hb']; obtain ⟨t, rfl⟩ := er_str_inv ha'
  refine ex2e (ha.rep X) fun items k h9x => ?_
  refine and2e h9x fun hL e => ?_
  try clear h9x
  refine SeqAt.in_listAt (fun y => decide (er y = vS x)) hL.isList (fun y hy => ?_) ⟨σ, ?_, X⟩
  · have : er y ∈ ys.map vS := e ▸ List.mem_map_of_mem (by simpa using hy)
    refine hide fun G9 hG9 => ?_
    refine ex1e (List.mem_map.mp this) fun i h9x => ?_
    refine and2e h9x fun _ hi => ?_
    try clear h9x
    refine ex1e (er_str_inv hi.symm) fun u e9b => ?_
    obtain rfl := e9b
    refine hG9 ?_; clear hG9 G9
    have q := eqAt_str A.in1 s i x u t
    have e : decide (i = x) = decide (er (Value.str i u) = vS x) := by rw [Bool.eq_iff_iff]; simp [er]
    rw [← e]; exact q
  · rw [any_map_er e]
    have : (vS x ∈ ys.map vS) ↔ x ∈ ys := by simp
    simp only [this]; exact h
theorem eqAt_bool (A : Around) (s : Shared) (x y : Bool) : SeqAt.EqAt A s (.bool x) (.bool y) (x == y) := by
  have := keq_flat (A := A) (s := s) (PyProof.V.Flat.bool x) (PyProof.V.Flat.bool y)
  have e : PyData.eqv (.bool x) (.bool y) = (x == y) := by cases x <;> cases y <;> rfl
  rw [e] at this; exact this
theorem co_in_bools {l : Addr} {ys : List Bool} {x : Bool} {Q : Value → St → Prop} (ha : Ob σ l (.list (ys.map .bool))) (h : Q (.bool (decide (x ∈ ys))) σ) : CO c n sc cmp .In (.bool x) (.ref l) Q σ := by
  unfold CO
  intro a' b' ha' hb' L cl q f' cd fr A B s₀ s ok r b X
  rw [er_ref_inv hb', er_bool_inv ha']
  refine ex2e (ha.rep X) fun items k h9x => ?_
  refine and2e h9x fun hL e => ?_
  try clear h9x
  refine SeqAt.in_listAt (fun y => decide (er y = .bool x)) hL.isList (fun y hy => ?_) ⟨σ, ?_, X⟩
  · have : er y ∈ ys.map Value.bool := e ▸ List.mem_map_of_mem (by simpa using hy)
    refine ex1e (List.mem_map.mp this) fun i h9x => ?_
    refine and2e h9x fun _ hi => ?_
    try clear h9x
    rw [er_bool_inv hi.symm]
    have q := eqAt_bool A.in1 s i x
    have e : (i == x) = decide (er (Value.bool i) = .bool x) := by cases i <;> cases x <;> rfl
    rw [← e]; exact q
  · rw [any_map_er e]
    have : (Value.bool x ∈ ys.map Value.bool) ↔ x ∈ ys := by simp
    simp only [this]; exact h

theorem eqAt_int (A : Around) (s : Shared) (x y : Int) (t u : Tok) : SeqAt.EqAt A s (.int x t) (.int y u) (x == y) := (MeetsSeq.EqGives.int x y t u).at A s
theorem co_eq_list_nil {l d : Addr} {vs : List Value} {Q : Value → St → Prop} (ha : Ob σ l (.list vs)) (hb : Ob σ d (.list [])) (h : Q (.bool (decide (vs = []))) σ) : CO c n sc cmp .Eq (.ref l) (.ref d) Q σ := by
  unfold CO
  intro a' b' ha' hb' L cl q f' cd fr A B s₀ s ok r b X
  rw [er_ref_inv ha', er_ref_inv hb']
  refine hide fun G9 hG9 => ?_
  refine ex2e (ha.rep X) fun items k h9x => ?_
  refine and2e h9x fun hL e => ?_
  try clear h9x
  refine ex2e (hb.rep X) fun items2 k2 h9x => ?_
  refine and2e h9x fun hL2 e2 => ?_
  try clear h9x
  refine hG9 ?_; clear hG9 G9
  have e3 : items2 = [] := by cases items2 with | nil => rfl | cons _ _ => simp at e2
  subst e3
  have hu := r.u
  have t1 : s.TypeIs (.ref l) "list" := ⟨_, hL, rfl⟩
  have t2 : s.TypeIs (.ref d) "list" := ⟨_, hL2, rfl⟩
  cases items with
  | nil =>
    have e4 : vs = [] := e.symm
    subst e4
    refine PySem.richCompare_meets_room (op := .Eq) t1 t2 F.slot_list_eq F.entry_list_eq (F.args_list_eq_2 _ _) (SeqAt.list_eqAt l d #[] #[] k k2 none none #[] #[] rfl (fun _ => true)) (and4i hL hL2 (fun j h1 => absurd h1 (by simp)) ?_) (by omega)
    exact And.intro (fun q => nomatch q) ⟨σ, h, X⟩
  | cons v r' =>
    have e4 : vs ≠ [] := by rw [← e]; simp
    refine PySem.richCompare_meets_room (op := .Eq) t1 t2 F.slot_list_eq F.entry_list_eq (F.args_list_eq_2 _ _) (SeqAt.list_eq_lengthsAt l d (v :: r').toArray #[] k k2 none none #[] #[] (by simp)) (and3i hL hL2 ?_) (by omega)
    rw [decide_eq_false e4] at h
    exact And.intro (fun q => nomatch q) ⟨σ, h, X⟩
theorem co_ne_list_nil {l d : Addr} {vs : List Value} {Q : Value → St → Prop} (ha : Ob σ l (.list vs)) (hb : Ob σ d (.list [])) (h : Q (.bool (!decide (vs = []))) σ) : CO c n sc cmp .NotEq (.ref l) (.ref d) Q σ := by
  unfold CO
  intro a' b' ha' hb' L cl q f' cd fr A B s₀ s ok r b X
  rw [er_ref_inv ha', er_ref_inv hb']
  refine hide fun G9 hG9 => ?_
  refine ex2e (ha.rep X) fun items k h9x => ?_
  refine and2e h9x fun hL e => ?_
  try clear h9x
  refine ex2e (hb.rep X) fun items2 k2 h9x => ?_
  refine and2e h9x fun hL2 e2 => ?_
  try clear h9x
  refine hG9 ?_; clear hG9 G9
  have e3 : items2 = [] := by cases items2 with | nil => rfl | cons _ _ => simp at e2
  subst e3
  have hu := r.u
  have t1 : s.TypeIs (.ref l) "list" := ⟨_, hL, rfl⟩
  have t2 : s.TypeIs (.ref d) "list" := ⟨_, hL2, rfl⟩
  cases items with
  | nil =>
    have e4 : vs = [] := e.symm
    subst e4
    refine PySem.richCompare_meets_room (op := .NotEq) t1 t2 F.slot_list_ne F.entry_list_ne (F.args_list_ne_2 _ _) (SeqAt.list_neAt l d #[] #[] k k2 none none #[] #[] rfl (fun _ => true)) (and4i hL hL2 (fun j h1 => absurd h1 (by simp)) ?_) (by omega)
    exact And.intro (fun q => nomatch q) ⟨σ, h, X⟩
  | cons v r' =>
    have e4 : vs ≠ [] := by rw [← e]; simp
    refine PySem.richCompare_meets_room (op := .NotEq) t1 t2 F.slot_list_ne F.entry_list_ne (F.args_list_ne_2 _ _) (SeqAt.list_ne_lengthsAt l d (v :: r').toArray #[] k k2 none none #[] #[] (by simp)) (and3i hL hL2 ?_) (by omega)
    rw [decide_eq_false e4] at h
    exact And.intro (fun q => nomatch q) ⟨σ, h, X⟩
theorem co_eq_ints {l d : Addr} {xs ys : List Int} {Q : Value → St → Prop} (ha : Ob σ l (.list (xs.map vI))) (hb : Ob σ d (.list (ys.map vI))) (h : Q (.bool (decide (xs = ys))) σ) : CO c (n + 4) sc cmp .Eq (.ref l) (.ref d) Q σ := by
  unfold CO
  intro a' b' ha' hb' L cl q f' cd fr A B s₀ s ok r b X
  rw [er_ref_inv ha', er_ref_inv hb']
  refine hide fun G9 hG9 => ?_
  refine ex2e (ha.rep X) fun items k h9x => ?_
  refine and2e h9x fun hL e => ?_
  try clear h9x
  refine ex2e (hb.rep X) fun items2 k2 h9x => ?_
  refine and2e h9x fun hL2 e2 => ?_
  try clear h9x
  refine hG9 ?_; clear hG9 G9
  exact eq_intsK hL.isList (ints_of e) hL2.isList (ints_of e2) (by have := r.2.2; omega) ⟨σ, h, X⟩

theorem hits_all {A : Around} {s : Shared} {kb : List (Str × Value)} : ∀ (ka : List (Str × Value)), (∀ p ∈ ka, ∃ y, valueAt kb p.1 = some y ∧ er y = er p.2 ∧ ∃ i, er p.2 = vI i) → KeqHits A s kb ka true
  | [], _ => .nil
  | (k, v) :: r, h => by
    refine hide fun G9 hG9 => ?_
    refine ex1e (h (k, v) (.head _)) fun y h9x => ?_
    refine and3e h9x fun h1 h2 h9y => ?_
    refine ex1e h9y fun i h3 => ?_
    try clear h9y h9x
    refine ex1e (er_int_inv (h2.trans h3)) fun t e => ?_
    refine ex1e (er_int_inv h3) fun u e' => ?_
    refine hG9 ?_; clear hG9 G9
    dsimp only at h1 e'
    subst e; subst e'
    have := eqAt_int A s i i u t
    rw [beq_self_eq_true] at this
    exact KeqHits.hit h1 this (hits_all r fun p hp => h p (.tail _ hp))
theorem valueAt_mem {K : Type} [DecidableEq K] {kvs : List (K × Value)} (nd : (kvs.map (·.1)).Nodup) {k : K} {v : Value} (h : (k, v) ∈ kvs) : valueAt kvs k = some v := by
  refine ex1e (List.mem_iff_getElem?.mp h) fun i hi => ?_
  exact valueAt_of_get nd hi
theorem co_ne_dict {l d : Addr} {k k' : Nat} {f : Str → Option Value} {Q : Value → St → Prop} (ha : Ob σ l (.dict k f)) (hb : Ob σ d (.dict k' f)) (hi : ∀ x v, f x = some v → ∃ i, v = vI i) (h : Q (.bool false) σ) : CO c n sc cmp .NotEq (.ref l) (.ref d) Q σ := by
  unfold CO
  intro a' b' ha' hb' L cl q f' cd fr A B s₀ s ok r b X
  rw [er_ref_inv ha', er_ref_inv hb']
  refine hide fun G9 hG9 => ?_
  refine ex1e (ha.rep X) fun ka h9x => ?_
  refine and4e h9x fun hD hf hk hm => ?_
  try clear h9x
  refine ex1e (hb.rep X) fun kb h9x => ?_
  refine and4e h9x fun hD2 hf2 hk2 hm2 => ?_
  try clear h9x
  refine hG9 ?_; clear hG9 G9
  have nda : (ka.map (·.1)).Nodup := let ⟨_, _, _, _, _, _, _, _, hn⟩ := hD; hn
  have ndb : (kb.map (·.1)).Nodup := let ⟨_, _, _, _, _, _, _, _, hn⟩ := hD2; hn
  have mem : ∀ (kvs : List (Str × Value)), (kvs.map (·.1)).Nodup → (∀ x, (valueAt kvs x).map er = f x) → ∀ x, x ∈ kvs.map (·.1) ↔ (f x).isSome := fun kvs nd hh x => by
    rw [← hh x, Option.isSome_map]
    unfold valueAt
    rw [Option.isSome_map, List.find?_isSome]
    simp only [List.mem_map, decide_eq_true_eq]
  have hlen : ka.length = kb.length := by
    have : (ka.map (·.1)).Perm (kb.map (·.1)) := (List.perm_ext_iff_of_nodup nda ndb).mpr fun x => by rw [mem ka nda hf x, mem kb ndb hf2 x]
    have := this.length_eq
    simpa using this
  refine keq_ne (knd := PySem.strKind c.prog c.w) (r := true) hm hm2 hD hD2 (by have := r.u; omega) (fun _ => hits_all ka fun p hp => ?_) ⟨σ, ?_, X⟩
  · obtain ⟨x, v⟩ := p
    have h1 := valueAt_mem nda hp
    have h2 := hf x
    rw [h1] at h2
    have h3 := hf2 x
    rw [← h2] at h3
    refine ex1e (Option.map_eq_some_iff.mp h3) fun y h9x => ?_
    refine and2e h9x fun h4 h5 => ?_
    try clear h9x
    exact (⟨y, and3i h4 h5 (hi x (er v) h2.symm)⟩)
  · rw [hlen]; simpa using h
end

-- L9

noncomputable def Off (own : List Addr) (B : Addr → Option Obj) (σ : St) (L : Addr) (cl : List (Str × Addr)) : Prop :=
  ∀ b ∈ own, B b = none ∧ σ.Z b = none ∧ (∀ p ∈ σ.H, p.1 ≠ b) ∧ b ≠ L ∧ ∀ y a, cl.lookup y = some a → a ≠ b

noncomputable def plusB (own : List Addr) (h : Heap) (B : Addr → Option Obj) : Addr → Option Obj := fun b => if b ∈ own then h.get? b else B b

section
variable {c : Cx} {n : Nat} {sc : Scope} {cmp : Bool} {L : Addr} {cl : List (Str × Addr)} {s₀ s : Shared} {B : Addr → Option Obj} {σ : St} {own : List Addr}

theorem Base.plus (b : Base c B) {h : Heap} (k : ∀ b o, B b = some o → h.get? b = some o) : Base c (plusB own h B) := fun a o e => by
  unfold plusB
  split
  · exact k a o (b a o e)
  · exact b a o e
theorem Rel.plus (x : Rel c sc cmp L cl s₀ B σ s) (f : Off own B σ L cl) : Rel c sc cmp L cl s₀ (plusB own s.heap B) σ s := by
  have g : ∀ a, B a = none → a ∉ own → plusB own s.heap B a = none := fun a e h => by unfold plusB; rw [if_neg h]; exact e
  have nz : ∀ a o, σ.Z a = some o → a ∉ own := fun a o e h => by have := (f a h).2.1; rw [e] at this; cases this
  have nh : ∀ p ∈ σ.H, p.1 ∉ own := fun p hp h => (f _ h).2.2.1 p hp rfl
  refine hide fun G9 hG9 => ?_
  obtain ⟨sh, ⟨kp, fz, mu, nd⟩, ns, ce, cs, ck, cn, cc, ol, oc⟩ := x
  refine hG9 ?_; clear hG9 G9
  refine ⟨sh, ⟨fun b o e => ?_, fun a o e => ⟨(fz a o e).1, g _ (fz a o e).2 (nz a o e)⟩, fun p hp => (and3i ((mu p hp).1) (g _ (mu p hp).2.1 (nh p hp)) ((mu p hp).2.2)), nd⟩, ns, ce, cs, ck, cn, fun e y a hy => ?_, ⟨g _ ol.1 fun h => (f _ h).2.2.2.1 rfl, ol.2⟩,
    fun e y a hy => ⟨g _ (oc e y a hy).1 fun h => (f _ h).2.2.2.2 y a hy rfl, (oc e y a hy).2⟩⟩
  · unfold plusB at e
    split at e
    · exact e
    · exact kp b o e
  · unfold plusB
    rw [if_neg (fun h => (f _ h).2.2.2.2 y a hy rfl)]; exact cc e y a hy
theorem Rel.minus {h : Heap} (x : Rel c sc cmp L cl s₀ (plusB own h B) σ s) (f : ∀ b ∈ own, B b = none ∧ b ≠ L ∧ ∀ y a, cl.lookup y = some a → a ≠ b) : Rel c sc cmp L cl s₀ B σ s := by
  have k : ∀ b o, B b = some o → plusB own h B b = some o := fun b o e => by
    unfold plusB
    rw [if_neg]
    · exact e
    · intro hm; rw [(f b hm).1] at e; cases e
  have g : ∀ a, plusB own h B a = none → B a = none := fun a e => by
    cases q : B a with
    | none => rfl
    | some o => rw [k _ _ q] at e; cases e
  refine hide fun G9 hG9 => ?_
  obtain ⟨sh, rh, ns, ce, cs, ck, cn, cc, ol, oc⟩ := x
  refine hG9 ?_; clear hG9 G9
  refine ⟨sh, rh.rebase k, ns, ce, cs, ck, cn, fun e y a hy => ?_, ⟨g _ ol.1, ol.2⟩, fun e y a hy => ⟨g _ (oc e y a hy).1, (oc e y a hy).2⟩⟩
  refine ex1e (cc e y a hy) fun o ho => ?_
  unfold plusB at ho
  rw [if_neg (fun hm => (f _ hm).2.2 y a hy rfl)] at ho
  exact ⟨o, ho⟩
theorem Off.after {h : Heap} {σ' : St} {s' : Shared} (f : Off own B σ L cl) (x : Rel c sc cmp L cl s₀ (plusB own h B) σ' s') (lv : ∀ b ∈ own, ∃ o, h.get? b = some o) : Off own B σ' L cl := fun b hb => by
  refine ex1e (lv b hb) fun o ho => ?_
  have e : plusB own h B b = some o := by unfold plusB; rw [if_pos hb]; exact ho
  refine (and4i ((f b hb).1) ?_ (fun p hp q => ?_) ((f b hb).2.2.2))
  · cases hz : σ'.Z b with
    | none => rfl
    | some z => have := (x.rh.fz b z hz).2; rw [e] at this; cases this
  · have := (x.rh.mu p hp).2.1; rw [q, e] at this; cases this
end

structure Drw (c : Cx) (n : Nat) (sc : Scope) (cmp : Bool) (target : PySem.Expr) (I : Addr) (own : List Addr) (J : Nat → Heap → Prop) (src : St → Prop) (N : Nat) (bnd : Nat → List (Str × Value)) : Prop where
  frame : ∀ i h h', J i h → (∀ b ∈ own, ∀ o, h.get? b = some o → h'.get? b = some o) → J i h'
  live : ∀ i h, J i h → ∀ b ∈ own, ∃ o, h.get? b = some o
  item : ∀ L cl q f cd fr A B s₀ s σ i (R : Shared → Prop), c.Ok → Room n A → Base c B → Rel c sc cmp L cl s₀ B σ s → J i s.heap → src σ → Off own B σ L cl → i < N →
    (∀ s', Rel c sc cmp L cl s₀ B ⟨bnd i ++ σ.m, σ.Z, σ.H⟩ s' → J (i + 1) s'.heap → R s') →
    wpAny c.M A (pyNext (.ref I)) (fun r s₁ => match r with
      | none => False
      | some v => wpAny c.M A (letOwnedTupleGo target (.ref I) v) (fun _ s₂ => wpAny c.M A (assign target (mkE sc L cl q f cd fr) v) (fun _ s₃ => R s₃) NoE s₂) NoE s₁) NoE s
  done : ∀ L cl A B s₀ s σ (R : Shared → Prop), c.Ok → Room n A → Base c B → Rel c sc cmp L cl s₀ B σ s → J N s.heap → src σ → Off own B σ L cl →
    (∀ s', Rel c sc cmp L cl s₀ B σ s' → (∀ b o, b ∉ own → s.heap.get? b = some o → s'.heap.get? b = some o) → R s') → wpAny c.M A (pyNext (.ref I)) (fun r s₁ => r = none ∧ R s₁) NoE s

theorem forLoop_gen {prog : Program} {w : World} {A : Around} {s : Shared} {R : Result → Shared → Prop} {target it body env} (I : Nat → Shared → Prop)
    (turn : ∀ n s, I n s → wpAny (model prog w) A (pyNext it) (fun r s₁ => match r with
      | none => R (.ok .next) s₁
      | some v => wpAny (model prog w) A (letOwnedTupleGo target it v) (fun _ s₂ => wpAny (model prog w) A (assign target env v) (fun _ s₃ => wpAny (model prog w) A (execs body env) (fun f s₄ => match f with
          | .next | .cont => ∃ m, m < n ∧ I m s₄
          | .brk => R (.ok .next) s₄
          | .ret v => R (.ok (.ret v)) s₄) NoE s₃) NoE s₂) NoE s₁) NoE s)
    (n : Nat) (h : I n s) : codeAny (model prog w) A (.forLoop target it body [] env) R s := by
  refine codeAny_loop' rfl I (fun n s hI => ?_) n h
  show wpAny _ _ ((forTurn target it body [] env).onRaise (fun x => do noteFrame x env; theTreesLotGoes x)) _ _ s
  refine wpAny_noted ?_
  simp only [forTurn]
  refine wpAny_bind (wpAny_standAt (wpAny_bind (wpAny_onRaise (wpAny_mono (turn n s hI) (fun r s₁ h₁ => ?_) fun _ _ h' => h'.elim))))
  cases r with
  | none => exact wpAny_pure (.inr ⟨rfl, codeAny_block (wpAny_execs_nil h₁)⟩)
  | some v =>
    refine wpAny_bind (wpAny_mono h₁ (fun _ s₂ h₂ => ?_) fun _ _ h' => h'.elim)
    refine wpAny_bind (wpAny_mono h₂ (fun _ s₃ h₃ => wpAny_bind (wpAny_mono h₃ (fun f s₄ h₄ => ?_) fun _ _ h' => h'.elim)) fun _ _ h' => h'.elim)
    cases f with
    | next => exact wpAny_pure (.inl ⟨rfl, h₄⟩)
    | cont => exact wpAny_pure (.inl ⟨rfl, h₄⟩)
    | brk => exact wpAny_pure h₄
    | ret v => exact wpAny_pure h₄

section
variable {c : Cx} {n : Nat} {sc : Scope} {cmp : Bool}

theorem for_drw {target : PySem.Expr} {I : Addr} {own : List Addr} {J : Nat → Heap → Prop} {src : St → Prop} {N : Nat} {bnd : Nat → List (Str × Value)} {body : List Stmt} {Q : Flow → St → Prop} (D : Drw c n sc cmp target I own J src N bnd)
    (Inv : Nat → St → Prop) (hsrc : ∀ i σ, Inv i σ → src σ)
    (turn : ∀ i σ, i < N → Inv i σ → TB c n sc cmp body (fun fl σ2 => match fl with | .next | .cont => Inv (i + 1) σ2 | .brk => Q .next σ2 | .ret v => Q (.ret v) σ2) ⟨bnd i ++ σ.m, σ.Z, σ.H⟩)
    (done : ∀ σ, Inv N σ → Q .next σ)
    {L cl q f cd fr A B s₀ s σ} (ok : c.Ok) (r : Room n A) (b : Base c B) (x : Rel c sc cmp L cl s₀ B σ s) (hJ : J 0 s.heap) (hO : Off own B σ L cl) (h0 : Inv 0 σ) :
    codeAny c.M A (.forLoop target (.ref I) body [] (mkE sc L cl q f cd fr)) (fun rr s' => match rr with | .ok fl => ∃ σ', Q (erF fl) σ' ∧ Rel c sc cmp L cl s₀ B σ' s' | .error _ => False) s := by
  refine forLoop_gen (fun k s' => ∃ i σ', Rel c sc cmp L cl s₀ B σ' s' ∧ J i s'.heap ∧ Off own B σ' L cl ∧ Inv i σ' ∧ i ≤ N ∧ k = N - i) ?_ N (ex2i 0 σ (and6i x hJ hO h0 (Nat.zero_le _) rfl))
  intro k s1 h9
  refine hide fun G9 hG9 => ?_
  refine ex2e h9 fun i σ1 h9x => ?_
  refine and6e h9x fun x1 j1 o1 i1 hi e9h => ?_
  try clear h9x h9
  obtain rfl := e9h
  refine hG9 ?_; clear hG9 G9
  by_cases hlt : i < N
  · refine wpAny_mono (D.item L cl q f cd fr A B s₀ s1 σ1 i (fun s3 => wpAny c.M A (execs body (mkE sc L cl q f cd fr)) (fun fl s₄ => match fl with
          | .next | .cont => ∃ m, m < N - i ∧ ∃ i σ', Rel c sc cmp L cl s₀ B σ' s₄ ∧ J i s₄.heap ∧ Off own B σ' L cl ∧ Inv i σ' ∧ i ≤ N ∧ m = N - i
          | .brk => ∃ σ', Q .next σ' ∧ Rel c sc cmp L cl s₀ B σ' s₄
          | .ret v => ∃ σ', Q (.ret (er v)) σ' ∧ Rel c sc cmp L cl s₀ B σ' s₄) NoE s3) ok r b x1 j1 (hsrc i σ1 i1) o1 hlt fun s3 x3 j3 => ?_) (fun rr s' h => ?_) fun _ _ e => e
    · have o3 : Off own B ⟨bnd i ++ σ1.m, σ1.Z, σ1.H⟩ L cl := o1
      have t := turn i σ1 hlt i1
      unfold TB at t
      refine t.use ok r (b.plus x3.rh.keep) (x3.plus o3) fun fl σ4 s4 h4 x4 => ?_
      have back : Rel c sc cmp L cl s₀ B σ4 s4 := x4.minus fun a ha => ⟨(o1 a ha).1, (o1 a ha).2.2.2⟩
      have j4 : J (i + 1) s4.heap := D.frame _ _ _ j3 fun a ha o e => x4.rh.keep a o (by unfold plusB; rw [if_pos ha]; exact e)
      have o4 := o3.after x4 (D.live _ _ j3)
      cases fl with
      | next => exact (⟨N - (i + 1), ⟨by omega, ex2i (i + 1) σ4 (and6i back j4 o4 h4 hlt rfl)⟩⟩)
      | cont => exact (⟨N - (i + 1), ⟨by omega, ex2i (i + 1) σ4 (and6i back j4 o4 h4 hlt rfl)⟩⟩)
      | brk => exact ⟨σ4, h4, back⟩
      | ret v => exact ⟨σ4, h4, back⟩
    · cases rr with
      | none => exact h.elim
      | some v => exact h
  · have e : i = N := by omega
    subst e
    refine wpAny_mono (D.done L cl A B s₀ s1 σ1 (fun s' => ∃ σ', Q .next σ' ∧ Rel c sc cmp L cl s₀ B σ' s') ok r b x1 j1 (hsrc _ _ i1) o1 fun s' x' _ => ⟨σ1, done σ1 i1, x'⟩) (fun rr s' h => ?_) fun _ _ e => e
    rw [h.1]; exact h.2
end

-- L10

section
variable {c : Cx} {n : Nat} {sc : Scope} {cmp : Bool} {L : Addr} {cl : List (Str × Addr)} {s₀ s : Shared} {B : Addr → Option Obj} {σ : St} {own : List Addr}

theorem RelH.off {Z H h h'} (x : RelH c B Z H h) (O : ∀ b ∈ own, B b = none ∧ Z b = none ∧ ∀ p ∈ H, p.1 ≠ b) (k : ∀ b o, b ∉ own → h.get? b = some o → h'.get? b = some o) : RelH c B Z H h' :=
  ⟨fun b o e => k b o (fun hm => by rw [(O b hm).1] at e; cases e) (x.keep b o e), fun a o e => ⟨(x.fz a o e).1.at' fun ob => k _ _ (fun hm => by rw [(O a hm).2.1] at e; cases e), (x.fz a o e).2⟩,
    fun p hp => ⟨(x.mu p hp).1.at' fun _ => k _ _ (fun hm => (O _ hm).2.2 p hp rfl), (x.mu p hp).2⟩, x.nd⟩
theorem Rel.off (X : Rel c sc cmp L cl s₀ B σ s) (O : Off own B σ L cl) {h' : Heap} {tk : Nat} (k : ∀ b o, b ∉ own → s.heap.get? b = some o → h'.get? b = some o) : Rel c sc cmp L cl s₀ B σ { s with heap := h', toks := tk } :=
  X.go (X.rh.off (fun b hb => (and3i ((O b hb).1) ((O b hb).2.1) ((O b hb).2.2.1))) k) (fun o => k _ _ fun hm => (O _ hm).2.2.2.1 rfl) (fun y a o hy => k _ _ fun hm => (O _ hm).2.2.2.2 y a hy rfl) X.oL.2 fun e y a hy => ⟨(X.oC e y a hy).2.1, (X.oC e y a hy).2.2.2⟩

noncomputable def Bnd (c : Cx) (n : Nat) (sc : Scope) (cmp : Bool) (x : Str) : Prop := ∀ (v : Value) (σ : St) (Q : St → Prop), Q ⟨(x, v) :: σ.m, σ.Z, σ.H⟩ → SN c n sc cmp x v Q σ
theorem Bnd.local {x : Str} (hk : sc.kind = .function) (hx : sc.names.lookup x = some .local) : Bnd c n sc cmp x := fun _ _ _ h => sn_local hk hx h
theorem Bnd.cell {x : Str} (hc : cmp = false) (hk : sc.kind = .function) (hx : sc.names.lookup x = some .cell) : Bnd c n sc cmp x := fun _ _ _ h => sn_cell hc hk hx h

theorem store_off {x : Str} {v v' : Value} {q f cd fr A} {R : Unit → Shared → Prop} (hx : Bnd c n sc cmp x) (ok : c.Ok) (r : Room n A) (b : Base c B) (X : Rel c sc cmp L cl s₀ B σ s) (O : Off own B σ L cl) (hv : er v' = v)
    (h : ∀ s', Rel c sc cmp L cl s₀ B ⟨(x, v) :: σ.m, σ.Z, σ.H⟩ s' → (∀ b ∈ own, ∀ o, s.heap.get? b = some o → s'.heap.get? b = some o) → R () s') : wpAny c.M A (storeName (mkE sc L cl q f cd fr) x v') R NoE s := by
  have S := hx v σ (fun σ' => σ' = ⟨(x, v) :: σ.m, σ.Z, σ.H⟩) rfl
  unfold SN at S
  refine (S v' hv).use ok r (b.plus X.rh.keep) (X.plus O) fun _ σ' s' e X' => ?_
  subst e
  exact h s' (X'.minus fun b hb => ⟨(O b hb).1, (O b hb).2.2.2⟩) fun b hb o e => X'.rh.keep b o (by unfold plusB; rw [if_pos hb]; exact e)
end

inductive Sr where
  | lst (a : Addr) (vs : List Value)
  | rng (a : Int) (N : Nat)
  | enm (a : Addr) (vs : List Value)
  | tups (a : Addr) (ts : List Addr) (ps : List (Value × Value))
noncomputable def Sr.N : Sr → Nat
  | .lst _ vs => vs.length
  | .rng _ N => N
  | .enm _ vs => vs.length
  | .tups _ _ ps => ps.length
noncomputable def Sr.src : Sr → St → Prop
  | .lst a vs, σ => Ob σ a (.list vs)
  | .rng _ _, _ => True
  | .enm a vs, σ => Ob σ a (.list vs)
  | .tups a ts ps, σ => Ob σ a (.list (ts.map .ref)) ∧ ts.length = ps.length ∧ ∀ (i : Nat) (t : Addr) (p : Value × Value), ts[i]? = some t → ps[i]? = some p → Ob σ t (.tup [p.1, p.2])
noncomputable def Sr.bnd : Sr → List Str → Nat → List (Str × Value)
  | .lst _ vs, [x], i => [(x, vs.getD i .none)]
  | .rng a _, [x], i => [(x, vI (a + i))]
  | .enm _ vs, [x, y], i => [(y, vs.getD i .none), (x, vI i)]
  | .tups _ _ ps, [x, y], i => [(y, (ps.getD i (.none, .none)).2), (x, (ps.getD i (.none, .none)).1)]
  | _, _, _ => []
inductive Fits : Sr → PySem.Expr → List Str → Prop
  | lst {a vs x px} : Fits (.lst a vs) (.Name x px) [x]
  | rng {a N x px} : Fits (.rng a N) (.Name x px) [x]
  | enm {a vs x px y py k pos} : Fits (.enm a vs) (.Tuple [.Name x px, .Name y py] k pos) [x, y]
  | tups {a ts ps x px y py k pos} : Fits (.tups a ts ps) (.Tuple [.Name x px, .Name y py] k pos) [x, y]

section
variable {c : Cx} {n : Nat}

theorem drw_list {sc : Scope} {cmp : Bool} {x : Str} {px : Pos} {a It : Addr} {vs : List Value} (hx : Bnd c n sc cmp x) :
    Drw c n sc cmp (.Name x px) It [It] (fun i h => h.IsListIter It a i) (Sr.lst a vs).src (Sr.lst a vs).N ((Sr.lst a vs).bnd [x]) := by
  refine ⟨fun i h h' ⟨o, ho, z⟩ k => ⟨o, k It (by simp) o ho, z⟩, fun i h ⟨o, ho, z⟩ b hb => by simp at hb; subst hb; exact ⟨o, ho⟩, ?_, ?_⟩
  · intro L cl q f cd fr A B s₀ s σ i R ok r b X J hs O hi hR
    have hs' : Ob σ a (.list vs) := hs
    refine ex2e (hs'.rep X) fun items k h9x => ?_
    refine and2e h9x fun hL e => ?_
    try clear h9x
    have hi' : i < vs.length := hi
    refine ex1e (getElem_er e (List.getElem?_eq_getElem hi')) fun v' h9x => ?_
    refine and2e h9x fun h1 h2 => ?_
    try clear h9x
    refine wpAny_pyNext_list_item J hL.isList (x := v') (by simpa using h1) fun h' J' hs' => ?_
    show wpAny c.M A (pure ()) _ _ _
    refine wpAny_pure ?_
    refine wpAny_assign_Name ?_
    have O' : Off [It] B σ L cl := O
    have X' : Rel c sc cmp L cl s₀ B σ { s with heap := h' } := X.off (tk := s.toks) O' fun b o hb e => hs'.extBut b o (by simpa using hb) e
    refine store_off (own := [It]) hx ok r b X' O' h2 fun s' X2 k2 => hR s' ?_ ?_
    · show Rel c sc cmp L cl s₀ B ⟨[(x, vs.getD i .none)] ++ σ.m, σ.Z, σ.H⟩ s'
      have : vs.getD i .none = vs[i] := by rw [List.getD_eq_getElem?_getD, List.getElem?_eq_getElem hi']; rfl
      rw [this]; exact X2
    · refine ex1e J' fun o h9x => ?_
      refine and2e h9x fun ho z => ?_
      try clear h9x J'
      exact ⟨o, k2 It (by simp) o ho, z⟩
  · intro L cl A B s₀ s σ R ok r b X J hs O hR
    have hs' : Ob σ a (.list vs) := hs
    refine ex2e (hs'.rep X) fun items k h9x => ?_
    refine and2e h9x fun hL e => ?_
    try clear h9x
    have hl : vs.length = items.length := by rw [← e, List.length_map]
    refine wpAny_pyNext_list_end r.1 J hL.isList (by simp [Sr.N, hl]) fun h' he => ⟨rfl, hR _ (X.off (tk := s.toks) O fun b o hb e => he b o (by simpa using hb) e) fun b o hb e => he b o (by simpa using hb) e⟩

theorem drw_range {sc : Scope} {cmp : Bool} {x : Str} {px : Pos} {a : Int} {N : Nat} {It : Addr} (hx : Bnd c n sc cmp x) :
    Drw c n sc cmp (.Name x px) It [It] (fun i h => IsRangeIter h It (a + i) (N - i) 1) (Sr.rng a N).src (Sr.rng a N).N ((Sr.rng a N).bnd [x]) := by
  refine ⟨fun i h h' J k => k It (by simp) _ J, fun i h J b hb => by simp at hb; subst hb; exact ⟨_, J⟩, ?_, ?_⟩
  · intro L cl q f cd fr A B s₀ s σ i R ok r b X J hs O hi hR
    have hi' : i < N := hi
    refine wpAny_pyNext_range_item J (by omega) fun h' J' hs' => ?_
    show wpAny c.M A (pure ()) _ _ _
    refine wpAny_pure ?_
    refine wpAny_assign_Name ?_
    have O' : Off [It] B σ L cl := O
    have X' : Rel c sc cmp L cl s₀ B σ { s with heap := h', toks := s.toks + 1 } := X.off O' fun b o hb e => hs'.extBut b o (by simpa using hb) e
    refine store_off (own := [It]) (v := vI (a + i)) hx ok r b X' O' rfl fun s' X2 k2 => hR s' X2 ?_
    have := k2 It (by simp) _ J'
    have e1 : a + ((i : Nat) : Int) + 1 = a + ((i + 1 : Nat) : Int) := by omega
    have e2 : ((N : Int) - ((i : Nat) : Int)) - 1 = (N : Int) - ((i + 1 : Nat) : Int) := by omega
    rw [e1, e2] at this
    exact this
  · intro L cl A B s₀ s σ R ok r b X J hs O hR
    refine wpAny_pyNext_range_end r.1 J (by show (N : Int) - (N : Nat) ≤ 0; omega) fun h' he => ⟨rfl, hR _ (X.off (tk := s.toks) O fun b o hb e => he b o (by simpa using hb) e) fun b o hb e => he b o (by simpa using hb) e⟩

theorem drw_enum {sc : Scope} {cmp : Bool} {x y : Str} {px py : Pos} {k1} {pos : Pos} {a It E : Addr} {vs : List Value} (hx : Bnd c n sc cmp x) (hy : Bnd c n sc cmp y) (hne : E ≠ It) :
    Drw c n sc cmp (.Tuple [.Name x px, .Name y py] k1 pos) E [E, It] (fun i h => h.IsListIter It a i ∧ ∃ old, IsEnum h E It i old) (Sr.enm a vs).src (Sr.enm a vs).N ((Sr.enm a vs).bnd [x, y]) := by
  refine ⟨fun i h h' J k => ?_, fun i h J b hb => ?_, ?_, ?_⟩
  · refine hide fun G9 hG9 => ?_
    refine and2e J fun n9a h9x => ?_
    refine ex1e h9x fun old he => ?_
    try clear h9x J
    refine ex1e n9a fun o h9x => ?_
    refine and2e h9x fun ho z => ?_
    try clear h9x n9a
    refine hG9 ?_; clear hG9 G9
    exact ⟨⟨o, k It (by simp) o ho, z⟩, old, k E (by simp) _ he⟩
  · refine hide fun G9 hG9 => ?_
    refine and2e J fun n9a h9x => ?_
    refine ex1e h9x fun old he => ?_
    try clear h9x J
    refine ex1e n9a fun o h9x => ?_
    refine and2e h9x fun ho z => ?_
    try clear h9x n9a
    refine hG9 ?_; clear hG9 G9
    simp at hb
    rcases hb with rfl | rfl
    · exact ⟨_, he⟩
    · exact ⟨o, ho⟩
  · intro L cl q f cd fr A B s₀ s σ i R ok r b X J hs O hi hR
    obtain ⟨J, old, hE⟩ := J
    have hs' : Ob σ a (.list vs) := hs
    refine ex2e (hs'.rep X) fun items k h9x => ?_
    refine and2e h9x fun hL e => ?_
    try clear h9x
    have hi' : i < vs.length := hi
    refine ex1e (getElem_er e (List.getElem?_eq_getElem hi')) fun v' h9x => ?_
    refine and2e h9x fun h1 h2 => ?_
    try clear h9x
    refine wpAny_pyNext_enum_item hE J hL.isList (x := v') (by simpa using h1) hne fun h1 a1 a2 a3 a4 a5 => ?_
    refine wpAny_letOwnedTupleGo_enum a1 fun h2' b1 b2 => ?_
    have O' : Off [E, It] B σ L cl := O
    have hEs : E < s.heap.objs.size := Heap.lt_size hE
    have tup : h2'.IsTuple s.heap.objs.size #[.int i s.toks, v'] := (⟨_, and3i (b2.extBut _ _ (Nat.ne_of_gt hEs) a3) rfl ⟨_, rfl⟩⟩)
    refine wpAny_assign_Tuple r.1 tup rfl (by rfl) fun h3 he3 => ?_
    have kk : ∀ b o, b ∉ [E, It] → s.heap.get? b = some o → h3.get? b = some o := fun b o hb e => by
      simp only [List.mem_cons, List.not_mem_nil, or_false, not_or] at hb
      have e2 := b2.extBut b o hb.1 (a5 b o hb.1 hb.2 e)
      have hz : b ≠ h2'.objs.size := Nat.ne_of_lt (Heap.lt_size e2)
      exact he3 b o hz e2
    have X' : Rel c sc cmp L cl s₀ B σ { s with heap := h3, toks := s.toks + 1 } := X.off O' kk
    have nE : h3.get? E = some { cls := .type "enumerate", dict := none, data := .fields #[.none, .bool false, .ref It, rawInt ((i : Int) + 1), .none, v'], slots := #[] } := he3 _ _ (Nat.ne_of_lt (Heap.lt_size b1)) b1
    have nI : h3.IsListIter It a (i + 1) := by
      refine ex1e a2 fun o h9x => ?_
      refine and2e h9x fun ho z => ?_
      try clear h9x a2
      have ho2 := b2.extBut It o (Ne.symm hne) ho
      exact ⟨o, he3 _ _ (Nat.ne_of_lt (Heap.lt_size ho2)) ho2, z⟩
    show wpAny c.M A (assignInOrder [assign (.Name x px) (mkE sc L cl q f cd fr), assign (.Name y py) (mkE sc L cl q f cd fr)] [.int i s.toks, v']) _ _ _
    refine wpAny_assignInOrder_more (wpAny_assign_Name (store_off (own := [E, It]) (v := vI i) hx ok r b X' O' rfl fun s4 X4 k4 => ?_))
    have O4 : Off [E, It] B ⟨(x, vI i) :: σ.m, σ.Z, σ.H⟩ L cl := O
    refine wpAny_assignInOrder_more (wpAny_assign_Name (store_off (own := [E, It]) hy ok r b X4 O4 h2 fun s5 X5 k5 => ?_))
    refine wpAny_assignInOrder_none (hR s5 ?_ ⟨?_, v', ?_⟩)
    · have : vs.getD i .none = vs[i] := by rw [List.getD_eq_getElem?_getD, List.getElem?_eq_getElem hi']; rfl
      show Rel c sc cmp L cl s₀ B ⟨[(y, vs.getD i .none), (x, vI i)] ++ σ.m, σ.Z, σ.H⟩ s5
      rw [this]; exact X5
    · refine ex1e nI fun o h9x => ?_
      refine and2e h9x fun ho z => ?_
      try clear h9x nI
      exact ⟨o, k5 It (by simp) _ (k4 It (by simp) _ ho), z⟩
    · have := k5 E (by simp) _ (k4 E (by simp) _ nE)
      have e1 : ((i : Nat) : Int) + 1 = ((i + 1 : Nat) : Int) := by omega
      rw [e1] at this
      exact this
  · intro L cl A B s₀ s σ R ok r b X J hs O hR
    obtain ⟨J, old, hE⟩ := J
    have hs' : Ob σ a (.list vs) := hs
    refine ex2e (hs'.rep X) fun items k h9x => ?_
    refine and2e h9x fun hL e => ?_
    try clear h9x
    have hl : vs.length = items.length := by rw [← e, List.length_map]
    refine wpAny_pyNext_enum_end r.1 hE J hL.isList (by simp [Sr.N, hl]) fun h' he => ⟨rfl, hR _ (X.off (tk := s.toks) O fun b o hb e => he b o ?_ e) fun b o hb e => he b o ?_ e⟩ <;>
    · intro q; subst q; simp at hb

theorem drw_tups {sc : Scope} {cmp : Bool} {x y : Str} {px py : Pos} {k1} {pos : Pos} {a It : Addr} {ts : List Addr} {ps : List (Value × Value)} (hx : Bnd c n sc cmp x) (hy : Bnd c n sc cmp y) :
    Drw c n sc cmp (.Tuple [.Name x px, .Name y py] k1 pos) It [It] (fun i h => h.IsListIter It a i) (Sr.tups a ts ps).src (Sr.tups a ts ps).N ((Sr.tups a ts ps).bnd [x, y]) := by
  refine ⟨fun i h h' ⟨o, ho, z⟩ k => ⟨o, k It (by simp) o ho, z⟩, fun i h ⟨o, ho, z⟩ b hb => by simp at hb; subst hb; exact ⟨o, ho⟩, ?_, ?_⟩
  · intro L cl q f cd fr A B s₀ s σ i R ok r b X J hs O hi hR
    refine hide fun G9 hG9 => ?_
    refine and3e hs fun hs' hlen hts => ?_
    try clear hs
    refine ex2e (hs'.rep X) fun items k h9x => ?_
    refine and2e h9x fun hL e => ?_
    try clear h9x
    refine hG9 ?_; clear hG9 G9
    have hi' : i < ps.length := hi
    have hti : i < ts.length := by omega
    obtain ⟨v', h1, h2⟩ := getElem_er e (by rw [List.getElem?_map, List.getElem?_eq_getElem hti]; rfl)
    have hv := er_ref_inv h2
    subst hv
    have hT := hts i _ _ (List.getElem?_eq_getElem hti) (List.getElem?_eq_getElem hi')
    refine wpAny_pyNext_list_item J hL.isList (x := .ref ts[i]) (by simpa using h1) fun h' J' hs' => ?_
    refine wpAny_letOwnedTupleGo_listiter (l := a) (i := i + 1) J' ?_
    have O' : Off [It] B σ L cl := O
    have X1 : Rel c sc cmp L cl s₀ B σ { s with heap := h' } := X.off (tk := s.toks) O' fun b o hb e => hs'.extBut b o (by simpa using hb) e
    refine hide fun G9 hG9 => ?_
    refine ex2e (hT.rep X1) fun its k2 h9x => ?_
    refine and2e h9x fun hTT e2 => ?_
    try clear h9x
    refine ex2e (map_two e2) fun u w h9x => ?_
    refine and3e h9x fun e9c e3 e4 => ?_
    try clear h9x
    obtain rfl := e9c
    refine hG9 ?_; clear hG9 G9
    refine wpAny_assign_Tuple (t := ts[i]) (items := #[u, w]) r.1 (⟨_, and3i hTT rfl ⟨_, rfl⟩⟩) rfl (by rfl) fun h3 he3 => ?_
    have X' : Rel c sc cmp L cl s₀ B σ { s with heap := h3 } := X1.keeps (tk := s.toks) fun b o e => he3 b o (Nat.ne_of_lt (Heap.lt_size e)) e
    have nI : h3.IsListIter It a (i + 1) := by
      refine ex1e J' fun o h9x => ?_
      refine and2e h9x fun ho z => ?_
      try clear h9x J'
      exact ⟨o, he3 _ _ (Nat.ne_of_lt (Heap.lt_size ho)) ho, z⟩
    show wpAny c.M A (assignInOrder [assign (.Name x px) (mkE sc L cl q f cd fr), assign (.Name y py) (mkE sc L cl q f cd fr)] [u, w]) _ _ _
    refine wpAny_assignInOrder_more (wpAny_assign_Name (store_off (own := [It]) hx ok r b X' O' e3 fun s4 X4 k4 => ?_))
    have O4 : Off [It] B ⟨(x, ps[i].1) :: σ.m, σ.Z, σ.H⟩ L cl := O
    refine wpAny_assignInOrder_more (wpAny_assign_Name (store_off (own := [It]) hy ok r b X4 O4 e4 fun s5 X5 k5 => ?_))
    refine wpAny_assignInOrder_none (hR s5 ?_ ?_)
    · have : ps.getD i (.none, .none) = ps[i] := by rw [List.getD_eq_getElem?_getD, List.getElem?_eq_getElem hi']; rfl
      show Rel c sc cmp L cl s₀ B ⟨[(y, (ps.getD i (.none, .none)).2), (x, (ps.getD i (.none, .none)).1)] ++ σ.m, σ.Z, σ.H⟩ s5
      rw [this]; exact X5
    · refine ex1e nI fun o h9x => ?_
      refine and2e h9x fun ho z => ?_
      try clear h9x nI
      exact ⟨o, k5 It (by simp) _ (k4 It (by simp) _ ho), z⟩
  · intro L cl A B s₀ s σ R ok r b X J hs O hR
    refine hide fun G9 hG9 => ?_
    refine and3e hs fun hs' hlen hts => ?_
    try clear hs
    refine ex2e (hs'.rep X) fun items k h9x => ?_
    refine and2e h9x fun hL e => ?_
    try clear h9x
    refine hG9 ?_; clear hG9 G9
    have hl : ts.length = items.length := by have := congrArg List.length e; simpa using this.symm
    refine wpAny_pyNext_list_end r.1 J hL.isList (by simp [Sr.N, ← hl, hlen]) fun h' he => ⟨rfl, hR _ (X.off (tk := s.toks) O fun b o hb e => he b o (by simpa using hb) e) fun b o hb e => he b o (by simpa using hb) e⟩

end

-- L11

structure Dr (c : Cx) (n : Nat) (d : Sr) (I : Addr) (own : List Addr) (J : Nat → Heap → Prop) : Prop where
  drw : ∀ sc cmp tgt xs, Fits d tgt xs → (∀ x ∈ xs, Bnd c n sc cmp x) → Drw c n sc cmp tgt I own J d.src d.N (d.bnd xs)
  self : ∀ A s (Q : Value → Shared → Prop) (E : Value → Shared → Prop), J 0 s.heap → Q (.ref I) s → wpAny c.M A (pyIter (.ref I)) Q E s

@[irreducible] noncomputable def PI (c : Cx) (n : Nat) (sc : Scope) (cmp : Bool) (v : Value) (Q : Sr → St → Prop) (σ : St) : Prop :=
  ∀ v', er v' = v → ∀ L cl A B s₀ s, c.Ok → Room n A → Base c B → Rel c sc cmp L cl s₀ B σ s →
    wpAny c.M A (pyIter v') (fun it s' => ∃ I own J d σ', it = .ref I ∧ Dr c n d I own J ∧ J 0 s'.heap ∧ Off own B σ' L cl ∧ Rel c sc cmp L cl s₀ B σ' s' ∧ Q d σ') NoE s

section
variable {c : Cx} {n : Nat} {sc : Scope} {cmp : Bool} {σ : St}

theorem Rel.fresh {L cl s₀ B s} (X : Rel c sc cmp L cl s₀ B σ s) {a : Addr} (h : s.heap.objs.size ≤ a) : B a = none ∧ σ.Z a = none ∧ (∀ p ∈ σ.H, p.1 ≠ a) ∧ a ≠ L ∧ ∀ y b, cl.lookup y = some b → b ≠ a := by
  refine (and5i ?_ ?_ (fun p hp => Nat.ne_of_lt (Nat.lt_of_lt_of_le (X.rh.lt hp) h)) (Nat.ne_of_gt (Nat.lt_of_lt_of_le X.ltL h)) (fun y b hy => Nat.ne_of_lt (Nat.lt_of_lt_of_le (X.ltC hy) h)))
  · cases e : B a with
    | none => rfl
    | some o => exact absurd (Heap.lt_size (X.rh.keep _ _ e)) (Nat.not_lt.mpr h)
  · cases e : σ.Z a with
    | none => rfl
    | some o => obtain ⟨o, ho⟩ := (X.rh.fz _ _ e).1.get; exact absurd (Heap.lt_size ho) (Nat.not_lt.mpr h)
theorem Rel.off1 {L cl s₀ B s} (X : Rel c sc cmp L cl s₀ B σ s) {a : Addr} (h : s.heap.objs.size ≤ a) : Off [a] B σ L cl := fun b hb => by
  simp at hb; subst hb; exact X.fresh h
theorem Rel.notL {L cl s₀ B s} (X : Rel c sc cmp L cl s₀ B σ s) {p : Addr × AO} (h : p ∈ σ.H) : B p.1 = none ∧ σ.Z p.1 = none ∧ p.1 ≠ L ∧ ∀ y b, cl.lookup y = some b → b ≠ p.1 := by
  refine (and4i ((X.rh.mu p h).2.1) ((X.rh.mu p h).2.2) (X.oL.2.2 p h) (fun y b hy => ?_))
  cases hc : cmp with
  | false => exact Ne.symm ((X.oC hc y b hy).2.2.2 p h)
  | true =>
    refine ex1e (X.cc hc y b hy) fun o ho => ?_
    rintro rfl
    rw [(X.rh.mu p h).2.1] at ho; cases ho

theorem dr_list {a It : Addr} {vs : List Value} : Dr c n (.lst a vs) It [It] (fun i h => h.IsListIter It a i) where
  drw := fun sc cmp tgt xs F hx => by cases F; exact drw_list (hx _ (by simp))
  self := fun A s Q E J h => wpAny_pyIter_listiter J h
theorem dr_tups {a It : Addr} {ts ps} : Dr c n (.tups a ts ps) It [It] (fun i h => h.IsListIter It a i) where
  drw := fun sc cmp tgt xs F hx => by cases F; exact drw_tups (hx _ (by simp)) (hx _ (by simp))
  self := fun A s Q E J h => wpAny_pyIter_listiter J h
theorem dr_enum {a It E' : Addr} {vs : List Value} (hne : E' ≠ It) : Dr c n (.enm a vs) E' [E', It] (fun i h => h.IsListIter It a i ∧ ∃ old, IsEnum h E' It i old) where
  drw := fun sc cmp tgt xs F hx => by cases F; exact drw_enum (hx _ (by simp)) (hx _ (by simp)) hne
  self := fun A s Q E J h => let ⟨_, _, h1⟩ := J; wpAny_pyIter_enum h1 h

theorem pi_list {a : Addr} {vs : List Value} {Q : Sr → St → Prop} (ha : Ob σ a (.list vs)) (h : Q (.lst a vs) σ) : PI c n sc cmp (.ref a) Q σ := by
  unfold PI
  intro v' hv L cl A B s₀ s ok r b X
  rw [er_ref_inv hv]
  refine ex2e (ha.rep X) fun items k h9x => ?_
  refine and2e h9x fun hL e => ?_
  try clear h9x
  refine wpAny_pyIter_list hL.isList (ex5i _ ([_]) _ (.lst a vs) σ (and6i rfl dr_list (⟨_, and3i (Heap.get?_push_size _ rfl) rfl rfl⟩) (X.off1 (Nat.le_refl _)) (X.keeps (tk := s.toks) fun _ _ e => Heap.get?_push_of_some _ e) h))
theorem pi_tups {a : Addr} {ts : List Addr} {ps : List (Value × Value)} {Q : Sr → St → Prop} (ha : Ob σ a (.list (ts.map .ref))) (h : Q (.tups a ts ps) σ) : PI c n sc cmp (.ref a) Q σ := by
  unfold PI
  intro v' hv L cl A B s₀ s ok r b X
  rw [er_ref_inv hv]
  refine ex2e (ha.rep X) fun items k h9x => ?_
  refine and2e h9x fun hL e => ?_
  try clear h9x
  refine wpAny_pyIter_list hL.isList (ex5i _ ([_]) _ (.tups a ts ps) σ (and6i rfl dr_tups (⟨_, and3i (Heap.get?_push_size _ rfl) rfl rfl⟩) (X.off1 (Nat.le_refl _)) (X.keeps (tk := s.toks) fun _ _ e => Heap.get?_push_of_some _ e) h))
theorem pi_enum {a it : Addr} {l : Addr} {H : HT} {vs : List Value} {Q : Sr → St → Prop} (hH : σ.H = (a, .enm it) :: (it, .lit l) :: H) (h : Q (.enm l vs) ⟨σ.m, σ.Z, H⟩) : PI c n sc cmp (.ref a) Q σ := by
  unfold PI
  intro v' hv L cl A B s₀ s ok r b X
  rw [er_ref_inv hv]
  have m1 : (a, AO.enm it) ∈ σ.H := by rw [hH]; exact .head _
  have m2 : (it, AO.lit l) ∈ σ.H := by rw [hH]; exact .tail _ (.head _)
  have nd := X.rh.nd
  rw [hH, List.map_cons, List.map_cons, List.nodup_cons, List.nodup_cons] at nd
  have hne : a ≠ it := fun e => nd.1 (by rw [e]; exact .head _)
  have hE : IsEnum s.heap a it 0 .none := (X.rh.mu _ m1).1
  have hI : s.heap.IsListIter it l 0 := (X.rh.mu _ m2).1
  have X' : Rel c sc cmp L cl s₀ B ⟨σ.m, σ.Z, H⟩ s := by
    have sub : H.Sublist σ.H := by rw [hH]; exact .cons _ (.cons _ (List.Sublist.refl _))
    exact X.go (tk := s.toks) (X.rh.sub sub) (fun _ e => e) (fun _ _ _ _ e => e) ⟨X.oL.2.1, fun p hp => X.oL.2.2 p (sub.subset hp)⟩ fun e y b hy => ⟨(X.oC e y b hy).2.1, fun p hp => (X.oC e y b hy).2.2.2 p (sub.subset hp)⟩
  refine wpAny_pyIter_enum hE (ex5i a ([a, it]) _ (.enm l vs) ⟨σ.m, σ.Z, H⟩ (and6i rfl (dr_enum hne) ⟨hI, _, hE⟩ (fun b hb => ?_) X' h))
  have n1 := X.notL m1
  have n2 := X.notL m2
  simp only [List.mem_cons, List.not_mem_nil, or_false] at hb
  rcases hb with rfl | rfl
  · exact (and4i n1.1 n1.2.1 (fun p hp e => nd.1 (.tail _ (by have := List.mem_map_of_mem (f := fun q : Addr × AO => q.1) hp; rw [e] at this; exact this))) n1.2.2)
  · exact (and4i n2.1 n2.2.1 (fun p hp e => nd.2.1 (by have := List.mem_map_of_mem (f := fun q : Addr × AO => q.1) hp; rw [e] at this; exact this)) n2.2.2)

noncomputable abbrev lq (Inv : Nat → St → Prop) (Q : Flow → St → Prop) (i : Nat) : Flow → St → Prop := fun fl σ2 => match fl with | .next | .cont => Inv (i + 1) σ2 | .brk => Q .next σ2 | .ret v => Q (.ret v) σ2
noncomputable abbrev wq (Inv : Nat → St → Prop) (Q : Flow → St → Prop) (k : Nat) : Flow → St → Prop := fun fl σ2 => match fl with | .next | .cont => ∃ m, m < k ∧ Inv m σ2 | .brk => Q .next σ2 | .ret v => Q (.ret v) σ2
noncomputable abbrev kForB (c : Cx) (n : Nat) (sc : Scope) (cmp : Bool) (tgt : PySem.Expr) (body : List Stmt) (xs : List Str) (Q : Flow → St → Prop) : Sr → St → Prop := fun d σ2 => Fits d tgt xs ∧ ∃ Inv : Nat → St → Prop, (∀ i σ, Inv i σ → d.src σ) ∧ Inv 0 σ2 ∧
      (∀ i σ, i < d.N → Inv i σ → TB c n sc cmp body (lq Inv Q i) ⟨d.bnd xs i ++ σ.m, σ.Z, σ.H⟩) ∧
      ∀ σ, Inv d.N σ → Q .next σ
noncomputable abbrev kFor (c : Cx) (n : Nat) (sc : Scope) (cmp : Bool) (tgt : PySem.Expr) (body : List Stmt) (xs : List Str) (Q : Flow → St → Prop) : Value → St → Prop := fun v σ1 => PI c n sc cmp v (kForB c n sc cmp tgt body xs Q) σ1
theorem forI {tgt : PySem.Expr} {body : List Stmt} {xs : List Str} {Q : Flow → St → Prop} {d : Sr} (F : Fits d tgt xs) (Inv : Nat → St → Prop) (hs : ∀ i σ, Inv i σ → d.src σ) (h0 : Inv 0 σ)
    (turn : ∀ i σ, i < d.N → Inv i σ → TB c n sc cmp body (lq Inv Q i) ⟨d.bnd xs i ++ σ.m, σ.Z, σ.H⟩) (done : ∀ σ, Inv d.N σ → Q .next σ) : kForB c n sc cmp tgt body xs Q d σ := (⟨F, ⟨Inv, and4i hs h0 turn done⟩⟩)
theorem ts_for {tgt iter body pos} {xs : List Str} {Q : Flow → St → Prop} (hx : ∀ x ∈ xs, Bnd c n sc cmp x)
    (h : TE c n sc cmp iter (kFor c n sc cmp tgt body xs Q) σ)
    (hs : ∀ env x, foldedSetIterable iter env x = pure x := by intros; rfl) : TS c n sc cmp (.For tgt iter body [] pos) Q σ := by
  unfold kFor kForB TS TE PI at *
  intro L cl q f cd fr A B s₀ s ok rm b X
  refine wpAny_For (h.use ok rm b X fun v σ1 s1 y1 z1 => wpAny_mono (y1 v rfl L cl A B s₀ s1 ok rm b z1) (fun it s2 h2 => ?_) fun _ _ e => e) (hs _)
  refine hide fun G9 hG9 => ?_
  refine ex5e h2 fun I own J d σ2 h9x => ?_
  refine and7e h9x fun e9f D hJ hO X2 F h9y => ?_
  refine ex1e h9y fun Inv h9z => ?_
  refine and4e h9z fun hsrc h0 turn done => ?_
  try clear h9z h9y h9x h2
  obtain rfl := e9f
  refine hG9 ?_; clear hG9 G9
  refine codeAny_mono (for_drw (Q := Q) (D.drw sc cmp tgt xs F hx) Inv hsrc turn done ok rm b X2 hJ hO h0) fun r s' hr => ?_
  cases r with
  | ok fl => exact hr
  | error e => exact hr.elim

noncomputable abbrev kWh (c : Cx) (n : Nat) (sc : Scope) (cmp : Bool) (body : List Stmt) (Inv : Nat → St → Prop) (Q : Flow → St → Prop) (k : Nat) : Bool → St → Prop := fun t σ' => (t = true → TB c n sc cmp body (wq Inv Q k) σ') ∧ (t = false → Q .next σ')
theorem ts_while {test body pos} {Q : Flow → St → Prop} (Inv : Nat → St → Prop) (k : Nat) (h0 : Inv k σ)
    (turn : ∀ k σ, Inv k σ → TT c n sc cmp test (kWh c n sc cmp body Inv Q k) σ) :
    TS c n sc cmp (.While test body [] pos) Q σ := by
  unfold kWh TS TT TB at *
  intro L cl q f cd fr A B s₀ s ok rm b X
  refine wpAny_While (codeAny_whileLoop (fun k s' => ∃ σ', Inv k σ' ∧ Rel c sc cmp L cl s₀ B σ' s') ?_ k ⟨σ, h0, X⟩)
  rintro k s1 ⟨σ1, i1, x1⟩
  refine wpAny_passesOwn PassesOwn.never ((turn k σ1 i1).use ok rm b x1 fun t σ2 s2 h2 x2 => ?_)
  cases t with
  | true =>
    refine wpAny_passesOwn PassesOwn.never ((h2.1 rfl).use ok rm b x2 fun fl σ3 s3 h3 x3 => ?_)
    cases fl with
    | next => obtain ⟨m, hm, i⟩ := h3; exact ⟨m, hm, σ3, i, x3⟩
    | cont => obtain ⟨m, hm, i⟩ := h3; exact ⟨m, hm, σ3, i, x3⟩
    | brk => exact ⟨σ3, h3, x3⟩
    | ret v => exact ⟨σ3, h3, x3⟩
  | false =>
    exact wpAny_passesOwn PassesOwn.never (wpAny_execs_nil ⟨σ2, h2.2 rfl, x2⟩)
end

-- L12

section
variable {c : Cx} {n : Nat} {sc : Scope} {cmp : Bool} {σ : St}
theorem dr_range {It : Addr} {a : Int} {N : Nat} : Dr c n (.rng a N) It [It] (fun i h => IsRangeIter h It (a + i) (N - i) 1) where
  drw := fun sc cmp tgt xs F hx => by cases F; exact drw_range (hx _ (by simp))
  self := fun A s Q E J h => wpAny_pyIter_rangeiter J h
theorem pi_range {r : Addr} {a b : Int} {Q : Sr → St → Prop} (hr : Ob σ r (.rng a b)) (ha : -1000000000 ≤ a) (ha' : a ≤ 1000000000) (hb : -1000000000 ≤ b) (hb' : b ≤ 1000000000) (h : Q (.rng a (b - a).toNat) σ) : PI c n sc cmp (.ref r) Q σ := by
  unfold PI
  intro v' hv L cl A B s₀ s ok rm bb X
  rw [er_ref_inv hv]
  refine ex3e (hr.rep X) fun t u v hR => ?_
  refine wpAny_pyIter_range hR (small_one (by omega) (by omega) (by omega) (by omega)) (ex5i _ ([_]) _ (.rng a (b - a).toNat) σ (and6i rfl dr_range ?_ (X.off1 (Nat.le_refl _)) (X.keeps (tk := s.toks) fun _ _ e => Heap.get?_push_of_some _ e) h))
  have e2 : Builtin.Range.rangeSize a b 1 = ((b - a).toNat : Int) - ((0 : Nat) : Int) := by rw [rangeSize_one]; split <;> omega
  have e1 : a = a + ((0 : Nat) : Int) := by omega
  rw [e2]
  show IsRangeIter _ _ (a + ((0 : Nat) : Int)) _ 1
  rw [← e1]
  exact Heap.get?_push_size _ rfl
theorem bc_range1 {b : Int} {Q : Value → St → Prop} (h : ∀ r, Q (.ref r) ⟨σ.m, σ.Z, (r, .rng 0 b) :: σ.H⟩) : BC c n sc cmp (.type "range") [vI b] Q σ := by
  unfold BC
  intro ws hw L cl q f' cd fr A B s₀ s ok rm bb X
  refine hide fun G9 hG9 => ?_
  refine ex1e (map_one hw) fun x h9x => ?_
  refine and2e h9x fun e9b h1 => ?_
  try clear h9x
  obtain rfl := e9b
  refine ex1e (er_int_inv h1) fun t e9b => ?_
  obtain rfl := e9b
  refine hG9 ?_; clear hG9 G9
  exact call_range_1 ⟨_, h _, X.new (fun _ _ e => Heap.get?_push_of_some _ e) (Nat.le_refl _) (ex3i _ _ _ (Heap.get?_push_size _ rfl))⟩
theorem bc_range2 {a b : Int} {Q : Value → St → Prop} (h : ∀ r, Q (.ref r) ⟨σ.m, σ.Z, (r, .rng a b) :: σ.H⟩) : BC c n sc cmp (.type "range") [vI a, vI b] Q σ := by
  unfold BC
  intro ws hw L cl q f' cd fr A B s₀ s ok rm bb X
  refine hide fun G9 hG9 => ?_
  refine ex2e (map_two hw) fun x y h9x => ?_
  refine and3e h9x fun e9c h1 h2 => ?_
  try clear h9x
  obtain rfl := e9c
  refine ex1e (er_int_inv h1) fun t e9b => ?_
  obtain rfl := e9b
  refine ex1e (er_int_inv h2) fun u e9b => ?_
  obtain rfl := e9b
  refine hG9 ?_; clear hG9 G9
  exact call_range_2 ⟨_, h _, X.new (fun _ _ e => Heap.get?_push_of_some _ e) (Nat.le_refl _) (ex3i _ _ _ (Heap.get?_push_size _ rfl))⟩
theorem bc_enum {l : Addr} {vs : List Value} {Q : Value → St → Prop} (hl : Ob σ l (.list vs)) (h : ∀ e it, Q (.ref e) ⟨σ.m, σ.Z, (e, .enm it) :: (it, .lit l) :: σ.H⟩) : BC c n sc cmp (.type "enumerate") [.ref l] Q σ := by
  unfold BC
  intro ws hw L cl q f' cd fr A B s₀ s ok rm bb X
  refine ex1e (map_one hw) fun x h9x => ?_
  refine and2e h9x fun e9b h1 => ?_
  try clear h9x
  obtain rfl := e9b
  rw [er_ref_inv h1]
  refine ex2e (hl.rep X) fun items k h9x => ?_
  refine and2e h9x fun hL e => ?_
  try clear h9x
  refine call_enumerate_1 hL fun h' h1 h2 h3 h4 => ⟨_, h _ s.heap.objs.size, ?_⟩
  have X1 : Rel c sc cmp L cl s₀ B ⟨σ.m, σ.Z, (s.heap.objs.size, .lit l) :: σ.H⟩ { s with heap := h' } := X.new (tk := s.toks) h4 (Nat.le_refl _) h2
  have hB : RelH c B σ.Z ((s.heap.objs.size + 1, .enm s.heap.objs.size) :: (s.heap.objs.size, .lit l) :: σ.H) h' := by
    have f := X.fresh (a := s.heap.objs.size + 1) (Nat.le_succ _)
    refine ⟨X1.rh.keep, X1.rh.fz, fun p hp => ?_, ?_⟩
    · rcases List.mem_cons.mp hp with rfl | hp
      · exact (and3i h1 f.1 f.2.1)
      · exact X1.rh.mu p hp
    · rw [List.map_cons, List.nodup_cons]
      refine ⟨fun hm => ?_, X1.rh.nd⟩
      refine ex1e (List.mem_map.mp hm) fun p h9x => ?_
      refine and2e h9x fun hp e => ?_
      try clear h9x
      rcases List.mem_cons.mp hp with rfl | hp
      · simp at e
      · exact f.2.2.1 p hp e
  have f := X.fresh (a := s.heap.objs.size + 1) (Nat.le_succ _)
  exact X1.go (tk := s.toks) hB (fun _ e => e) (fun _ _ _ _ e => e) ⟨X1.oL.2.1, fun p hp => by
      rcases List.mem_cons.mp hp with rfl | hp
      · exact f.2.2.2.1
      · exact X1.oL.2.2 p hp⟩ fun e y b hy => ⟨(X1.oC e y b hy).2.1, fun p hp => by
      rcases List.mem_cons.mp hp with rfl | hp
      · exact Ne.symm (f.2.2.2.2 y b hy)
      · exact (X1.oC e y b hy).2.2.2 p hp⟩
end

theorem clos_of (names : List (Str × NameKind)) (env : Env) (acc : List (Str × Addr)) (h : ∀ p ∈ names, p.2 = .free → ∃ a, env.cells.lookup p.1 = some a) :
    ∃ cs, (forIn names acc fun (p : Str × NameKind) r => if p.2 == .free then do let a ← cellOf env p.1; pure (ForInStep.yield ((p.1, a) :: r)) else pure (ForInStep.yield r) : Sem _) = pure cs ∧
      (∀ x a, cs.lookup x = some a → acc.lookup x = some a ∨ env.cells.lookup x = some a) ∧ (∀ p ∈ names, p.2 = .free → cs.lookup p.1 = env.cells.lookup p.1) ∧ (∀ x a, acc.lookup x = some a → acc.lookup x = env.cells.lookup x → cs.lookup x = env.cells.lookup x) := by
  induction names generalizing acc with
  | nil => exact (⟨acc, and4i rfl (fun _ _ h => .inl h) (fun _ h => (nomatch h)) (fun _ _ _ h => h)⟩)
  | cons p r ih =>
    obtain ⟨x, k⟩ := p
    by_cases hk : k = .free
    · subst hk
      refine hide fun G9 hG9 => ?_
      refine ex1e (h (x, .free) (.head _) rfl) fun a ha => ?_
      refine ex1e (ih ((x, a) :: acc) fun q hq => h q (.tail _ hq)) fun cs h9x => ?_
      refine and4e h9x fun h1 h2 h3 h4 => ?_
      try clear h9x
      refine hG9 ?_; clear hG9 G9
      refine (⟨cs, and4i ?_ (fun y b hy => ?_) (fun q hq hf => ?_) (fun y b hy hyc => ?_)⟩)
      · rw [List.forIn_cons]
        simp only [beq_self_eq_true, if_true]
        have : cellOf env x = pure a := by unfold cellOf; rw [ha]
        rw [this, pure_bind, pure_bind]
        exact h1
      · rcases h2 y b hy with e | e
        · rw [List.lookup_cons] at e
          cases q : y == x with
          | true => rw [q] at e; cases e; rw [beq_iff_eq.mp q]; exact .inr ha
          | false => rw [q] at e; exact .inl e
        · exact .inr e
      · rcases List.mem_cons.mp hq with rfl | hq
        · exact h4 x a (by simp) (by simp [ha])
        · exact h3 q hq hf
      · by_cases q : y = x
        · subst q; exact h4 y a (by simp) (by simp [ha])
        · have hb : (y == x) = false := by simpa using q
          refine h4 y b ?_ ?_ <;> simp only [List.lookup_cons, hb]
          · exact hy
          · exact hyc
    · have hb : (k == NameKind.free) = false := by simpa using hk
      refine ex1e (ih acc fun q hq => h q (.tail _ hq)) fun cs h9x => ?_
      refine and4e h9x fun h1 h2 h3 h4 => ?_
      try clear h9x
      refine (⟨cs, and4i ?_ h2 (fun q hq hf => ?_) h4⟩)
      · rw [List.forIn_cons]
        simp only [hb, Bool.false_eq_true, if_false]
        rw [pure_bind]; exact h1
      · rcases List.mem_cons.mp hq with rfl | hq
        · exact absurd hf hk
        · exact h3 q hq hf
theorem closure_of {scope : Scope} {env : Env} (h : ∀ p ∈ scope.names, p.2 = .free → ∃ a, env.cells.lookup p.1 = some a) :
    ∃ cs, closureFor scope env = pure cs ∧ (∀ x a, cs.lookup x = some a → env.cells.lookup x = some a) ∧ (∀ p ∈ scope.names, p.2 = .free → cs.lookup p.1 = env.cells.lookup p.1) := by
  refine ex1e (clos_of scope.names env [] h) fun cs h9x => ?_
  refine and4e h9x fun h1 h2 h3 _ => ?_
  try clear h9x
  refine (⟨cs, and3i ?_ (fun x a hx => (h2 x a hx).resolve_left (by simp)) h3⟩)
  unfold closureFor
  show (forIn scope.names [] fun (p : Str × NameKind) r => if p.2 == .free then do let a ← cellOf env p.1; pure (ForInStep.yield ((p.1, a) :: r)) else pure (ForInStep.yield r) : Sem _) >>= (fun r => pure r) = pure cs
  rw [bind_pure]; exact h1

-- L13

noncomputable def compTest (ifs : List PySem.Expr) (env : Env) : Sem Bool := forIn ifs true fun c r => if r = true then do let ok ← isTrue c env (eval c env); pure (ForInStep.yield ok) else pure (ForInStep.yield r)
@[irreducible] noncomputable def CT (c : Cx) (n : Nat) (sc : Scope) (ifs : List PySem.Expr) (elt : PySem.Expr) (Q : Option Value → ZT → HT → Prop) (σ : St) : Prop :=
  T c n sc true (compTest ifs) (fun ok σ' => (ok = true → T c n sc true (eval elt) (fun v σ'' => Q (some (er v)) σ''.Z σ''.H) σ') ∧ (ok = false → Q none σ'.Z σ'.H)) σ

noncomputable abbrev kCt0 (Q : Option Value → ZT → HT → Prop) : Value → St → Prop := fun v σ' => Q (some v) σ'.Z σ'.H
noncomputable abbrev kCt (c : Cx) (n : Nat) (sc : Scope) (elt : PySem.Expr) (Q : Option Value → ZT → HT → Prop) : Bool → St → Prop := fun ok σ' => (ok = true → TE c n sc true elt (kCt0 Q) σ') ∧ (ok = false → Q none σ'.Z σ'.H)
section
variable {c : Cx} {n : Nat} {sc : Scope} {σ : St}
theorem ct_nil {elt} {Q : Option Value → ZT → HT → Prop} (h : TE c n sc true elt (kCt0 Q) σ) : CT c n sc [] elt Q σ := by
  unfold kCt0 CT TE at *
  intro L cl q f cd fr A B s₀ s ok rm b X
  exact wpAny_pure ⟨_, ⟨fun _ => h, fun e => by cases e⟩, X⟩
theorem ct_one {t elt} {Q : Option Value → ZT → HT → Prop} (h : TT c n sc true t (kCt c n sc elt Q) σ) : CT c n sc [t] elt Q σ := by
  unfold kCt kCt0 CT TE TT at *
  intro L cl q f cd fr A B s₀ s ok rm b X
  unfold compTest
  rw [List.forIn_cons]
  simp only [if_true, List.forIn_nil]
  refine wpAny_bind (wpAny_bind (h.use ok rm b X fun t σ' s' y z => wpAny_pure ?_))
  exact wpAny_pure ⟨_, y, z⟩
end

theorem compLoop_gen {prog : Program} {w : World} {A : Around} {s : Shared} {R : Result → Shared → Prop} {elt target iter : PySem.Expr} {ifs : List PySem.Expr} {scope : Scope} {pos : Pos} {it acc : Value} {env : Env} (I : Nat → Shared → Prop)
    (turn : ∀ n s, I n s → wpAny (model prog w) A (pyNext it) (fun r s₁ => match r with
      | none => R (.ok .next) s₁
      | some v => wpAny (model prog w) A (letOwnedTupleGo target it v) (fun _ s₂ => wpAny (model prog w) A (assign target env v) (fun _ s₃ =>
          wpAny (model prog w) A (compTest ifs env) (fun ok s₄ =>
            if ok = true then wpAny (model prog w) A (eval elt env) (fun x s₅ =>
              wpAny (model prog w) A (call (.builtin "list.append") [acc, x]) (fun _ s₆ => ∃ m, m < n ∧ I m s₆) NoE s₅) NoE s₄
            else ∃ m, m < n ∧ I m s₄) NoE s₃) NoE s₂) NoE s₁) NoE s)
    (n : Nat) (h : I n s) : codeAny (model prog w) A (.compLoop (.ListComp elt [⟨target, iter, ifs, 0⟩] scope pos) 0 it acc env) R s := by
  refine codeAny_loop rfl I (fun n s hI => ?_) n h
  show wpAny _ A ((compTurn (.ListComp elt [⟨target, iter, ifs, 0⟩] scope pos) 0 it acc env).onRaise (fun x => do noteFrame x env; theTreesLotGoes x)) _ _ s
  refine wpAny_noted ?_
  rw [compTurn_list]
  refine wpAny_bind (wpAny_standAt (wpAny_bind (wpAny_mono (turn n s hI) (fun r s₁ h₁ => ?_) fun _ _ h' => h'.elim)))
  cases r with
  | none => exact wpAny_pure h₁
  | some v =>
    refine wpAny_bind (wpAny_mono h₁ (fun _ s₂ h₂ => ?_) fun _ _ h' => h'.elim)
    refine wpAny_bind (wpAny_mono h₂ (fun _ s₃ h₃ => wpAny_bind (wpAny_mono h₃ (fun ok s₄ h₄ => ?_) fun _ _ h' => h'.elim)) fun _ _ h' => h'.elim)
    cases ok with
    | false => exact wpAny_pure ⟨rfl, h₄⟩
    | true =>
      exact wpAny_bind (wpAny_bind (wpAny_mono h₄ (fun x s₄ h₄ => wpAny_bind (wpAny_mono h₄ (fun _ s₅ h₅ => wpAny_pure (wpAny_pure ⟨rfl, h₅⟩)) fun _ _ h' => h'.elim)) fun _ _ h' => h'.elim))

-- L14

noncomputable def compB (own : List Addr) (Z : ZT) (H : HT) (h : Heap) : Addr → Option Obj := fun a => if a ∈ own then none else hideB Z H h a

theorem relabel_cell {scope : Scope} {env : Env} {x : Str} (hcell : ∀ y ∈ scope.names, y.2 ≠ .cell) (h : (relabel scope env).names.lookup x = some .cell) : (x, NameKind.free) ∈ scope.names := by
  have hm := mem_of_lookup h
  unfold relabel at hm
  refine hide fun G9 hG9 => ?_
  refine ex1e (List.mem_map.mp hm) fun n9a h9x => ?_
  refine and2e h9x fun hy e => ?_
  try clear h9x
  obtain ⟨y, k⟩ := n9a
  refine hG9 ?_; clear hG9 G9
  dsimp only at e
  split at e
  · rename_i q
    cases e
    simp only [Bool.and_eq_true, beq_iff_eq] at q
    rw [q.1.1] at hy; exact hy
  · cases e; exact absurd rfl (hcell _ hy)

section
variable {c : Cx} {n : Nat} {sc : Scope} {σ : St}

theorem Rel.forget {cmp L cl s₀ B s} {m' : List (Str × Value)} (X : Rel c sc cmp L cl s₀ B σ s) (h : ∀ x v, m'.lookup x = some v → (sc.names.lookup x = some .local ∨ sc.names.lookup x = some .cell) → σ.m.lookup x = some v) : Rel c sc cmp L cl s₀ B ⟨m', σ.Z, σ.H⟩ s := by
  refine hide fun G9 hG9 => ?_
  obtain ⟨sh, rh, ⟨ml, ns, nv⟩, ce, cs, ck, cn, cc, oL, oC⟩ := X
  refine hG9 ?_; clear hG9 G9
  exact ⟨sh, rh, ⟨ml, ns, fun x v hv hk => nv x v (h x v hv (.inl hk)) hk⟩, fun x v hv hk => ce x v (h x v hv (.inr hk)) hk, cs, ck, cn, cc, oL, oC⟩

theorem comp_core {elt tgt iter : PySem.Expr} {ifs : List PySem.Expr} {scope : Scope} {pos : Pos} {xs : List Str} {mi : List (Str × Value)} {L cl q f cd fr A B s₀ s} {own : List Addr} {J : Nat → Heap → Prop} {d : Sr} {I : Addr} {cl' : List (Str × Addr)}
    (ok : c.Ok) (rm : Room n A) (b : Base c B) (X : Rel c sc false L cl s₀ B σ s) (D : Dr c n d I own J) (hJ : J 0 s.heap) (hO : Off own B σ L cl)
    (F : Fits d tgt xs) (hx : ∀ x ∈ xs, Bnd c n (relabel scope (mkE sc L cl q f cd fr)) true x)
    (hkind : scope.kind = .function) (hcell : ∀ y ∈ scope.names, y.2 ≠ .cell)
    (hcl1 : ∀ x a, cl'.lookup x = some a → cl.lookup x = some a) (hcl2 : ∀ p ∈ scope.names, p.2 = .free → cl'.lookup p.1 = cl.lookup p.1)
    (hfree : ∀ p ∈ scope.names, p.2 = .free → sc.names.lookup p.1 = some .cell)
    (hmi : ∀ x v, mi.lookup x = some v → (relabel scope (mkE sc L cl q f cd fr)).names.lookup x = some .cell ∧ σ.m.lookup x = some v)
    (Inv : Nat → List Value → ZT → HT → Prop) (hN : d.N ≤ 1000000) (hsrc : ∀ i ys Z H m, Inv i ys Z H → d.src ⟨m, Z, H⟩) (h0 : Inv 0 [] σ.Z σ.H)
    (turn : ∀ i ys Z H, i < d.N → Inv i ys Z H → CT c n (relabel scope (mkE sc L cl q f cd fr)) ifs elt (fun r Z' H' => match r with | none => Inv (i + 1) ys Z' H' | some y => Inv (i + 1) (ys ++ [y]) Z' H') ⟨d.bnd xs i ++ mi, Z, H⟩)
    {RR : Value → Addr → Result → Shared → Prop}
    (hR : ∀ D C s' ys Z' H', Inv d.N ys Z' H' → ys.length ≤ 1000000 → Rel c sc false L cl s₀ B ⟨σ.m, Z', (D, .list ys) :: H'⟩ s' → Off [C] B ⟨σ.m, Z', (D, .list ys) :: H'⟩ L cl → (∃ m, s'.heap.Ns C m) → RR (.ref D) C (.ok .next) s') :
    wpAny c.M A (newList []) (fun acc s₃ => wpAny c.M A (newFunctionEnv scope mainGlobals cl' [] q none .none (some (mkE sc L cl q f cd fr))) (fun cenv s₄ =>
      codeAny c.M A (.compStart (.ListComp elt [⟨tgt, iter, ifs, 0⟩] scope pos) 0 (.ref I) acc { cenv with scope := relabel scope (mkE sc L cl q f cd fr) }) (RR acc cenv.locals) s₄) NoE s₃) NoE s := by
  refine wpAny_newObj_type (wpAny_newFunctionEnv hcell (by intro y hy; simp at hy) (fun h₁ hns₁ hsb₁ => ?_) hkind)
  dsimp only at hns₁ hsb₁ ⊢
  generalize hH2 : s.heap.push { cls := .type "list", dict := none, data := .seq ([] : List Value).toArray } = H2 at hns₁ hsb₁ ⊢
  have hC : H2.objs.size = s.heap.objs.size + 1 := by rw [← hH2, Heap.size_push]
  generalize hDd : s.heap.objs.size = Da at *
  generalize hCd : H2.objs.size = C at *
  have hDC : Da ≠ C := by rw [hC]; exact Nat.ne_of_lt (Nat.lt_succ_self _)
  have old : ∀ b o, s.heap.get? b = some o → h₁.get? b = some o := fun b o e => hsb₁.extBut b o (by have := Heap.lt_size e; rw [hC, ← hDd]; exact Nat.ne_of_lt (Nat.lt_succ_of_lt this)) (Heap.get?_push_of_some _ (hH2 ▸ Heap.get?_push_of_some _ e))
  have hacc : IsL h₁ Da #[] 0 := hsb₁.extBut _ _ hDC (Heap.get?_push_of_some _ (hH2 ▸ hDd ▸ Heap.get?_push_size _ rfl))
  have fD := X.fresh (a := Da) (by rw [hDd]; exact Nat.le_refl _)
  have fC := X.fresh (a := C) (by rw [hDd, hC]; exact Nat.le_succ _)
  
  let B1 := compB own σ.Z σ.H s.heap
  have B1some : ∀ a o, B1 a = some o → s.heap.get? a = some o := fun a o e => by
    have e : compB own σ.Z σ.H s.heap a = some o := e
    unfold compB at e
    split at e
    · cases e
    · exact (hideB_some e).1
  have B1of : ∀ a o, s.heap.get? a = some o → a ∉ own → σ.Z a = none → (∀ p ∈ σ.H, p.1 ≠ a) → B1 a = some o := fun a o e h1 h2 h3 => by
    show compB own σ.Z σ.H s.heap a = some o
    unfold compB; rw [if_neg h1]; exact hideB_of e h2 h3
  have B1le : ∀ a o, B a = some o → B1 a = some o := fun a o e => by
    show compB own σ.Z σ.H s.heap a = some o
    unfold compB; rw [if_neg (fun hm => by rw [(hO a hm).1] at e; cases e)]; exact X.rh.le_hide e
  have B1own : ∀ a ∈ own, B1 a = none := fun a ha => by show compB own σ.Z σ.H s.heap a = none; unfold compB; rw [if_pos ha]
  have B1big : ∀ a, Da ≤ a → B1 a = none := fun a ha => by
    cases e : B1 a with
    | none => rfl
    | some o => have := Heap.lt_size (B1some a o e); rw [hDd] at this; exact absurd this (Nat.not_lt.mpr ha)
  have b1 : Base c B1 := fun a o e => B1le a o (b a o e)
  have hclB : ∀ x a, cl.lookup x = some a → ∃ o, B1 a = some o := fun x a hxa => by
    refine ex1e (X.cs rfl x a hxa) fun v n9b => ?_
    obtain ⟨o, ho, _⟩ := n9b
    exact ⟨o, B1of a o ho (fun hm => (hO a hm).2.2.2.2 x a hxa rfl) (X.oC rfl x a hxa).2.1 (X.oC rfl x a hxa).2.2.2⟩
  have hLB : ∃ o, B1 L = some o := by
    refine hide fun G9 hG9 => ?_
    refine ex1e (X.ns) fun ml h9x => ?_
    refine and2e h9x fun n9b _ => ?_
    try clear h9x
    refine ex3e n9b fun o es ep h9x => ?_
    refine and2e h9x fun ho _ => ?_
    try clear h9x n9b
    refine hG9 ?_; clear hG9 G9
    exact ⟨o, B1of L o ho (fun hm => (hO L hm).2.2.2.1 rfl) X.oL.2.1 X.oL.2.2⟩
  have sub : ∀ b o, B1 b = some o → hideB σ.Z σ.H s.heap b = some o := fun b o e => by
    have e : compB own σ.Z σ.H s.heap b = some o := e
    unfold compB at e
    split at e
    · cases e
    · exact e
  have rh1 : RelH c B1 σ.Z σ.H h₁ := (X.rh.hide.rebase sub).keeps old
  let env := mkE sc L cl q f cd fr
  have ceM : ∀ x v, mi.lookup x = some v → ∃ a v', cl'.lookup x = some a ∧ (∃ o, B1 a = some o ∧ ∀ h : Heap, h.get? a = some o → h.IsCell a (some v')) ∧ er v' = v := fun x v hv => by
    refine and2e (hmi x v hv) fun h1 h2 => ?_
    have hf := relabel_cell hcell h1
    refine hide fun G9 hG9 => ?_
    refine ex2e (X.ce x v h2 (hfree _ hf rfl)) fun a v' h9x => ?_
    refine and3e h9x fun e1 n9d e3 => ?_
    try clear h9x
    refine ex1e n9d fun o h9x => ?_
    refine and2e h9x fun ho z => ?_
    try clear h9x n9d
    refine hG9 ?_; clear hG9 G9
    refine (ex2i a v' (and3i (by rw [hcl2 _ hf rfl]; exact e1) ⟨o, ?_, fun h e => ⟨o, e, z⟩⟩ e3))
    refine ex1e (hclB x a e1) fun o' ho' => ?_
    have := B1some a o' ho'
    rw [ho] at this; cases this
    exact ho'
  have hkN : ∀ x, (relabel scope env).names.lookup x = some .cell → ∃ a, cl'.lookup x = some a := fun x hxk => by
    have hf := relabel_cell hcell hxk
    rw [hcl2 _ hf rfl]
    exact X.ck x (hfree _ hf rfl)
  have mk : ∀ (Z : ZT) (H : HT) (s' : Shared), Sh s₀ s' → RelH c B1 Z H s'.heap → (∃ m, s'.heap.Ns C m) → (Z C = none ∧ ∀ p ∈ H, p.1 ≠ C) → Rel c (relabel scope env) true C cl' s₀ B1 ⟨mi, Z, H⟩ s' := fun Z H s' sh rh ⟨m, hm⟩ oo => by
    refine ⟨sh, rh, ⟨m, hm, fun x v hv hk => ?_⟩, fun x v hv hk => ?_, fun e => (by cases e), hkN, fun e => (by cases e), fun _ x a hxa => hclB x a (hcl1 x a hxa), ⟨B1big C (by rw [hC]; exact Nat.le_succ _), oo⟩, fun e => (by cases e)⟩
    · have := (hmi x v hv).1; rw [hk] at this; cases this
    · refine hide fun G9 hG9 => ?_
      refine ex2e (ceM x v hv) fun a v' h9x => ?_
      refine and3e h9x fun e1 n9d e3 => ?_
      try clear h9x
      refine ex1e n9d fun o h9x => ?_
      refine and2e h9x fun ho z => ?_
      try clear h9x n9d
      refine hG9 ?_; clear hG9 G9
      exact (ex2i a v' (and3i e1 (z _ (rh.keep _ _ ho)) e3))
  have X1 : Rel c (relabel scope env) true C cl' s₀ B1 ⟨mi, σ.Z, σ.H⟩ { s with heap := h₁, toks := s.toks + ([] : List (Str × Value)).length } := mk σ.Z σ.H _ (X.sh.step _ _) rh1 ⟨_, hns₁⟩ ⟨fC.2.1, fC.2.2.1⟩
  have hlive : ∀ i h, J i h → ∀ b ∈ own, ∃ o, h.get? b = some o := (D.drw (relabel scope env) true tgt xs F hx).live
  have hownlt : ∀ a ∈ own, a < Da := fun a ha => by obtain ⟨o, ho⟩ := hlive 0 _ hJ a ha; rw [← hDd]; exact Heap.lt_size ho
  have hDown : Da ∉ own := fun hm => Nat.lt_irrefl _ (hownlt _ hm)
  have hcl'C : ∀ y a, cl'.lookup y = some a → a < Da := fun y a hy => by obtain ⟨o, ho⟩ := hclB y a (hcl1 y a hy); have := Heap.lt_size (B1some _ _ ho); rw [hDd] at this; exact this
  have O1 : Off own B1 ⟨mi, σ.Z, σ.H⟩ C cl' := fun a ha => (and5i (B1own a ha) ((hO a ha).2.1) ((hO a ha).2.2.1) (Nat.ne_of_lt (Nat.lt_trans (hownlt a ha) (by rw [hC]; exact Nat.lt_succ_self _))) (fun y b hy => (hO a ha).2.2.2.2 y b (hcl1 y b hy)))
  have OD1 : Off [Da] B1 ⟨mi, σ.Z, σ.H⟩ C cl' := fun a ha => by
    simp at ha; subst ha
    exact (and5i (B1big a (Nat.le_refl _)) fD.2.1 fD.2.2.1 hDC (fun y b hy => Nat.ne_of_lt (hcl'C y b hy)))
  have J1 : J 0 h₁ := (D.drw (relabel scope env) true tgt xs F hx).frame _ _ _ hJ fun a _ o e => old a o e
  have DD := D.drw (relabel scope env) true tgt xs F hx
  have loop : codeAny c.M A (.compLoop (.ListComp elt [⟨tgt, iter, ifs, 0⟩] scope pos) 0 (.ref I) (.ref Da) (mkE (relabel scope env) C cl' q none cd fr)) (RR (.ref Da) C) { s with heap := h₁, toks := s.toks + ([] : List (Str × Value)).length } := by
    obtain ⟨J2, hJ2⟩ : ∃ J2 : Nat → Shared → Prop, ∀ k s', J2 k s' ↔ ∃ (i : Nat) (ys items : List Value) (kk : Nat) (Z : ZT) (H : HT), Rel c (relabel scope env) true C cl' s₀ B1 ⟨mi, Z, H⟩ s' ∧ J i s'.heap ∧ Off own B1 ⟨mi, Z, H⟩ C cl' ∧ Off [Da] B1 ⟨mi, Z, H⟩ C cl' ∧ IsL s'.heap Da items.toArray kk ∧ items.map er = ys ∧ ys.length ≤ i ∧ Inv i ys Z H ∧ i ≤ d.N ∧ k = d.N - i := ⟨_, fun _ _ => Iff.rfl⟩
    refine compLoop_gen J2 ?_ d.N
      ((hJ2 _ _).mpr (ex6i 0 ([]) ([]) 0 σ.Z σ.H (and10i X1 J1 O1 OD1 hacc rfl (Nat.le_refl _) h0 (Nat.zero_le _) rfl)))
    intro k s1 hk1
    refine hide fun G9 hG9 => ?_
    refine ex6e ((hJ2 _ _).mp hk1) fun i ys items kk Z H h9x => ?_
    refine and10e h9x fun x1 j1 o1 od1 l1 e1 len1 i1 hi e9p => ?_
    try clear h9x
    obtain rfl := e9p
    refine hG9 ?_; clear hG9 G9
    have x1' := x1.plus od1
    have keepD : ∀ (σ' : St) (s' : Shared), Rel c (relabel scope env) true C cl' s₀ (plusB [Da] s1.heap B1) σ' s' → IsL s'.heap Da items.toArray kk := fun σ' s' x' => x'.rh.keep _ _ (by unfold plusB; rw [if_pos (by simp)]; exact l1)
    have o1' : Off own (plusB [Da] s1.heap B1) ⟨mi, Z, H⟩ C cl' := fun a ha => ⟨by unfold plusB; rw [if_neg (by simp; rintro rfl; exact hDown ha)]; exact (o1 a ha).1, (o1 a ha).2⟩
    have odB : ∀ b ∈ [Da], B1 b = none ∧ b ≠ C ∧ ∀ y a, cl'.lookup y = some a → a ≠ b := fun a ha => ⟨(od1 a ha).1, (od1 a ha).2.2.2⟩
    by_cases hlt : i < d.N
    · refine wpAny_mono (DD.item C cl' q none cd fr A _ s₀ s1 ⟨mi, Z, H⟩ i (fun s3 => wpAny c.M A (compTest ifs (mkE (relabel scope env) C cl' q none cd fr)) (fun ok s₄ =>
            if ok = true then wpAny c.M A (eval elt (mkE (relabel scope env) C cl' q none cd fr)) (fun x s₅ =>
              wpAny c.M A (call (.builtin "list.append") [.ref Da, x]) (fun _ s₆ => ∃ m, m < d.N - i ∧ J2 m s₆) NoE s₅) NoE s₄
            else ∃ m, m < d.N - i ∧ J2 m s₄) NoE s3) ok rm (b1.plus x1.rh.keep) x1' j1 (hsrc i ys Z H _ i1) o1' hlt fun s3 x3 j3 => ?_) (fun rr s' h => ?_) fun _ _ e => e
      · have x3' : Rel c (relabel scope env) true C cl' s₀ B1 ⟨d.bnd xs i ++ mi, Z, H⟩ s3 := x3.minus odB
        have l3 := keepD _ _ x3
        have oo : Off (Da :: own) B1 ⟨d.bnd xs i ++ mi, Z, H⟩ C cl' := fun a ha => by
          rcases List.mem_cons.mp ha with rfl | ha
          · exact od1 a (by simp)
          · exact o1 a ha
        have lv3 : ∀ b ∈ Da :: own, ∃ o, s3.heap.get? b = some o := fun a ha => by
          rcases List.mem_cons.mp ha with rfl | ha
          · exact ⟨_, l3⟩
          · exact hlive _ _ j3 a ha
        have ooB : ∀ b ∈ Da :: own, B1 b = none ∧ b ≠ C ∧ ∀ y a, cl'.lookup y = some a → a ≠ b := fun a ha => ⟨(oo a ha).1, (oo a ha).2.2.2⟩
        have kk3 : ∀ (σ' : St) (s' : Shared), Rel c (relabel scope env) true C cl' s₀ (plusB (Da :: own) s3.heap B1) σ' s' → IsL s'.heap Da items.toArray kk ∧ J (i + 1) s'.heap := fun σ' s' x' =>
          ⟨x'.rh.keep _ _ (by unfold plusB; rw [if_pos (by simp)]; exact l3), DD.frame _ _ _ j3 fun a ha o e => x'.rh.keep a o (by unfold plusB; rw [if_pos (List.mem_cons_of_mem _ ha)]; exact e)⟩
        have t := turn i ys Z H hlt i1
        unfold CT at t
        refine t.use ok rm (b1.plus x3'.rh.keep) (x3'.plus oo) fun tb σ4 s4 h4 x4 => ?_
        cases tb with
        | false =>
          simp only [Bool.false_eq_true, if_false]
          have back := x4.minus ooB
          have off4 := oo.after x4 lv3
          refine and2e (kk3 _ _ x4) fun l4 j4 => ?_
          refine ⟨d.N - (i + 1), by omega, (hJ2 _ _).mpr (ex6i (i + 1) ys items kk σ4.Z σ4.H (and10i (mk _ _ _ back.sh back.rh (let ⟨m, hm, _⟩ := back.ns; ⟨m, hm⟩) back.oL.2) j4 (fun a ha => off4 a (List.mem_cons_of_mem _ ha)) (fun a ha => off4 a (by simp at ha; simp [ha])) l4 e1 (by omega) (h4.2 rfl) hlt rfl))⟩
        | true =>
          simp only [if_true]
          refine (h4.1 rfl).use ok rm (b1.plus x3'.rh.keep) x4 fun v σ5 s5 h5 x5 => ?_
          have back := x5.minus ooB
          have off5 := oo.after x5 lv3
          refine and2e (kk3 _ _ x5) fun l5 j5 => ?_
          have hys : ys.length = items.length := by rw [← e1, List.length_map]
          refine wpAny_list_append_plain ⟨kk, l5⟩ (fun h6 ⟨kk6, l6⟩ hs6 => ?_) (by rw [List.size_toArray, sizeLine_eq]; omega)
          have x6 : Rel c (relabel scope env) true C cl' s₀ B1 σ5 { s5 with heap := h6 } := back.off (own := [Da]) (tk := s5.toks) (fun a ha => off5 a (by simp at ha; simp [ha])) fun a o ha e => hs6.extBut a o (by simpa using ha) e
          refine ⟨d.N - (i + 1), by omega, (hJ2 _ _).mpr (ex6i (i + 1) (ys ++ [er v]) (items ++ [v]) kk6 σ5.Z σ5.H (and10i (mk _ _ _ x6.sh x6.rh (let ⟨m, hm, _⟩ := x6.ns; ⟨m, hm⟩) x6.oL.2) ?_ (fun a ha => off5 a (List.mem_cons_of_mem _ ha)) (fun a ha => off5 a (by simp at ha; simp [ha])) (by simpa using l6) (by simp [e1]) (by simp; omega) h5 hlt rfl))⟩
          exact DD.frame _ _ _ j5 fun a ha o e => hs6.extBut a o (fun e2 => hDown (e2 ▸ ha)) e
      · cases rr with
        | none => exact h.elim
        | some v => exact h
    · have e : i = d.N := by omega
      rw [e] at i1 j1
      refine wpAny_mono (DD.done C cl' A _ s₀ s1 ⟨mi, Z, H⟩ (fun s' => RR (.ref Da) C (.ok .next) s') ok rm (b1.plus x1.rh.keep) x1' j1 (hsrc _ _ _ _ _ i1) o1' fun s' x' _ => ?_) (fun rr s' h => ?_) fun _ _ e => e
      · have l' := keepD _ _ x'
        have back := x'.minus odB
        have sh' := back.sh
        obtain ⟨h', tk, rfl⟩ : ∃ h' tk, s' = { s with heap := h', toks := tk } := by
          refine hide fun G9 hG9 => ?_
          refine ex2e (X.sh) fun h1 t1 e9c => ?_
          obtain rfl := e9c
          refine ex2e sh' fun h2 t2 e9c => ?_
          try clear sh'
          obtain rfl := e9c
          refine hG9 ?_; clear hG9 G9
          exact (ex2i h2 t2 rfl)
        have nn : ∀ a o, B1 a = some o → Z a = none ∧ ∀ p ∈ (Da, AO.list ys) :: H, p.1 ≠ a := fun a o e => by
          refine ⟨?_, fun p hp q => ?_⟩
          · cases hz : Z a with
            | none => rfl
            | some z => have := (back.rh.fz a z hz).2; rw [e] at this; cases this
          · rcases List.mem_cons.mp hp with rfl | hp
            · have : B1 Da = some o := by rw [show Da = a from q]; exact e
              rw [B1big Da (Nat.le_refl _)] at this; cases this
            · have := (back.rh.mu p hp).2.1; rw [q, e] at this; cases this
        have rhB : RelH c B Z ((Da, .list ys) :: H) h' := by
          have r0 := back.rh.rebase B1le
          refine ⟨r0.keep, r0.fz, fun p hp => ?_, ?_⟩
          · rcases List.mem_cons.mp hp with rfl | hp
            · exact (and3i (ex2i items kk ⟨l', e1⟩) fD.1 ((od1 Da (by simp)).2.1))
            · exact r0.mu p hp
          · rw [List.map_cons, List.nodup_cons]
            refine ⟨fun hm => ?_, r0.nd⟩
            refine ex1e (List.mem_map.mp hm) fun p h9x => ?_
            refine and2e h9x fun hp e => ?_
            try clear h9x
            exact (od1 Da (by simp)).2.2.1 p hp e
        refine ex1e hLB fun oL hoL => ?_
        try clear hLB
        have keepB : ∀ a o, s.heap.get? a = some o → (∃ o, B1 a = some o) → h'.get? a = some o := fun a o e ⟨o', e'⟩ => by
          have := B1some a o' e'
          rw [e] at this; cases this
          exact back.rh.keep _ _ e'
        have XO : Rel c sc false L cl s₀ B ⟨σ.m, Z, (Da, .list ys) :: H⟩ { s with heap := h', toks := tk } :=
          X.go rhB (fun o e => keepB _ _ e ⟨oL, hoL⟩) (fun y a o hy e => keepB _ _ e (hclB y a hy)) (nn L oL hoL) fun _ y a hy => let ⟨o, ho⟩ := hclB y a hy; nn a o ho
        refine hR Da C _ ys Z H i1 (by omega) XO (fun a ha => ?_) (let ⟨m, hm, _⟩ := back.ns; ⟨m, hm⟩)
        simp at ha; subst ha
        refine (and4i fC.1 back.oL.2.1 (fun p hp => ?_) fC.2.2.2)
        rcases List.mem_cons.mp hp with rfl | hp
        · exact hDC
        · exact back.oL.2.2 p hp
      · rw [h.1]; exact h.2
  exact codeAny_compStart_list loop (D.self _ _ _ _ J1 loop)
end

-- L15

noncomputable def relab (scope sc : Scope) : Scope :=
  { scope with names := scope.names.map fun (n, k) => if (k == .free && sc.kind == .function && sc.names.lookup n == some .cell) then (n, .cell) else (n, k) }
noncomputable abbrev kCx (Inv : Nat → List Value → ZT → HT → Prop) (i : Nat) (ys : List Value) : Option Value → ZT → HT → Prop := fun r Z' H' => match r with | none => Inv (i + 1) ys Z' H' | some y => Inv (i + 1) (ys ++ [y]) Z' H'
noncomputable def CompSpec (c : Cx) (n : Nat) (sc' : Scope) (ifs : List PySem.Expr) (elt tgt : PySem.Expr) (xs : List Str) (Q : Addr → St → Prop) (d : Sr) (σ : St) : Prop :=
  Fits d tgt xs ∧ d.N ≤ 1000000 ∧ ∃ (mi : List (Str × Value)) (Inv : Nat → List Value → ZT → HT → Prop), (∀ p ∈ mi, sc'.names.lookup p.1 = some .cell ∧ σ.m.lookup p.1 = some p.2) ∧ (∀ i ys Z H m, Inv i ys Z H → d.src ⟨m, Z, H⟩) ∧
    Inv 0 [] σ.Z σ.H ∧ (∀ i ys Z H, i < d.N → Inv i ys Z H → CT c n sc' ifs elt (kCx Inv i ys) ⟨d.bnd xs i ++ mi, Z, H⟩) ∧
    (∀ D ys Z' H', Inv d.N ys Z' H' → ys.length ≤ 1000000 → Q D ⟨σ.m, Z', (D, .list ys) :: H'⟩)

section
variable {c : Cx} {n : Nat} {sc : Scope} {σ : St}

theorem clos_here {scope : Scope} {cmp L cl q f cd fr s₀ B s} (X : Rel c sc cmp L cl s₀ B σ s) (hfree : ∀ p ∈ scope.names, p.2 = .free → sc.names.lookup p.1 = some .cell) :
    ∃ cs, closureFor scope (mkE sc L cl q f cd fr) = pure cs ∧ (∀ x a, cs.lookup x = some a → cl.lookup x = some a) ∧ (∀ p ∈ scope.names, p.2 = .free → cs.lookup p.1 = cl.lookup p.1) :=
  closure_of (env := mkE sc L cl q f cd fr) fun p hp hf => X.ck _ (hfree p hp hf)

noncomputable abbrev kRf (Q : Value → St → Prop) : Addr → St → Prop := fun D σ3 => Q (.ref D) σ3
noncomputable abbrev kRn (y : Str) (Q : Flow → St → Prop) : Addr → St → Prop := fun D σ3 => Q .next ⟨(y, .ref D) :: σ3.m, σ3.Z, σ3.H⟩
noncomputable abbrev kCm (c : Cx) (n : Nat) (sc sc' : Scope) (ifs : List PySem.Expr) (elt tgt : PySem.Expr) (xs : List Str) (Q : Addr → St → Prop) : Value → St → Prop := fun v σ1 => PI c n sc false v (CompSpec c n sc' ifs elt tgt xs Q) σ1
theorem cmpI {sc' : Scope} {ifs : List PySem.Expr} {elt tgt : PySem.Expr} {xs : List Str} {Q : Addr → St → Prop} {d : Sr} (F : Fits d tgt xs) (hN : d.N ≤ 1000000) (mi : List (Str × Value)) (Inv : Nat → List Value → ZT → HT → Prop)
    (h1 : ∀ p ∈ mi, sc'.names.lookup p.1 = some .cell ∧ σ.m.lookup p.1 = some p.2) (h2 : ∀ i ys Z H m, Inv i ys Z H → d.src ⟨m, Z, H⟩) (h3 : Inv 0 [] σ.Z σ.H)
    (h4 : ∀ i ys Z H, i < d.N → Inv i ys Z H → CT c n sc' ifs elt (kCx Inv i ys) ⟨d.bnd xs i ++ mi, Z, H⟩)
    (h5 : ∀ D ys Z' H', Inv d.N ys Z' H' → ys.length ≤ 1000000 → Q D ⟨σ.m, Z', (D, .list ys) :: H'⟩) : CompSpec c n sc' ifs elt tgt xs Q d σ := (and3i F hN (ex2i mi Inv (and5i h1 h2 h3 h4 h5)))
theorem te_comp {elt tgt iter : PySem.Expr} {ifs : List PySem.Expr} {scope : Scope} {pos : Pos} {xs : List Str} {Q : Value → St → Prop}
    (hx : ∀ x ∈ xs, Bnd c n (relab scope sc) true x)
    (h : TE c n sc false iter (kCm c n sc (relab scope sc) ifs elt tgt xs (kRf Q)) σ)
    (hkind : scope.kind = .function := by rfl) (hcell : ∀ y ∈ scope.names, y.2 ≠ .cell := by decide)
    (hnames : ∀ x ∈ scope.names, x.2 = .local → scope.names.lookup x.1 = some .local := by decide)
    (hfree : ∀ p ∈ scope.names, p.2 = .free → sc.names.lookup p.1 = some .cell := by decide)
    (hs : ∀ env x, foldedSetIterable iter env x = pure x := by intros; rfl) :
    TE c n sc false (.ListComp elt [⟨tgt, iter, ifs, 0⟩] scope pos) Q σ := by
  unfold kCm kRf TE PI at *
  intro L cl q f cd fr A B s₀ s ok rm b X
  rw [eval_ListComp]
  refine ex1e (clos_here (q := q) (f := f) (cd := cd) (fr := fr) X hfree) fun cl' h9x => ?_
  refine and3e h9x fun hclos hcl1 hcl2 => ?_
  try clear h9x
  refine wpAny_comprehension_free (use := none) rfl (hs _) hclos hkind hnames (h.use ok rm b X fun v σ1 s1 y1 z1 => wpAny_mono (y1 v rfl L cl A B s₀ s1 ok rm b z1) (fun it s2 h2 => ?_) fun _ _ e => e)
  refine hide fun G9 hG9 => ?_
  refine ex5e h2 fun I own J d σ2 h9x => ?_
  refine and8e h9x fun e9f D hJ hO X2 F hN h9y => ?_
  refine ex2e h9y fun mi Inv h9z => ?_
  refine and5e h9z fun hmi hsrc h0 turn done => ?_
  try clear h9z h9y h9x h2
  obtain rfl := e9f
  refine hG9 ?_; clear hG9 G9
  refine comp_core (RR := fun acc C => compPost c.M A NoE none (fun v s' => ∃ σ', Q (er v) σ' ∧ Rel c sc false L cl s₀ B σ' s') acc C) ok rm b X2 D hJ hO F hx hkind hcell hcl1 hcl2 hfree (fun x v hv => hmi _ (mem_of_lookup hv)) Inv hN hsrc h0 turn ?_
  intro Da C s' ys Z' H' hI hlen X3 O3 hC
  refine ex1e hC fun m hm => ?_
  try clear hC
  exact ⟨m, hm, fun h' hs' => ⟨_, done Da ys Z' H' hI hlen, X3.off (tk := s'.toks) O3 fun a o ha e => hs'.extBut a o (by simpa using ha) e⟩⟩

theorem ts_assign_comp {elt tgt iter : PySem.Expr} {ifs : List PySem.Expr} {scope : Scope} {y : Str} {py pos spos : Pos} {xs : List Str} {Q : Flow → St → Prop}
    (hx : ∀ x ∈ xs, Bnd c n (relab scope sc) true x) (hy : sc.names.lookup y = some .local) (hk : sc.kind = .function)
    (h : TE c n sc false iter (kCm c n sc (relab scope sc) ifs elt tgt xs (kRn y Q)) σ)
    (hsw : ∀ L cl q f cd fr, swapsWith (.ListComp elt [⟨tgt, iter, ifs, 0⟩] scope pos) (some (.Name y py)) spos.line (mkE sc L cl q f cd fr) = pure true := by intros; rfl)
    (hkind : scope.kind = .function := by rfl) (hcell : ∀ y ∈ scope.names, y.2 ≠ .cell := by decide)
    (hnames : ∀ x ∈ scope.names, x.2 = .local → scope.names.lookup x.1 = some .local := by decide)
    (hfree : ∀ p ∈ scope.names, p.2 = .free → sc.names.lookup p.1 = some .cell := by decide)
    (hs : ∀ env x, foldedSetIterable iter env x = pure x := by intros; rfl) :
    TS c n sc false (.Assign [.Name y py] (.ListComp elt [⟨tgt, iter, ifs, 0⟩] scope pos) spos) Q σ := by
  unfold TS
  unfold kCm kRn TE PI at h
  intro L cl q f cd fr A B s₀ s ok rm b X
  rw [exec_Assign_Name_used _ _ _ _ (hsw _ _ _ _ _ _)]
  refine wpAny_bind (wpAny_standAt (wpAny_bind ?_))
  show wpAny _ A (do let _ ← comprehension (.ListComp elt [⟨tgt, iter, ifs, 0⟩] scope pos) scope (mkE sc L cl q f cd fr) _ (newList []) false (eval iter (mkE sc L cl q f cd fr)) (some (assign (.Name y py) (mkE sc L cl q f cd fr)))) _ _ s
  refine ex1e (clos_here (q := q) (f := f) (cd := cd) (fr := fr) X hfree) fun cl' h9x => ?_
  refine and3e h9x fun hclos hcl1 hcl2 => ?_
  try clear h9x
  refine wpAny_bind (wpAny_mono (wpAny_comprehension_free (use := some (assign (.Name y py) (mkE sc L cl q f cd fr))) (Q := fun _ s' => ∃ σ', Q .next σ' ∧ Rel c sc false L cl s₀ B σ' s') rfl (hs _) hclos hkind hnames
    (h.use ok rm b X fun v σ1 s1 y1 z1 => wpAny_mono (y1 v rfl L cl A B s₀ s1 ok rm b z1) (fun it s2 h2 => ?_) fun _ _ e => e)) (fun _ s' hq => wpAny_pure (wpAny_pure hq)) fun _ _ e => e)
  refine hide fun G9 hG9 => ?_
  refine ex5e h2 fun I own J d σ2 h9x => ?_
  refine and8e h9x fun e9f D hJ hO X2 F hN h9y => ?_
  refine ex2e h9y fun mi Inv h9z => ?_
  refine and5e h9z fun hmi hsrc h0 turn done => ?_
  try clear h9z h9y h9x h2
  obtain rfl := e9f
  refine hG9 ?_; clear hG9 G9
  refine comp_core (RR := fun acc C => compPost c.M A NoE (some (assign (.Name y py) (mkE sc L cl q f cd fr))) (fun _ s' => ∃ σ', Q .next σ' ∧ Rel c sc false L cl s₀ B σ' s') acc C) ok rm b X2 D hJ hO F hx hkind hcell hcl1 hcl2 hfree (fun x v hv => hmi _ (mem_of_lookup hv)) Inv hN hsrc h0 turn ?_
  intro Da C s' ys Z' H' hI hlen X3 O3 hC
  refine ex1e hC fun m hm => ?_
  try clear hC
  show wpAny _ A (assign (.Name y py) (mkE sc L cl q f cd fr) (.ref Da)) _ _ _
  refine wpAny_assign_Name (store_off (own := [C]) (v := .ref Da) (Bnd.local hk hy) ok rm b X3 O3 rfl fun s4 X4 k4 => ?_)
  refine ex3e hm fun o es ep h9x => ?_
  refine and2e h9x fun ho z => ?_
  try clear h9x hm
  refine ⟨m, (ex3i o es ep ⟨k4 C (by simp) _ ho, z⟩), fun h' hs' => ⟨_, done Da ys Z' H' hI hlen, X4.off (own := [C]) (tk := s4.toks) O3 fun a o ha e => hs'.extBut a o (by simpa using ha) e⟩⟩
theorem bnd1 {sc : Scope} {cmp : Bool} {x : Str} (h : Bnd c n sc cmp x) : ∀ y ∈ [x], Bnd c n sc cmp y := fun y hy => by simp at hy; subst hy; exact h
theorem bnd2 {sc : Scope} {cmp : Bool} {x y : Str} (h : Bnd c n sc cmp x) (k : Bnd c n sc cmp y) : ∀ z ∈ [x, y], Bnd c n sc cmp z := fun z hz => by
  simp at hz; rcases hz with rfl | rfl
  · exact h
  · exact k
end

-- L16

noncomputable def pick (vs : List Value) (lo hi st : Option Int) : List Value := (slicePick vs.toArray lo hi st).toList
theorem pick_er (items : List Value) (lo hi st : Option Int) : (slicePick items.toArray lo hi st).toList.map er = pick (items.map er) lo hi st := by
  unfold pick slicePick
  simp only [List.size_toArray, List.length_map]
  rw [List.map_filterMap]
  congr 1
  funext i
  simp
theorem pick_bounds (vs : List Value) (lo hi st : Option Int) {a b : Nat} (h : sliceBounds lo hi st vs.length = ((a : Int), (b : Int), 1)) (hb : b ≤ vs.length) : pick vs lo hi st = (vs.take b).drop a := by
  unfold pick slicePick
  rw [List.size_toArray, h]
  simp only [sliceRange_one, pick_run]
  rw [List.drop_take]
theorem pick_drop (vs : List Value) (k : Nat) : pick vs (some k) none none = vs.drop k := by
  have h : sliceBounds (some (k : Int)) none none vs.length = (((min k vs.length : Nat) : Int), ((vs.length : Nat) : Int), 1) := by
    unfold sliceBounds
    simp only [Option.getD_none, show (1 : Int) > 0 by decide, if_true, Prod.mk.injEq, and_true]
    rw [if_neg (by omega)]; omega
  rw [pick_bounds vs _ _ _ h (Nat.le_refl _), List.take_length]
  by_cases hk : k ≤ vs.length
  · rw [Nat.min_eq_left hk]
  · rw [Nat.min_eq_right (by omega), List.drop_length, List.drop_eq_nil_of_le (by omega)]
theorem pick_take (vs : List Value) (k : Nat) : pick vs none (some k) none = vs.take k := by
  have h : sliceBounds none (some (k : Int)) none vs.length = (((0 : Nat) : Int), ((min k vs.length : Nat) : Int), 1) := by
    unfold sliceBounds
    simp only [Option.getD_none, show (1 : Int) > 0 by decide, if_true, Prod.mk.injEq, and_true, true_and]
    refine ⟨by omega, ?_⟩
    rw [if_neg (by omega)]; omega
  rw [pick_bounds vs _ _ _ h (Nat.min_le_right _ _), List.drop_zero]
  by_cases hk : k ≤ vs.length
  · rw [Nat.min_eq_left hk]
  · rw [Nat.min_eq_right (by omega), List.take_length, List.take_of_length_le (by omega)]
theorem pick_back (vs : List Value) (k : Int) (h0 : k < 0) (h1 : -(vs.length : Int) ≤ k) : pick vs (some k) none none = vs.drop (k + vs.length).toNat := by
  have h : sliceBounds (some k) none none vs.length = ((((k + vs.length).toNat : Nat) : Int), ((vs.length : Nat) : Int), 1) := by
    unfold sliceBounds
    simp only [Option.getD_none, show (1 : Int) > 0 by decide, if_true, Prod.mk.injEq, and_true]
    rw [if_pos h0]; omega
  rw [pick_bounds vs _ _ _ h (Nat.le_refl _), List.take_length]

section
variable {c : Cx} {n : Nat} {sc : Scope} {cmp : Bool} {σ : St}

@[irreducible] noncomputable def TO (c : Cx) (n : Nat) (sc : Scope) (cmp : Bool) (e : Option PySem.Expr) (Q : Option Int → St → Prop) (σ : St) : Prop :=
  T c n sc cmp (evalPart e) (fun v σ' => ∃ k, IsPart v k ∧ Q k σ') σ
theorem to_none {Q : Option Int → St → Prop} (h : Q none σ) : TO c n sc cmp none Q σ := by
  unfold TO
  intro L cl q f cd fr A B s₀ s ok rm b X
  exact wpAny_pure ⟨_, ⟨none, .none, h⟩, X⟩
noncomputable abbrev kTs (Q : Option Int → St → Prop) : Value → St → Prop := fun v σ' => ∃ i, v = vI i ∧ Q (some i) σ'
theorem to_some {e} {Q : Option Int → St → Prop} (h : TE c n sc cmp e (kTs Q) σ) : TO c n sc cmp (some e) Q σ := by
  unfold kTs TO TE at *
  intro L cl q f cd fr A B s₀ s ok rm b X
  refine h.use ok rm b X fun v σ' s' ⟨i, e, hq⟩ z => ?_
  refine ex1e (er_int_inv e) fun t e9b => ?_
  obtain rfl := e9b
  exact ⟨_, ⟨some i, .int i t, hq⟩, z⟩

noncomputable abbrev kSl4 (o : Value) (lo hi : Option Int) (Q : Value → St → Prop) : Option Int → St → Prop := fun st σ4 => st ≠ some 0 ∧ ∃ l vs, o = .ref l ∧ (Ob σ4 l (.list vs) ∨ Ob σ4 l (.xlist vs)) ∧ vs.length ≤ 1000000 ∧
      ∀ D, Q (.ref D) ⟨σ4.m, σ4.Z, (D, .list (pick vs lo hi st)) :: σ4.H⟩
noncomputable abbrev kSl3 (c : Cx) (n : Nat) (sc : Scope) (cmp : Bool) (step : Option PySem.Expr) (o : Value) (lo : Option Int) (Q : Value → St → Prop) : Option Int → St → Prop := fun hi σ3 => TO c n sc cmp step (kSl4 o lo hi Q) σ3
noncomputable abbrev kSl2 (c : Cx) (n : Nat) (sc : Scope) (cmp : Bool) (upper step : Option PySem.Expr) (o : Value) (Q : Value → St → Prop) : Option Int → St → Prop := fun lo σ2 => TO c n sc cmp upper (kSl3 c n sc cmp step o lo Q) σ2
noncomputable abbrev kSl (c : Cx) (n : Nat) (sc : Scope) (cmp : Bool) (lower upper step : Option PySem.Expr) (Q : Value → St → Prop) : Value → St → Prop := fun o σ1 => TO c n sc cmp lower (kSl2 c n sc cmp upper step o Q) σ1
theorem te_slice {value : PySem.Expr} {lower upper step : Option PySem.Expr} {p pos : Pos} {Q : Value → St → Prop}
    (h : TE c n sc cmp value (kSl c n sc cmp lower upper step Q) σ) : TE c n sc cmp (.Subscript value (.Slice lower upper step p) pos) Q σ := by
  unfold kSl kSl2 kSl3 kSl4 TE TO at *
  intro L cl q f cd fr A B s₀ s ok rm b X
  refine Subscript_ (h.use ok rm b X fun ov σ1 s1 y1 z1 => wpAny_Slice (y1.use ok rm b z1 fun vl σ2 s2 ⟨lo, pl, y2⟩ z2 => y2.use ok rm b z2 fun vu σ3 s3 ⟨hi, pu, y3⟩ z3 => y3.use ok rm b z3 fun vst σ4 s4 ⟨st, ps, y4⟩ z4 => ?_))
  refine hide fun G9 hG9 => ?_
  refine and2e y4 fun h0 h9x => ?_
  refine ex2e h9x fun l vs h9y => ?_
  refine and4e h9y fun e ol hlen hQ => ?_
  try clear h9y h9x y4
  refine hG9 ?_; clear hG9 G9
  have e' := er_ref_inv e
  subst e'
  obtain ⟨items, hL, e2⟩ : ∃ items : List Value, s4.heap.IsList l items.toArray ∧ items.map er = vs := by
    rcases ol with ol | ol
    · obtain ⟨items, k, hL, e⟩ := ol.rep z4; exact ⟨items, hL.isList, e⟩
    · exact ol.rep z4
  have hl : vs.length = items.length := by rw [← e2, List.length_map]
  have z5 : Rel c sc cmp L cl s₀ B σ4 { s4 with heap := s4.heap.push { cls := .type "slice", data := .fields #[vl, vu, vst] } } := z4.keeps (tk := s4.toks) fun _ _ e => Heap.get?_push_of_some _ e
  refine subTail (hL.push _).typeIs slot_list_getitem.lookup (wpAny_getItem_list_slice (hL.push _) (Heap.IsSliceOf.new ..) pl pu ps h0 ?_ (by rw [List.size_toArray, sizeLine_eq]; omega))
  refine ⟨_, hQ _, ?_⟩
  have := z5.new (tk := s4.toks) (a := (s4.heap.push { cls := .type "slice", data := .fields #[vl, vu, vst] }).objs.size) (o := .list (pick vs lo hi st)) (h' := (s4.heap.push { cls := .type "slice", data := .fields #[vl, vu, vst] }).push { cls := .type "list", data := .seq (slicePick items.toArray lo hi st) })
    (fun _ _ e => Heap.get?_push_of_some _ e) (Nat.le_refl _) (ex2i ((slicePick items.toArray lo hi st).toList) 0 ⟨Heap.get?_push_size _ rfl, by rw [pick_er, e2]⟩)
  exact this

theorem bo_addl {l d : Addr} {vs us : List Value} {Q : Value → St → Prop} (hl : Ob σ l (.list vs)) (hd : Ob σ d (.list us)) (hs : vs.length + us.length ≤ 1000000) (h : ∀ D, Q (.ref D) ⟨σ.m, σ.Z, (D, .list (vs ++ us)) :: σ.H⟩) : BO c n sc cmp .Add (.ref l) (.ref d) Q σ := by
  unfold BO
  intro a' b' ha hb L cl q f cd fr A B s₀ s ok rm b X
  rw [er_ref_inv ha, er_ref_inv hb]
  refine hide fun G9 hG9 => ?_
  refine ex2e (hl.rep X) fun items k h9x => ?_
  refine and2e h9x fun hL e => ?_
  try clear h9x
  refine ex2e (hd.rep X) fun items2 k2 h9x => ?_
  refine and2e h9x fun hL2 e2 => ?_
  try clear h9x
  refine hG9 ?_; clear hG9 G9
  have h1 : vs.length = items.length := by rw [← e, List.length_map]
  have h2 : us.length = items2.length := by rw [← e2, List.length_map]
  refine PySem.P.add_list hL hL2 ⟨_, h _, X.new (tk := s.toks) (fun _ _ e => Heap.get?_push_of_some _ e) (Nat.le_refl _) (ex2i (items ++ items2) 0 ⟨?_, by rw [List.map_append, e, e2]⟩)⟩ (by rw [List.size_toArray, List.size_toArray, sizeLine_eq]; omega)
  have := IsL.new s.heap (items.toArray ++ items2.toArray)
  simpa using this

theorem bc_listrange {r : Addr} {b : Nat} {Q : Value → St → Prop} (hr : Ob σ r (.rng 0 b)) (hb : b ≤ 1000000) (h : ∀ D, Q (.ref D) ⟨σ.m, σ.Z, (D, .list ((List.range b).map fun i => vI (i : Nat))) :: σ.H⟩) : BC c n sc cmp (.type "list") [.ref r] Q σ := by
  unfold BC
  intro ws hw L cl q f' cd fr A B s₀ s ok rm bb X
  refine ex1e (map_one hw) fun x h9x => ?_
  refine and2e h9x fun e9b h1 => ?_
  try clear h9x
  obtain rfl := e9b
  rw [er_ref_inv h1]
  refine ex3e (hr.rep X) fun t u v hR => ?_
  refine call_list_range (n := b) rm.1 hR (small_one (by omega) (by omega) (by omega) (by omega)) (by rw [rangeSize_one]; split <;> omega) (by omega) fun h' tk acc' c' hk hg hI => ⟨_, h _, X.new (h' := h') (tk := tk) hk (Nat.le_refl _) (ex2i acc'.toList c' ⟨by simpa using hg, ?_⟩)⟩
  obtain ⟨hsz, hI⟩ := hI
  apply List.ext_getElem?
  intro i
  rw [List.getElem?_map, List.getElem?_map]
  by_cases hi : i < b
  · have hi' : i < acc'.size := by omega
    refine ex1e (hI i acc'[i] (by simp [hi'])) fun t ht => ?_
    simp [hi, hi', ht, vI]
  · have hi' : ¬ i < acc'.size := by omega
    simp [hi, hi']

noncomputable abbrev kDl2 (ov : Value) (Q : Flow → St → Prop) : Value → St → Prop := fun iv σ2 => ∃ l k f x v H', ov = .ref l ∧ iv = vS x ∧ HUpd l (.dict k f) (.dict k (delF f x)) σ2.H H' ∧ f x = some v ∧ k ≤ 1000000 ∧ Q .next ⟨σ2.m, σ2.Z, H'⟩
noncomputable abbrev kDl (c : Cx) (n : Nat) (sc : Scope) (cmp : Bool) (i : PySem.Expr) (Q : Flow → St → Prop) : Value → St → Prop := fun ov σ1 => TE c n sc cmp i (kDl2 ov Q) σ1
theorem ts_del {o i : PySem.Expr} {p pos : Pos} {Q : Flow → St → Prop}
    (h : TE c n sc cmp o (kDl c n sc cmp i Q) σ) : TS c n sc cmp (.Delete [.Subscript o i p] pos) Q σ := by
  unfold kDl kDl2 TS TE at *
  intro L cl q f cd fr A B s₀ s ok rm b X
  refine wpAny_Delete (wpAny_deleteEach_cons (wpAny_delete_Subscript (h.use ok rm b X fun ov σ1 s1 y1 z1 => y1.use ok rm b z1 fun iv σ2 s2 y2 z2 => ?_)))
  refine ex6e y2 fun l k f x v H' h9x => ?_
  refine and6e h9x fun e1 e2 U hv hk hq => ?_
  try clear h9x y2
  have e1' := er_ref_inv e1
  subst e1'
  refine ex1e (er_str_inv e2) fun t e9b => ?_
  obtain rfl := e9b
  have od : Ob σ2 l (.dict k f) := Or.inr U.mem
  refine ex1e (od.rep z2) fun kvs h9x => ?_
  refine and4e h9x fun hD hf hk' hm => ?_
  try clear h9x
  have hv' : (valueAt kvs x).isSome := by have := hf x; rw [hv] at this; rw [← Option.isSome_map, this]; rfl
  unfold delItem
  try with_reducible refine wpAny_holding ?_
  refine wpAny_bind (wpAny_sequenceKey hD.typeIs (by decide) ?_)
  refine wpAny_bind (wpAny_callSpecial?_slot (name := Str.ofString "__delitem__") hD.typeIs PySem.F.slot_dict_delitem
    (call_meetsIn PySem.F.slot_dict_delitem hD.typeIs PySem.F.entry_dict_delitem (PySem.F.args_dict_delitem_2 _ _) (meets_dict_delitem_pairs (PySem.strKind c.prog c.w) l (strKind_is _ _ x t)) (⟨kvs, and4i hD (by rw [sizeLine_eq]; omega) hv' (fun h' hD' hs => ?_)⟩)))
  refine wpAny_pure (wpAny_deleteEach_nil ⟨_, hq, z2.upd (tk := s2.toks + 1) U hs.extBut (⟨_, and4i hD' (fun y => ?_) (Nat.le_trans (without_len _ _) hk') hm⟩)⟩)
  rw [valueAt_without]; unfold delF
  split
  · rfl
  · exact hf y

theorem bc_dictof {l : Addr} {k : Nat} {f : Str → Option Value} {Q : Value → St → Prop} (ha : Ob σ l (.dict k f)) (hk : k ≤ 1000000) (h : ∀ D, Q (.ref D) ⟨σ.m, σ.Z, (D, .dict k f) :: σ.H⟩) : BC c n sc cmp (.type "dict") [.ref l] Q σ := by
  unfold BC
  intro ws hw L cl q f' cd fr A B s₀ s ok r b X
  refine ex1e (map_one hw) fun x h9x => ?_
  refine and2e h9x fun e9b h1 => ?_
  try clear h9x
  obtain rfl := e9b
  rw [er_ref_inv h1]
  refine ex1e (ha.rep X) fun kvs h9x => ?_
  refine and4e h9x fun hD hf hk' hm => ?_
  try clear h9x
  refine kt_call_dict hm hD (by rw [sizeLine_eq]; omega) fun h' hD' hs => ⟨_, h _, X.new (tk := s.toks) (fun b o e => hs.extBut b o (Nat.ne_of_lt (Heap.lt_size e)) (Heap.get?_push_of_some _ e)) (Nat.le_refl _) (⟨kvs, and4i hD' hf hk' (modules_low' ok b X (Nat.le_refl _))⟩)⟩

theorem wpAny_setd_new {prog : Program} {w : World} {K : Type} [DecidableEq K] {knd : KeyKind prog w K} {A : Around} {E : Value → Shared → Prop} {s : Shared} {d : Addr} {kvs : List (K × Value)} {k : K} {key v : Value} {Q : Value → Shared → Prop} (hkey : knd.is k key = true) (hm : s.heap.DictOf knd d kvs) (hnew : valueAt kvs k = none)
    (hQ : ∀ h', h'.DictOf knd d (stored kvs k v) → Heap.SameBut d s.heap h' → Q v { s with heap := h', toks := s.toks + 1 })
    (hsz : kvs.length ≤ sizeLine) :
    wpAny (model prog w) A (dictSetDefault d key v) Q E s := by
  refine ex3e hm fun o es ep h9x => ?_
  refine and6e h9x fun ho hc hd hk hp hn => ?_
  try clear h9x hm
  have hes : es.size ≤ sizeLine := by have e1 := hp.length; have e2 : es.toList.length = es.size := by simp
                                      omega
  unfold dictSetDefault
  try with_reducible refine wpAny_holding ?_
  refine wpAny_bind (knd.pyHash hkey ?_)
  refine wpAny_bind (wpAny_dictFind_of (s := { s with toks := s.toks + 1 }) hkey ho hd hk ?_)
  have hidx : (es.findIdx? fun e => knd.is k e.key) = kvs.findIdx? fun kv => decide (kv.1 = k) := by
    rw [← hp.findIdx k]; obtain ⟨l⟩ := es; simp
  have hno : kvs.findIdx? (fun kv => decide (kv.1 = k)) = none := by
    rw [List.findIdx?_eq_none_iff]
    intro p hp
    unfold valueAt at hnew
    have := List.find?_eq_none.mp (Option.map_eq_none_iff.mp hnew) p hp
    simpa using this
  have hi : (es.findIdx? fun e => knd.is k e.key) = none := hidx.trans hno
  rw [hi]
  have hnot : k ∉ kvs.map (·.1) := not_mem_of_findIdx_none hno
  have hany : ¬ (kvs.any fun kv => decide (kv.1 = k)) = true := by
    rw [List.any_eq_true]; rintro ⟨kv, hkv, he⟩
    exact hnot (List.mem_map.mpr ⟨kv, hkv, of_decide_eq_true he⟩)
  refine wpAny_bind (wpAny_rule (wpAny_bind (wpAny_updateDictKeys (hz := hes) (s := { s with toks := s.toks + 1 }) ho hd (wpAny_pure (hQ _ ⟨_, _, ep + 1, Heap.get?_update_self _ ho (Obj.isFreed_of_dict (Obj.data_mapDictKeys hd _)),
    hc.mapDictKeys _, Obj.data_mapDictKeys hd _, hk.push hkey _, ?_, ?_⟩ (Heap.SameBut.update ..))))))
  · rw [stored, if_neg hany]
    have := hp.append hkey (knd.hash k) v
    obtain ⟨l⟩ := es
    simpa using this
  · rw [stored, if_neg hany, List.map_append, List.nodup_append]
    refine (and3i hn (by simp) ?_)
    intro a ha b hb
    simp only [List.map_cons, List.map_nil, List.mem_singleton] at hb
    subst hb
    exact fun e => hnot (e ▸ ha)
theorem bc_setd_new {l : Addr} {k : Nat} {f : Int → Option Value} {x : Int} {d : Value} {H' : HT} {Q : Value → St → Prop} (U : HUpd l (.dicti k f) (.dicti (k + 1) (updF f x d)) σ.H H') (hv : f x = none) (hk : k ≤ 1000000) (h : Q d ⟨σ.m, σ.Z, H'⟩) : BC c n sc cmp (.builtin "dict.setdefault") [.ref l, vI x, d] Q σ := by
  unfold BC
  intro ws hw L cl q f' cd fr A B s₀ s ok r b X
  refine hide fun G9 hG9 => ?_
  refine ex3e (map_three hw) fun x1 x2 x3 h9x => ?_
  refine and4e h9x fun e9d h1 h2 h3 => ?_
  try clear h9x
  obtain rfl := e9d
  refine hG9 ?_; clear hG9 G9
  rw [er_ref_inv h1]; obtain ⟨t, rfl⟩ := er_int_inv h2
  have od : Ob σ l (.dicti k f) := Or.inr U.mem
  refine ex1e (od.rep X) fun kvs h9x => ?_
  refine and4e h9x fun hD hf hk' hm => ?_
  try clear h9x
  have hn : valueAt kvs x = none := by rw [← Option.map_eq_none_iff (f := er), hf x]; exact hv
  refine call_meetsIn PySem.F.slot_dict_setdefault hD.typeIs PySem.F.entry_dict_setdefault (PySem.F.args_dict_setdefault_3 _ _ _) (S := fun _ R s => ∃ kvs, s.heap.DictOf (PySem.intKind c.prog c.w) l kvs ∧ valueAt kvs x = none ∧ kvs.length ≤ sizeLine ∧
      ∀ h', h'.DictOf (PySem.intKind c.prog c.w) l (stored kvs x x3) → Heap.SameBut l s.heap h' → R (.ok (.ret x3)) { s with heap := h', toks := s.toks + 1 }) ?_ (⟨kvs, and4i hD hn (by rw [sizeLine_eq]; omega) (fun h' hD' hs => ⟨_, by show Q (er x3) _; rw [h3]; exact h, X.upd U hs.extBut (⟨_, and4i hD' (fun y => ?_) (Nat.le_trans (stored_len _ _ _) (by omega)) hm⟩)⟩)⟩)
  · exact .of_wp fun A R s ⟨kvs, hD, hn, hz, hQ⟩ => by
      unfold Builtin.«dict.setdefault»
      refine wpAny_bind ?_
      unfold Builtin.Dict.keyAndDefault
      refine wpAny_bind (wpAny_notOrdered_dict hD.typeIs ?_)
      show wpAny _ _ (pure (l, Value.int x t, some x3)) _ _ s
      refine wpAny_pure ?_
      show wpAny _ _ (if (l == sysModules) = true then _ else (dictSetDefault l (.int x t) x3 >>= _)) _ _ s
      rw [if_neg (by rw [hm]; exact Bool.false_ne_true)]
      exact wpAny_bind (wpAny_setd_new (intKind_is _ _ x t) hD hn (fun h' hD' hs => wpAny_pure ⟨x3, rfl, hQ h' hD' hs⟩) hz)
  · rw [valueAt_stored]; unfold updF
    split
    · simp [h3]
    · exact hf y
end

-- L17

theorem Room.under {n : Nat} {A : Around} {a : Args} (h : Room (n + 1) A) : Room n (A.under (.builtin "type.__call__" a)) := by
  have hf : (Code.builtin "type.__call__" a).frames = 0 := by first | rfl | simp [Code.frames, Code.isFrame]
  have hw : (Code.builtin "type.__call__" a).weight ≤ 1 := by
    unfold Code.weight
    rw [hf, show (Code.builtin "type.__call__" a).isGuard = false by rfl, show (Code.builtin "type.__call__" a).isCaller = false by rfl]
    split <;> simp
  have hu : (Code.builtin "type.__call__" a).cUnits ≤ 1 := by show 1 + 3 * (Code.builtin "type.__call__" a).frames ≤ 1; rw [hf]; exact Nat.le_refl _
  refine (and3i h.1 ?_ ?_)
  · have := h.2.1; show A.depth + _ + _ + _ < _; omega
  · have := h.2.2; show A.units + _ + _ + _ < _; omega

theorem call_cls {c : Cx} {n : Nat} {C fI : Addr} {flds : List Str} {args : List Value} {Q : Value → ZT → HT → Prop} {Z : ZT} {H : HT} (P : IsCls c C flds)
    (hi : findIn c.K (.ref C) "__init__" = some (some (.ref fI))) (hf : typeIn c.K (.ref fI) = some (.type "function"))
    (h : ∀ x dx, CallOk c n (.ref fI) (.ref x :: args) (fun v Z' H' => v = .none ∧ Q (.ref x) Z' H') Z ((x, .inst C dx) :: (dx, .attrs []) :: H)) : CallOk c (n + 1) (.ref C) args Q Z H := by
  intro A B s₀ s vs ok r b sh x hv
  have XK : c.K.In s.heap := fun a o e => x.keep a o (b a o (ok.X a o e))
  refine hide fun G9 hG9 => ?_
  obtain ⟨hh, g, d, t, os⟩ := s
  refine hG9 ?_; clear hG9 G9
  refine make_core (makes_of XK P.makes) (looks_findIn XK hi) (fun self => bind_fn XK self hf) (.inl rfl) ?_
  have x1 : RelH c B Z ((hh.objs.size, .attrs []) :: H) (hh.push emptyDict) := RelH.new x (fun _ _ e => Heap.get?_push_of_some _ e) (Nat.le_refl _) (ex2i ([]) 0 ⟨Heap.get?_push_size _ rfl, .nil⟩)
  have x2 : RelH c B Z ((hh.objs.size + 1, .inst C hh.objs.size) :: (hh.objs.size, .attrs []) :: H) ((hh.push emptyDict).push (instObj C hh.objs.size)) :=
    RelH.new x1 (fun _ _ e => Heap.get?_push_of_some _ e) (by rw [Heap.size_push]; exact Nat.le_refl _) (by show Heap.get? _ _ = _; have := Heap.get?_push_size (hh.push emptyDict) (o := instObj C hh.objs.size) rfl; rw [Heap.size_push] at this; exact this)
  refine codeAny_mono (h (hh.objs.size + 1) hh.objs.size _ B s₀ _ (.ref (hh.objs.size + 1) :: vs) ok r.under b (sh.step _ _) x2 (by rw [List.map_cons, hv]; rfl)) fun rr s' z => ?_
  rcases rr with e | (v | _ | _ | v) <;> try exact z.elim
  refine hide fun G9 hG9 => ?_
  obtain ⟨Z', H', ⟨hv, hq⟩, z⟩ := z
  refine hG9 ?_; clear hG9 G9
  exact (⟨er_none_inv hv, ex2i Z' H' ⟨hq, z⟩⟩)

noncomputable def freeze (Z : ZT) (F : HT) : ZT := fun a => match F.find? (fun p => p.1 == a) with | some p => some p.2 | none => Z a
theorem RelH.freeze {c : Cx} {B Z H F h} (x : RelH c B Z (F ++ H) h) : RelH c B (freeze Z F) H h := by
  have nd := x.nd
  rw [List.map_append, List.nodup_append] at nd
  have key : ∀ a p, F.find? (fun p => p.1 == a) = some p → p ∈ F ∧ p.1 = a := fun a p e => ⟨List.mem_of_find?_eq_some e, by simpa using List.find?_some e⟩
  refine ⟨x.keep, fun a o e => ?_, fun p hp => (and3i ((x.mu p (List.mem_append_right _ hp)).1) ((x.mu p (List.mem_append_right _ hp)).2.1) ?_), nd.2.1⟩
  · unfold Mine.freeze at e
    split at e
    · rename_i p hp
      refine and2e (key _ _ hp) fun h1 h2 => ?_
      cases e
      have := x.mu p (List.mem_append_left _ h1)
      rw [h2] at this
      exact ⟨this.1, this.2.1⟩
    · exact x.fz a o e
  · unfold Mine.freeze
    split
    · rename_i q hq
      refine and2e (key _ _ hq) fun h1 h2 => ?_
      exact absurd rfl (nd.2.2 _ (List.mem_map_of_mem h1) _ (by rw [h2]; exact List.mem_map_of_mem hp))
    · exact (x.mu p (List.mem_append_right _ hp)).2.2
theorem freeze_le {Z : ZT} {F : HT} {a : Addr} {o : AO} (hF : ∀ p ∈ F, p.1 ≠ a) (h : Z a = some o) : freeze Z F a = some o := by
  unfold freeze
  rw [List.find?_eq_none.mpr fun p hp => by simpa using hF p hp]
  exact h
theorem freeze_mem {Z : ZT} {F : HT} {a : Addr} {o : AO} (nd : (F.map (·.1)).Nodup) (h : (a, o) ∈ F) : freeze Z F a = some o := by
  unfold freeze
  cases e : F.find? (fun p => p.1 == a) with
  | none => have := List.find?_eq_none.mp e _ h; simp at this
  | some p =>
    have h1 := List.mem_of_find?_eq_some e
    have h2 : p.1 = a := by simpa using List.find?_some e
    obtain ⟨b, o'⟩ := p
    dsimp only at h2; subst h2
    have : ∀ {l : HT}, (l.map (·.1)).Nodup → (b, o) ∈ l → (b, o') ∈ l → o' = o := by
      intro l
      induction l with
      | nil => intro _ h; cases h
      | cons q r ih =>
        intro nd h3 h4
        rw [List.map_cons, List.nodup_cons] at nd
        rcases List.mem_cons.mp h3 with e1 | h3'
        · rcases List.mem_cons.mp h4 with e2 | h5
          · rw [← e1] at e2; cases e2; rfl
          · subst e1; exact absurd (show b ∈ r.map (·.1) from List.mem_map_of_mem (f := fun p : Addr × AO => p.1) h5) nd.1
        · rcases List.mem_cons.mp h4 with e2 | h5
          · subst e2; exact absurd (show b ∈ r.map (·.1) from List.mem_map_of_mem (f := fun p : Addr × AO => p.1) h3') nd.1
          · exact ih nd.2 h3' h5
    show some o' = some o
    rw [this nd h h1]

theorem T.pre {α : Type} {c n sc cmp} {t : Env → Sem α} {Q : α → St → Prop} {σ σ' : St} (h : T c n sc cmp t Q σ') (k : ∀ L cl s₀ B s, Rel c sc cmp L cl s₀ B σ s → Rel c sc cmp L cl s₀ B σ' s) : T c n sc cmp t Q σ :=
  fun L cl q f cd fr A B s₀ s ok r b x => h L cl q f cd fr A B s₀ s ok r b (k _ _ _ _ _ x)
noncomputable def Le (c : Cx) (σ σ' : St) : Prop := ∀ sc cmp L cl s₀ B s, Rel c sc cmp L cl s₀ B σ s → Rel c sc cmp L cl s₀ B σ' s
theorem Le.refl {c σ} : Le c σ σ := fun _ _ _ _ _ _ _ x => x
theorem Le.trans {c σ σ' σ''} (h : Le c σ σ') (k : Le c σ' σ'') : Le c σ σ'' := fun _ _ _ _ _ _ _ x => k _ _ _ _ _ _ _ (h _ _ _ _ _ _ _ x)
theorem Rel.led {c sc cmp L cl s₀ B σ s} {Z' : ZT} {H' : HT} (X : Rel c sc cmp L cl s₀ B σ s) (rh : RelH c B Z' H' s.heap) (sub : ∀ a, (Z' a).isSome ∨ a ∈ H'.map (·.1) → (σ.Z a).isSome ∨ a ∈ σ.H.map (·.1)) : Rel c sc cmp L cl s₀ B ⟨σ.m, Z', H'⟩ s := by
  have nn : ∀ a, σ.Z a = none → (∀ p ∈ σ.H, p.1 ≠ a) → Z' a = none ∧ ∀ p ∈ H', p.1 ≠ a := fun a h1 h2 => by
    have : ¬ ((σ.Z a).isSome ∨ a ∈ σ.H.map (·.1)) := by
      rintro (q | q)
      · rw [h1] at q; cases q
      · obtain ⟨p, hp, e⟩ := List.mem_map.mp q; exact h2 p hp e
    have this2 : ¬ ((Z' a).isSome ∨ a ∈ H'.map (·.1)) := fun q => this (sub a q)
    rw [not_or] at this2
    refine ⟨by simpa using this2.1, fun p hp e => this2.2 (by rw [← e]; exact List.mem_map_of_mem hp)⟩
  exact X.go (tk := s.toks) rh (fun _ e => e) (fun _ _ _ _ e => e) (nn L X.oL.2.1 X.oL.2.2) fun e y a hy => nn a (X.oC e y a hy).2.1 (X.oC e y a hy).2.2.2
theorem Le.perm {c m Z H H'} (p : H.Perm H') : Le c ⟨m, Z, H⟩ ⟨m, Z, H'⟩ := fun _ _ _ _ _ _ _ X => X.led (X.rh.perm p) fun a h => h.imp id fun q => ((p.map _).mem_iff).mpr q
theorem Le.sub {c m Z H H'} (p : H'.Sublist H) : Le c ⟨m, Z, H⟩ ⟨m, Z, H'⟩ := fun _ _ _ _ _ _ _ X => X.led (X.rh.sub p) fun a h => h.imp id fun q => (p.map _).subset q
theorem Le.forget {c m m' Z H} (h : ∀ x v, m'.lookup x = some v → m.lookup x = some v) : Le c ⟨m, Z, H⟩ ⟨m', Z, H⟩ := fun _ _ _ _ _ _ _ X => X.forget fun x v e _ => h x v e

theorem getD_at {α β : Type} {f : α → β} {l : List α} {i : Nat} {d : β} (h : i < l.length) : (l.map f).getD i d = f l[i] := by simp [List.getD_eq_getElem?_getD, h]
theorem St.at1 {P : St → Prop} {x : Str} {v v' : Value} {m Z H} (e : v = v') (h : P ⟨(x, v') :: m, Z, H⟩) : P ⟨[(x, v)] ++ m, Z, H⟩ := e ▸ h
theorem St.at2 {P : St → Prop} {x y : Str} {v v' w : Value} {m Z H} (e : v = v') (h : P ⟨(x, v') :: (y, w) :: m, Z, H⟩) : P ⟨[(x, v), (y, w)] ++ m, Z, H⟩ := e ▸ h
theorem TB.le {c n sc cmp b Q} {σ σ' : St} (l : Le c σ σ') (h : TB c n sc cmp b Q σ') : TB c n sc cmp b Q σ := by
  unfold TB at *; exact h.pre fun L cl s₀ B s x => l _ _ _ _ _ _ _ x
theorem TS.via {c n sc cmp b} {Q P : Flow → St → Prop} {σ : St} (h : ∀ Fq : Flow → St → Prop, (∀ f σ', P f σ' → Fq f σ') → TS c n sc cmp b Fq σ) (k : ∀ f σ', P f σ' → Q f σ') : TS c n sc cmp b Q σ := h Q k
theorem TE.via {c n sc cmp b} {Q P : Value → St → Prop} {σ : St} (h : ∀ Fq : Value → St → Prop, (∀ f σ', P f σ' → Fq f σ') → TE c n sc cmp b Fq σ) (k : ∀ f σ', P f σ' → Q f σ') : TE c n sc cmp b Q σ := h Q k

-- L18
section
variable {c : Cx} {n : Nat} {sc : Scope} {cmp : Bool} {σ : St}

theorem bind_two {x y : Str} {v w v' w' : Value} {L cl q f cd fr A B s₀ s} {R : Unit → Shared → Prop} (hx : Bnd c n sc cmp x) (hy : Bnd c n sc cmp y) (ok : c.Ok) (r : Room n A) (b : Base c B) (X : Rel c sc cmp L cl s₀ B σ s)
    (hv : er v' = v) (hw : er w' = w) (h : ∀ s', Rel c sc cmp L cl s₀ B ⟨(y, w) :: (x, v) :: σ.m, σ.Z, σ.H⟩ s' → R () s') :
    wpAny c.M A (storeName (mkE sc L cl q f cd fr) x v') (fun _ s1 => wpAny c.M A (storeName (mkE sc L cl q f cd fr) y w') R NoE s1) NoE s :=
  store_off (own := []) hx ok r b X (fun _ h => nomatch h) hv fun s1 X1 _ => store_off (own := []) hy ok r b X1 (fun _ h => nomatch h) hw fun s2 X2 _ => h s2 X2

noncomputable abbrev kT2 (x y : Str) (Q : Flow → St → Prop) : Value → St → Prop := fun v σ1 => ∃ t a b, v = .ref t ∧ Ob σ1 t (.tup [a, b]) ∧ Q .next ⟨(y, b) :: (x, a) :: σ1.m, σ1.Z, σ1.H⟩
theorem ts_tuple2 {x y : Str} {px py tpos pos : Pos} {k} {value : PySem.Expr} {Q : Flow → St → Prop} (hx : Bnd c n sc cmp x) (hy : Bnd c n sc cmp y)
    (h : TE c n sc cmp value (kT2 x y Q) σ)
    (hs : ∀ L cl q f cd fr, swapsWithSole [.Tuple [.Name x px, .Name y py] k tpos] value pos.line (mkE sc L cl q f cd fr) = pure false := by intros; rfl)
    (hw : ∀ L cl q f cd fr, swappedStores [.Tuple [.Name x px, .Name y py] k tpos] value (mkE sc L cl q f cd fr) = pure none := by intros; rfl) :
    TS c n sc cmp (.Assign [.Tuple [.Name x px, .Name y py] k tpos] value pos) Q σ := by
  unfold kT2 TS TE at *
  intro L cl q f cd fr A B s₀ s ok rm b X
  refine Assign_Tuple (h.use ok rm b X fun v σ1 s1 y1 z1 => ?_) (hs _ _ _ _ _ _) (hw _ _ _ _ _ _)
  refine ex3e y1 fun t a b' h9x => ?_
  refine and3e h9x fun e ot hq => ?_
  try clear h9x y1
  rw [er_ref_inv e]
  refine hide fun G9 hG9 => ?_
  refine ex2e (ot.rep z1) fun items kk h9x => ?_
  refine and2e h9x fun hT e2 => ?_
  try clear h9x
  refine ex2e (map_two e2) fun u w h9x => ?_
  refine and3e h9x fun e9c e3 e4 => ?_
  try clear h9x
  obtain rfl := e9c
  refine hG9 ?_; clear hG9 G9
  refine wpAny_assign_Tuple (items := #[u, w]) rm.1 (⟨_, and3i hT rfl ⟨_, rfl⟩⟩) rfl (by rfl) fun h3 he3 => ?_
  have X' : Rel c sc cmp L cl s₀ B σ1 { s1 with heap := h3 } := z1.keeps (tk := s1.toks) fun b o e => he3 b o (Nat.ne_of_lt (Heap.lt_size e)) e
  show wpAny c.M A (assignInOrder [assign (.Name x px) (mkE sc L cl q f cd fr), assign (.Name y py) (mkE sc L cl q f cd fr)] [u, w]) _ _ _
  refine wpAny_assignInOrder_more (wpAny_assign_Name (wpAny_mono (bind_two hx hy ok rm b X' e3 e4 (R := fun _ s' => ∃ σ', Q .next σ' ∧ Rel c sc cmp L cl s₀ B σ' s') fun s' X2 => ⟨_, hq, X2⟩) (fun _ s2 h2 => ?_) fun _ _ e => e))
  exact wpAny_assignInOrder_more (wpAny_assign_Name (wpAny_mono h2 (fun _ s3 h3 => wpAny_assignInOrder_none h3) fun _ _ e => e))

noncomputable abbrev kT2s (x y : Str) (Q : Flow → St → Prop) : Value → St → Prop := fun v σ1 => ∃ t a b, v = .ref t ∧ Ob σ1 t (.tup [a, b]) ∧ Q .next ⟨(x, a) :: (y, b) :: σ1.m, σ1.Z, σ1.H⟩
theorem ts_tuple2s {x y : Str} {px py tpos pos : Pos} {k} {value : PySem.Expr} {Q : Flow → St → Prop} (hx : Bnd c n sc cmp x) (hy : Bnd c n sc cmp y)
    (h : TE c n sc cmp value (kT2s x y Q) σ)
    (hs : ∀ L cl q f cd fr, swapsWithSole [.Tuple [.Name x px, .Name y py] k tpos] value pos.line (mkE sc L cl q f cd fr) = pure false := by intros; rfl)
    (hw : ∀ L cl q f cd fr, swappedStores [.Tuple [.Name x px, .Name y py] k tpos] value (mkE sc L cl q f cd fr) = pure (some [x, y]) := by intros; rfl) :
    TS c n sc cmp (.Assign [.Tuple [.Name x px, .Name y py] k tpos] value pos) Q σ := by
  unfold kT2s TS TE at *
  intro L cl q f cd fr A B s₀ s ok rm b X
  refine Assign_Tuple_swapped (names := [x, y]) (h.use ok rm b X fun v σ1 s1 y1 z1 => ?_) (hs _ _ _ _ _ _) (hw _ _ _ _ _ _)
  refine ex3e y1 fun t a b' h9x => ?_
  refine and3e h9x fun e ot hq => ?_
  try clear h9x y1
  rw [er_ref_inv e]
  refine hide fun G9 hG9 => ?_
  refine ex2e (ot.rep z1) fun items kk h9x => ?_
  refine and2e h9x fun hT e2 => ?_
  try clear h9x
  refine ex2e (map_two e2) fun u w h9x => ?_
  refine and3e h9x fun e9c e3 e4 => ?_
  try clear h9x
  obtain rfl := e9c
  refine hG9 ?_; clear hG9 G9
  refine wpAny_unpackItems_tuple (items := #[u, w]) rm.1 (⟨_, and3i hT rfl ⟨_, rfl⟩⟩) fun h3 he3 => ?_
  have X' : Rel c sc cmp L cl s₀ B σ1 { s1 with heap := h3 } := z1.keeps (tk := s1.toks) fun b o e => he3 b o (Nat.ne_of_lt (Heap.lt_size e)) e
  show wpAny c.M A (assignInOrder [bindName (mkE sc L cl q f cd fr) y, bindName (mkE sc L cl q f cd fr) x] [w, u]) _ _ _
  refine wpAny_assignInOrder_more (wpAny_bindName (wpAny_mono (bind_two hy hx ok rm b X' e4 e3 (R := fun _ s' => ∃ σ', Q .next σ' ∧ Rel c sc cmp L cl s₀ B σ' s') fun s' X2 => ⟨_, hq, X2⟩) (fun _ s2 h2 => ?_) fun _ _ e => e))
  exact wpAny_assignInOrder_more (wpAny_bindName (wpAny_mono h2 (fun _ s3 h3 => wpAny_assignInOrder_none h3) fun _ _ e => e))

noncomputable abbrev kT3s (x y z : Str) (Q : Flow → St → Prop) : Value → St → Prop := fun v σ1 => ∃ t a b d, v = .ref t ∧ Ob σ1 t (.tup [a, b, d]) ∧ Q .next ⟨(x, a) :: (y, b) :: (z, d) :: σ1.m, σ1.Z, σ1.H⟩
theorem ts_tuple3s {x y z : Str} {px py pz tpos pos : Pos} {k} {value : PySem.Expr} {Q : Flow → St → Prop} (hx : Bnd c n sc cmp x) (hy : Bnd c n sc cmp y) (hz : Bnd c n sc cmp z)
    (h : TE c n sc cmp value (kT3s x y z Q) σ)
    (hs : ∀ L cl q f cd fr, swapsWithSole [.Tuple [.Name x px, .Name y py, .Name z pz] k tpos] value pos.line (mkE sc L cl q f cd fr) = pure false := by intros; rfl)
    (hw : ∀ L cl q f cd fr, swappedStores [.Tuple [.Name x px, .Name y py, .Name z pz] k tpos] value (mkE sc L cl q f cd fr) = pure (some [x, y, z]) := by intros; rfl) :
    TS c n sc cmp (.Assign [.Tuple [.Name x px, .Name y py, .Name z pz] k tpos] value pos) Q σ := by
  unfold kT3s TS TE at *
  intro L cl q f cd fr A B s₀ s ok rm b X
  refine Assign_Tuple_swapped (names := [x, y, z]) (h.use ok rm b X fun v σ1 s1 y1 z1 => ?_) (hs _ _ _ _ _ _) (hw _ _ _ _ _ _)
  refine ex4e y1 fun t a b' d h9x => ?_
  refine and3e h9x fun e ot hq => ?_
  try clear h9x y1
  rw [er_ref_inv e]
  refine hide fun G9 hG9 => ?_
  refine ex2e (ot.rep z1) fun items kk h9x => ?_
  refine and2e h9x fun hT e2 => ?_
  try clear h9x
  refine ex3e (map_three e2) fun u w o h9x => ?_
  refine and4e h9x fun e9d e3 e4 e5 => ?_
  try clear h9x
  obtain rfl := e9d
  refine hG9 ?_; clear hG9 G9
  refine wpAny_unpackItems_tuple (items := #[u, w, o]) rm.1 (⟨_, and3i hT rfl ⟨_, rfl⟩⟩) fun h3 he3 => ?_
  have X' : Rel c sc cmp L cl s₀ B σ1 { s1 with heap := h3 } := z1.keeps (tk := s1.toks) fun b o e => he3 b o (Nat.ne_of_lt (Heap.lt_size e)) e
  show wpAny c.M A (assignInOrder [bindName (mkE sc L cl q f cd fr) z, bindName (mkE sc L cl q f cd fr) y, bindName (mkE sc L cl q f cd fr) x] [o, w, u]) _ _ _
  refine wpAny_assignInOrder_more (wpAny_bindName (store_off (own := []) hz ok rm b X' (fun _ h => nomatch h) e5 fun s2 X2 _ => ?_))
  refine wpAny_assignInOrder_more (wpAny_bindName (store_off (own := []) hy ok rm b X2 (fun _ h => nomatch h) e4 fun s3 X3 _ => ?_))
  exact wpAny_assignInOrder_more (wpAny_bindName (store_off (own := []) hx ok rm b X3 (fun _ h => nomatch h) e3 fun s4 X4 _ => wpAny_assignInOrder_none ⟨_, hq, X4⟩))
end

-- W1k
noncomputable def fnIn : List Stmt → Str → Option (List Stmt × Scope)
  | [], _ => none
  | .FunctionDef nm _ b _ _ _ sc _ _ _ :: r, x => if nm = x then some (b, sc) else fnIn r x
  | _ :: r, x => fnIn r x
noncomputable def clsIn : List Stmt → Str → List Stmt
  | [], _ => []
  | .ClassDef nm _ _ b _ _ _ _ _ _ _ :: r, x => if nm = x then b else clsIn r x
  | _ :: r, x => clsIn r x
noncomputable abbrev topB : List Stmt := PySem.Challenge.rw_sf0013_01.row.prog.main.body
noncomputable def d119 : { b : List Stmt × Scope // fnIn topB "live_block" = some b } := ⟨_, rfl⟩
noncomputable def d126 : { b : List Stmt × Scope // fnIn topB "live_expr" = some b } := ⟨_, rfl⟩
noncomputable def d133 : { b : List Stmt × Scope // fnIn topB "live_statement" = some b } := ⟨_, rfl⟩
noncomputable def d162 : { b : List Stmt × Scope // fnIn topB "number_of" = some b } := ⟨_, rfl⟩
noncomputable def d170 : { b : List Stmt × Scope // fnIn topB "name_of" = some b } := ⟨_, rfl⟩
noncomputable def d178 : { b : List Stmt × Scope // fnIn topB "call_of" = some b } := ⟨_, rfl⟩
noncomputable def d186 : { b : List Stmt × Scope // fnIn topB "let_of" = some b } := ⟨_, rfl⟩
noncomputable def d194 : { b : List Stmt × Scope // fnIn topB "assign_of" = some b } := ⟨_, rfl⟩
noncomputable def d202 : { b : List Stmt × Scope // fnIn topB "expr_of" = some b } := ⟨_, rfl⟩
noncomputable def d210 : { b : List Stmt × Scope // fnIn topB "block_of" = some b } := ⟨_, rfl⟩
noncomputable def d218 : { b : List Stmt × Scope // fnIn topB "if_of" = some b } := ⟨_, rfl⟩
noncomputable def d226 : { b : List Stmt × Scope // fnIn topB "case_of" = some b } := ⟨_, rfl⟩
noncomputable def d232 : { b : List Stmt × Scope // fnIn topB "switch_of" = some b } := ⟨_, rfl⟩
noncomputable def d240 : { b : List Stmt × Scope // fnIn topB "for_of" = some b } := ⟨_, rfl⟩
noncomputable def d247 : { b : List Stmt × Scope // fnIn topB "_law_draw" = some b } := ⟨_, rfl⟩
noncomputable def d254 : { b : List Stmt × Scope // fnIn topB "_law_twig" = some b } := ⟨_, rfl⟩
noncomputable def d259 : { b : List Stmt × Scope // fnIn topB "_law_every" = some b } := ⟨_, rfl⟩
noncomputable def d266 : { b : List Stmt × Scope // fnIn topB "_law_let" = some b } := ⟨_, rfl⟩
noncomputable def d273 : { b : List Stmt × Scope // fnIn topB "_law_stat" = some b } := ⟨_, rfl⟩
noncomputable def d278 : { b : List Stmt × Scope // fnIn topB "_law_block" = some b } := ⟨_, rfl⟩
noncomputable def d283 : { b : List Stmt × Scope // fnIn topB "_law_stood" = some b } := ⟨_, rfl⟩
noncomputable def d288 : { b : List Stmt × Scope // fnIn topB "_law_rows" = some b } := ⟨_, rfl⟩
noncomputable def d293 : { b : List Stmt × Scope // fnIn topB "_law_inner" = some b } := ⟨_, rfl⟩
noncomputable def d298 : { b : List Stmt × Scope // fnIn topB "_law_is_sound" = some b } := ⟨_, rfl⟩
noncomputable def d305 : { b : List Stmt × Scope // fnIn topB "_law_let_go" = some b } := ⟨_, rfl⟩
noncomputable def d310 : { b : List Stmt × Scope // fnIn topB "_law_given" = some b } := ⟨_, rfl⟩
noncomputable def d315 : { b : List Stmt × Scope // fnIn topB "_law_placed" = some b } := ⟨_, rfl⟩
noncomputable def d322 : { b : List Stmt × Scope // fnIn topB "_law_value" = some b } := ⟨_, rfl⟩
noncomputable def d329 : { b : List Stmt × Scope // fnIn topB "_law_set" = some b } := ⟨_, rfl⟩
noncomputable def d336 : { b : List Stmt × Scope // fnIn topB "_law_done" = some b } := ⟨_, rfl⟩
noncomputable def d341 : { b : List Stmt × Scope // fnIn topB "law" = some b } := ⟨_, rfl⟩
noncomputable def d28 : { b : List Stmt × Scope // fnIn (clsIn topB "Layout") "__init__" = some b } := ⟨_, rfl⟩
noncomputable def d35 : { b : List Stmt × Scope // fnIn (clsIn topB "Layout") "distance" = some b } := ⟨_, rfl⟩
noncomputable def d42 : { b : List Stmt × Scope // fnIn (clsIn topB "Layout") "release" = some b } := ⟨_, rfl⟩
noncomputable def d49 : { b : List Stmt × Scope // fnIn (clsIn topB "Layout") "room" = some b } := ⟨_, rfl⟩
noncomputable def d56 : { b : List Stmt × Scope // fnIn (clsIn topB "Layout") "take" = some b } := ⟨_, rfl⟩
noncomputable def d63 : { b : List Stmt × Scope // fnIn (clsIn topB "Layout") "keep" = some b } := ⟨_, rfl⟩
noncomputable def d84 : { b : List Stmt × Scope // fnIn (clsIn topB "Lives") "__init__" = some b } := ⟨_, rfl⟩
noncomputable def d91 : { b : List Stmt × Scope // fnIn (clsIn topB "Lives") "mention" = some b } := ⟨_, rfl⟩
noncomputable def d98 : { b : List Stmt × Scope // fnIn (clsIn topB "Lives") "tell" = some b } := ⟨_, rfl⟩
noncomputable def d105 : { b : List Stmt × Scope // fnIn (clsIn topB "Lives") "close" = some b } := ⟨_, rfl⟩
noncomputable def d147 : { b : List Stmt × Scope // fnIn (clsIn topB "Yul") "__init__" = some b } := ⟨_, rfl⟩
noncomputable def gtab : List (Str × Option Value) := [(("live_block" : Str), some (.ref 119)), (("live_expr" : Str), some (.ref 126)), (("live_statement" : Str), some (.ref 133)), (("number_of" : Str), some (.ref 162)), (("name_of" : Str), some (.ref 170)), (("call_of" : Str), some (.ref 178)), (("let_of" : Str), some (.ref 186)), (("assign_of" : Str), some (.ref 194)), (("expr_of" : Str), some (.ref 202)), (("block_of" : Str), some (.ref 210)), (("if_of" : Str), some (.ref 218)), (("case_of" : Str), some (.ref 226)), (("switch_of" : Str), some (.ref 232)), (("for_of" : Str), some (.ref 240)), (("_law_draw" : Str), some (.ref 247)), (("_law_twig" : Str), some (.ref 254)), (("_law_every" : Str), some (.ref 259)), (("_law_let" : Str), some (.ref 266)), (("_law_stat" : Str), some (.ref 273)), (("_law_block" : Str), some (.ref 278)), (("_law_stood" : Str), some (.ref 283)), (("_law_rows" : Str), some (.ref 288)), (("_law_inner" : Str), some (.ref 293)), (("_law_is_sound" : Str), some (.ref 298)), (("_law_let_go" : Str), some (.ref 305)), (("_law_given" : Str), some (.ref 310)), (("_law_placed" : Str), some (.ref 315)), (("_law_value" : Str), some (.ref 322)), (("_law_set" : Str), some (.ref 329)), (("_law_done" : Str), some (.ref 336)), (("Layout" : Str), some (.ref 66)), (("Lives" : Str), some (.ref 108)), (("Yul" : Str), some (.ref 150)), (("_law_reach" : Str), some (vI 16)), (("MOST_REACH" : Str), some (vI 16)), (("BACK" : Str), some (vS "<back>")), (("len" : Str), none), (("range" : Str), none), (("enumerate" : Str), none), (("list" : Str), none), (("min" : Str), none), (("sorted" : Str), none), (("dict" : Str), none), (("int" : Str), none), (("abs" : Str), none), (("str" : Str), none)]
noncomputable def GAll (K : Frag) : List (Str × Option Value) → Prop
  | [] => True
  | (x, some v) :: r => (∃ u, nsIn K mainGlobals x = some (some u) ∧ er u = v) ∧ GAll K r
  | (x, none) :: r => nsIn K mainGlobals x = some none ∧ GAll K r
theorem GAll.got {K : Frag} {x : Str} {v : Value} : ∀ {l}, GAll K l → l.lookup x = some (some v) → ∃ u, nsIn K mainGlobals x = some (some u) ∧ er u = v
  | (y, o) :: r, h, e => by
    rw [List.lookup_cons] at e
    cases q : x == y with
    | true =>
      rw [q] at e; cases e
      rw [beq_iff_eq.mp q]; exact h.1
    | false =>
      rw [q] at e
      cases o with
      | some _ => exact GAll.got h.2 e
      | none => exact GAll.got h.2 e
theorem GAll.free {K : Frag} {x : Str} : ∀ {l}, GAll K l → l.lookup x = some none → nsIn K mainGlobals x = some none
  | (y, o) :: r, h, e => by
    rw [List.lookup_cons] at e
    cases q : x == y with
    | true =>
      rw [q] at e; cases e
      rw [beq_iff_eq.mp q]; exact h.1
    | false =>
      rw [q] at e
      cases o with
      | some _ => exact GAll.free h.2 e
      | none => exact GAll.free h.2 e
noncomputable def mtab : List ((Addr × Str) × Addr) := [(((66 : Addr), ("__init__" : Str)), (28 : Addr)), (((66 : Addr), ("distance" : Str)), (35 : Addr)), (((66 : Addr), ("release" : Str)), (42 : Addr)), (((66 : Addr), ("room" : Str)), (49 : Addr)), (((66 : Addr), ("take" : Str)), (56 : Addr)), (((66 : Addr), ("keep" : Str)), (63 : Addr)), (((108 : Addr), ("__init__" : Str)), (84 : Addr)), (((108 : Addr), ("mention" : Str)), (91 : Addr)), (((108 : Addr), ("tell" : Str)), (98 : Addr)), (((108 : Addr), ("close" : Str)), (105 : Addr)), (((150 : Addr), ("__init__" : Str)), (147 : Addr))]
noncomputable def MAll (K : Frag) : List ((Addr × Str) × Addr) → Prop
  | [] => True
  | ((C, x), f) :: r => (findIn K (.ref C) x = some (some (.ref f)) ∧ isFn K (.ref f) = true ∧ typeIn K (.ref f) = some (.type "function")) ∧ MAll K r
theorem MAll.get {K : Frag} {C : Addr} {x : Str} {f : Addr} : ∀ {l}, MAll K l → l.lookup (C, x) = some f → findIn K (.ref C) x = some (some (.ref f)) ∧ isFn K (.ref f) = true ∧ typeIn K (.ref f) = some (.type "function")
  | ((D, y), g) :: r, h, e => by
    rw [List.lookup_cons] at e
    cases q : (C, x) == (D, y) with
    | true =>
      rw [q] at e; cases e
      have := beq_iff_eq.mp q
      cases this
      exact h.1
    | false => rw [q] at e; exact MAll.get h.2 e
noncomputable def ktab : List Addr := [28, 35, 42, 49, 56, 63, 66, 84, 91, 98, 105, 108, 119, 126, 133, 147, 150, 162, 170, 178, 186, 194, 202, 210, 218, 226, 232, 240, 247, 254, 259, 266, 273, 278, 283, 288, 293, 298, 305, 310, 315, 322, 329, 336]
noncomputable def KAll (K : Frag) : List Addr → Prop
  | [] => True
  | a :: r => keepIn K (.ref a) = true ∧ KAll K r
theorem KAll.get {K : Frag} {a : Addr} : ∀ {l}, KAll K l → l.elem a = true → keepIn K (.ref a) = true
  | b :: r, h, e => by
    rw [List.elem_cons] at e
    cases q : a == b with
    | true => rw [beq_iff_eq.mp q]; exact h.1
    | false => rw [q] at e; exact KAll.get h.2 e
noncomputable def All2 (p : Str → Prop) : List Str → Prop
  | [] => True
  | x :: r => p x ∧ All2 p r
theorem All2.get {p : Str → Prop} : ∀ {l : List Str}, All2 p l → ∀ x ∈ l, p x
  | _ :: _, h, _, .head _ => h.1
  | _ :: _, h, _, .tail _ m => h.2.get _ m
noncomputable def FOk (K : Params → Frag) (f : Addr) (ps : List Str) (k : Nat) (dfl : List Value) (b : List Stmt × Scope) : Prop := ∀ (c : Cx) (P : Params), c.K = K P → IsFn c f ps k dfl b.1 b.2
noncomputable def COk (K : Params → Frag) (f : Addr) (l : List Str) : Prop := ∀ (c : Cx) (P : Params), c.K = K P → IsCls c f l
noncomputable def BX (ps : List Str) (dfl : List Value) (s : Shared) (fx : FuncData) (vs : List Value) : Prop := ∃ binds, BindsTo s fx ⟨vs, []⟩ binds ∧ binds.map (fun p => (p.1, er p.2)) = ps.zip (vs.map er ++ dfl)
theorem BX.eq {ps : List Str} {dfl : List Value} {s : Shared} {fx : FuncData} {vs : List Value} {binds : List (Str × Value)} (h : bindArgs fx ⟨vs, []⟩ = pure binds) (e : binds.map (fun p => (p.1, er p.2)) = ps.zip (vs.map er ++ dfl)) : BX ps dfl s fx vs := ⟨binds, .of_eq h, e⟩
theorem BX.K {K : Frag} {ps : List Str} {dfl : List Value} {s : Shared} {fx : FuncData} {vs : List Value} {binds : List (Str × Value)} {T : Addr} {o : Obj} {items : Array Value} {n : Nat} {k : Option (Array Value) → Sem (List (Str × Value))}
    (X : K.In s.heap) (hd : fx.defaults = .ref T) (ho : K.lookup T = some o) (hs : o.data = .seq items n) (h₁ : bindArgs fx ⟨vs, []⟩ = seqItems? fx.defaults >>= k) (h₂ : k (some items) = pure binds)
    (e : binds.map (fun p => (p.1, er p.2)) = ps.zip (vs.map er ++ dfl)) : BX ps dfl s fx vs := ⟨binds, binds_K X hd ho hs h₁ h₂, e⟩
theorem FOk.of {K : Params → Frag} {f : Addr} {ps : List Str} {k : Nat} {dfl : List Value} {b : List Stmt × Scope} {oc od osl name qual params dV kV doc pm an cdv ct}
    (e1 : ∀ P, (K P).lookup f = some ⟨oc, od, .func (fnX name qual params b.1 b.2 [] dV kV doc pm an cdv ct), osl⟩) (e2 : ∀ P, codeIn (K P) cdv qual = true)
    (e3 : ∀ P s, (K P).In s.heap → ∀ vs, vs.length = k → BX ps dfl s (fnX name qual params b.1 b.2 [] dV kV doc pm an cdv ct) vs)
    (kind : b.2.kind = .function) (co : b.2.isCoroutine = false) (gen : b.2.isGenerator = false) (nd : ps.Nodup)
    (loc : ps.all (fun x => b.2.names.lookup x == some .local || b.2.names.lookup x == some .cell) = true)
    (cnd : ((cellsFrom 0 b.2.names []).map (·.1)).Nodup) : FOk K f ps k dfl b := by
  intro c P h
  exact ⟨(ex13i oc od osl name qual params dV kV doc pm an cdv ct (and3i (by rw [h]; exact e1 P) (by rw [h]; exact e2 P) (fun s vs X hl => e3 P s (by rw [h] at X; exact X) vs hl))), kind, co, gen, nd, loc, cnd⟩
theorem COk.of {K : Params → Frag} {C : Addr} {flds : List Str} (h1 : ∀ P, plainGet (K P) C Str.empty = true) (h2 : ∀ P, hasDictIn (K P) C = true)
    (h3 : ∀ P, findIn (K P) (.ref C) "__setattr__" = some (some (.builtin "object.__setattr__"))) (h4 : ∀ P, plainOver (K P) C = true) (h5 : ∀ P, makesIn (K P) C = true)
    (h6 : ∀ P, All2 (fun x => findIn (K P) (.ref C) x = some none ∧ takerIn (K P) C x = some none) flds) : COk K C flds := by
  intro c P h
  refine ⟨by rw [h]; exact h1 P, by rw [h]; exact h2 P, by rw [h]; exact h3 P, by rw [h]; exact h4 P, by rw [h]; exact h5 P, ?_⟩
  rw [h]; exact (h6 P).get
theorem lenZ {p : List Value → Prop} (h : p []) : ∀ vs, vs.length = 0 → p vs
  | [], _ => h
theorem lenS {n : Nat} {p : List Value → Prop} (h : ∀ v, ∀ vs, vs.length = n → p (v :: vs)) : ∀ vs, vs.length = n + 1 → p vs
  | v :: vs, e => h v vs (Nat.succ.inj e)
theorem len1 {p : List Value → Prop} (h : ∀ a, p [a]) : ∀ vs, vs.length = 1 → p vs := lenS fun a => lenZ (h a)
theorem len2 {p : List Value → Prop} (h : ∀ a b, p [a, b]) : ∀ vs, vs.length = 2 → p vs := lenS fun a => lenS fun b => lenZ (h a b)
theorem len3 {p : List Value → Prop} (h : ∀ a b c, p [a, b, c]) : ∀ vs, vs.length = 3 → p vs := lenS fun a => lenS fun b => lenS fun c => lenZ (h a b c)
theorem len4 {p : List Value → Prop} (h : ∀ a b c d, p [a, b, c, d]) : ∀ vs, vs.length = 4 → p vs := lenS fun a => lenS fun b => lenS fun c => lenS fun d => lenZ (h a b c d)
theorem len6 {p : List Value → Prop} (h : ∀ a b c d e f, p [a, b, c, d, e, f]) : ∀ vs, vs.length = 6 → p vs := lenS fun a => lenS fun b => lenS fun c => lenS fun d => lenS fun e => lenS fun f => lenZ (h a b c d e f)
noncomputable def KF (K : Params → Frag) : Prop :=
  (∀ P, GAll (K P) gtab) ∧
  (∀ P, MAll (K P) mtab) ∧
  (∀ P, KAll (K P) ktab) ∧
  COk K 66 ["slots", "where", "free", "temps", "floor"] ∧
  COk K 108 ["home", "path", "told", "last"] ∧
  COk K 150 ["kind", "name", "value", "kids", "line"] ∧
  FOk K 119 [("lives" : Str), ("block" : Str)] 2 [] d119.1 ∧
  FOk K 126 [("lives" : Str), ("tree" : Str)] 2 [] d126.1 ∧
  FOk K 133 [("lives" : Str), ("tree" : Str)] 2 [] d133.1 ∧
  FOk K 162 [("value" : Str), ("line" : Str)] 1 [vI 0] d162.1 ∧
  FOk K 170 [("name" : Str), ("line" : Str)] 1 [vI 0] d170.1 ∧
  FOk K 178 [("name" : Str), ("kids" : Str), ("line" : Str)] 2 [vI 0] d178.1 ∧
  FOk K 186 [("names" : Str), ("value" : Str), ("line" : Str)] 2 [vI 0] d186.1 ∧
  FOk K 194 [("names" : Str), ("value" : Str), ("line" : Str)] 2 [vI 0] d194.1 ∧
  FOk K 202 [("call" : Str), ("line" : Str)] 1 [vI 0] d202.1 ∧
  FOk K 210 [("kids" : Str), ("line" : Str)] 1 [vI 0] d210.1 ∧
  FOk K 218 [("condition" : Str), ("block" : Str), ("line" : Str)] 2 [vI 0] d218.1 ∧
  FOk K 226 [("value" : Str), ("block" : Str), ("line" : Str)] 2 [vI 0] d226.1 ∧
  FOk K 226 [("value" : Str), ("block" : Str), ("line" : Str)] 3 [] d226.1 ∧
  FOk K 232 [("value" : Str), ("rows" : Str), ("line" : Str)] 2 [vI 0] d232.1 ∧
  FOk K 240 [("ahead" : Str), ("condition" : Str), ("behind" : Str), ("body" : Str), ("line" : Str)] 4 [vI 0] d240.1 ∧
  FOk K 247 [("well" : Str), ("many" : Str)] 2 [] d247.1 ∧
  FOk K 254 [("well" : Str), ("seen" : Str), ("deep" : Str)] 3 [] d254.1 ∧
  FOk K 259 [("seen" : Str)] 1 [] d259.1 ∧
  FOk K 266 [("well" : Str), ("house" : Str), ("seen" : Str)] 3 [] d266.1 ∧
  FOk K 273 [("well" : Str), ("house" : Str), ("seen" : Str), ("deep" : Str)] 4 [] d273.1 ∧
  FOk K 278 [("well" : Str), ("house" : Str), ("seen" : Str), ("deep" : Str)] 4 [] d278.1 ∧
  FOk K 283 [("tree" : Str), ("due" : Str)] 2 [] d283.1 ∧
  FOk K 288 [("block" : Str), ("due" : Str)] 2 [] d288.1 ∧
  FOk K 293 [("stat" : Str)] 1 [] d293.1 ∧
  FOk K 298 [("plan" : Str)] 1 [] d298.1 ∧
  FOk K 305 [("plan" : Str), ("ended" : Str)] 2 [] d305.1 ∧
  FOk K 310 [("plan" : Str), ("fresh" : Str)] 2 [] d310.1 ∧
  FOk K 315 [("plan" : Str), ("block" : Str), ("dying" : Str)] 3 [] d315.1 ∧
  FOk K 322 [("trip" : Str), ("tree" : Str)] 2 [] d322.1 ∧
  FOk K 329 [("trip" : Str), ("goals" : Str), ("word" : Str)] 3 [] d329.1 ∧
  FOk K 336 [("trip" : Str), ("block" : Str)] 2 [] d336.1 ∧
  FOk K 341 [("script" : Str)] 1 [] d341.1 ∧
  FOk K 28 [("self" : Str), ("slots" : Str)] 2 [] d28.1 ∧
  FOk K 35 [("self" : Str), ("at" : Str)] 2 [] d35.1 ∧
  FOk K 42 [("self" : Str), ("name" : Str)] 2 [] d42.1 ∧
  FOk K 49 [("self" : Str)] 1 [] d49.1 ∧
  FOk K 56 [("self" : Str), ("at" : Str), ("name" : Str)] 3 [] d56.1 ∧
  FOk K 63 [("self" : Str), ("name" : Str)] 2 [] d63.1 ∧
  FOk K 84 [("self" : Str)] 1 [] d84.1 ∧
  FOk K 91 [("self" : Str), ("name" : Str)] 2 [] d91.1 ∧
  FOk K 98 [("self" : Str), ("name" : Str)] 2 [] d98.1 ∧
  FOk K 105 [("self" : Str), ("mark" : Str)] 2 [] d105.1 ∧
  FOk K 147 [("self" : Str), ("kind" : Str), ("name" : Str), ("value" : Str), ("kids" : Str), ("line" : Str)] 6 [] d147.1
theorem gm_append {c n sc cmp} {σ : St} {a : Addr} {vs : List Value} {Q : Value → List Value → St → Prop} (ha : Ob σ a (.list vs)) (h : Q (.builtin "list.append") [.ref a] σ) : GM c n sc cmp (.ref a) "append" Q σ := gm_list ha PySem.F.slot_list_append (by kernel_rfl) h
theorem gm_extend {c n sc cmp} {σ : St} {a : Addr} {vs : List Value} {Q : Value → List Value → St → Prop} (ha : Ob σ a (.list vs)) (h : Q (.builtin "list.extend") [.ref a] σ) : GM c n sc cmp (.ref a) "extend" Q σ := gm_list ha PySem.F.slot_list_extend (by kernel_rfl) h
theorem gm_pop {c n sc cmp} {σ : St} {a : Addr} {vs : List Value} {Q : Value → List Value → St → Prop} (ha : Ob σ a (.list vs)) (h : Q (.builtin "list.pop") [.ref a] σ) : GM c n sc cmp (.ref a) "pop" Q σ := gm_list ha PySem.F.slot_list_pop (by kernel_rfl) h
theorem gm_remove {c n sc cmp} {σ : St} {a : Addr} {vs : List Value} {Q : Value → List Value → St → Prop} (ha : Ob σ a (.list vs)) (h : Q (.builtin "list.remove") [.ref a] σ) : GM c n sc cmp (.ref a) "remove" Q σ := gm_list ha PySem.F.slot_list_remove (by kernel_rfl) h
theorem gm_get {c n sc cmp} {σ : St} {a : Addr} {k : Nat} {f : Str → Option Value} {Q : Value → List Value → St → Prop} (ha : Ob σ a (.dict k f)) (h : Q (.builtin "dict.get") [.ref a] σ) : GM c n sc cmp (.ref a) "get" Q σ := gm_dict ha PySem.F.slot_dict_get (by kernel_rfl) h
theorem gm_geti {c n sc cmp} {σ : St} {a : Addr} {k : Nat} {f : Int → Option Value} {Q : Value → List Value → St → Prop} (ha : Ob σ a (.dicti k f)) (h : Q (.builtin "dict.get") [.ref a] σ) : GM c n sc cmp (.ref a) "get" Q σ := gm_dicti ha PySem.F.slot_dict_get (by kernel_rfl) h
theorem gm_dpop {c n sc cmp} {σ : St} {a : Addr} {k : Nat} {f : Str → Option Value} {Q : Value → List Value → St → Prop} (ha : Ob σ a (.dict k f)) (h : Q (.builtin "dict.pop") [.ref a] σ) : GM c n sc cmp (.ref a) "pop" Q σ := gm_dict ha PySem.F.slot_dict_pop (by kernel_rfl) h
theorem gm_setd {c n sc cmp} {σ : St} {a : Addr} {k : Nat} {f : Int → Option Value} {Q : Value → List Value → St → Prop} (ha : Ob σ a (.dicti k f)) (h : Q (.builtin "dict.setdefault") [.ref a] σ) : GM c n sc cmp (.ref a) "setdefault" Q σ := gm_dicti ha PySem.F.slot_dict_setdefault (by kernel_rfl) h
structure Ev where
  prog : Program
  w : World
  P : Params
  h0 : Heap
  p : Program
  loose : List Str
  mg : Str → Option Value
  mb : Str → Option Value
  K : Params → Frag
  kf : KF K
noncomputable abbrev Ev.c (e : Ev) : Cx := ⟨e.prog, e.w, e.K e.P, e.h0, e.p, e.loose, e.mg, e.mb⟩
theorem cls_layout (e : Ev) : IsCls e.c 66 ["slots", "where", "free", "temps", "floor"] := e.kf.2.2.2.1 e.c e.P rfl
theorem cls_lives (e : Ev) : IsCls e.c 108 ["home", "path", "told", "last"] := e.kf.2.2.2.2.1 e.c e.P rfl
theorem cls_yul (e : Ev) : IsCls e.c 150 ["kind", "name", "value", "kids", "line"] := e.kf.2.2.2.2.2.1 e.c e.P rfl
theorem Ev.keep (e : Ev) {a : Addr} (h : ktab.elem a = true) : keepIn e.c.K (.ref a) = true := (e.kf.2.2.1 e.P).get h
theorem Ev.meth1 (e : Ev) {C f : Addr} {x : Str} (h : mtab.lookup (C, x) = some f) : findIn e.c.K (.ref C) x = some (some (.ref f)) := ((e.kf.2.1 e.P).get h).1
theorem Ev.meth2 (e : Ev) {C f : Addr} (x : Str) (h : mtab.lookup (C, x) = some f) : isFn e.c.K (.ref f) = true := ((e.kf.2.1 e.P).get h).2.1
theorem Ev.meth3 (e : Ev) {C f : Addr} (x : Str) (h : mtab.lookup (C, x) = some f) : typeIn e.c.K (.ref f) = some (.type "function") := ((e.kf.2.1 e.P).get h).2.2
section
variable {e : Ev} {n : Nat} {sc : Scope} {cmp : Bool} {σ : St}
theorem ca_ref {a : Addr} {args : List PySem.Expr} {Q : Value → St → Prop} (hk : ktab.elem a = true) (h : TL e.c n sc cmp args (kBc e.c n sc cmp (.ref a) Q) σ) : kCa e.c n sc cmp args Q (.ref a) σ := (and3i (.inl (Ev.keep _ hk)) (fun _ h => er_ref_inv h) h)
theorem ca_blt {i : String} {args : List PySem.Expr} {Q : Value → St → Prop} (h : TL e.c n sc cmp args (kBc e.c n sc cmp (.builtin i) Q) σ) : kCa e.c n sc cmp args Q (.builtin i) σ := (and3i (.inr (.inl ⟨_, rfl⟩)) (fun _ h => er_builtin_inv h) h)
theorem ca_typ {i : String} {args : List PySem.Expr} {Q : Value → St → Prop} (h : TL e.c n sc cmp args (kBc e.c n sc cmp (.type i) Q) σ) : kCa e.c n sc cmp args Q (.type i) σ := (and3i (.inr (.inr ⟨_, rfl⟩)) (fun _ h => er_type_inv h) h)
theorem mt_ref {a : Addr} {first : List Value} {args : List PySem.Expr} {Q : Value → St → Prop} (hk : ktab.elem a = true) (h : TL e.c n sc cmp args (kMt3 e.c n sc cmp (.ref a) first Q) σ) : kMt2 e.c n sc cmp args Q (.ref a) first σ := ⟨.inl (Ev.keep _ hk), h⟩
theorem mt_blt {i : String} {first : List Value} {args : List PySem.Expr} {Q : Value → St → Prop} (h : TL e.c n sc cmp args (kMt3 e.c n sc cmp (.builtin i) first Q) σ) : kMt2 e.c n sc cmp args Q (.builtin i) first σ := ⟨.inr (.inl ⟨_, rfl⟩), h⟩
theorem te_glob {x pos} {v : Value} {Q : Value → St → Prop} (hv : gtab.lookup x = some (some v)) (hk : sc.kind = .function) (hx : sc.names.lookup x = some .globalImplicit) (h : Q v σ) (hd : (x == ("__debug__" : Str)) = false := by decide) : TE e.c n sc cmp (.Name x pos) Q σ := by
  refine ex1e ((e.kf.1 e.P).got hv) fun u h9x => ?_
  refine and2e h9x fun h1 h2 => ?_
  try clear h9x
  subst h2
  exact te_global h1 hk hx h hd
theorem te_blt {x pos} {v : Value} {Q : Value → St → Prop} (hv : gtab.lookup x = some none) (hb : bootBuiltins x = some v) (hn : x ≠ "__name__") (hk : sc.kind = .function) (hx : sc.names.lookup x = some .globalImplicit) (h : Q (er v) σ) (hd : (x == ("__debug__" : Str)) = false := by decide) : TE e.c n sc cmp (.Name x pos) Q σ :=
  te_builtin ((e.kf.1 e.P).free hv) hb hn hk hx h hd
noncomputable def nbV : Value → Bool | .builtin _ => false | _ => true
theorem nbV.ne {v : Value} (h : nbV v = true) : ∀ i, v ≠ .builtin i := fun i e => by rw [e] at h; cases h
noncomputable def fldsOf (C : Addr) : List Str := if C = 66 then ["slots", "where", "free", "temps", "floor"] else if C = 108 then ["home", "path", "told", "last"] else ["kind", "name", "value", "kids", "line"]
noncomputable def okC (C : Addr) : Bool := C == 66 || C == 108 || C == 150
theorem cls_of (e : Ev) {C : Addr} (h : okC C = true) : IsCls e.c C (fldsOf C) := by
  rcases Bool.or_eq_true_iff.mp h with h | h
  · rcases Bool.or_eq_true_iff.mp h with h | h
    · rw [eq_of_beq h]; exact cls_layout e
    · rw [eq_of_beq h]; exact cls_lives e
  · rw [eq_of_beq h]; exact cls_yul e
theorem ga_any {a C dx : Addr} {kvs : List (Str × Value)} {name : Str} {v : Value} {Q : Value → St → Prop} (ha : Ob σ a (.inst C dx)) (hd : Ob σ dx (.attrs kvs)) (h : Q v σ)
    (hc : okC C = true := by rfl) (hn : (fldsOf C).elem name = true := by rfl) (hv : kvs.lookup name = some v := by rfl) (hb : nbV v = true := by rfl) : GA e.c n sc cmp (.ref a) name Q σ :=
  ga_own (cls_of e hc) ha hd (List.elem_iff.mp hn) hv (nbV.ne hb) h
theorem gm_meth {a C dx f : Addr} {kvs : List (Str × Value)} {name : Str} {flds : List Str} {Q : Value → List Value → St → Prop} (P : IsCls e.c C flds) (ha : Ob σ a (.inst C dx)) (hd : Ob σ dx (.attrs kvs))
    (hf : mtab.lookup (C, name) = some f) (hv : kvs.lookup name = none) (h : Q (.ref f) [.ref a] σ) : GM e.c n sc cmp (.ref a) name Q σ := gm_own P ha hd (e.meth1 hf) (e.meth2 name hf) hv h
theorem gm_any {a C dx f : Addr} {kvs : List (Str × Value)} {name : Str} {Q : Value → List Value → St → Prop} (ha : Ob σ a (.inst C dx)) (hd : Ob σ dx (.attrs kvs)) (h : Q (.ref f) [.ref a] σ)
    (hc : okC C = true := by rfl) (hf : mtab.lookup (C, name) = some f := by rfl) (hv : kvs.lookup name = none := by rfl) : GM e.c n sc cmp (.ref a) name Q σ := gm_meth (cls_of e hc) ha hd hf hv h
end
theorem F_live_block {e : Ev} (h : 0 = 0) : IsFn e.c 119 [("lives" : Str), ("block" : Str)] 2 [] d119.1.1 d119.1.2 := e.kf.2.2.2.2.2.2.1 e.c e.P rfl
theorem F_live_expr {e : Ev} (h : 0 = 0) : IsFn e.c 126 [("lives" : Str), ("tree" : Str)] 2 [] d126.1.1 d126.1.2 := e.kf.2.2.2.2.2.2.2.1 e.c e.P rfl
theorem F_live_statement {e : Ev} (h : 0 = 0) : IsFn e.c 133 [("lives" : Str), ("tree" : Str)] 2 [] d133.1.1 d133.1.2 := e.kf.2.2.2.2.2.2.2.2.1 e.c e.P rfl
theorem F_number_of {e : Ev} (h : 0 = 0) : IsFn e.c 162 [("value" : Str), ("line" : Str)] 1 [vI 0] d162.1.1 d162.1.2 := e.kf.2.2.2.2.2.2.2.2.2.1 e.c e.P rfl
theorem F_name_of {e : Ev} (h : 0 = 0) : IsFn e.c 170 [("name" : Str), ("line" : Str)] 1 [vI 0] d170.1.1 d170.1.2 := e.kf.2.2.2.2.2.2.2.2.2.2.1 e.c e.P rfl
theorem F_call_of {e : Ev} (h : 0 = 0) : IsFn e.c 178 [("name" : Str), ("kids" : Str), ("line" : Str)] 2 [vI 0] d178.1.1 d178.1.2 := e.kf.2.2.2.2.2.2.2.2.2.2.2.1 e.c e.P rfl
theorem F_let_of {e : Ev} (h : 0 = 0) : IsFn e.c 186 [("names" : Str), ("value" : Str), ("line" : Str)] 2 [vI 0] d186.1.1 d186.1.2 := e.kf.2.2.2.2.2.2.2.2.2.2.2.2.1 e.c e.P rfl
theorem F_assign_of {e : Ev} (h : 0 = 0) : IsFn e.c 194 [("names" : Str), ("value" : Str), ("line" : Str)] 2 [vI 0] d194.1.1 d194.1.2 := e.kf.2.2.2.2.2.2.2.2.2.2.2.2.2.1 e.c e.P rfl
theorem F_expr_of {e : Ev} (h : 0 = 0) : IsFn e.c 202 [("call" : Str), ("line" : Str)] 1 [vI 0] d202.1.1 d202.1.2 := e.kf.2.2.2.2.2.2.2.2.2.2.2.2.2.2.1 e.c e.P rfl
theorem F_block_of {e : Ev} (h : 0 = 0) : IsFn e.c 210 [("kids" : Str), ("line" : Str)] 1 [vI 0] d210.1.1 d210.1.2 := e.kf.2.2.2.2.2.2.2.2.2.2.2.2.2.2.2.1 e.c e.P rfl
theorem F_if_of {e : Ev} (h : 0 = 0) : IsFn e.c 218 [("condition" : Str), ("block" : Str), ("line" : Str)] 2 [vI 0] d218.1.1 d218.1.2 := e.kf.2.2.2.2.2.2.2.2.2.2.2.2.2.2.2.2.1 e.c e.P rfl
theorem F_case_of3 {e : Ev} (h : 0 = 0) : IsFn e.c 226 [("value" : Str), ("block" : Str), ("line" : Str)] 3 [] d226.1.1 d226.1.2 := e.kf.2.2.2.2.2.2.2.2.2.2.2.2.2.2.2.2.2.2.1 e.c e.P rfl
theorem F_switch_of {e : Ev} (h : 0 = 0) : IsFn e.c 232 [("value" : Str), ("rows" : Str), ("line" : Str)] 2 [vI 0] d232.1.1 d232.1.2 := e.kf.2.2.2.2.2.2.2.2.2.2.2.2.2.2.2.2.2.2.2.1 e.c e.P rfl
theorem F_for_of {e : Ev} (h : 0 = 0) : IsFn e.c 240 [("ahead" : Str), ("condition" : Str), ("behind" : Str), ("body" : Str), ("line" : Str)] 4 [vI 0] d240.1.1 d240.1.2 := e.kf.2.2.2.2.2.2.2.2.2.2.2.2.2.2.2.2.2.2.2.2.1 e.c e.P rfl
theorem F_draw {e : Ev} (h : 0 = 0) : IsFn e.c 247 [("well" : Str), ("many" : Str)] 2 [] d247.1.1 d247.1.2 := e.kf.2.2.2.2.2.2.2.2.2.2.2.2.2.2.2.2.2.2.2.2.2.1 e.c e.P rfl
theorem F_twig {e : Ev} (h : 0 = 0) : IsFn e.c 254 [("well" : Str), ("seen" : Str), ("deep" : Str)] 3 [] d254.1.1 d254.1.2 := e.kf.2.2.2.2.2.2.2.2.2.2.2.2.2.2.2.2.2.2.2.2.2.2.1 e.c e.P rfl
theorem F_every {e : Ev} (h : 0 = 0) : IsFn e.c 259 [("seen" : Str)] 1 [] d259.1.1 d259.1.2 := e.kf.2.2.2.2.2.2.2.2.2.2.2.2.2.2.2.2.2.2.2.2.2.2.2.1 e.c e.P rfl
theorem F_let {e : Ev} (h : 0 = 0) : IsFn e.c 266 [("well" : Str), ("house" : Str), ("seen" : Str)] 3 [] d266.1.1 d266.1.2 := e.kf.2.2.2.2.2.2.2.2.2.2.2.2.2.2.2.2.2.2.2.2.2.2.2.2.1 e.c e.P rfl
theorem F_stat {e : Ev} (h : 0 = 0) : IsFn e.c 273 [("well" : Str), ("house" : Str), ("seen" : Str), ("deep" : Str)] 4 [] d273.1.1 d273.1.2 := e.kf.2.2.2.2.2.2.2.2.2.2.2.2.2.2.2.2.2.2.2.2.2.2.2.2.2.1 e.c e.P rfl
theorem F_block {e : Ev} (h : 0 = 0) : IsFn e.c 278 [("well" : Str), ("house" : Str), ("seen" : Str), ("deep" : Str)] 4 [] d278.1.1 d278.1.2 := e.kf.2.2.2.2.2.2.2.2.2.2.2.2.2.2.2.2.2.2.2.2.2.2.2.2.2.2.1 e.c e.P rfl
theorem F_stood {e : Ev} (h : 0 = 0) : IsFn e.c 283 [("tree" : Str), ("due" : Str)] 2 [] d283.1.1 d283.1.2 := e.kf.2.2.2.2.2.2.2.2.2.2.2.2.2.2.2.2.2.2.2.2.2.2.2.2.2.2.2.1 e.c e.P rfl
theorem F_rows {e : Ev} (h : 0 = 0) : IsFn e.c 288 [("block" : Str), ("due" : Str)] 2 [] d288.1.1 d288.1.2 := e.kf.2.2.2.2.2.2.2.2.2.2.2.2.2.2.2.2.2.2.2.2.2.2.2.2.2.2.2.2.1 e.c e.P rfl
theorem F_inner {e : Ev} (h : 0 = 0) : IsFn e.c 293 [("stat" : Str)] 1 [] d293.1.1 d293.1.2 := e.kf.2.2.2.2.2.2.2.2.2.2.2.2.2.2.2.2.2.2.2.2.2.2.2.2.2.2.2.2.2.1 e.c e.P rfl
theorem F_sound {e : Ev} (h : 0 = 0) : IsFn e.c 298 [("plan" : Str)] 1 [] d298.1.1 d298.1.2 := e.kf.2.2.2.2.2.2.2.2.2.2.2.2.2.2.2.2.2.2.2.2.2.2.2.2.2.2.2.2.2.2.1 e.c e.P rfl
theorem F_letgo {e : Ev} (h : 0 = 0) : IsFn e.c 305 [("plan" : Str), ("ended" : Str)] 2 [] d305.1.1 d305.1.2 := e.kf.2.2.2.2.2.2.2.2.2.2.2.2.2.2.2.2.2.2.2.2.2.2.2.2.2.2.2.2.2.2.2.1 e.c e.P rfl
theorem F_given {e : Ev} (h : 0 = 0) : IsFn e.c 310 [("plan" : Str), ("fresh" : Str)] 2 [] d310.1.1 d310.1.2 := e.kf.2.2.2.2.2.2.2.2.2.2.2.2.2.2.2.2.2.2.2.2.2.2.2.2.2.2.2.2.2.2.2.2.1 e.c e.P rfl
theorem F_placed {e : Ev} (h : 0 = 0) : IsFn e.c 315 [("plan" : Str), ("block" : Str), ("dying" : Str)] 3 [] d315.1.1 d315.1.2 := e.kf.2.2.2.2.2.2.2.2.2.2.2.2.2.2.2.2.2.2.2.2.2.2.2.2.2.2.2.2.2.2.2.2.2.1 e.c e.P rfl
theorem F_value {e : Ev} (h : 0 = 0) : IsFn e.c 322 [("trip" : Str), ("tree" : Str)] 2 [] d322.1.1 d322.1.2 := e.kf.2.2.2.2.2.2.2.2.2.2.2.2.2.2.2.2.2.2.2.2.2.2.2.2.2.2.2.2.2.2.2.2.2.2.1 e.c e.P rfl
theorem F_set {e : Ev} (h : 0 = 0) : IsFn e.c 329 [("trip" : Str), ("goals" : Str), ("word" : Str)] 3 [] d329.1.1 d329.1.2 := e.kf.2.2.2.2.2.2.2.2.2.2.2.2.2.2.2.2.2.2.2.2.2.2.2.2.2.2.2.2.2.2.2.2.2.2.2.1 e.c e.P rfl
theorem F_done {e : Ev} (h : 0 = 0) : IsFn e.c 336 [("trip" : Str), ("block" : Str)] 2 [] d336.1.1 d336.1.2 := e.kf.2.2.2.2.2.2.2.2.2.2.2.2.2.2.2.2.2.2.2.2.2.2.2.2.2.2.2.2.2.2.2.2.2.2.2.2.1 e.c e.P rfl
theorem F_law {e : Ev} (h : 0 = 0) : IsFn e.c 341 [("script" : Str)] 1 [] d341.1.1 d341.1.2 := e.kf.2.2.2.2.2.2.2.2.2.2.2.2.2.2.2.2.2.2.2.2.2.2.2.2.2.2.2.2.2.2.2.2.2.2.2.2.2.1 e.c e.P rfl
theorem F_Linit {e : Ev} (h : 0 = 0) : IsFn e.c 28 [("self" : Str), ("slots" : Str)] 2 [] d28.1.1 d28.1.2 := e.kf.2.2.2.2.2.2.2.2.2.2.2.2.2.2.2.2.2.2.2.2.2.2.2.2.2.2.2.2.2.2.2.2.2.2.2.2.2.2.1 e.c e.P rfl
theorem F_Ldistance {e : Ev} (h : 0 = 0) : IsFn e.c 35 [("self" : Str), ("at" : Str)] 2 [] d35.1.1 d35.1.2 := e.kf.2.2.2.2.2.2.2.2.2.2.2.2.2.2.2.2.2.2.2.2.2.2.2.2.2.2.2.2.2.2.2.2.2.2.2.2.2.2.2.1 e.c e.P rfl
theorem F_Lrelease {e : Ev} (h : 0 = 0) : IsFn e.c 42 [("self" : Str), ("name" : Str)] 2 [] d42.1.1 d42.1.2 := e.kf.2.2.2.2.2.2.2.2.2.2.2.2.2.2.2.2.2.2.2.2.2.2.2.2.2.2.2.2.2.2.2.2.2.2.2.2.2.2.2.2.1 e.c e.P rfl
theorem F_Lroom {e : Ev} (h : 0 = 0) : IsFn e.c 49 [("self" : Str)] 1 [] d49.1.1 d49.1.2 := e.kf.2.2.2.2.2.2.2.2.2.2.2.2.2.2.2.2.2.2.2.2.2.2.2.2.2.2.2.2.2.2.2.2.2.2.2.2.2.2.2.2.2.1 e.c e.P rfl
theorem F_Ltake {e : Ev} (h : 0 = 0) : IsFn e.c 56 [("self" : Str), ("at" : Str), ("name" : Str)] 3 [] d56.1.1 d56.1.2 := e.kf.2.2.2.2.2.2.2.2.2.2.2.2.2.2.2.2.2.2.2.2.2.2.2.2.2.2.2.2.2.2.2.2.2.2.2.2.2.2.2.2.2.2.1 e.c e.P rfl
theorem F_Lkeep {e : Ev} (h : 0 = 0) : IsFn e.c 63 [("self" : Str), ("name" : Str)] 2 [] d63.1.1 d63.1.2 := e.kf.2.2.2.2.2.2.2.2.2.2.2.2.2.2.2.2.2.2.2.2.2.2.2.2.2.2.2.2.2.2.2.2.2.2.2.2.2.2.2.2.2.2.2.1 e.c e.P rfl
theorem F_Vinit {e : Ev} (h : 0 = 0) : IsFn e.c 84 [("self" : Str)] 1 [] d84.1.1 d84.1.2 := e.kf.2.2.2.2.2.2.2.2.2.2.2.2.2.2.2.2.2.2.2.2.2.2.2.2.2.2.2.2.2.2.2.2.2.2.2.2.2.2.2.2.2.2.2.2.1 e.c e.P rfl
theorem F_Vmention {e : Ev} (h : 0 = 0) : IsFn e.c 91 [("self" : Str), ("name" : Str)] 2 [] d91.1.1 d91.1.2 := e.kf.2.2.2.2.2.2.2.2.2.2.2.2.2.2.2.2.2.2.2.2.2.2.2.2.2.2.2.2.2.2.2.2.2.2.2.2.2.2.2.2.2.2.2.2.2.1 e.c e.P rfl
theorem F_Vtell {e : Ev} (h : 0 = 0) : IsFn e.c 98 [("self" : Str), ("name" : Str)] 2 [] d98.1.1 d98.1.2 := e.kf.2.2.2.2.2.2.2.2.2.2.2.2.2.2.2.2.2.2.2.2.2.2.2.2.2.2.2.2.2.2.2.2.2.2.2.2.2.2.2.2.2.2.2.2.2.2.1 e.c e.P rfl
theorem F_Vclose {e : Ev} (h : 0 = 0) : IsFn e.c 105 [("self" : Str), ("mark" : Str)] 2 [] d105.1.1 d105.1.2 := e.kf.2.2.2.2.2.2.2.2.2.2.2.2.2.2.2.2.2.2.2.2.2.2.2.2.2.2.2.2.2.2.2.2.2.2.2.2.2.2.2.2.2.2.2.2.2.2.2.1 e.c e.P rfl
theorem F_Yinit {e : Ev} (h : 0 = 0) : IsFn e.c 147 [("self" : Str), ("kind" : Str), ("name" : Str), ("value" : Str), ("kids" : Str), ("line" : Str)] 6 [] d147.1.1 d147.1.2 := e.kf.2.2.2.2.2.2.2.2.2.2.2.2.2.2.2.2.2.2.2.2.2.2.2.2.2.2.2.2.2.2.2.2.2.2.2.2.2.2.2.2.2.2.2.2.2.2.2.2 e.c e.P rfl

-- W2

theorem and_f {X Y : Prop} (h : Y) : (false = true → X) ∧ (false = false → Y) := ⟨fun q => (nomatch q), fun _ => h⟩
theorem and_t {X Y : Prop} (h : X) : (true = true → X) ∧ (true = false → Y) := ⟨fun _ => h, fun q => (nomatch q)⟩
local macro_rules | `(tactic| ktr_unf) => `(tactic| first
  | exact Or.inr (List.Mem.head _)
  | exact Or.inr (List.Mem.tail _ (List.Mem.head _))
  | exact Or.inr (List.Mem.tail _ (List.Mem.tail _ (List.Mem.head _)))
  | exact Or.inr (List.Mem.tail _ (List.Mem.tail _ (List.Mem.tail _ (List.Mem.head _))))
  | exact Or.inr (List.Mem.tail _ (List.Mem.tail _ (List.Mem.tail _ (List.Mem.tail _ (List.Mem.head _)))))
  | exact Or.inr (List.Mem.tail _ (List.Mem.tail _ (List.Mem.tail _ (List.Mem.tail _ (List.Mem.tail _ (List.Mem.head _))))))
  | exact Or.inr (List.Mem.tail _ (List.Mem.tail _ (List.Mem.tail _ (List.Mem.tail _ (List.Mem.tail _ (List.Mem.tail _ (List.Mem.head _)))))))
  | exact Or.inr (List.Mem.tail _ (List.Mem.tail _ (List.Mem.tail _ (List.Mem.tail _ (List.Mem.tail _ (List.Mem.tail _ (List.Mem.tail _ (List.Mem.head _))))))))
  | exact Or.inr (List.Mem.tail _ (List.Mem.tail _ (List.Mem.tail _ (List.Mem.tail _ (List.Mem.tail _ (List.Mem.tail _ (List.Mem.tail _ (List.Mem.tail _ (List.Mem.head _)))))))))
  | exact Or.inr (List.Mem.tail _ (List.Mem.tail _ (List.Mem.tail _ (List.Mem.tail _ (List.Mem.tail _ (List.Mem.tail _ (List.Mem.tail _ (List.Mem.tail _ (List.Mem.tail _ (List.Mem.head _))))))))))
  | exact Or.inr (List.Mem.tail _ (List.Mem.tail _ (List.Mem.tail _ (List.Mem.tail _ (List.Mem.tail _ (List.Mem.tail _ (List.Mem.tail _ (List.Mem.tail _ (List.Mem.tail _ (List.Mem.tail _ (List.Mem.head _)))))))))))
  | exact Or.inl (by assumption)
  | exact HUpd.head
  | exact HUpd.tail HUpd.head
  | exact HUpd.tail (HUpd.tail HUpd.head)
  | exact HUpd.tail (HUpd.tail (HUpd.tail HUpd.head))
  | exact HUpd.tail (HUpd.tail (HUpd.tail (HUpd.tail HUpd.head)))
  | exact HUpd.tail (HUpd.tail (HUpd.tail (HUpd.tail (HUpd.tail HUpd.head))))
  | exact HUpd.tail (HUpd.tail (HUpd.tail (HUpd.tail (HUpd.tail (HUpd.tail HUpd.head)))))
  | exact HUpd.tail (HUpd.tail (HUpd.tail (HUpd.tail (HUpd.tail (HUpd.tail (HUpd.tail HUpd.head))))))
  | exact HUpd.tail (HUpd.tail (HUpd.tail (HUpd.tail (HUpd.tail (HUpd.tail (HUpd.tail (HUpd.tail HUpd.head))))))))
local macro_rules | `(tactic| ktr_rel) => `(tactic| first
  | ((fail_if_success fail_if_success with_reducible show TE _ _ _ _ _ _ _); first
    | refine te_local rfl rfl rfl ?_
    | refine te_cell rfl rfl rfl ?_
    | refine te_glob rfl rfl rfl ?_
    | refine te_blt rfl rfl (by decide) rfl rfl ?_
    | refine te_int ?_
    | refine te_str ?_
    | refine te_none ?_
    | refine te_bool ?_
    | refine te_binop ?_
    | refine te_compare ?_
    | refine te_neg ?_
    | refine te_ifexp ?_
    | refine te_and ?_
    | refine te_or ?_
    | refine te_not ?_
    | refine te_slice ?_
    | refine te_subscript ?_
    | refine te_attr ?_
    | refine te_list ?_
    | refine te_tup ?_
    | refine te_call ?_
    | refine te_method ?_)
  | ((fail_if_success fail_if_success with_reducible show GM _ _ _ _ _ _ _ _); first
    | refine gm_append (by ktr_unf) ?_
    | refine gm_extend (by ktr_unf) ?_
    | refine gm_pop (by ktr_unf) ?_
    | refine gm_remove (by ktr_unf) ?_
    | refine gm_get (by ktr_unf) ?_
    | refine gm_geti (by ktr_unf) ?_
    | refine gm_dpop (by ktr_unf) ?_
    | refine gm_setd (by ktr_unf) ?_
    | refine gm_any (by ktr_unf) (by ktr_unf) ?_)
  | ((fail_if_success fail_if_success with_reducible show TS _ _ _ _ _ _ _); first
    | refine ts_return ?_
    | refine ts_return0 ?_
    | refine ts_assign ?_
    | refine ts_setitem ?_
    | refine ts_setattr ?_
    | refine ts_if ?_
    | refine ts_break ?_
    | refine ts_expr ?_)
  | ((fail_if_success fail_if_success with_reducible show CO _ _ _ _ _ _ _ _ _); first
    | refine co_lt ?_
    | refine co_gt ?_
    | refine co_le ?_
    | refine co_ge ?_
    | refine co_eq ?_
    | refine co_ne ?_
    | refine co_eqs ?_
    | refine co_nes ?_)
  | refine tl_nil ?_
  | refine tl_cons ?_
  | refine ga_any (by ktr_unf) (by ktr_unf) ?_
  | refine sn_local rfl rfl ?_
  | refine sn_cell rfl rfl rfl ?_
  | refine tt_compare ?_
  | refine tt_not ?_
  | refine tt_boolop ?_
  | refine tv_bool ?_
  | refine ta_and_nil ?_
  | refine ta_or_nil ?_
  | refine ta_and ?_
  | refine ta_or ?_
  | refine bo_add ?_
  | refine bo_sub ?_
  | refine tb_nil ?_
  | refine ca_ref rfl ?_
  | refine ca_blt ?_
  | refine ca_typ ?_
  | refine mt_ref rfl ?_
  | refine mt_blt ?_
  | refine and_f ?_
  | refine and_t ?_)
local macro_rules | `(tactic| tb_rel) => `(tactic| first | ktr_rel | refine tb_cons ?_)
section auto
variable {e : Ev} {n : Nat}

theorem bits_of {i : Int} (h : i.natAbs < 2 ^ 63) : Builtin.Int.intBits i ≤ 64 := by
  unfold Builtin.Int.intBits
  split
  · exact Nat.zero_le _
  · have : i.natAbs.log2 < 63 := by
      rename_i q
      have q' : i.natAbs ≠ 0 := by intro e; apply q; simpa using e
      exact (Nat.log2_lt q').mpr h
    omega

theorem draw_ok {wl cs : Addr} {cells : List Int} {at' many : Int} {R : HT} {Z : ZT} {Q : Value → ZT → HT → Prop} (hat : 0 ≤ at') (hat2 : at' ≤ 1000000) (hm : 0 < many) (hc : cells.length ≤ 63)
    (h : ∀ r, 0 ≤ r → r < many → Q (vI r) Z ((wl, .list [.ref cs, vI (at' + 1)]) :: (cs, .list (cells.map vI)) :: R)) :
    CallOk e.c (n + 1) (.ref 247) [.ref wl, vI many] Q Z ((wl, .list [.ref cs, vI at']) :: (cs, .list (cells.map vI)) :: R) := by
  refine call_fn (F_draw rfl) rfl ?_
  repeat tb_rel
  refine gi_list (by ktr_unf) (by decide) (by decide) rfl ?_
  repeat tb_rel
  refine si_list (by decide) (by simp) (by decide) .head ?_
  repeat tb_rel
  refine gi_list (by ktr_unf) (by decide) (by decide) rfl ?_
  repeat tb_rel
  refine bc_len (by ktr_unf) (by simp; omega) ?_
  repeat tb_rel
  refine ⟨fun hb => ?_, fun hb => ?_⟩
  · have hlt : at' < cells.length := by first | exact eq_of_beq hb | exact ne_of_beq_false hb | exact of_decide_eq_true hb | exact of_decide_eq_false hb | simpa using hb
    repeat tb_rel
    refine gi_list (by ktr_unf) (by decide) (by decide) rfl ?_
    repeat tb_rel
    refine gi_list (v := vI (cells[at'.toNat]'(by omega))) (by ktr_unf) hat (by omega) (by simp) ?_
    repeat tb_rel
    refine bo_mod (by omega) ?_
    exact h _ (Int.fmod_nonneg_of_pos _ hm) (Int.fmod_lt_of_pos _ hm)
  · repeat tb_rel
    have ib : Builtin.Int.intBits at' ≤ 64 := bits_of (by omega)
    refine bo_mul (.of_left (by decide)) ?_
    repeat tb_rel
    refine bo_mul (.of_right ib) ?_
    repeat tb_rel
    refine bo_mul (.of_left (by decide)) ?_
    repeat tb_rel
    refine gi_list (by ktr_unf) (by decide) (by decide) rfl ?_
    repeat tb_rel
    refine bc_len (by ktr_unf) (by simp; omega) ?_
    repeat tb_rel
    refine bo_mul (.of_left (by decide)) ?_
    repeat tb_rel
    refine bo_mod (by decide) ?_
    repeat tb_rel
    refine bo_mod (by omega) ?_
    exact h _ (Int.fmod_nonneg_of_pos _ hm) (Int.fmod_lt_of_pos _ hm)
end auto

-- P0

inductive Vl where
  | none
  | int (i : Int)
  | names (ns : List Str)
inductive Nd where
  | mk (kind name : Str) (value : Vl) (kids : List Nd)
noncomputable def Nd.kind : Nd → Str | .mk k _ _ _ => k
noncomputable def Nd.name : Nd → Str | .mk _ x _ _ => x
noncomputable def Nd.value : Nd → Vl | .mk _ _ v _ => v
noncomputable def Nd.kids : Nd → List Nd | .mk _ _ _ ks => ks
noncomputable def Vl.names! : Vl → List Str | .names ns => ns | _ => []
noncomputable abbrev Nd.names (t : Nd) : List Str := t.value.names!

noncomputable def ValAt (Z : ZT) : Vl → Value → Prop
  | .none, v => v = .none
  | .int i, v => v = vI i
  | .names ns, v => ∃ a, v = .ref a ∧ Z a = some (.list (ns.map vS))
noncomputable abbrev ndA (kind name : Str) (w : Value) (ka : Addr) : List (Str × Value) := [("kind", vS kind), ("name", vS name), ("value", w), ("kids", .ref ka), ("line", vI 0)]
mutual
noncomputable def TreeAt (Z : ZT) : Nd → Value → Prop
  | .mk kind name val kids, v => ∃ a dx ka vs w, v = .ref a ∧ Z a = some (.inst 150 dx) ∧ Z dx = some (.attrs (ndA kind name w ka)) ∧
      ValAt Z val w ∧ Z ka = some (.list vs) ∧ TreesAt Z kids vs
noncomputable def TreesAt (Z : ZT) : List Nd → List Value → Prop
  | [], vs => vs = []
  | t :: r, vs => ∃ v vs', vs = v :: vs' ∧ TreeAt Z t v ∧ TreesAt Z r vs'
end
noncomputable def Zle (Z Z' : ZT) : Prop := ∀ a o, Z a = some o → Z' a = some o
theorem Zle.refl {Z} : Zle Z Z := fun _ _ h => h
theorem Zle.trans {Z Z' Z''} (h : Zle Z Z') (k : Zle Z' Z'') : Zle Z Z'' := fun a o e => k a o (h a o e)
theorem ValAt.mono {Z Z' v w} (h : Zle Z Z') : ValAt Z v w → ValAt Z' v w := by
  cases v with
  | none => exact id
  | int i => exact id
  | names ns => rintro ⟨a, e, z⟩; exact ⟨a, e, h _ _ z⟩
mutual
theorem TreeAt.mono {Z Z'} (h : Zle Z Z') : ∀ (t : Nd) (v : Value), TreeAt Z t v → TreeAt Z' t v
  | .mk kind name val kids, v, q => by
    refine ex5e q fun a dx ka vs w h9x => ?_
    refine and6e h9x fun e h1 h2 h3 h4 h5 => ?_
    try clear h9x q
    exact (ex5i a dx ka vs w (and6i e (h _ _ h1) (h _ _ h2) (h3.mono h) (h _ _ h4) (TreesAt.mono h kids vs h5)))
theorem TreesAt.mono {Z Z'} (h : Zle Z Z') : ∀ (t : List Nd) (v : List Value), TreesAt Z t v → TreesAt Z' t v
  | [], _, e => e
  | t :: r, _, q => by
    refine ex2e q fun v vs' h9x => ?_
    refine and3e h9x fun e h1 h2 => ?_
    try clear h9x q
    exact (ex2i v vs' (and3i e (TreeAt.mono h t v h1) (TreesAt.mono h r vs' h2)))
end
theorem TreeAt.elim {Z kind name val kids a} {G : Prop} (h : TreeAt Z (.mk kind name val kids) (.ref a))
    (k : ∀ dx ka vs w, Z a = some (.inst 150 dx) → Z dx = some (.attrs (ndA kind name w ka)) → ValAt Z val w → Z ka = some (.list vs) → TreesAt Z kids vs → G) : G := by
  refine ex5e h fun a' dx ka vs w h9x => ?_
  refine and6e h9x fun e b1 b2 b3 b4 b5 => ?_
  try clear h9x h
  cases e
  exact k dx ka vs w b1 b2 b3 b4 b5
theorem TreeAt.ref {Z t v} (h : TreeAt Z t v) : ∃ a, v = .ref a := by
  cases t; obtain ⟨a, _, _, _, _, e, _⟩ := h; exact ⟨a, e⟩
theorem TreesAt.length {Z} : ∀ {ts vs}, TreesAt Z ts vs → vs.length = ts.length
  | [], _, e => by rw [e]; rfl
  | t :: r, _, q => by obtain ⟨v, vs', e, _, h⟩ := q; rw [e, List.length_cons, List.length_cons, h.length]
theorem TreesAt.get {Z} : ∀ {ts vs}, TreesAt Z ts vs → ∀ {i : Nat} {t}, ts[i]? = some t → ∃ v, vs[i]? = some v ∧ TreeAt Z t v
  | t :: r, _, q, i, u, hu => by
    refine ex2e q fun v vs' h9x => ?_
    refine and3e h9x fun e h1 h => ?_
    try clear h9x q
    rw [e]
    cases i with
    | zero => cases hu; exact ⟨v, rfl, h1⟩
    | succ i => exact h.get (i := i) (t := u) hu
theorem TreesAt.append {Z} : ∀ {ts vs us ws}, TreesAt Z ts vs → TreesAt Z us ws → TreesAt Z (ts ++ us) (vs ++ ws)
  | [], _, us, ws, e, h => by rw [e]; exact h
  | t :: r, _, us, ws, ⟨v, vs', e, h1, h2⟩, h => by subst e; exact (ex2i v (vs' ++ ws) (and3i rfl h1 (h2.append h)))
theorem TreesAt.one {Z t v} (h : TreeAt Z t v) : TreesAt Z [t] [v] := (ex2i v ([]) (and3i rfl h rfl))
theorem TreesAt.two {Z t v u w} (h : TreeAt Z t v) (k : TreeAt Z u w) : TreesAt Z [t, u] [v, w] := (ex2i v ([w]) (and3i rfl h (TreesAt.one k)))
theorem TreesAt.nil {Z} : TreesAt Z [] [] := rfl
theorem TreesAt.drop {Z} : ∀ {ts vs}, TreesAt Z ts vs → ∀ k, TreesAt Z (ts.drop k) (vs.drop k)
  | ts, vs, h, 0 => h
  | [], _, e, k + 1 => by rw [e]; exact TreesAt.nil
  | t :: r, _, ⟨v, vs', e, _, h⟩, k + 1 => by subst e; exact h.drop k

noncomputable abbrev numN (i : Int) : Nd := .mk "number" "" (.int i) []
noncomputable abbrev namN (x : Str) : Nd := .mk "name" x .none []
noncomputable abbrev callN (f : Str) (ks : List Nd) : Nd := .mk "call" f .none ks
noncomputable abbrev letN (ns : List Str) (w : Option Nd) : Nd := .mk "let" "" (.names ns) w.toList
noncomputable abbrev asgN (x : Str) (w : Nd) : Nd := .mk "assign" "" (.names [x]) [w]
noncomputable abbrev popN (w : Nd) : Nd := .mk "expr" "" .none [callN "pop" [w]]
noncomputable abbrev blkN (ks : List Nd) : Nd := .mk "block" "" .none ks
noncomputable abbrev ifN (w b : Nd) : Nd := .mk "if" "" .none [w, b]
noncomputable abbrev forN (a w b d : Nd) : Nd := .mk "for" "" .none [a, w, b, d]
noncomputable abbrev caseN (v : Vl) (b : Nd) : Nd := .mk "case" "" v [b]
noncomputable abbrev swN (w : Nd) (rows : List Nd) : Nd := .mk "switch" "" .none (w :: rows)

inductive W0E (L : List Str) : Nd → Prop
  | num (i : Int) : 0 ≤ i → i < 1000 → W0E L (numN i)
  | nam (x : Str) : x ∈ L → W0E L (namN x)
inductive WE (L : List Str) : Nd → Prop
  | atom {t} : W0E L t → WE L t
  | call {f ks} : (∀ t ∈ ks, W0E L t) → ks.length ≤ 1000 → WE L (callN f ks)
noncomputable def nm (i : Nat) : Str := Str.ofString "n" ++ Str.ofString (toString (i : Int))
noncomputable def frN (k k' : Nat) : List Str := (List.range (k' - k)).map fun i => nm (k + 1 + i)
inductive WS (B : List Str → Nat → List Nd → Nat → Prop) (L : List Str) (k : Nat) : Nd → List Str → Nat → Prop
  | let0 {k'} : k < k' → k' ≤ k + 6 → WS B L k (letN (frN k k') none) (frN k k') k'
  | let1 {k' w} : k < k' → k' ≤ k + 6 → WE L w → WS B L k (letN (frN k k') (some w)) (frN k k') k'
  | asg {x w} : x ∈ L → WE L w → WS B L k (asgN x w) [] k
  | pop {w} : WE L w → WS B L k (popN w) [] k
  | iff {w b k'} : WE L w → B L k b k' → WS B L k (ifN w (blkN b)) [] k'
  | fr {w a b k' k''} : WE L w → B L k a k' → B L k' b k'' → WS B L k (forN (blkN []) w (blkN b) (blkN a)) [] k''
  | sw1 {w b k'} : WE L w → B L k b k' → WS B L k (swN w [caseN .none (blkN b)]) [] k'
  | sw2 {w v a b k' k''} : WE L w → B L k a k' → B L k' b k'' → WS B L k (swN w [caseN (.int v) (blkN a), caseN .none (blkN b)]) [] k''
  | blk {b k'} : B L k b k' → WS B L k (blkN b) [] k'
inductive WL (S : List Str → Nat → Nd → List Str → Nat → Prop) : List Str → Nat → List Nd → List Str → Nat → Prop
  | nil {L k} : WL S L k [] L k
  | cons {L k t ns k' r L' k''} : S L k t ns k' → WL S (L ++ ns) k' r L' k'' → WL S L k (t :: r) L' k''
theorem WL.snoc {S L k ts L' k' t ns k''} (h : WL S L k ts L' k') (s : S L' k' t ns k'') : WL S L k (ts ++ [t]) (L' ++ ns) k'' := by
  induction h with
  | nil => exact .cons s .nil
  | cons a _ ih => exact .cons a (ih s)
noncomputable def WB : Nat → List Str → Nat → List Nd → Nat → Prop
  | 0 => fun L k b k' => b.length ≤ 2 ∧ ∃ L', WL (WS fun _ _ _ _ => False) L k b L' k'
  | d + 1 => fun L k b k' => b.length ≤ (if d = 0 then 2 else 5) ∧ ∃ L', WL (WS (WB d)) L k b L' k'
noncomputable def WSd : Nat → List Str → Nat → Nd → List Str → Nat → Prop
  | 0 => WS fun _ _ _ _ => False
  | d + 1 => WS (WB d)
noncomputable def bl : Nat → Nat
  | 0 => 2
  | 1 => 2
  | _ => 5
theorem WB_iff {d L k b k'} : WB d L k b k' ↔ b.length ≤ bl d ∧ ∃ L', WL (WSd d) L k b L' k' := by
  cases d with
  | zero => exact Iff.rfl
  | succ d => cases d <;> exact Iff.rfl

-- W3

theorem CallOk.turn {c n f args} {P Q : Value → ZT → HT → Prop} {Z H} (h : CallOk c n f args P Z H) (k : ∀ v Z' H', P v Z' H' → ∀ B h, RelH c B Z' H' h → ∃ Z'' H'', RelH c B Z'' H'' h ∧ Q v Z'' H'') : CallOk c n f args Q Z H :=
  fun A B s₀ s vs ok r b sh x hv => codeAny_mono (h A B s₀ s vs ok r b sh x hv) fun r s' z => by
    rcases r with e | (v | _ | _ | v)
    · exact z
    · exact z
    · exact z
    · exact z
    · refine hide fun G9 hG9 => ?_
      refine ex2e z fun Z' H' h9x => ?_
      refine and3e h9x fun a x sh => ?_
      try clear h9x z
      refine ex2e (k _ _ _ a _ _ x) fun Z'' H'' h9x => ?_
      refine and2e h9x fun x' q => ?_
      try clear h9x
      refine hG9 ?_; clear hG9 G9
      exact (ex2i Z'' H'' (and3i q x' sh))

theorem zle_freeze {c : Cx} {B Z H F h} (x : RelH c B Z (F ++ H) h) : Zle Z (freeze Z F) := fun a o e => freeze_le (fun p hp q => by
  have := (x.mu p (List.mem_append_left _ hp)).2.2
  rw [q, e] at this; cases this) e
theorem freeze_at {c : Cx} {B Z H F h} (x : RelH c B Z (F ++ H) h) {a : Addr} {o : AO} (hm : (a, o) ∈ F) : freeze Z F a = some o := by
  have nd := x.nd
  rw [List.map_append, List.nodup_append] at nd
  exact freeze_mem nd.1 hm

section
variable {c : Cx} {n : Nat} {sc : Scope} {cmp : Bool} {σ : St}
theorem co_is_nn {Q : Value → St → Prop} (h : Q (.bool true) σ) : CO c n sc cmp .Is .none .none Q σ := by
  unfold CO
  intro a' b' ha hb L cl q f cd fr A B s₀ s ok rm b X
  rw [er_none_inv ha, er_none_inv hb]
  exact PyProof.Rows.is_none_none ⟨_, h, X⟩
theorem co_is_rn {a : Addr} {Q : Value → St → Prop} (h : Q (.bool false) σ) : CO c n sc cmp .Is (.ref a) .none Q σ := by
  unfold CO
  intro a' b' ha hb L cl q f cd fr A B s₀ s ok rm b X
  rw [er_ref_inv ha, er_none_inv hb]
  exact PyProof.Rows.is_none_ne (by intro x; cases x) ⟨_, h, X⟩
end
section auto
variable {e : Ev} {n : Nat} {R : HT} {Z : ZT} {Q : Value → ZT → HT → Prop}

theorem yinit_ok {x dx : Addr} {k nn v ks : Value} (h : Q .none Z ((x, .inst 150 dx) :: (dx, .attrs [("kind", k), ("name", nn), ("value", v), ("kids", ks), ("line", vI 0)]) :: R)) :
    CallOk e.c (n + 1) (.ref 147) [.ref x, k, nn, v, ks, vI 0] Q Z ((x, .inst 150 dx) :: (dx, .attrs []) :: R) := by
  refine call_fn (F_Yinit rfl) rfl ?_
  repeat tb_rel
  refine sa_own (cls_yul e) (by ktr_unf) (by decide) (Nat.le_of_ble_eq_true rfl) (.tail .head) ?_
  repeat tb_rel
  refine sa_own (cls_yul e) (by ktr_unf) (by decide) (Nat.le_of_ble_eq_true rfl) (.tail .head) ?_
  repeat tb_rel
  refine sa_own (cls_yul e) (by ktr_unf) (by decide) (Nat.le_of_ble_eq_true rfl) (.tail .head) ?_
  repeat tb_rel
  refine sa_own (cls_yul e) (by ktr_unf) (by decide) (Nat.le_of_ble_eq_true rfl) (.tail .head) ?_
  repeat tb_rel
  refine sa_own (cls_yul e) (by ktr_unf) (by decide) (Nat.le_of_ble_eq_true rfl) (.tail .head) ?_
  repeat tb_rel
  all_goals exact h

theorem yul_ok {kind name : Str} {val : Vl} {v : Value} {ka : Addr} {vs : List Value} {kids : List Nd} (hv : ValAt Z val v) (hk : TreesAt Z kids vs)
    (h : ∀ a Z', Zle Z Z' → TreeAt Z' (.mk kind name val kids) (.ref a) → Q (.ref a) Z' R) :
    CallOk e.c (n + 2) (.ref 150) [vS kind, vS name, v, .ref ka, vI 0] Q Z ((ka, .list vs) :: R) := by
  refine CallOk.turn (P := fun r Z' H' => ∃ x dx, r = .ref x ∧ Z' = Z ∧ H' = (x, .inst 150 dx) :: (dx, .attrs [("kind", vS kind), ("name", vS name), ("value", v), ("kids", .ref ka), ("line", vI 0)]) :: (ka, .list vs) :: R)
    (call_cls (n := n + 1) (cls_yul e) (fI := 147) (e.meth1 rfl) (e.meth3 (C := 150) "__init__" rfl) fun x dx => yinit_ok (⟨rfl, ex2i x dx (and3i rfl rfl rfl)⟩)) ?_
  rintro r Z' H' ⟨x, dx, rfl, rfl, rfl⟩ B hh X
  have X' : RelH e.c B Z' ([(x, .inst 150 dx), (dx, .attrs [("kind", vS kind), ("name", vS name), ("value", v), ("kids", .ref ka), ("line", vI 0)]), (ka, .list vs)] ++ R) hh := X
  refine (ex2i _ _ ⟨X'.freeze, h x _ (zle_freeze X') ?_⟩)
  exact (ex5i x dx ka vs v (and6i rfl (freeze_at X' (by simp)) (freeze_at X' (by simp)) (hv.mono (zle_freeze X')) (freeze_at X' (by simp)) (hk.mono (zle_freeze X'))))
theorem yul_ok_names {kind name : Str} {ns : List Str} {la ka : Addr} {vs : List Value} {kids : List Nd} (hk : TreesAt Z kids vs)
    (h : ∀ a Z', Zle Z Z' → TreeAt Z' (.mk kind name (.names ns) kids) (.ref a) → Q (.ref a) Z' R) :
    CallOk e.c (n + 2) (.ref 150) [vS kind, vS name, .ref la, .ref ka, vI 0] Q Z ((ka, .list vs) :: (la, .list (ns.map vS)) :: R) := by
  refine CallOk.turn (P := fun r Z' H' => ∃ x dx, r = .ref x ∧ Z' = Z ∧ H' = (x, .inst 150 dx) :: (dx, .attrs [("kind", vS kind), ("name", vS name), ("value", .ref la), ("kids", .ref ka), ("line", vI 0)]) :: (ka, .list vs) :: (la, .list (ns.map vS)) :: R)
    (call_cls (n := n + 1) (cls_yul e) (fI := 147) (e.meth1 rfl) (e.meth3 (C := 150) "__init__" rfl) fun x dx => yinit_ok (⟨rfl, ex2i x dx (and3i rfl rfl rfl)⟩)) ?_
  rintro r Z' H' ⟨x, dx, rfl, rfl, rfl⟩ B hh X
  have X' : RelH e.c B Z' ([(x, .inst 150 dx), (dx, .attrs [("kind", vS kind), ("name", vS name), ("value", .ref la), ("kids", .ref ka), ("line", vI 0)]), (ka, .list vs), (la, .list (ns.map vS))] ++ R) hh := X
  refine (ex2i _ _ ⟨X'.freeze, h x _ (zle_freeze X') ?_⟩)
  exact (ex5i x dx ka vs (.ref la) (and6i rfl (freeze_at X' (by simp)) (freeze_at X' (by simp)) ⟨la, rfl, freeze_at X' (by simp)⟩ (freeze_at X' (by simp)) (hk.mono (zle_freeze X'))))

theorem number_ok {i : Int} (h : ∀ a Z', Zle Z Z' → TreeAt Z' (numN i) (.ref a) → Q (.ref a) Z' R) : CallOk e.c (n + 3) (.ref 162) [vI i] Q Z R := by
  refine call_fn (F_number_of rfl) rfl ?_
  repeat tb_rel
  refine ksq rfl fun D => ?_
  repeat tb_rel
  exact bc_call (yul_ok (n := n) (val := .int i) rfl TreesAt.nil h)
theorem name_ok {x : Str} (h : ∀ a Z', Zle Z Z' → TreeAt Z' (namN x) (.ref a) → Q (.ref a) Z' R) : CallOk e.c (n + 3) (.ref 170) [vS x] Q Z R := by
  refine call_fn (F_name_of rfl) rfl ?_
  repeat tb_rel
  refine ksq rfl fun D => ?_
  repeat tb_rel
  exact bc_call (yul_ok (n := n) (val := .none) rfl TreesAt.nil h)
theorem call_ok {x : Str} {ka : Addr} {vs : List Value} {kids : List Nd} (hk : TreesAt Z kids vs) (h : ∀ a Z', Zle Z Z' → TreeAt Z' (callN x kids) (.ref a) → Q (.ref a) Z' R) : CallOk e.c (n + 3) (.ref 178) [vS x, .ref ka] Q Z ((ka, .list vs) :: R) := by
  refine call_fn (F_call_of rfl) rfl ?_
  repeat tb_rel
  exact bc_call (yul_ok (n := n) (val := .none) rfl hk h)
theorem assign_ok {ns : List Str} {la : Addr} {w : Value} {t : Nd} (hl : ns.length ≤ 1000) (hk : TreeAt Z t w) (h : ∀ a Z', Zle Z Z' → TreeAt Z' (.mk "assign" "" (.names ns) [t]) (.ref a) → Q (.ref a) Z' ((la, .list (ns.map vS)) :: R)) : CallOk e.c (n + 3) (.ref 194) [.ref la, w] Q Z ((la, .list (ns.map vS)) :: R) := by
  refine call_fn (F_assign_of rfl) rfl ?_
  repeat tb_rel
  refine bc_list (by ktr_unf) (by simp; omega) fun D => ?_
  repeat tb_rel
  refine ⟨by simp, fun D2 => ?_⟩
  repeat tb_rel
  exact bc_call (yul_ok_names (n := n) (TreesAt.one hk) h)
theorem let_ok0 {ns : List Str} {la : Addr} (hl : ns.length ≤ 1000) (h : ∀ a Z', Zle Z Z' → TreeAt Z' (letN ns none) (.ref a) → Q (.ref a) Z' ((la, .list (ns.map vS)) :: R)) : CallOk e.c (n + 3) (.ref 186) [.ref la, .none] Q Z ((la, .list (ns.map vS)) :: R) := by
  refine call_fn (F_let_of rfl) rfl ?_
  repeat tb_rel
  refine bc_list (by ktr_unf) (by simp; omega) fun D => ?_
  repeat tb_rel
  refine co_is_nn ?_
  repeat tb_rel
  refine ⟨by simp, fun D2 => ?_⟩
  repeat tb_rel
  exact bc_call (yul_ok_names (n := n) TreesAt.nil h)
theorem let_ok1 {ns : List Str} {la w : Addr} {t : Nd} (hl : ns.length ≤ 1000) (hk : TreeAt Z t (.ref w)) (h : ∀ a Z', Zle Z Z' → TreeAt Z' (letN ns (some t)) (.ref a) → Q (.ref a) Z' ((la, .list (ns.map vS)) :: R)) : CallOk e.c (n + 3) (.ref 186) [.ref la, .ref w] Q Z ((la, .list (ns.map vS)) :: R) := by
  refine call_fn (F_let_of rfl) rfl ?_
  repeat tb_rel
  refine bc_list (by ktr_unf) (by simp; omega) fun D => ?_
  repeat tb_rel
  refine co_is_rn ?_
  repeat tb_rel
  refine ⟨by simp, fun D2 => ?_⟩
  repeat tb_rel
  exact bc_call (yul_ok_names (n := n) (TreesAt.one hk) h)
theorem expr_ok {w : Value} {t : Nd} (hk : TreeAt Z t w) (h : ∀ a Z', Zle Z Z' → TreeAt Z' (.mk "expr" "" .none [t]) (.ref a) → Q (.ref a) Z' R) : CallOk e.c (n + 3) (.ref 202) [w] Q Z R := by
  refine call_fn (F_expr_of rfl) rfl ?_
  repeat tb_rel
  refine ksq rfl fun D => ?_
  repeat tb_rel
  exact bc_call (yul_ok (n := n) (val := .none) rfl (TreesAt.one hk) h)
theorem block_ok {ka : Addr} {vs : List Value} {kids : List Nd} (hk : TreesAt Z kids vs) (h : ∀ a Z', Zle Z Z' → TreeAt Z' (blkN kids) (.ref a) → Q (.ref a) Z' R) : CallOk e.c (n + 3) (.ref 210) [.ref ka] Q Z ((ka, .list vs) :: R) := by
  refine call_fn (F_block_of rfl) rfl ?_
  repeat tb_rel
  exact bc_call (yul_ok (n := n) (val := .none) rfl hk h)
theorem if_ok {w b : Value} {t u : Nd} (hk : TreeAt Z t w) (hb : TreeAt Z u b) (h : ∀ a Z', Zle Z Z' → TreeAt Z' (ifN t u) (.ref a) → Q (.ref a) Z' R) : CallOk e.c (n + 3) (.ref 218) [w, b] Q Z R := by
  refine call_fn (F_if_of rfl) rfl ?_
  repeat tb_rel
  refine ksq rfl fun D => ?_
  repeat tb_rel
  exact bc_call (yul_ok (n := n) (val := .none) rfl (TreesAt.two hk hb) h)
theorem for_ok {w b a d : Value} {t u o p : Nd} (ha : TreeAt Z o a) (hk : TreeAt Z t w) (hb : TreeAt Z u b) (hd : TreeAt Z p d) (h : ∀ a Z', Zle Z Z' → TreeAt Z' (forN o t u p) (.ref a) → Q (.ref a) Z' R) : CallOk e.c (n + 3) (.ref 240) [a, w, b, d] Q Z R := by
  refine call_fn (F_for_of rfl) rfl ?_
  repeat tb_rel
  refine ksq rfl fun D => ?_
  repeat tb_rel
  exact bc_call (yul_ok (n := n) (val := .none) rfl (show TreesAt Z [o, t, u, p] [a, w, b, d] from (ex2i a _ (and3i rfl ha (ex2i w _ (and3i rfl hk (TreesAt.two hb hd)))))) h)
theorem case_ok {key b : Value} {val : Vl} {u : Nd} (hv : ValAt Z val key) (hb : TreeAt Z u b) (h : ∀ a Z', Zle Z Z' → TreeAt Z' (caseN val u) (.ref a) → Q (.ref a) Z' R) : CallOk e.c (n + 3) (.ref 226) [key, b, vI 0] Q Z R := by
  refine call_fn (F_case_of3 rfl) rfl ?_
  repeat tb_rel
  refine ksq rfl fun D => ?_
  repeat tb_rel
  exact bc_call (yul_ok (n := n) hv (TreesAt.one hb) h)

noncomputable def RowsAt (Z : ZT) : List (Vl × Nd) → List (Value × Value) → Prop
  | [], ps => ps = []
  | (v, t) :: r, ps => ∃ p ps', ps = p :: ps' ∧ ValAt Z v p.1 ∧ TreeAt Z t p.2 ∧ RowsAt Z r ps'
theorem RowsAt.length {Z} : ∀ {r ps}, RowsAt Z r ps → ps.length = r.length
  | [], _, e => by rw [e]; rfl
  | _ :: r, _, ⟨p, ps', e, _, _, h⟩ => by rw [e, List.length_cons, List.length_cons, h.length]
theorem RowsAt.get {Z} : ∀ {r ps}, RowsAt Z r ps → ∀ {i : Nat} {u}, r[i]? = some u → ∃ p, ps[i]? = some p ∧ ValAt Z u.1 p.1 ∧ TreeAt Z u.2 p.2
  | (v, t) :: r, _, q, i, u, hu => by
    refine ex2e q fun p ps' h9x => ?_
    refine and4e h9x fun e h1 h2 h => ?_
    try clear h9x q
    rw [e]
    cases i with
    | zero => cases hu; exact (⟨p, and3i rfl h1 h2⟩)
    | succ i => exact h.get (i := i) (u := u) hu
theorem switch_ok {w : Value} {t : Nd} {ra : Addr} {ts : List Addr} {ps : List (Value × Value)} {rows : List (Vl × Nd)} (hl : ts.length = ps.length) (hn : ps.length ≤ 1000) (hk : TreeAt Z t w) (hr : RowsAt Z rows ps)
    (hm : ∀ (i : Nat) (t : Addr) (p : Value × Value), ts[i]? = some t → ps[i]? = some p → (t, AO.tup [p.1, p.2]) ∈ R)
    (h : ∀ a Z', Zle Z Z' → TreeAt Z' (swN t (rows.map fun r => caseN r.1 r.2)) (.ref a) → Q (.ref a) Z' ((ra, .list (ts.map .ref)) :: R)) : CallOk e.c (n + 4) (.ref 232) [w, .ref ra] Q Z ((ra, .list (ts.map .ref)) :: R) := by
  refine call_fn (F_switch_of rfl) rfl ?_
  repeat tb_rel
  refine ksq rfl fun D => ?_
  refine te_comp (xs := ["word", "block"]) (bnd2 (Bnd.local rfl rfl) (Bnd.local rfl rfl)) ?_
  repeat tb_rel
  refine pi_tups (ps := ps) (by ktr_unf) (cmpI .tups (by first | (refine Nat.le_trans (Nat.le_of_eq (List.length_map _)) ?_; omega) | (show List.length _ ≤ _; omega) | (simp [Sr.N]; omega)) [("line", vI 0)] (fun i ys Z' H' => Zle Z Z' ∧ H' = (D, .list [w]) :: (ra, .list (ts.map .ref)) :: R ∧ TreesAt Z' ((rows.map fun r => caseN r.1 r.2).take i) ys) ?_ ?_ ?_ ?_ ?_)
  · intro p hp; simp at hp; subst hp; exact ⟨rfl, rfl⟩
  · rintro i ys Z' H' m ⟨_, rfl, _⟩
    exact (and3i (.inr (by simp)) hl (fun i t p h1 h2 => .inr (List.mem_cons_of_mem _ (List.mem_cons_of_mem _ (hm i t p h1 h2)))))
  · exact (and3i Zle.refl rfl (by simp [TreesAt]))
  · rintro i ys Z' H' hi ⟨hz, rfl, hT⟩
    have hi' : i < rows.length := by rw [← hr.length]; exact hi
    refine ex1e (hr.get (List.getElem?_eq_getElem hi')) fun p h9x => ?_
    refine and3e h9x fun hp hv ht => ?_
    try clear h9x
    refine ct_nil ?_
    have e1 : ps.getD i (.none, .none) = p := by rw [List.getD_eq_getElem?_getD, hp]; rfl
    show TE _ _ _ _ _ _ ⟨[(("block" : Str), (ps.getD i (.none, .none)).2), (("word" : Str), (ps.getD i (.none, .none)).1)] ++ [(("line" : Str), vI 0)], Z', _⟩
    rw [e1]
    repeat tb_rel
    refine bc_call (case_ok (hv.mono hz) (ht.mono hz _ _) fun a Z'' hz' hA => (and3i (hz.trans hz') rfl ?_))
    rw [List.take_add_one, List.getElem?_map, List.getElem?_eq_getElem hi']
    exact (TreesAt.mono hz' _ _ hT).append (TreesAt.one hA)
  · rintro D2 ys Z' H' ⟨hz, rfl, hT⟩ hlen
    have e1 : (rows.map fun r => caseN r.1 r.2).take (Sr.tups ra ts ps).N = rows.map fun r => caseN r.1 r.2 := List.take_of_length_le (by simp [Sr.N, hr.length])
    rw [e1] at hT
    repeat tb_rel
    have hys : ys.length = rows.length := by rw [hT.length, List.length_map]
    refine bo_addl (by ktr_unf) (by ktr_unf) (by simp; rw [hys, ← hr.length]; omega) fun D3 => ?_
    repeat tb_rel
    refine bc_call (CallOk.turn (yul_ok (n := n + 1) (val := .none) (Q := fun v Z'' H'' => H'' = (D2, .list ys) :: (D, .list [w]) :: (ra, .list (ts.map .ref)) :: R ∧ Zle Z' Z'' ∧ ∃ a, v = .ref a ∧ TreeAt Z'' (.mk "switch" "" .none ([t] ++ (rows.map fun r : Vl × Nd => caseN r.1 r.2))) (.ref a)) rfl ((TreesAt.one (hk.mono hz _ _)).append hT) fun a Z'' hz' hA => (and3i rfl hz' ⟨a, ⟨rfl, hA⟩⟩)) ?_)
    rintro v Z'' H'' ⟨rfl, hz', a, rfl, hA⟩ B hh X
    exact (ex2i Z'' _ ⟨X.sub (.cons _ (.cons _ (List.Sublist.refl _))), h a Z'' (hz.trans hz') hA⟩)
end auto

-- W4

noncomputable def houseF (k : Nat) : Str → Option Value := fun x => if x = "count" then some (vI k) else none
theorem houseF_up (k j : Nat) : updF (houseF k) "count" (vI j) = houseF j := by
  funext x; unfold updF houseF; split <;> rfl
noncomputable abbrev GL (wl cs ho se : Addr) (cells : List Int) (at' : Int) (k : Nat) (L : List Str) (R : HT) : HT :=
  (wl, .list [.ref cs, vI at']) :: (cs, .list (cells.map vI)) :: (ho, .dict 1 (houseF k)) :: (se, .list (L.map vS)) :: R

theorem CallOk.cut {c n f args} {Q : Value → ZT → HT → Prop} {Z H} (h : CallOk c n f args (fun v Z' H' => ∃ H'', H''.Sublist H' ∧ Q v Z' H'') Z H) : CallOk c n f args Q Z H :=
  h.turn fun _ Z' _ ⟨H'', s, q⟩ _ _ X => (ex2i Z' H'' ⟨X.sub s, q⟩)
theorem WE.mono {L L' : List Str} (h : ∀ x ∈ L, x ∈ L') {t} : WE L t → WE L' t := by
  have a : ∀ {t}, W0E L t → W0E L' t := by rintro t (⟨i, h1, h2⟩ | ⟨x, hx⟩); exact .num i h1 h2; exact .nam x (h x hx)
  rintro (h1 | ⟨h1, h2⟩)
  · exact .atom (a h1)
  · exact .call (fun t ht => a (h1 t ht)) h2

noncomputable abbrev fmW4_0 (v0 v1 v2 v3 : Value) : List (Str × Value) := [("way", v0), ("well", v1), ("seen", v2), ("deep", v3)]
section auto
variable {e : Ev} {n : Nat} {R : HT} {Z : ZT} {Q : Value → ZT → HT → Prop} {wl cs ho se : Addr} {cells : List Int} {at' : Int} {k : Nat} {L : List Str}

theorem gdraw {many : Int} (hn : 1 ≤ n) (hat : 0 ≤ at') (hat2 : at' ≤ 1000000) (hm : 0 < many) (hc : cells.length ≤ 63)
    (h : ∀ r, 0 ≤ r → r < many → Q (vI r) Z (GL wl cs ho se cells (at' + 1) k L R)) : CallOk e.c n (.ref 247) [.ref wl, vI many] Q Z (GL wl cs ho se cells at' k L R) := by
  obtain ⟨m, rfl⟩ : ∃ m, n = m + 1 := ⟨n - 1, by omega⟩
  exact draw_ok hat hat2 hm hc h

theorem twig_tail {deep way : Int} {F : Flow → St → Prop} (hc : cells.length ≤ 63) (hat : 0 ≤ at') (hat2 : at' + 1 ≤ 1000000) (hL : L.length ≤ 1000)
    (h : ∀ a Z' t σ, Zle Z Z' → TreeAt Z' t (.ref a) → W0E L t → σ.Z = Z' → ((GL wl cs ho se cells (at' + 1) k L R).Sublist σ.H) → F (.ret (.ref a)) σ) :
    TB e.c (n + 3) d254.1.2 false (d254.1.1.drop 2) F ⟨(fmW4_0 (vI way) (.ref wl) (.ref se) (vI deep)), Z, GL wl cs ho se cells at' k L R⟩ := by
  show TB e.c (n + 3) d254.1.2 false (_ :: d254.1.1.drop 3) F _
  have tail : ∀ (G : HT), L ≠ [] → TB e.c (n + 3) d254.1.2 false (d254.1.1.drop 3) F ⟨(fmW4_0 (vI way) (.ref wl) (.ref se) (vI deep)), Z, G ++ GL wl cs ho se cells at' k L R⟩ := by
    intro G hne
    have hpos : 0 < (L.length : Int) := by have := List.length_pos_iff.mpr hne; omega
    refine TB.le (Le.sub (List.sublist_append_right _ _)) ?_
    repeat tb_rel
    refine bc_len (by ktr_unf) (by simp; omega) ?_
    repeat tb_rel
    refine bc_call (gdraw (by omega) hat (by omega) (by first | exact eq_of_beq hpos | exact ne_of_beq_false hpos | exact of_decide_eq_true hpos | exact of_decide_eq_false hpos | simpa using hpos) hc fun r r0 r1 => ?_)
    repeat tb_rel
    have hr : r.toNat < L.length := by simp at r1; omega
    refine gi_list (v := vS L[r.toNat]) (by ktr_unf) r0 (by simp at r1; omega) (by simp [hr]) ?_
    repeat tb_rel
    exact bc_call (name_ok fun a Z' hz hA => h a Z' _ _ hz hA (.nam _ (List.getElem_mem hr)) rfl (List.Sublist.refl _))
  repeat tb_rel
  refine ⟨fun q => ?_, fun q => ?_⟩
  · repeat tb_rel
    refine bc_call (gdraw (by omega) hat (by omega) (by decide) hc fun r r0 r1 => ?_)
    repeat tb_rel
    exact bc_call (number_ok fun a Z' hz hA => h a Z' _ _ hz hA (.num _ (by omega) (by omega)) rfl (List.Sublist.refl _))
  · repeat tb_rel
    refine ksq rfl fun D => ?_
    refine co_eq_list_nil (by ktr_unf) (by ktr_unf) ?_
    repeat ktr_rel
    refine ⟨fun q => ?_, fun q => ?_⟩
    · repeat tb_rel
      refine bc_call (.sub (gdraw (by omega) hat (by omega) (by decide) hc fun r r0 r1 => ?_) (.cons _ (List.Sublist.refl _)))
      repeat tb_rel
      exact bc_call (number_ok fun a Z' hz hA => h a Z' _ _ hz hA (.num _ (by omega) (by omega)) rfl (List.Sublist.refl _))
    · repeat ktr_rel
      exact tail [(D, .list [])] (by first | exact eq_of_beq q | exact ne_of_beq_false q | exact of_decide_eq_true q | exact of_decide_eq_false q | simpa using q)

theorem twig0_ok (hc : cells.length ≤ 63) (hat : 0 ≤ at') (hat2 : at' + 2 ≤ 1000000) (hL : L.length ≤ 1000)
    (h : ∀ r a Z' t, at' ≤ r → r ≤ at' + 2 → Zle Z Z' → TreeAt Z' t (.ref a) → W0E L t → Q (.ref a) Z' (GL wl cs ho se cells r k L R)) :
    CallOk e.c (n + 4) (.ref 254) [.ref wl, .ref se, vI 0] Q Z (GL wl cs ho se cells at' k L R) := by
  refine CallOk.cut (call_fn (F_twig rfl) rfl ?_)
  repeat tb_rel
  refine bc_call (gdraw (by omega) hat (by omega) (by decide) hc fun way w0 w1 => ?_)
  repeat tb_rel
  have tail := fun F h => @twig_tail e n R Z wl cs ho se cells (at' + 1) k L 0 way F hc (by omega) (by omega) hL h
  refine ⟨fun _ => ?_, fun _ => ?_⟩
  · repeat ktr_rel
    refine tail _ ?_; exact fun a Z' t σ hz hA hw hZ hG => ⟨_, hG, h (at' + 1 + 1) a σ.Z t (by omega) (by omega) (hZ ▸ hz) (hZ ▸ hA) hw⟩
  · repeat ktr_rel
    refine tail _ ?_; exact fun a Z' t σ hz hA hw hZ hG => ⟨_, hG, h (at' + 1 + 1) a σ.Z t (by omega) (by omega) (hZ ▸ hz) (hZ ▸ hA) hw⟩

theorem twig1_ok (hc : cells.length ≤ 63) (hat : 0 ≤ at') (hat2 : at' + 5 ≤ 1000000) (hL : L.length ≤ 1000)
    (h : ∀ r a Z' t, at' ≤ r → r ≤ at' + 5 → Zle Z Z' → TreeAt Z' t (.ref a) → WE L t → Q (.ref a) Z' (GL wl cs ho se cells r k L R)) :
    CallOk e.c (n + 5) (.ref 254) [.ref wl, .ref se, vI 1] Q Z (GL wl cs ho se cells at' k L R) := by
  refine CallOk.cut (call_fn (F_twig rfl) rfl ?_)
  repeat tb_rel
  refine bc_call (gdraw (by omega) hat (by omega) (by decide) hc fun way w0 w1 => ?_)
  repeat tb_rel
  have tail := fun F h => @twig_tail e (n + 1) R Z wl cs ho se cells (at' + 1) k L 1 way F hc (by omega) (by omega) hL h
  refine ⟨fun _ => ?_, fun _ => ?_⟩
  · repeat tb_rel
    refine bc_call (twig0_ok hc (by omega) (by omega) hL fun r a Z1 t r0 r1 hz hA hw => ?_)
    repeat tb_rel
    refine bc_call (twig0_ok hc (by omega) (by omega) hL fun r' b Z2 u r0' r1' hz' hA' hw' => ?_)
    repeat tb_rel
    refine ksq rfl fun D => ?_
    repeat tb_rel
    refine bc_call (call_ok (n := n + 1) (TreesAt.two (hA.mono hz' _ _) hA') fun d Z3 hz3 hD => ⟨_, List.Sublist.refl _, h r' d Z3 _ (by omega) (by omega) ((hz.trans hz').trans hz3) hD (.call ?_ (by simp))⟩)
    intro x hx
    simp at hx
    rcases hx with rfl | rfl
    · exact hw
    · exact hw'
  · repeat ktr_rel
    refine tail _ ?_; exact fun a Z' t σ hz hA hw hZ hG => ⟨_, hG, h (at' + 1 + 1) a σ.Z t (by omega) (by omega) (hZ ▸ hz) (hZ ▸ hA) (.atom hw)⟩

theorem every_ok (hL : L.length ≤ 900)
    (h : ∀ a Z' t, Zle Z Z' → TreeAt Z' t (.ref a) → WE L t → Q (.ref a) Z' ((se, .list (L.map vS)) :: R)) :
    CallOk e.c (n + 5) (.ref 259) [.ref se] Q Z ((se, .list (L.map vS)) :: R) := by
  refine CallOk.cut (call_fn (F_every rfl) rfl ?_)
  repeat tb_rel
  refine bc_call (number_ok (n := n + 1) fun a Z1 hz hA => ?_)
  repeat tb_rel
  refine ksq rfl fun D => ?_
  refine te_comp (xs := ["each"]) (bnd1 (Bnd.local rfl rfl)) ?_
  repeat tb_rel
  refine pi_list (by ktr_unf) (cmpI .lst (by first | (refine Nat.le_trans (Nat.le_of_eq (List.length_map _)) ?_; omega) | (show List.length _ ≤ _; omega) | (simp [Sr.N]; omega)) [] (fun i ys Z' H' => Zle Z1 Z' ∧ H' = (D, .list [.ref a]) :: (se, .list (L.map vS)) :: R ∧ TreesAt Z' ((L.map namN).take i) ys) ?_ ?_ ?_ ?_ ?_)
  · intro p hp; simp at hp
  · rintro i ys Z' H' m ⟨_, rfl, _⟩
    exact .inr (by simp)
  · exact (and3i Zle.refl rfl (by simp [TreesAt]))
  · rintro i ys Z' H' hi ⟨hz, rfl, hT⟩
    have hi' : i < L.length := by first | exact Nat.lt_of_lt_of_eq hi (List.length_map _) | exact hi | simpa [Sr.N] using hi
    refine ct_nil ?_
    have e1 : (L.map vS).getD i .none = vS L[i] := by first | exact getD_at hi' | simp [List.getD_eq_getElem?_getD, hi']
    refine St.at1 e1 ?_
    repeat tb_rel
    refine bc_call (name_ok (n := n + 1) fun b Z'' hz' hB => (and3i (hz.trans hz') rfl ?_))
    rw [List.take_add_one, List.getElem?_map, List.getElem?_eq_getElem hi']
    exact (TreesAt.mono hz' _ _ hT).append (TreesAt.one hB)
  · rintro D2 ys Z' H' ⟨hz2, rfl, hT⟩ hlen
    have e1 : (L.map namN).take (Sr.lst se (L.map vS)).N = L.map namN := List.take_of_length_le (by first | exact Nat.le_of_eq (List.length_map _).symm | simp [Sr.N])
    rw [e1] at hT
    repeat tb_rel
    have hys : ys.length = L.length := by rw [hT.length, List.length_map]
    refine bo_addl (by ktr_unf) (by ktr_unf) (by simp; omega) fun D3 => ?_
    repeat tb_rel
    refine bc_call (call_ok (n := n + 1) (kids := numN 1 :: L.map namN) ((TreesAt.one (hA.mono hz2 _ _)).append hT) fun d Z3 hz3 hD => ⟨_, .cons _ (.cons _ (List.Sublist.refl _)), h d Z3 _ ((hz.trans hz2).trans hz3) hD (.call ?_ (by simp; omega))⟩)
    intro x hx
    rcases List.mem_cons.mp hx with rfl | hx
    · exact .num _ (by decide) (by decide)
    · refine ex1e (List.mem_map.mp hx) fun y h9x => ?_
      refine and2e h9x fun hy e9c => ?_
      try clear h9x
      obtain rfl := e9c
      exact .nam _ hy
end auto

-- L19

noncomputable abbrev kCut {α : Type} (c : Cx) (Q : α → St → Prop) : α → St → Prop := fun a σ' => ∃ σ'', Le c σ' σ'' ∧ Q a σ''
theorem T.cut {α : Type} {c n sc cmp} {t : Env → Sem α} {Q : α → St → Prop} {σ : St} (h : T c n sc cmp t (kCut c Q) σ) : T c n sc cmp t Q σ :=
  fun L cl q f cd fr A B s₀ s ok r b x => wpAny_mono (h L cl q f cd fr A B s₀ s ok r b x) (fun _ _ ⟨σ', ⟨σ'', l, y⟩, z⟩ => ⟨σ'', y, l _ _ _ _ _ _ _ z⟩) fun _ _ e => e
theorem TB.cut {c n sc cmp b Q} {σ : St} (h : TB c n sc cmp b (kCut c Q) σ) : TB c n sc cmp b Q σ := by unfold TB at *; exact h.cut
theorem TT.le {c n sc cmp e Q} {σ σ' : St} (l : Le c σ σ') (h : TT c n sc cmp e Q σ') : TT c n sc cmp e Q σ := by
  unfold TT at *; exact h.pre fun L cl s₀ B s x => l _ _ _ _ _ _ _ x
noncomputable def FactsIn (m : List (Str × Value)) : List (Str × Value) → Prop
  | [] => True
  | p :: r => m.lookup p.1 = some p.2 ∧ FactsIn m r
theorem FactsIn.mem {m : List (Str × Value)} : ∀ {m'}, FactsIn m m' → ∀ p ∈ m', m.lookup p.1 = some p.2
  | q :: r, h, p, hp => by
    rcases List.mem_cons.mp hp with rfl | hp
    · exact h.1
    · exact FactsIn.mem h.2 p hp
theorem FactsIn.of : ∀ {m' m : List (Str × Value)}, m'.map (fun p => m.lookup p.1) = m'.map (fun p => some p.2) → FactsIn m m'
  | [], _, _ => trivial
  | p :: r, m, h => ⟨(List.cons.inj h).1, FactsIn.of (List.cons.inj h).2⟩
theorem Le.facts {c m m' Z H} (h : FactsIn m m') : Le c ⟨m, Z, H⟩ ⟨m', Z, H⟩ := Le.forget fun x v e => h.mem _ (mem_of_lookup e)
theorem perm_two4 {a b w x y z : Addr × AO} {R : HT} : (a :: b :: w :: x :: y :: z :: R).Perm (w :: x :: y :: z :: a :: b :: R) := (List.perm_append_comm (l₁ := [a, b]) (l₂ := [w, x, y, z])).append_right R
theorem perm_one4 {a w x y z : Addr × AO} {R : HT} : (a :: w :: x :: y :: z :: R).Perm (w :: x :: y :: z :: a :: R) := (List.perm_append_comm (l₁ := [a]) (l₂ := [w, x, y, z])).append_right R
theorem perm_up5 {a w x y z u : Addr × AO} {R : HT} : (w :: x :: y :: z :: u :: a :: R).Perm (a :: w :: x :: y :: z :: u :: R) := List.perm_middle (l₁ := [w, x, y, z, u])
theorem perm_up4 {a w x y z : Addr × AO} {R : HT} : (w :: x :: y :: z :: a :: R).Perm (a :: w :: x :: y :: z :: R) := List.perm_middle (l₁ := [w, x, y, z])

theorem frN_succ (k i : Nat) : frN k (k + i) ++ [nm (k + i + 1)] = frN k (k + i + 1) := by
  unfold frN
  rw [show k + i - k = i by omega, show k + i + 1 - k = i + 1 by omega, List.range_succ, List.map_append]
  simp [Nat.add_assoc, Nat.add_comm 1 i]
theorem frN_nil (k : Nat) : frN k (k + 0) = [] := by unfold frN; simp
theorem frN_len (k k' : Nat) : (frN k k').length = k' - k := by unfold frN; simp
theorem nm_size : ∀ j : Fin 700, (Str.ofString (toString ((j.1 : Nat) : Int))).length ≤ 10 := by decide +kernel
noncomputable def nmVal (s : Str) : Nat := (s.cps.toList.drop 1).foldl (fun a c => a * 10 + (c - 48)) 0
theorem nm_val : ∀ j : Fin 700, nmVal (nm j.1) = j.1 := by decide +kernel
theorem nm_inj {i j : Nat} (hi : i < 700) (hj : j < 700) (h : nm i = nm j) : i = j := by
  have a := nm_val ⟨i, hi⟩; have b := nm_val ⟨j, hj⟩
  dsimp only at a b
  rw [← a, ← b, h]
theorem nm_other : ∀ j : Fin 700, nm j.1 ≠ "" ∧ nm j.1 ≠ "p" ∧ nm j.1 ≠ "q" ∧ nm j.1 ≠ "<back>" := by decide +kernel
noncomputable def ifBody : Stmt → List Stmt | .If _ b _ _ => b | _ => []
noncomputable def stAt (l : List Stmt) (i : Nat) : Stmt := l.getD i (.Pass ⟨0, 0, 0, 0⟩)
noncomputable def forBody : Stmt → List Stmt | .For _ _ b _ _ => b | _ => []
noncomputable def forTgt : Stmt → PySem.Expr | .For t _ _ _ _ => t | _ => .Name "" ⟨0, 0, 0, 0⟩

-- W5
noncomputable abbrev fmW5_0 (v0 v1 v2 v3 : Value) : List (Str × Value) := [("fresh", v0), ("well", v1), ("house", v2), ("seen", v3)]
section auto
variable {e : Ev} {n : Nat} {R : HT} {Z : ZT} {Q : Value → ZT → HT → Prop} {wl cs ho se : Addr} {cells : List Int} {at' : Int} {k : Nat} {L : List Str}

theorem let_tail {Fq : Flow → St → Prop} {wv : Value} {w : Option Nd} {T D : Addr} {tv : AO} {k' : Nat} {m : List (Str × Value)} (hm : FactsIn m [("worth", wv), ("fresh", .ref D), ("seen", .ref se)]) (hL : L.length ≤ 800) (hk : k < k') (hk' : k' ≤ k + 6)
    (hw : (w = none ∧ wv = .none) ∨ ∃ a t, w = some t ∧ wv = .ref a ∧ TreeAt Z t (.ref a) ∧ WE L t)
    (h : ∀ a Z' t σ, Zle Z Z' → TreeAt Z' t (.ref a) → (∀ B, WS B L k t (frN k k') k') → σ.Z = Z' → ((GL wl cs ho se cells at' k' (L ++ frN k k') R).Sublist σ.H) → Fq (.ret (.ref a)) σ) :
    TB e.c (n + 4) d266.1.2 false (d266.1.1.drop 4) Fq ⟨m, Z, GL wl cs ho se cells at' k' L ((T, tv) :: (D, .list ((frN k k').map vS)) :: R)⟩ := by
  refine TB.le (Le.facts hm) ?_
  have hfl := frN_len k k'
  repeat tb_rel
  refine bc_extend (by ktr_unf) (by ktr_unf) (by simp; omega) ?_
  refine kdn ?_
  rw [← List.map_append]
  repeat tb_rel
  rcases hw with ⟨rfl, rfl⟩ | ⟨a, t, rfl, rfl, hA, hwe⟩
  · refine bc_call (.perm (let_ok0 (by omega) fun a Z' hz hA => h a Z' _ _ hz hA (fun B => .let0 hk hk') rfl ?_) perm_up5)
    exact .cons _ (.cons_cons _ (.cons_cons _ (.cons_cons _ (.cons_cons _ (.cons _ (List.Sublist.refl _))))))
  · refine bc_call (.perm (let_ok1 (by omega) hA fun b Z' hz hA => h b Z' _ _ hz hA (fun B => .let1 hk hk' hwe) rfl ?_) perm_up5)
    exact .cons _ (.cons_cons _ (.cons_cons _ (.cons_cons _ (.cons_cons _ (.cons _ (List.Sublist.refl _))))))

theorem let_ok (hc : cells.length ≤ 63) (hat : 0 ≤ at') (hat2 : at' + 7 ≤ 1000000) (hL : L.length ≤ 800) (hk6 : k + 6 ≤ 600)
    (h : ∀ r a Z' t k', at' ≤ r → r ≤ at' + 7 → k < k' → k' ≤ k + 6 → Zle Z Z' → TreeAt Z' t (.ref a) → (∀ B, WS B L k t (frN k k') k') → Q (.ref a) Z' (GL wl cs ho se cells r k' (L ++ frN k k') R)) :
    CallOk e.c (n + 6) (.ref 266) [.ref wl, .ref ho, .ref se] Q Z (GL wl cs ho se cells at' k L R) := by
  refine CallOk.cut (call_fn (F_let rfl) rfl ?_)
  repeat tb_rel
  refine ksq rfl fun D => ?_
  repeat tb_rel
  refine ts_for (xs := ["turn"]) (bnd1 (Bnd.local rfl rfl)) ?_
  repeat ktr_rel
  refine ksq rfl fun T => ?_
  repeat ktr_rel
  refine bc_call (.perm (gdraw (by omega) hat (by omega) (by decide) hc fun r r0 r1 => ?_) perm_two4)
  obtain ⟨m, hm0, hm6, hmg⟩ : ∃ m : Nat, 1 ≤ m ∧ m ≤ 6 ∧ ([vI 1, vI 1, vI 2, vI 6] : List Value)[r.toNat]? = some (vI m) := by
    rcases (show r = 0 ∨ r = 1 ∨ r = 2 ∨ r = 3 by omega) with rfl | rfl | rfl | rfl
    · exact (⟨1, and3i (by decide) (by decide) rfl⟩)
    · exact (⟨1, and3i (by decide) (by decide) rfl⟩)
    · exact (⟨2, and3i (by decide) (by decide) rfl⟩)
    · exact (⟨6, and3i (by decide) (by decide) rfl⟩)
  refine gi_tup (by ktr_unf) r0 (by omega) hmg ?_
  repeat ktr_rel
  refine bc_range1 fun rr => ?_
  refine pi_range (by ktr_unf) (by decide) (by decide) (by omega) (by omega) (forI .rng (fun i σ => σ = ⟨(fmW5_0 (.ref D) (.ref wl) (.ref ho) (.ref se)), Z, (rr, .rng 0 m) :: GL wl cs ho se cells (at' + 1) (k + i) L ((T, .tup [vI 1, vI 1, vI 2, vI 6]) :: (D, .list ((frN k (k + i)).map vS)) :: R)⟩) (fun _ _ _ => trivial) ?_ ?_ ?_)
  · simp only [frN_nil]; rfl
  · rintro i σ hi rfl
    have hi' : i < m := by first | exact Nat.lt_of_lt_of_eq hi (List.length_map _) | exact hi | simpa [Sr.N] using hi
    refine TB.cut ?_
    refine tb_cons ?_
    repeat ktr_rel
    refine gi_dict (v := vI (k + i : Nat)) (by ktr_unf) (by simp [houseF]) ?_
    repeat ktr_rel
    have hcast : ((k + i : Nat) : Int) + 1 = ((k + i + 1 : Nat) : Int) := by omega
    rw [hcast]
    refine si_dict_old (by ktr_unf) (by simp [houseF]) (by decide) ?_
    rw [houseF_up]
    repeat tb_rel
    refine gi_dict (v := vI (k + i + 1 : Nat)) (by ktr_unf) (by simp [houseF]) ?_
    repeat tb_rel
    refine bc_str (Nat.lt_of_le_of_lt (Nat.log2_le_self _) (by omega)) ?_
    have hsz := nm_size ⟨k + i + 1, by omega⟩
    dsimp only at hsz
    have hsz1 : (Str.ofString "n").length = 1 := by decide
    repeat tb_rel
    refine bo_cat (by rw [sizeLine_eq]; omega) ?_
    repeat tb_rel
    refine bc_append (by ktr_unf) (by simp [frN_len]; omega) ?_
    refine kdn ?_
    repeat tb_rel
    have key : (frN k (k + i)).map vS ++ [vS (Str.ofString "n" ++ Str.ofString (toString ((k + i + 1 : Nat) : Int)))] = (frN k (k + (i + 1))).map vS := by
      have := frN_succ k i
      rw [← Nat.add_assoc, ← this]; simp [nm]
    rw [key]
    refine ⟨_, ?_, rfl⟩
    exact Le.facts (FactsIn.of rfl)
  · rintro σ rfl
    have hN : (Sr.rng 0 ((m : Int) - 0).toNat).N = m := by first | exact List.length_map _ | simp [Sr.N]
    rw [hN]
    refine TB.le (Le.sub (.cons _ (List.Sublist.refl _))) ?_
    refine tb_cons ?_
    repeat ktr_rel
    refine bc_call (gdraw (by omega) (by omega) (by omega) (by decide) hc fun srt s0 s1 => ?_)
    repeat ktr_rel
    refine tb_cons ?_
    repeat ktr_rel
    have fin : ∀ r Z0, at' ≤ r → r ≤ at' + 7 → Zle Z Z0 → ∀ a Z' t (σ : St), Zle Z0 Z' → TreeAt Z' t (.ref a) → (∀ B, WS B L k t (frN k (k + m)) (k + m)) → σ.Z = Z' → ((GL wl cs ho se cells r (k + m) (L ++ frN k (k + m)) R).Sublist σ.H) → ∃ H'', H''.Sublist σ.H ∧ Q (.ref a) σ.Z H'' := by
      intro r Z0 h1 h2 hz a Z' t σ hz' hA hw hZ hs
      subst hZ
      exact ⟨_, hs, h r a σ.Z t (k + m) h1 h2 (by omega) (by omega) (hz.trans hz') hA hw⟩
    refine ⟨fun _ => ?_, fun _ => ?_⟩
    · repeat ktr_rel
      refine bc_call (.perm (every_ok (n := n) (by omega) fun a Z' t hz hA hw => ?_) (List.perm_middle (l₁ := [_, _, _])))
      repeat ktr_rel
      refine TB.le (Le.perm (List.perm_middle (l₁ := [_, _, _])).symm) ?_
      refine let_tail (w := some t) (FactsIn.of rfl) hL (by omega) (by omega) (.inr (ex2i a t (and4i rfl rfl hA hw))) ?_
      exact fin (at' + 1 + 1) Z' (by omega) (by omega) hz
    · repeat ktr_rel
      refine ⟨fun _ => ?_, fun _ => ?_⟩
      · repeat ktr_rel
        refine bc_call (twig1_ok hc (by omega) (by omega) (by omega) fun r' a Z' t r0' r1' hz hA hw => ?_)
        repeat ktr_rel
        refine let_tail (w := some t) (FactsIn.of rfl) hL (by omega) (by omega) (.inr (ex2i a t (and4i rfl rfl hA hw))) ?_
        exact fin r' Z' (by omega) (by omega) hz
      · repeat ktr_rel
        refine let_tail (w := none) (FactsIn.of rfl) hL (by omega) (by omega) (.inl ⟨rfl, rfl⟩) ?_
        exact fin (at' + 1 + 1) Z (by omega) (by omega) Zle.refl
end auto

-- W6

noncomputable def Bd : Nat → List Str → Nat → List Nd → Nat → Prop
  | 0 => fun _ _ _ _ => False
  | d + 1 => WB d
theorem WSd_eq (d : Nat) : WSd d = WS (Bd d) := by cases d <;> rfl

noncomputable def StRet (d K N : Nat) (wl cs ho se : Addr) (cells : List Int) (at' : Int) (k : Nat) (L : List Str) (R : HT) (Z : ZT) (Fq : Flow → St → Prop) : Prop :=
  ∀ (r : Int) a t ns k' (σ : St), at' ≤ r → r ≤ at' + K → k ≤ k' → k' ≤ k + N → ns.length ≤ k' - k → Zle Z σ.Z → TreeAt σ.Z t (.ref a) → WS (Bd d) L k t ns k' → (GL wl cs ho se cells r k' (L ++ ns) R).Sublist σ.H → Fq (.ret (.ref a)) σ
noncomputable def BlockOk (e : Ev) (n d K N : Nat) : Prop := ∀ (wl cs ho se : Addr) (cells : List Int) (at' : Int) (k : Nat) (L : List Str) (R : HT) (Z : ZT) (Q : Value → ZT → HT → Prop), cells.length ≤ 63 → 0 ≤ at' → at' + K ≤ 1000000 → k + N ≤ 600 → L.length ≤ k + 2 →
  (∀ (r : Int) a Z' b k', at' ≤ r → r ≤ at' + K → k ≤ k' → k' ≤ k + N → Zle Z Z' → TreeAt Z' (blkN b) (.ref a) → WB d L k b k' → Q (.ref a) Z' (GL wl cs ho se cells r k' L R)) → CallOk e.c n (.ref 278) [.ref wl, .ref ho, .ref se, vI d] Q Z (GL wl cs ho se cells at' k L R)
noncomputable def StatOk (e : Ev) (n d K N : Nat) : Prop := ∀ (wl cs ho se : Addr) (cells : List Int) (at' : Int) (k : Nat) (L : List Str) (R : HT) (Z : ZT) (Q : Value → ZT → HT → Prop), cells.length ≤ 63 → 0 ≤ at' → at' + K ≤ 1000000 → k + N ≤ 600 → L.length ≤ k + 2 →
  (∀ (r : Int) a Z' t ns k', at' ≤ r → r ≤ at' + K → k ≤ k' → k' ≤ k + N → ns.length ≤ k' - k → Zle Z Z' → TreeAt Z' t (.ref a) → WS (Bd d) L k t ns k' → Q (.ref a) Z' (GL wl cs ho se cells r k' (L ++ ns) R)) → CallOk e.c n (.ref 273) [.ref wl, .ref ho, .ref se, vI d] Q Z (GL wl cs ho se cells at' k L R)

theorem RowsAt.mono {Z Z'} (h : Zle Z Z') : ∀ {r ps}, RowsAt Z r ps → RowsAt Z' r ps
  | [], _, e => e
  | _ :: r, _, ⟨p, ps', e, h1, h2, h3⟩ => (ex2i p ps' (and4i e (h1.mono h) (h2.mono h _ _) (h3.mono h)))
theorem RowsAt.snoc {Z v t p} : ∀ {r ps}, RowsAt Z r ps → ValAt Z v p.1 → TreeAt Z t p.2 → RowsAt Z (r ++ [(v, t)]) (ps ++ [p])
  | [], _, e, h1, h2 => by rw [e]; exact (ex2i p ([]) (and4i rfl h1 h2 rfl))
  | (v', t') :: r, _, ⟨q, ps', e, h3, h4, h5⟩, h1, h2 => by subst e; exact (ex2i q (ps' ++ [p]) (and4i rfl h3 h4 (h5.snoc h1 h2)))
theorem tups_snoc {ts : List Addr} {ps : List (Value × Value)} {G G' : HT} {t : Addr} {p : Value × Value} (hl : ts.length = ps.length) (h : ∀ (i : Nat) (t : Addr) (p : Value × Value), ts[i]? = some t → ps[i]? = some p → (t, AO.tup [p.1, p.2]) ∈ G)
    (hG : ∀ q ∈ G, q ∈ G') (ht : (t, AO.tup [p.1, p.2]) ∈ G') : ∀ (i : Nat) (t' : Addr) (p' : Value × Value), (ts ++ [t])[i]? = some t' → (ps ++ [p])[i]? = some p' → (t', AO.tup [p'.1, p'.2]) ∈ G' := by
  intro i t' p' h1 h2
  by_cases hi : i < ts.length
  · rw [List.getElem?_append_left hi] at h1
    rw [List.getElem?_append_left (by omega)] at h2
    exact hG _ (h i t' p' h1 h2)
  · by_cases he : i = ts.length
    · subst he
      simp at h1
      rw [hl] at h2
      simp at h2
      subst h1 h2; exact ht
    · rw [List.getElem?_eq_none (by simp; omega)] at h1; cases h1
theorem pm1 {t w c h s r T D : Addr × AO} {X : HT} : (t :: w :: c :: h :: s :: r :: T :: D :: X).Perm (r :: w :: c :: h :: s :: T :: D :: t :: X) :=
  ((List.perm_append_comm (l₁ := [t]) (l₂ := [w, c, h, s, r, T, D])).trans (List.perm_middle (l₁ := [w, c, h, s]) (l₂ := [T, D, t]))).append_right X

theorem CallOk.cutp {c n f args} {Q : Value → ZT → HT → Prop} {Z H} (h : CallOk c n f args (fun v Z' H' => ∃ H3 H'', H'.Perm H3 ∧ H''.Sublist H3 ∧ Q v Z' H'') Z H) : CallOk c n f args Q Z H :=
  h.turn fun _ Z' _ ⟨H3, H'', p, s, q⟩ _ _ X => (ex2i Z' H'' ⟨(X.perm p).sub s, q⟩)
noncomputable abbrev fmW6_0 (v0 v1 v2 v3 v4 v5 v6 : Value) : List (Str × Value) := [("test", v0), ("rows", v1), ("way", v2), ("well", v3), ("house", v4), ("seen", v5), ("deep", v6)]
noncomputable abbrev fmW6_1 (v0 v1 v2 v3 v4 : Value) : List (Str × Value) := [("inner", v0), ("well", v1), ("house", v2), ("seen", v3), ("deep", v4)]
noncomputable abbrev fmW6_2 (v0 v1 v2 v3 : Value) : List (Str × Value) := [("well", v0), ("house", v1), ("inner", v2), ("deep", v3)]
section auto
variable {e : Ev} {n d K N : Nat} {R : HT} {Z : ZT} {Q : Value → ZT → HT → Prop} {wl cs ho se : Addr} {cells : List Int} {at' : Int} {k : Nat} {L : List Str} {Fq : Flow → St → Prop}

noncomputable abbrev stM (way : Int) (wl ho se : Addr) (d : Nat) : List (Str × Value) := [("way", vI way), ("well", .ref wl), ("house", .ref ho), ("seen", .ref se), ("deep", vI d)]

theorem stat_pop {way : Int} (hK : 6 ≤ K) (hc : cells.length ≤ 63) (hat : 0 ≤ at') (hat2 : at' + K ≤ 1000000) (hL : L.length ≤ 800) (h : StRet d K N wl cs ho se cells at' k L R Z Fq) :
    TB e.c (n + 6) d273.1.2 false (ifBody (stAt d273.1.1 2)) Fq ⟨stM way wl ho se d, Z, GL wl cs ho se cells at' k L R⟩ := by
  have nil : L ++ [] = L := List.append_nil L
  have tail : ∀ (at'' : Int), at' ≤ at'' → at'' ≤ at' + 1 → TB e.c (n + 6) d273.1.2 false ((ifBody (stAt d273.1.1 2)).drop 1) Fq ⟨stM way wl ho se d, Z, GL wl cs ho se cells at'' k L R⟩ := by
    intro at'' h1 h2
    repeat tb_rel
    refine bc_call (.more (twig1_ok (n := n) hc (by omega) (by omega) (by omega) fun r a Z' t r0 r1 hz hA hw => ?_) (by omega))
    repeat tb_rel
    refine ksq rfl fun D => ?_
    repeat tb_rel
    refine bc_call (.more (call_ok (n := n) (TreesAt.one hA) fun a2 Z2 hz2 hA2 => ?_) (by omega))
    repeat tb_rel
    refine bc_call (.more (expr_ok (n := n) hA2 fun a3 Z3 hz3 hA3 => ?_) (by omega))
    exact h r a3 _ [] k _ (by omega) (by omega) (by omega) (by omega) (by simp) ((hz.trans hz2).trans hz3) hA3 (.pop hw) (by rw [nil]; exact List.Sublist.refl _)
  refine tb_cons ?_
  repeat ktr_rel
  refine ksq rfl fun D => ?_
  refine co_ne_list_nil (by ktr_unf) (by ktr_unf) ?_
  refine tv_bool ?_
  refine ⟨fun q => ?_, fun q => ?_⟩
  · have hne : L ≠ [] := by first | exact eq_of_beq q | exact ne_of_beq_false q | exact of_decide_eq_true q | exact of_decide_eq_false q | simpa using q
    have hpos : 0 < (L.length : Int) := by have := List.length_pos_iff.mpr hne; omega
    repeat ktr_rel
    refine bc_call (.sub (gdraw (by omega) hat (by omega) (by decide) hc fun r r0 r1 => ?_) (.cons _ (List.Sublist.refl _)))
    repeat ktr_rel
    refine ⟨fun _ => ?_, fun _ => ?_⟩
    · repeat tb_rel
      refine to_some ?_
      repeat tb_rel
      refine ⟨1, rfl, ?_⟩
      repeat tb_rel
      refine bc_len (by ktr_unf) (by simp; omega) ?_
      repeat tb_rel
      refine bc_call (gdraw (by omega) (by omega) (by omega) (by first | exact eq_of_beq hpos | exact ne_of_beq_false hpos | exact of_decide_eq_true hpos | exact of_decide_eq_false hpos | simpa using hpos) hc fun r r0 r1 => ?_)
      repeat tb_rel
      refine ⟨_, rfl, to_none (to_none (⟨by simp, ex2i se _ (and4i rfl (.inl (by ktr_unf)) (by simp; omega) (fun D2 => ?_))⟩))⟩
      simp at r1
      rw [pick_back _ _ (by omega) (by simp; omega), ← List.map_drop]
      repeat tb_rel
      refine bc_call (.more (every_ok (n := n) (by simp; omega) fun a Z1 t hz hA hw => ?_) (by omega))
      repeat tb_rel
      refine ⟨by simp, fun D3 => ?_⟩
      repeat tb_rel
      refine bc_call (.more (call_ok (n := n) (TreesAt.one hA) fun a2 Z2 hz2 hA2 => ?_) (by omega))
      repeat tb_rel
      refine bc_call (.more (expr_ok (n := n) hA2 fun a3 Z3 hz3 hA3 => ?_) (by omega))
      exact h (at' + 1 + 1) a3 _ [] k _ (by omega) (by omega) (by omega) (by omega) (by simp) ((hz.trans hz2).trans hz3) hA3 (.pop (hw.mono fun x hx => List.mem_of_mem_drop hx)) (by rw [nil]; exact .cons _ (List.Sublist.refl _))
    · repeat ktr_rel
      exact tail (at' + 1) (by omega) (by omega)
  · repeat ktr_rel
    refine TB.le (Le.sub (.cons _ (List.Sublist.refl _))) ?_
    exact tail at' (by omega) (by omega)

theorem stat_asg {way : Int} (hK : 7 ≤ K) (hne : L ≠ []) (hc : cells.length ≤ 63) (hat : 0 ≤ at') (hat2 : at' + K ≤ 1000000) (hL : L.length ≤ 800) (h : StRet d K N wl cs ho se cells at' k L R Z Fq) :
    TB e.c (n + 6) d273.1.2 false (ifBody (stAt d273.1.1 3)) Fq ⟨stM way wl ho se d, Z, GL wl cs ho se cells at' k L R⟩ := by
  have nil : L ++ [] = L := List.append_nil L
  have hpos : 0 < (L.length : Int) := by have := List.length_pos_iff.mpr hne; omega
  repeat tb_rel
  refine bc_len (by ktr_unf) (by simp; omega) ?_
  repeat tb_rel
  refine bc_call (gdraw (by omega) (by omega) (by omega) (by first | exact eq_of_beq hpos | exact ne_of_beq_false hpos | exact of_decide_eq_true hpos | exact of_decide_eq_false hpos | simpa using hpos) hc fun r r0 r1 => ?_)
  repeat tb_rel
  simp at r1
  have hr : r.toNat < L.length := by omega
  refine gi_list (v := vS L[r.toNat]) (by ktr_unf) r0 (by omega) (by simp [hr]) ?_
  repeat tb_rel
  refine ksq rfl fun D => ?_
  repeat tb_rel
  refine bc_call (.perm (.more (twig1_ok (n := n) (L := L) hc (by omega) (by omega) (by omega) fun r' a Z' t r0 r1 hz hA hw => ?_) (by omega)) perm_one4)
  repeat tb_rel
  refine bc_call (.perm (.more (assign_ok (n := n) (ns := [L[r.toNat]]) (by simp) hA fun a2 Z2 hz2 hA2 => ?_) (by omega)) perm_up4)
  exact h r' a2 _ [] k _ (by omega) (by omega) (by omega) (by omega) (by simp) (hz.trans hz2) hA2 (.asg (List.getElem_mem hr) hw) (by rw [nil]; exact .cons _ (.cons_cons _ (.cons_cons _ (.cons_cons _ (.cons_cons _ (List.Sublist.refl _))))))

theorem stat_nest {way : Int} {KB NB : Nat} (hB : BlockOk e (n + 6) d KB NB) (hK : 6 + 2 * KB ≤ K) (hN : 2 * NB ≤ N) (hc : cells.length ≤ 63) (hat : 0 ≤ at') (hat2 : at' + K ≤ 1000000) (hk : k + N ≤ 600) (hL : L.length ≤ k + 2) (hw6 : 6 ≤ way) (h : StRet (d + 1) K N wl cs ho se cells at' k L R Z Fq) :
    TB e.c (n + 6) d273.1.2 false (d273.1.1.drop 4) Fq ⟨stM way wl ho se (d + 1), Z, GL wl cs ho se cells at' k L R⟩ := by
  have nil : L ++ [] = L := List.append_nil L
  have hd1 : ((d + 1 : Nat) : Int) - 1 = (d : Nat) := by omega
  refine tb_cons ?_
  repeat ktr_rel
  refine ⟨fun _ => ?_, fun _ => ?_⟩
  · repeat tb_rel
    refine bc_call (.more (twig1_ok (n := n) hc (by omega) (by omega) (by omega) fun r a Z' t r0 r1 hz hA hw => ?_) (by omega))
    repeat tb_rel
    rw [hd1]
    refine bc_call (hB _ _ _ _ _ _ _ _ _ _ _ hc (by omega) (by omega) (by omega) hL fun r2 a2 Z2 b k2 r20 r21 hk2 hk2' hz2 hA2 hb => ?_)
    repeat tb_rel
    refine bc_call (.more (if_ok (n := n) (hA.mono hz2 _ _) hA2 fun a3 Z3 hz3 hA3 => ?_) (by omega))
    exact h r2 a3 _ [] k2 _ (by omega) (by omega) (by omega) (by omega) (by simp) ((hz.trans hz2).trans hz3) hA3 (.iff hw hb) (by rw [nil]; exact List.Sublist.refl _)
  · refine tb_nil ?_
    refine tb_cons ?_
    repeat ktr_rel
    refine ⟨fun _ => ?_, fun _ => ?_⟩
    · repeat tb_rel
      refine bc_call (.more (twig1_ok (n := n) hc (by omega) (by omega) (by omega) fun r a Z' t r0 r1 hz hA hw => ?_) (by omega))
      repeat tb_rel
      rw [hd1]
      refine bc_call (hB _ _ _ _ _ _ _ _ _ _ _ hc (by omega) (by omega) (by omega) hL fun r2 a2 Z2 b k2 r20 r21 hk2 hk2' hz2 hA2 hb => ?_)
      repeat tb_rel
      refine ksq rfl fun D => ?_
      repeat tb_rel
      refine bc_call (.more (block_ok (n := n) (kids := []) rfl fun a0 Z0 hz0 hA0 => ?_) (by omega))
      repeat tb_rel
      rw [hd1]
      refine bc_call (hB _ _ _ _ _ _ _ _ _ _ _ hc (by omega) (by omega) (by omega) (by omega) fun r3 a3 Z3 b3 k3 r30 r31 hk3 hk3' hz3 hA3 hb3 => ?_)
      repeat tb_rel
      refine bc_call (.more (for_ok (n := n) (hA0.mono hz3 _ _) (((hA.mono hz2 _ _).mono hz0 _ _).mono hz3 _ _) hA3 ((hA2.mono hz0 _ _).mono hz3 _ _) fun a4 Z4 hz4 hA4 => ?_) (by omega))
      exact h r3 a4 _ [] k3 _ (by omega) (by omega) (by omega) (by omega) (by simp) ((((hz.trans hz2).trans hz0).trans hz3).trans hz4) hA4 (.fr hw hb hb3) (by rw [nil]; exact List.Sublist.refl _)
    · refine tb_nil ?_
      refine tb_cons ?_
      repeat ktr_rel
      refine ⟨fun _ => ?_, fun _ => ?_⟩
      · refine tb_cons (ts_tuple2s (Bnd.local rfl rfl) (Bnd.local rfl rfl) ?_)
        repeat ktr_rel
        refine bc_call (.more (twig0_ok (n := n) hc (by omega) (by omega) (by omega) fun r w Z' tt r0 r1 hz hA hw => ?_) (by omega))
        repeat ktr_rel
        refine ksq rfl fun D => ?_
        repeat ktr_rel
        refine ⟨by simp, fun T => (ex3i T _ _ (and3i rfl (by ktr_unf) ?_))⟩
        refine tb_cons (ts_for (xs := ["key"]) (bnd1 (Bnd.local rfl rfl)) ?_)
        repeat ktr_rel
        refine bc_call (.perm (gdraw (by omega) (by omega) (by omega) (by decide) hc fun dr d0 d1 => ?_) perm_two4)
        repeat ktr_rel
        refine bc_range1 fun rr => ?_
        refine pi_range (by ktr_unf) (by decide) (by decide) (by omega) (by omega) (forI .rng (fun i σ => ∃ (r' : Int) (k' : Nat) (Z2 : ZT) (G : HT) (ts : List Addr) (ps : List (Value × Value)) (rows : List (Vl × Nd)),
          σ = ⟨(fmW6_0 (.ref w) (.ref D) (vI way) (.ref wl) (.ref ho) (.ref se) (vI (d + 1 : Nat))), Z2, (rr, .rng 0 dr) :: GL wl cs ho se cells r' k' L ((T, .tup [.ref w, .ref D]) :: (D, .list (ts.map .ref)) :: (G ++ R))⟩ ∧
          Zle Z' Z2 ∧ RowsAt Z2 rows ps ∧ ts.length = ps.length ∧ (∀ (i : Nat) (t : Addr) (p : Value × Value), ts[i]? = some t → ps[i]? = some p → (t, AO.tup [p.1, p.2]) ∈ G) ∧ at' ≤ r' ∧ r' ≤ at' + 3 + i * KB ∧ k ≤ k' ∧ k' ≤ k + i * NB ∧
          ((i = 0 ∧ rows = [] ∧ k' = k) ∨ (i = 1 ∧ ∃ b, rows = [(.int 0, blkN b)] ∧ WB d L k b k'))) (fun _ _ _ => trivial) ?_ ?_ ?_)
        · exact (ex7i (r + 1) k Z' ([]) ([]) ([]) ([]) (and10i rfl Zle.refl rfl rfl (by simp) (by omega) (by omega) (by omega) (by omega) (.inl (and3i rfl rfl rfl))))
        · intro i σ hi h9
          refine hide fun G9 hG9 => ?_
          refine ex7e h9 fun r' k' Z2 G ts ps rows h9x => ?_
          refine and10e h9x fun e9h hz2 hrow hlen htup b1 b2 b3 b4 hcase => ?_
          try clear h9x h9
          obtain rfl := e9h
          refine hG9 ?_; clear hG9 G9
          have hi1 : i < 1 := by simp [Sr.N] at hi; omega
          obtain rfl : i = 0 := by omega
          obtain ⟨_, rfl, rfl⟩ := hcase.resolve_right (fun q => by have := q.1; omega)
          have hps0 : ps = [] := hrow
          have hts0 : ts = [] := List.length_eq_zero_iff.mp (by rw [hlen, hps0]; rfl)
          refine TB.cut ?_
          refine tb_cons ?_
          repeat ktr_rel
          rw [hd1]
          refine bc_call (.perm (hB _ _ _ _ _ _ _ _ _ _ _ hc (by omega) (by omega) (by omega) hL fun r2 a2 Z3 b k2 r20 r21 hk2 hk2' hz3 hA2 hb => ?_) perm_one4)
          repeat ktr_rel
          refine ⟨by simp, fun tt2 => ?_⟩
          repeat ktr_rel
          refine bc_append (by ktr_unf) (by rw [List.length_map, hts0]; decide) ?_
          refine kdn ?_
          repeat tb_rel
          have e1 : ts.map Value.ref ++ [Value.ref tt2] = (ts ++ [tt2]).map Value.ref := by simp
          rw [e1]
          refine ⟨⟨(fmW6_0 (.ref w) (.ref D) (vI way) (.ref wl) (.ref ho) (.ref se) (vI (d + 1 : Nat))), Z3, (rr, .rng 0 dr) :: GL wl cs ho se cells r2 k2 L ((T, .tup [.ref w, .ref D]) :: (D, .list ((ts ++ [tt2]).map .ref)) :: (((tt2, .tup [vI (0 + (0 : Nat)), .ref a2]) :: G) ++ R))⟩, ?_, ?_⟩
          · exact (Le.facts (m' := (fmW6_0 (.ref w) (.ref D) (vI way) (.ref wl) (.ref ho) (.ref se) (vI (d + 1 : Nat)))) (FactsIn.of rfl)).trans (Le.perm pm1)
          · refine (ex7i r2 k2 Z3 _ (ts ++ [tt2]) (ps ++ [(vI 0, .ref a2)]) ([] ++ [(.int 0, blkN b)]) (and10i rfl (hz2.trans hz3) (RowsAt.snoc (v := .int 0) (p := (vI 0, .ref a2)) (hrow.mono hz3) rfl hA2) (by simp [hlen]) ?_ (by omega) (by omega) (by omega) (by omega) (.inr ⟨rfl, b, rfl, hb⟩)))
            exact tups_snoc hlen htup (fun q hq => List.mem_cons_of_mem _ hq) (.head _)
        · intro σ h9
          refine hide fun G9 hG9 => ?_
          refine ex7e h9 fun r' k' Z2 G ts ps rows h9x => ?_
          refine and10e h9x fun e9h hz2 hrow hlen htup b1 b2 b3 b4 hcase => ?_
          try clear h9x h9
          obtain rfl := e9h
          refine hG9 ?_; clear hG9 G9
          have hNle : (Sr.rng 0 (dr - 0).toNat).N ≤ 1 := by simp [Sr.N]; omega
          generalize (Sr.rng 0 (dr - 0).toNat).N = NN at *
          have hps1 : ps.length ≤ 1 := by
            rw [hrow.length]
            rcases hcase with ⟨_, rfl, _⟩ | ⟨_, b, rfl, _⟩ <;> simp
          have b2' : r' ≤ at' + 3 + KB := by
            rcases (show NN = 0 ∨ NN = 1 by omega) with rfl | rfl <;> omega
          have b4' : k' ≤ k + NB := by
            rcases (show NN = 0 ∨ NN = 1 by omega) with rfl | rfl <;> omega
          refine tb_cons ?_
          repeat ktr_rel
          rw [hd1]
          refine bc_call (.perm (hB _ _ _ _ _ _ _ _ _ _ _ hc (by omega) (by omega) (by omega) (by omega) fun r2 a2 Z3 b k2 r20 r21 hk2 hk2' hz3 hA2 hb => ?_) perm_one4)
          repeat ktr_rel
          refine ⟨by simp, fun t2 => ?_⟩
          repeat ktr_rel
          refine ⟨by simp, fun L2 => ?_⟩
          refine bo_addl (by ktr_unf) (by ktr_unf) (by simp; omega) fun D3 => ?_
          repeat ktr_rel
          have e1 : ts.map Value.ref ++ [Value.ref t2] = (ts ++ [t2]).map Value.ref := by simp
          rw [e1]
          refine bc_call (.more (switch_ok (n := n) (ts := ts ++ [t2]) (ps := ps ++ [(.none, .ref a2)]) (rows := rows ++ [(.none, blkN b)]) (by simp [hlen]) (by simp; omega) ((hA.mono hz2 _ _).mono hz3 _ _) (RowsAt.snoc (v := .none) (p := (.none, .ref a2)) (hrow.mono hz3) rfl hA2) ?_ fun a3 Z4 hz4 hA3 => ?_) (by omega))
          · refine tups_snoc hlen htup (fun q hq => ?_) (by simp)
            simp [hq]
          · have hsub : (GL wl cs ho se cells r2 k2 L R).Sublist ((D3, AO.list ((ts ++ [t2]).map .ref)) :: (L2, .list [.ref t2]) :: (t2, .tup [.none, .ref a2]) :: GL wl cs ho se cells r2 k2 L ((rr, .rng 0 dr) :: (T, .tup [.ref w, .ref D]) :: (D, .list (ts.map .ref)) :: (G ++ R))) :=
              .cons _ (.cons _ (.cons _ (.cons_cons _ (.cons_cons _ (.cons_cons _ (.cons_cons _ (.cons _ (.cons _ (.cons _ (List.sublist_append_right _ _))))))))))
            refine h r2 a3 _ [] k2 _ (by omega) (by omega) (by omega) (by omega) (by simp) (((hz.trans hz2).trans hz3).trans hz4) hA3 ?_ (by rw [nil]; exact hsub)
            have hwe : WE L tt := .atom hw
            rcases hcase with ⟨_, rfl, rfl⟩ | ⟨_, b', rfl, hb'⟩
            · exact .sw1 hwe hb
            · exact .sw2 hwe hb' hb
      · refine tb_nil ?_
        repeat tb_rel
        rw [hd1]
        refine bc_call (hB _ _ _ _ _ _ _ _ _ _ _ hc (by omega) (by omega) (by omega) hL fun r2 a2 Z2 b k2 r20 r21 hk2 hk2' hz2 hA2 hb => ?_)
        exact h r2 a2 _ [] k2 _ (by omega) (by omega) (by omega) (by omega) (by simp) hz2 hA2 (.blk hb) (by rw [nil]; exact List.Sublist.refl _)

theorem stat_mid {way : Int} (hK : 7 ≤ K) (hN : 6 ≤ N) (hc : cells.length ≤ 63) (hat : 0 ≤ at') (hat2 : at' + K ≤ 1000000) (hk : k + N ≤ 600) (hL : L.length ≤ k + 2) (w0 : 0 ≤ way) (h : StRet d K N wl cs ho se cells at' k L R Z Fq)
    (hrest : 6 ≤ way → TB e.c (n + 6) d273.1.2 false (d273.1.1.drop 4) Fq ⟨stM way wl ho se d, Z, GL wl cs ho se cells at' k L R⟩) :
    TB e.c (n + 6) d273.1.2 false (d273.1.1.drop 1) Fq ⟨stM way wl ho se d, Z, GL wl cs ho se cells at' k L R⟩ := by
  refine tb_cons ?_
  repeat ktr_rel
  refine ⟨fun _ => ?_, fun q3 => ?_⟩
  · repeat tb_rel
    refine bc_call (.more (let_ok (n := n) hc (by omega) (by omega) (by omega) (by omega) fun r a Z' t k' r0 r1 hk0 hk1 hz hA hw => h r a t _ k' _ (by omega) (by omega) (by omega) (by omega) (by rw [frN_len]; omega) hz hA (hw _) (List.Sublist.refl _)) (by omega))
  have q3' : 3 ≤ way := by first | exact eq_of_beq q3 | exact ne_of_beq_false q3 | exact of_decide_eq_true q3 | exact of_decide_eq_false q3 | simpa using q3
  have pop : ∀ G : HT, TB e.c (n + 6) d273.1.2 false (ifBody (stAt d273.1.1 2)) (fun fl σ' => match fl with | .next => TB e.c (n + 6) d273.1.2 false (d273.1.1.drop 3) Fq σ' | f => Fq f σ') ⟨stM way wl ho se d, Z, G ++ GL wl cs ho se cells at' k L R⟩ := fun G =>
    TB.le (Le.sub (List.sublist_append_right _ _)) (stat_pop (d := d) (K := K) (N := N) (by omega) hc (by omega) (by omega) (by omega) fun r a t ns k' σ a1 a2 a3 a4 a5 a6 a7 a8 a9 => h r a t ns k' σ a1 a2 a3 a4 a5 a6 a7 a8 a9)
  have mid : ∀ G : HT, (way < 6 → L ≠ []) → TB e.c (n + 6) d273.1.2 false (d273.1.1.drop 3) Fq ⟨stM way wl ho se d, Z, G ++ GL wl cs ho se cells at' k L R⟩ := by
    intro G hne
    refine TB.le (Le.sub (List.sublist_append_right _ _)) ?_
    refine tb_cons ?_
    repeat ktr_rel
    refine ⟨fun q => ?_, fun q => ?_⟩
    · exact stat_asg (d := d) (K := K) (N := N) (by omega) (hne (by first | exact eq_of_beq q | exact ne_of_beq_false q | exact of_decide_eq_true q | exact of_decide_eq_false q | simpa using q)) hc (by omega) (by omega) (by omega) fun r a t ns k' σ a1 a2 a3 a4 a5 a6 a7 a8 a9 => h r a t ns k' σ a1 a2 a3 a4 a5 a6 a7 a8 a9
    · refine tb_nil ?_
      exact hrest (by first | exact eq_of_beq q | exact ne_of_beq_false q | exact of_decide_eq_true q | exact of_decide_eq_false q | simpa using q)
  refine tb_nil ?_
  refine tb_cons ?_
  repeat ktr_rel
  refine ⟨fun _ => ?_, fun q => ?_⟩
  · refine and_t ?_
    exact pop []
  · repeat ktr_rel
    refine ⟨fun q6 => ?_, fun q6 => ?_⟩
    · repeat ktr_rel
      refine ksq rfl fun D => ?_
      refine co_eq_list_nil (by ktr_unf) (by ktr_unf) ?_
      refine tv_bool ?_
      refine ⟨fun qn => ?_, fun qn => ?_⟩
      · repeat ktr_rel
        exact pop [(D, .list [])]
      · repeat ktr_rel
        exact mid [(D, .list [])] fun _ => by first | exact eq_of_beq qn | exact ne_of_beq_false qn | exact of_decide_eq_true qn | exact of_decide_eq_false qn | simpa using qn
    · repeat ktr_rel
      exact mid [] fun hh => by simp at q6; omega

theorem stat_ok0 : StatOk e (n + 7) 0 8 6 := by
  intro wl cs ho se cells at' k L R Z Q hc hat hat2 hk hL h
  refine CallOk.cut (call_fn (F_stat rfl) rfl ?_)
  refine tb_cons ?_
  repeat ktr_rel
  refine bc_call (gdraw (by omega) hat (by omega) (by decide) hc fun way w0 w1 => ?_)
  refine sn_local rfl rfl ?_
  refine stat_mid (d := 0) (K := 7) (N := 6) (by decide) (by decide) hc (by omega) (by omega) hk hL w0 ?_ (fun q => by omega)
  exact fun r a t ns k' σ a1 a2 a3 a4 a5 a6 a7 a8 a9 => ⟨_, a9, h r a σ.Z t ns k' (by omega) (by omega) a3 a4 a5 a6 a7 a8⟩
theorem stat_okS {KB NB : Nat} (hB : BlockOk e (n + 6) d KB NB) (hN : 3 ≤ NB) : StatOk e (n + 7) (d + 1) (8 + 2 * KB) (2 * NB) := by
  intro wl cs ho se cells at' k L R Z Q hc hat hat2 hk hL h
  refine CallOk.cut (call_fn (F_stat rfl) rfl ?_)
  refine tb_cons ?_
  repeat ktr_rel
  refine ⟨fun _ => ?_, fun q => by simp at q⟩
  repeat ktr_rel
  refine bc_call (gdraw (by omega) hat (by omega) (by decide) hc fun way w0 w1 => ?_)
  refine sn_local rfl rfl ?_
  refine stat_mid (d := d + 1) (K := 7 + 2 * KB) (N := 2 * NB) (by omega) (by omega) hc (by omega) (by omega) hk hL w0 ?_ (fun q => stat_nest (K := 7 + 2 * KB) (N := 2 * NB) hB (by omega) (by omega) hc (by omega) (by omega) hk hL q ?_)
  · exact fun r a t ns k' σ a1 a2 a3 a4 a5 a6 a7 a8 a9 => ⟨_, a9, h r a σ.Z t ns k' (by omega) (by omega) a3 a4 a5 a6 a7 a8⟩
  · exact fun r a t ns k' σ a1 a2 a3 a4 a5 a6 a7 a8 a9 => ⟨_, a9, h r a σ.Z t ns k' (by omega) (by omega) a3 a4 a5 a6 a7 a8⟩

theorem block_ok' {KS NS : Nat} (hS : StatOk e (n + 7) d KS NS) (hd : bl d * KS ≤ 100000) : BlockOk e (n + 8) d (1 + bl d * KS) (bl d * NS) := by
  intro wl cs ho se cells at' k L R Z Q hc hat hat2 hk hL h
  refine CallOk.cutp (call_fn (F_block rfl) rfl ?_)
  refine tb_cons ?_
  repeat ktr_rel
  refine bc_list (by ktr_unf) (by simp; omega) fun D => ?_
  refine sn_cell rfl rfl rfl ?_
  refine tb_cons ?_
  repeat ktr_rel
  refine te_comp (xs := ["turn"]) (bnd1 (Bnd.local rfl rfl)) ?_
  have p4 : ∀ {a w x y z : Addr × AO} {R : HT}, (a :: w :: x :: y :: z :: R).Perm (w :: x :: y :: a :: z :: R) := fun {a w x y z R} => (List.perm_append_comm (l₁ := [a]) (l₂ := [w, x, y])).append_right (z :: R)
  refine TE.via (P := fun v σ1 => ∃ (m : Nat) (rr : Addr), v = .ref rr ∧ m ≤ bl d ∧ σ1 = ⟨(fmW6_1 (.ref D) (.ref wl) (.ref ho) (.ref se) (vI d)), Z, (rr, .rng 0 m) :: GL wl cs ho D cells (at' + 1) k L ((se, .list (L.map vS)) :: R)⟩) ?_ ?_
  · intro Fq hF
    repeat ktr_rel
    refine ⟨fun q => ?_, fun q => ?_⟩
    · have hd2 : 2 ≤ d := by simp at q; omega
      repeat ktr_rel
      refine bc_call (.perm (gdraw (by omega) hat (by omega) (by decide) hc fun r r0 r1 => ?_) p4)
      repeat ktr_rel
      refine bc_range1 fun rr => hF _ _ (ex2i ((1 + r).toNat) rr (and3i rfl ?_ ?_))
      · have : bl d = 5 := by match d, hd2 with | d + 2, _ => rfl
        omega
      · rw [show (((1 + r).toNat : Nat) : Int) = 1 + r by omega]; rfl
    · have hd2 : d ≤ 1 := by simp at q; omega
      repeat ktr_rel
      refine bc_call (.perm (gdraw (by omega) hat (by omega) (by decide) hc fun r r0 r1 => ?_) p4)
      repeat ktr_rel
      refine bc_range1 fun rr => hF _ _ (ex2i r.toNat rr (and3i rfl ?_ ?_))
      · have : bl d = 2 := by rcases (show d = 0 ∨ d = 1 by omega) with rfl | rfl <;> rfl
        omega
      · rw [show ((r.toNat : Nat) : Int) = r by omega]; rfl
  · intro v σ1 h9
    refine hide fun G9 hG9 => ?_
    refine ex2e h9 fun m rr h9x => ?_
    refine and3e h9x fun e9c hm e9e => ?_
    try clear h9x h9
    obtain rfl := e9c
    obtain rfl := e9e
    refine hG9 ?_; clear hG9 G9
    have hb5 : bl d ≤ 5 := by unfold bl; split <;> omega
    refine pi_range (by ktr_unf) (by decide) (by decide) (by omega) (by omega) (cmpI .rng (by simp [Sr.N]; omega) [("well", .ref wl), ("house", .ref ho), ("inner", .ref D), ("deep", vI d)] (fun i ys Z' H' => ∃ (r' : Int) (k' : Nat) (ts : List Nd) (L' : List Str), H'.Perm (GL wl cs ho D cells r' k' L' ((rr, .rng 0 m) :: (se, .list (L.map vS)) :: R)) ∧ Zle Z Z' ∧ TreesAt Z' ts ys ∧ WL (WSd d) L k ts L' k' ∧ ts.length = i ∧ L'.length ≤ k' + 2 ∧
        at' ≤ r' ∧ r' ≤ at' + 1 + i * KS ∧ k ≤ k' ∧ k' ≤ k + i * NS) ?_ ?_ ?_ ?_ ?_)
    · intro p hp; simp at hp; rcases hp with rfl | rfl | rfl | rfl <;> exact ⟨rfl, rfl⟩
    · exact fun _ _ _ _ _ _ => trivial
    · exact (ex4i (at' + 1) k ([]) L (and10i perm_one4 Zle.refl TreesAt.nil (.nil) rfl hL (by omega) (by omega) (by omega) (by omega)))
    · intro i ys Z' H' hi h9
      refine ex4e h9 fun r' k' ts L' h9x => ?_
      refine and10e h9x fun hp hz hT hW hlen hL' b1 b2 b3 b4 => ?_
      try clear h9x h9
      have hi' : i + 1 ≤ bl d := by simp [Sr.N] at hi; omega
      have m1 : (i + 1) * KS ≤ bl d * KS := Nat.mul_le_mul_right _ hi'
      have m2 : (i + 1) * NS ≤ bl d * NS := Nat.mul_le_mul_right _ hi'
      have e1 : (i + 1) * KS = i * KS + KS := Nat.succ_mul _ _
      have e2 : (i + 1) * NS = i * NS + NS := Nat.succ_mul _ _
      have e3 : ((i * KS : Nat) : Int) = (i : Int) * (KS : Int) := by push_cast; rfl
      have e4 : (((i + 1) * KS : Nat) : Int) = ((i + 1 : Nat) : Int) * (KS : Int) := by push_cast; rfl
      have e5 : ((bl d * KS : Nat) : Int) = ((bl d : Nat) : Int) * (KS : Int) := by push_cast; rfl
      have hat2' : at' + (1 + ((bl d * KS : Nat) : Int)) ≤ 1000000 := by rw [← Int.natCast_one, ← Int.natCast_add]; exact hat2
      refine ct_nil ?_
      show TE _ _ _ _ _ _ ⟨([("turn", vI (0 + (i : Nat)))] : List (Str × Value)) ++ (fmW6_2 (.ref wl) (.ref ho) (.ref D) (vI d)), Z', H'⟩
      repeat ktr_rel
      refine bc_call (.perm (hS _ _ _ _ _ _ _ _ _ _ _ hc (by omega) (by rw [← e3] at b2; omega) (by omega) hL' fun r2 a2 Z2 t ns k2 r20 r21 hk2 hk2' hns hz2 hA2 hw => ?_) hp)
      refine (ex4i r2 k2 (ts ++ [t]) (L' ++ ns) (and10i (List.Perm.refl _) (hz.trans hz2) ((TreesAt.mono hz2 _ _ hT).append (TreesAt.one hA2)) (hW.snoc (by rw [WSd_eq]; exact hw)) (by simp [hlen]) (by simp; omega) (by omega) ?_ (by omega) (by omega)))
      rw [← e4]; rw [← e3] at b2; omega
    · rintro D2 ys Z' H' ⟨r', k', ts, L', hp, hz, hT, hW, hlen, hL', b1, b2, b3, b4⟩ hys
      have hm' : (Sr.rng 0 ((m : Int) - 0).toNat).N ≤ bl d := by simp [Sr.N]; omega
      generalize (Sr.rng 0 ((m : Int) - 0).toNat).N = mm at *
      have m1 : mm * KS ≤ bl d * KS := Nat.mul_le_mul_right _ hm'
      have m2 : mm * NS ≤ bl d * NS := Nat.mul_le_mul_right _ hm'
      have e3 : ((mm * KS : Nat) : Int) = (mm : Int) * (KS : Int) := by push_cast; rfl
      repeat ktr_rel
      refine bc_call (.more (block_ok (n := n) hT fun a3 Z3 hz3 hA3 => ?_) (by omega))
      refine (ex2i _ (GL wl cs ho se cells r' k' L R) (and3i hp (.cons_cons _ (.cons_cons _ (.cons_cons _ (.cons _ (.cons _ (List.Sublist.refl _)))))) (h r' a3 Z3 ts k' (by omega) ?_ b3 (by omega) (hz.trans hz3) hA3 (WB_iff.mpr ⟨by omega, L', hW⟩))))
      rw [← e3] at b2
      have : ((1 + bl d * KS : Nat) : Int) = 1 + ((bl d * KS : Nat) : Int) := by push_cast; rfl
      rw [this]; omega

theorem gen_ok : BlockOk e (n + 12) 2 891 480 := by
  have s0 : StatOk e (n + 7) 0 8 6 := stat_ok0
  have b0 : BlockOk e (n + 8) 0 17 12 := block_ok' (KS := 8) (NS := 6) s0 (by decide)
  have s1 : StatOk e (n + 9) 1 42 24 := stat_okS (n := n + 2) b0 (by decide)
  have b1 : BlockOk e (n + 10) 1 85 48 := block_ok' (n := n + 2) (KS := 42) (NS := 24) s1 (by decide)
  have s2 : StatOk e (n + 11) 2 178 96 := stat_okS (n := n + 4) b1 (by decide)
  exact block_ok' (n := n + 4) (KS := 178) (NS := 96) s2 (by decide)
end auto

-- L20

noncomputable def ofI {K : Type} (f : K → Option Int) : K → Option Value := fun x => (f x).map vI
noncomputable def upd {K : Type} [DecidableEq K] (f : K → Option Int) (x : K) (i : Int) : K → Option Int := fun y => if y = x then some i else f y
noncomputable def del {K : Type} [DecidableEq K] (f : K → Option Int) (x : K) : K → Option Int := fun y => if y = x then none else f y
theorem updF_ofI {K : Type} [DecidableEq K] (f : K → Option Int) (x : K) (i : Int) : updF (ofI f) x (vI i) = ofI (upd f x i) := by
  funext y; unfold updF ofI upd; split <;> rfl
theorem delF_ofI {K : Type} [DecidableEq K] (f : K → Option Int) (x : K) : delF (ofI f) x = ofI (del f x) := by
  funext y; unfold delF ofI del; split <;> rfl
theorem ofI_some {K : Type} {f : K → Option Int} {x : K} {i : Int} (h : f x = some i) : ofI f x = some (vI i) := by unfold ofI; rw [h]; rfl
theorem ofI_isSome {K : Type} {f : K → Option Int} {x : K} : (ofI f x).isSome = (f x).isSome := by unfold ofI; rw [Option.isSome_map]

theorem nodup_sub_len {K : Type} [DecidableEq K] : ∀ {l U : List K}, l.Nodup → (∀ x ∈ l, x ∈ U) → l.length ≤ U.length
  | [], _, _, _ => Nat.zero_le _
  | a :: r, U, nd, h => by
    rw [List.nodup_cons] at nd
    have ha := h a (.head _)
    have := nodup_sub_len (l := r) (U := U.erase a) nd.2 fun x hx => (List.mem_erase_of_ne (fun e => nd.1 (by rw [← e]; exact hx))).mpr (h x (.tail _ hx))
    rw [List.length_erase_of_mem ha] at this
    have hp := List.length_pos_of_mem ha
    simp only [List.length_cons]; omega
theorem keys_isSome {K : Type} [DecidableEq K] {kvs : List (K × Value)} {f : K → Option Value} (hf : ∀ k, (valueAt kvs k).map er = f k) {x : K} (h : x ∈ kvs.map (·.1)) : (f x).isSome := by
  rw [← hf x, Option.isSome_map]
  unfold valueAt
  rw [Option.isSome_map, List.find?_isSome]
  refine ex1e (List.mem_map.mp h) fun p h9x => ?_
  refine and2e h9x fun hp e => ?_
  try clear h9x
  exact ⟨p, hp, by simpa using e⟩

section
variable {c : Cx} {n : Nat} {sc : Scope} {cmp : Bool} {σ : St}
theorem si_dictU {a : Addr} {k : Nat} {f : Str → Option Value} {x : Str} {v : Value} {H' : HT} {Q : St → Prop} (U : List Str) (hU : U.length ≤ k) (hk : k ≤ 1000000) (hx : x ∈ U) (hs : ∀ y, (f y).isSome → y ∈ U)
    (Up : HUpd a (.dict k f) (.dict k (updF f x v)) σ.H H') (h : Q ⟨σ.m, σ.Z, H'⟩) : SI c n sc cmp (.ref a) (vS x) v Q σ := by
  unfold SI
  intro a' i' v' ha' hi' hv' L cl q f' cd fr A B s₀ s ok r b X
  rw [er_ref_inv ha']; obtain ⟨t, rfl⟩ := er_str_inv hi'
  have od : Ob σ a (.dict k f) := Or.inr Up.mem
  refine ex1e (od.rep X) fun kvs h9x => ?_
  refine and4e h9x fun hD hf hk' hm => ?_
  try clear h9x
  have hsup : ∀ y, (updF f x v y).isSome → y ∈ U := fun y hy => by
    unfold updF at hy
    split at hy
    · rename_i e; rw [e]; exact hx
    · exact hs y hy
  refine wpAny_setItem_pairs (knd := PySem.strKind c.prog c.w) (hsz := by rw [sizeLine_eq]; omega) (strKind_is _ _ _ _) hD fun h' hD' hs' => ?_
  have hf' : ∀ y, (valueAt (stored kvs x v') y).map er = updF f x v y := fun y => by
    rw [valueAt_stored]; unfold updF
    split
    · simp [hv']
    · exact hf y
  have nd : ((stored kvs x v').map (·.1)).Nodup := let ⟨_, _, _, _, _, _, _, _, hn⟩ := hD'; hn
  have hl := nodup_sub_len nd fun y hy => hsup y (keys_isSome hf' hy)
  rw [List.length_map] at hl
  exact ⟨_, h, X.upd Up hs'.extBut (⟨_, and4i hD' hf' (by omega) hm⟩)⟩
theorem si_dictiU {a : Addr} {k : Nat} {f : Int → Option Value} {x : Int} {v : Value} {H' : HT} {Q : St → Prop} (U : List Int) (hU : U.length ≤ k) (hk : k ≤ 1000000) (hx : x ∈ U) (hs : ∀ y, (f y).isSome → y ∈ U)
    (Up : HUpd a (.dicti k f) (.dicti k (updF f x v)) σ.H H') (h : Q ⟨σ.m, σ.Z, H'⟩) : SI c n sc cmp (.ref a) (vI x) v Q σ := by
  unfold SI
  intro a' i' v' ha' hi' hv' L cl q f' cd fr A B s₀ s ok r b X
  rw [er_ref_inv ha']; obtain ⟨t, rfl⟩ := er_int_inv hi'
  have od : Ob σ a (.dicti k f) := Or.inr Up.mem
  refine ex1e (od.rep X) fun kvs h9x => ?_
  refine and4e h9x fun hD hf hk' hm => ?_
  try clear h9x
  have hsup : ∀ y, (updF f x v y).isSome → y ∈ U := fun y hy => by
    unfold updF at hy
    split at hy
    · rename_i e; rw [e]; exact hx
    · exact hs y hy
  refine wpAny_setItem_pairs (knd := PySem.intKind c.prog c.w) (hsz := by rw [sizeLine_eq]; omega) (intKind_is _ _ _ _) hD fun h' hD' hs' => ?_
  have hf' : ∀ y, (valueAt (stored kvs x v') y).map er = updF f x v y := fun y => by
    rw [valueAt_stored]; unfold updF
    split
    · simp [hv']
    · exact hf y
  have nd : ((stored kvs x v').map (·.1)).Nodup := let ⟨_, _, _, _, _, _, _, _, hn⟩ := hD'; hn
  have hl := nodup_sub_len nd fun y hy => hsup y (keys_isSome hf' hy)
  rw [List.length_map] at hl
  exact ⟨_, h, X.upd Up hs'.extBut (⟨_, and4i hD' hf' (by omega) hm⟩)⟩
theorem si_dictUI {a : Addr} {k : Nat} {f : Str → Option Int} {x : Str} {i : Int} {H' : HT} {Q : St → Prop} (U : List Str) (hU : U.length ≤ k) (hk : k ≤ 1000000) (hx : x ∈ U) (hs : ∀ y, (f y).isSome → y ∈ U)
    (Up : HUpd a (.dict k (ofI f)) (.dict k (ofI (upd f x i))) σ.H H') (h : Q ⟨σ.m, σ.Z, H'⟩) : SI c n sc cmp (.ref a) (vS x) (vI i) Q σ :=
  si_dictU U hU hk hx (fun y hy => hs y (by rwa [ofI_isSome] at hy)) (by rw [updF_ofI]; exact Up) h
theorem si_dictiUI {a : Addr} {k : Nat} {f : Int → Option Int} {x : Int} {i : Int} {H' : HT} {Q : St → Prop} (U : List Int) (hU : U.length ≤ k) (hk : k ≤ 1000000) (hx : x ∈ U) (hs : ∀ y, (f y).isSome → y ∈ U)
    (Up : HUpd a (.dicti k (ofI f)) (.dicti k (ofI (upd f x i))) σ.H H') (h : Q ⟨σ.m, σ.Z, H'⟩) : SI c n sc cmp (.ref a) (vI x) (vI i) Q σ :=
  si_dictiU U hU hk hx (fun y hy => hs y (by rwa [ofI_isSome] at hy)) (by rw [updF_ofI]; exact Up) h
end

-- P1

noncomputable abbrev Fn := Str → Option Int
noncomputable def ht : Nd → Nat
  | .mk _ _ _ ks => hts ks + 1
where hts : List Nd → Nat
  | [] => 0
  | t :: r => max (ht t) (hts r)
noncomputable abbrev hts := ht.hts
theorem ht_le {t : Nd} : ∀ {ks : List Nd}, t ∈ ks → ht t ≤ hts ks
  | u :: r, h => by
    rcases List.mem_cons.mp h with rfl | h
    · exact Nat.le_max_left _ _
    · exact Nat.le_trans (ht_le h) (Nat.le_max_right _ _)

noncomputable def mentG (f : Fn) (p : List Int) (g : Fn) (x : Str) : Fn := match f x with | some h => upd g x (p.getD h.toNat 0) | none => g
noncomputable def mentE (f : Fn) (p : List Int) : Nd → Fn → Fn
  | .mk kind name _ kids, g => go kids (if kind = "name" then mentG f p g name else g)
where go : List Nd → Fn → Fn
  | [], g => g
  | t :: r, g => go r (mentE f p t g)
noncomputable abbrev mentEs (f : Fn) (p : List Int) := mentE.go f p
noncomputable def mentNs (f : Fn) (p : List Int) : List Str → Fn → Fn
  | [], g => g
  | x :: r, g => mentNs f p r (mentG f p g x)
noncomputable def tellG (i : Int) : List Str → Fn → Fn
  | [], g => g
  | x :: r, g => tellG i r (upd g x i)
noncomputable def ext (f : Fn) (ns : List Str) (d : Int) : Fn := fun x => if x ∈ ns then some d else f x
mutual
noncomputable def gS : Nd → List Int → Fn → Fn → Fn
  | .mk kind name val kids, p, f, g =>
    if kind = "block" then gB kids p f 0 g
    else if kind = "let" then tellG (p.getLastD 0) val.names! (gKs kids p f g)
    else if kind = "assign" then mentNs f p val.names! (gKs kids p f g)
    else gKs kids p f g
noncomputable def gK : Nd → List Int → Fn → Fn → Fn
  | .mk kind name val kids, p, f, g =>
    if kind = "block" then gB kids p f 0 g
    else if kind = "case" then gKs kids p f g
    else mentEs f p kids (if kind = "name" then mentG f p g name else g)
noncomputable def gKs : List Nd → List Int → Fn → Fn → Fn
  | [], p, f, g => g
  | t :: r, p, f, g => gKs r p f (gK t p f g)
noncomputable def gB : List Nd → List Int → Fn → Int → Fn → Fn
  | [], p, f, i, g => g
  | t :: r, p, f, i, g => gB r p (if t.kind = "let" then ext f t.names p.length else f) (i + 1) (gS t (p ++ [i]) f g)
end
noncomputable def dn : Nd → List Str
  | .mk kind _ val kids => (if kind = "let" then val.names! else []) ++ go kids
where go : List Nd → List Str
  | [] => []
  | t :: r => dn t ++ go r
noncomputable abbrev dns := dn.go
noncomputable def okN (U : List Str) : Nd → Prop
  | .mk kind name val kids => (kind = "name" → name ∈ U) ∧ (∀ x ∈ val.names!, x ∈ U) ∧ val.names!.length ≤ 1000 ∧ kind ≠ "func" ∧ kids.length ≤ 2000 ∧ ((kind = "let" ∨ kind = "assign") → ∃ ns, val = .names ns) ∧ go kids
where go : List Nd → Prop
  | [] => True
  | t :: r => okN U t ∧ go r
noncomputable abbrev okNs (U : List Str) := okN.go U
theorem okNs_mem {U : List Str} {t : Nd} : ∀ {ks : List Nd}, okNs U ks → t ∈ ks → okN U t
  | u :: r, ⟨h1, h2⟩, h => by
    rcases List.mem_cons.mp h with rfl | h
    · exact h1
    · exact okNs_mem h2 h

-- P2

noncomputable def Sup (U : List Str) (g : Fn) : Prop := ∀ y, (g y).isSome → y ∈ U
theorem Sup.upd {U g x i} (h : Sup U g) (hx : x ∈ U) : Sup U (upd g x i) := fun y hy => by
  unfold Mine.upd at hy
  split at hy
  · rename_i e; rw [e]; exact hx
  · exact h y hy
theorem Sup.ment {U f p g x} (h : Sup U g) (hx : x ∈ U) : Sup U (mentG f p g x) := by
  unfold mentG; split
  · exact h.upd hx
  · exact h
theorem Sup.ext {U f ns d} (h : Sup U f) (hx : ∀ x ∈ ns, x ∈ U) : Sup U (ext f ns d) := fun y hy => by
  unfold Mine.ext at hy
  split at hy
  · rename_i e; exact hx y e
  · exact h y hy
theorem Sup.mentNs {U f p} : ∀ {ns g}, Sup U g → (∀ x ∈ ns, x ∈ U) → Sup U (mentNs f p ns g)
  | [], g, h, _ => h
  | x :: r, g, h, hx => (h.ment (hx x (.head _))).mentNs fun y hy => hx y (.tail _ hy)
theorem Sup.tellG {U i} : ∀ {ns g}, Sup U g → (∀ x ∈ ns, x ∈ U) → Sup U (tellG i ns g)
  | [], g, h, _ => h
  | x :: r, g, h, hx => (h.upd (hx x (.head _))).tellG fun y hy => hx y (.tail _ hy)
mutual
theorem Sup.mentE {U f p} : ∀ (t : Nd) {g}, okN U t → Sup U g → Sup U (mentE f p t g)
  | .mk kind name val kids, g, ok, h => by
    unfold Mine.mentE
    refine Sup.mentEs kids ok.2.2.2.2.2.2 ?_
    split
    · rename_i e; exact h.ment (ok.1 e)
    · exact h
theorem Sup.mentEs {U f p} : ∀ (ts : List Nd) {g}, okNs U ts → Sup U g → Sup U (mentEs f p ts g)
  | [], g, _, h => h
  | t :: r, g, ok, h => Sup.mentEs r ok.2 (Sup.mentE t ok.1 h)
end
mutual
theorem Sup.gS {U} : ∀ (t : Nd) (p f) {g}, okN U t → Sup U g → Sup U (gS t p f g)
  | .mk kind name val kids, p, f, g, ok, h => by
    have hk := ok.2.2.2.2.2.2
    unfold Mine.gS
    split
    · exact Sup.gB kids p f 0 hk h
    · split
      · exact (Sup.gKs kids p f hk h).tellG ok.2.1
      · split
        · exact (Sup.gKs kids p f hk h).mentNs ok.2.1
        · exact Sup.gKs kids p f hk h
theorem Sup.gK {U} : ∀ (t : Nd) (p f) {g}, okN U t → Sup U g → Sup U (gK t p f g)
  | .mk kind name val kids, p, f, g, ok, h => by
    have hk := ok.2.2.2.2.2.2
    unfold Mine.gK
    split
    · exact Sup.gB kids p f 0 hk h
    · split
      · exact Sup.gKs kids p f hk h
      · refine Sup.mentEs kids hk ?_
        split
        · rename_i e; exact h.ment (ok.1 e)
        · exact h
theorem Sup.gKs {U} : ∀ (ts : List Nd) (p f) {g}, okNs U ts → Sup U g → Sup U (gKs ts p f g)
  | [], p, f, g, _, h => by unfold Mine.gKs; exact h
  | t :: r, p, f, g, ok, h => by unfold Mine.gKs; exact Sup.gKs r p f ok.2 (Sup.gK t p f ok.1 h)
theorem Sup.gB {U} : ∀ (ts : List Nd) (p f i) {g}, okNs U ts → Sup U g → Sup U (gB ts p f i g)
  | [], p, f, i, g, _, h => by unfold Mine.gB; exact h
  | t :: r, p, f, i, g, ok, h => by unfold Mine.gB; exact Sup.gB r p _ (i + 1) ok.2 (Sup.gS t _ f ok.1 h)
end
theorem mentEs_snoc (f p) : ∀ (ts : List Nd) (t : Nd) (g : Fn), mentEs f p (ts ++ [t]) g = mentE f p t (mentEs f p ts g)
  | [], t, g => rfl
  | u :: r, t, g => mentEs_snoc f p r t (mentE f p u g)
theorem gKs_snoc (p f) : ∀ (ts : List Nd) (t : Nd) (g : Fn), gKs (ts ++ [t]) p f g = gK t p f (gKs ts p f g)
  | [], t, g => by rw [List.nil_append, gKs.eq_2, gKs.eq_1, gKs.eq_1]
  | u :: r, t, g => by rw [List.cons_append]; rw [gKs, gKs]; exact gKs_snoc p f r t _
theorem mentNs_snoc (f p) : ∀ (ts : List Str) (t : Str) (g : Fn), mentNs f p (ts ++ [t]) g = mentG f p (mentNs f p ts g) t
  | [], t, g => rfl
  | u :: r, t, g => mentNs_snoc f p r t _
theorem tellG_snoc (i) : ∀ (ts : List Str) (t : Str) (g : Fn), tellG i (ts ++ [t]) g = upd (tellG i ts g) t i
  | [], t, g => rfl
  | u :: r, t, g => tellG_snoc i r t _
noncomputable def own : List Nd → List Str
  | [] => []
  | t :: r => (if t.kind = "let" then t.names else []) ++ own r
theorem own_snoc : ∀ (ts : List Nd) (t : Nd), own (ts ++ [t]) = own ts ++ (if t.kind = "let" then t.names else [])
  | [], t => by simp [own]
  | u :: r, t => by rw [List.cons_append, own, own, own_snoc r t, List.append_assoc]
theorem ext_ext (f : Fn) (a b : List Str) (d : Int) : ext (ext f a d) b d = ext f (a ++ b) d := by
  funext x; unfold ext; simp only [List.mem_append]
  by_cases h1 : x ∈ b <;> by_cases h2 : x ∈ a <;> simp [h1, h2]
theorem ext_nil (f : Fn) (d : Int) : ext f [] d = f := by funext x; unfold ext; simp
theorem gB_snoc (p : List Int) : ∀ (ts : List Nd) (t : Nd) (f : Fn) (i : Int) (g : Fn), gB (ts ++ [t]) p f i g = gS t (p ++ [i + ts.length]) (ext f (own ts) p.length) (gB ts p f i g)
  | [], t, f, i, g => by rw [List.nil_append, gB, gB, gB]; simp [own, ext_nil]
  | u :: r, t, f, i, g => by
    rw [List.cons_append, gB, gB, gB_snoc p r t]
    have e1 : i + 1 + (r.length : Int) = i + ((u :: r).length : Nat) := by simp; omega
    rw [e1]
    congr 1
    rw [own]
    split
    · rw [ext_ext]
    · rw [List.nil_append]
theorem own_dns : ∀ (ts : List Nd), (own ts).Sublist (dns ts)
  | [] => List.Sublist.refl _
  | t :: r => by
    show (own (t :: r)).Sublist (dn t ++ dns r)
    unfold own
    refine List.Sublist.append ?_ (own_dns r)
    cases t with
    | mk kind name val kids =>
      unfold dn
      show (if kind = "let" then val.names! else []).Sublist _
      exact List.sublist_append_left _ _
theorem dns_append : ∀ (a b : List Nd), dns (a ++ b) = dns a ++ dns b
  | [], b => rfl
  | t :: r, b => by show dn t ++ dns (r ++ b) = (dn t ++ dns r) ++ dns b; rw [dns_append r b, List.append_assoc]
theorem dn_sub {t : Nd} : ∀ {ks : List Nd}, t ∈ ks → (dn t).Sublist (dns ks)
  | u :: r, h => by
    show (dn t).Sublist (dn u ++ dns r)
    rcases List.mem_cons.mp h with rfl | h
    · exact List.sublist_append_left _ _
    · exact (dn_sub h).trans (List.sublist_append_right _ _)
theorem okNs_take {U : List Str} : ∀ {ks : List Nd} (i : Nat), okNs U ks → okNs U (ks.take i)
  | [], i, _ => by cases i <;> exact trivial
  | _ :: _, 0, _ => trivial
  | t :: r, i + 1, ⟨h1, h2⟩ => ⟨h1, okNs_take i h2⟩
theorem own_ok {U : List Str} : ∀ {ks : List Nd}, okNs U ks → ∀ x ∈ own ks, x ∈ U
  | [], _, x, hx => by cases hx
  | .mk kind name val kids :: r, ⟨h1, h2⟩, x, hx => by
    rw [own] at hx
    rcases List.mem_append.mp hx with hx | hx
    · split at hx
      · exact h1.2.1 x hx
      · cases hx
    · exact own_ok h2 x hx

-- W7

noncomputable abbrev LL (la dx hm pt td ls : Addr) (N : Nat) (f : Fn) (p : List Int) (told : List Str) (g : Fn) (R : HT) : HT :=
  (la, .inst 108 dx) :: (dx, .attrs [("home", .ref hm), ("path", .ref pt), ("told", .ref td), ("last", .ref ls)]) :: (hm, .dict N (ofI f)) :: (pt, .list (p.map vI)) :: (td, .list (told.map vS)) :: (ls, .dict N (ofI g)) :: R

section auto
variable {e : Ev} {n N : Nat} {R : HT} {Z : ZT} {Q : Value → ZT → HT → Prop} {la dx hm pt td ls : Addr} {f g : Fn} {p : List Int} {told : List Str} {U : List Str}

theorem mention_ok {x : Str} (hU : U.length ≤ N) (hN : N ≤ 1000) (hx : x ∈ U) (hg : ∀ y, (g y).isSome → y ∈ U) (hf : ∀ h, f x = some h → 0 ≤ h ∧ h < p.length) (hp : p.length ≤ 1000)
    (h : Q .none Z (LL la dx hm pt td ls N f p told (mentG f p g x) R)) : CallOk e.c (n + 1) (.ref 91) [.ref la, vS x] Q Z (LL la dx hm pt td ls N f p told g R) := by
  refine call_fn (F_Vmention rfl) rfl ?_
  repeat tb_rel
  refine co_in_dict (by ktr_unf) ?_
  refine tv_bool ?_
  refine ⟨fun q => ?_, fun q => ?_⟩
  · rw [ofI_isSome] at q
    refine ex1e (Option.isSome_iff_exists.mp q) fun i hi => ?_
    refine and2e (hf i hi) fun h0 h1 => ?_
    repeat tb_rel
    refine gi_dict (by ktr_unf) (ofI_some hi) ?_
    refine gi_list (v := vI (p.getD i.toNat 0)) (by ktr_unf) h0 (by omega) (by have : i.toNat < p.length := by omega
                                                                               simp [this]) ?_
    repeat tb_rel
    refine si_dictUI U hU (by omega) hx (fun y hy => hg y hy) (by ktr_unf) ?_
    have e1 : mentG f p g x = upd g x (p.getD i.toNat 0) := by unfold mentG; rw [hi]
    rw [e1] at h
    repeat tb_rel
    all_goals exact h
  · rw [ofI_isSome] at q
    have e1 : mentG f p g x = g := by
      unfold mentG
      cases hh : f x with
      | none => rfl
      | some i => rw [hh] at q; cases q
    rw [e1] at h
    repeat tb_rel
    all_goals exact h

theorem tell_ok {x : Str} (hU : U.length ≤ N) (hN : N ≤ 1000) (hx : x ∈ U) (hg : ∀ y, (g y).isSome → y ∈ U) (hf : ∀ y, (f y).isSome → y ∈ U) (hp : p.length ≤ 1000) (hp0 : p ≠ []) (ht : told.length ≤ 10000)
    (h : Q .none Z (LL la dx hm pt td ls N (upd f x ((p.length : Int) - 1)) p (told ++ [x]) (upd g x (p.getLastD 0)) R)) : CallOk e.c (n + 1) (.ref 98) [.ref la, vS x] Q Z (LL la dx hm pt td ls N f p told g R) := by
  have hpl := List.length_pos_iff.mpr hp0
  refine call_fn (F_Vtell rfl) rfl ?_
  repeat tb_rel
  refine bc_len (by ktr_unf) (by simp; omega) ?_
  repeat tb_rel
  refine si_dictUI U hU (by omega) hx (fun y hy => hf y hy) (by ktr_unf) ?_
  repeat tb_rel
  refine ⟨1, rfl, ?_⟩
  refine gi_list_neg (v := vI (p.getLastD 0)) (by ktr_unf) (by decide) (by simp; omega) (by decide) ?_ ?_
  · have : ((-1 : Int) + ((p.map vI).length : Nat)).toNat = p.length - 1 := by rw [List.length_map]; omega
    rw [this, List.getElem?_map]
    rw [List.getLastD_eq_getLast?, List.getLast?_eq_getElem?]
    have h2 : p.length - 1 < p.length := by omega
    simp [List.getElem?_eq_getElem h2]
  repeat tb_rel
  refine si_dictUI U hU (by omega) hx (fun y hy => hg y hy) (by ktr_unf) ?_
  repeat tb_rel
  refine bc_append (by ktr_unf) (by simp; omega) ?_
  refine kdn ?_
  have e1 : told.map vS ++ [vS x] = (told ++ [x]).map vS := by simp
  rw [e1]
  repeat tb_rel
  rw [List.length_map]
  exact h

theorem close_ok {own : List Str} (hN : N ≤ 1000) (hnd : (told ++ own).Nodup) (hl : (told ++ own).length ≤ 10000) (hf0 : ∀ x ∈ own, f x = none) (d : Int)
    (h : Q .none Z (LL la dx hm pt td ls N f p told g R)) : CallOk e.c (n + 1) (.ref 105) [.ref la, vI (told.length : Nat)] Q Z (LL la dx hm pt td ls N (ext f own d) p (told ++ own) g R) := by
  refine CallOk.cut (call_fn (F_Vclose rfl) rfl ?_)
  refine tb_cons (ts_while (fun k σ => ∃ ow : List Str, ow.length = k ∧ (told ++ ow).Nodup ∧ (told ++ ow).length ≤ 10000 ∧ (∀ x ∈ ow, f x = none) ∧ σ = ⟨([("self", .ref la), ("mark", vI (told.length : Nat))] : List (Str × Value)), Z, LL la dx hm pt td ls N (ext f ow d) p (told ++ ow) g R⟩) own.length (⟨own, and5i rfl hnd hl hf0 rfl⟩) ?_)
  intro k σ h9
  refine hide fun G9 hG9 => ?_
  refine ex1e h9 fun ow h9x => ?_
  refine and5e h9x fun hk nd hl' h0 e9f => ?_
  try clear h9x h9
  obtain rfl := e9f
  refine hG9 ?_; clear hG9 G9
  repeat ktr_rel
  refine bc_len (by ktr_unf) (by rw [List.length_map]; omega) ?_
  repeat ktr_rel
  refine ⟨fun q => ?_, fun q => ?_⟩
  · have hne : ow ≠ [] := by
      rintro rfl
      simp at q
    obtain ⟨o', x, rfl⟩ : ∃ o' x, ow = o' ++ [x] := ⟨ow.dropLast, ow.getLast hne, (List.dropLast_concat_getLast hne).symm⟩
    refine tb_cons ?_
    refine ts_del ?_
    repeat ktr_rel
    have e1 : (told ++ (o' ++ [x])).map vS = (told ++ o').map vS ++ [vS x] := by simp
    dsimp only [LL]
    rw [e1]
    refine bc_pop (by ktr_unf) (by simp at hl' ⊢; omega) ?_
    have hx : f x = none := h0 x (by simp)
    have hxo : x ∉ o' := by
      intro hm
      rw [← List.append_assoc, List.nodup_append] at nd
      exact nd.2.2 x (List.mem_append_right _ hm) x (by simp) rfl
    have e2 : delF (ofI (ext f (o' ++ [x]) d)) x = ofI (ext f o' d) := by
      rw [delF_ofI]
      congr 1
      funext y
      unfold del ext
      by_cases hy : y = x
      · subst hy; simp [hxo, hx]
      · simp [hy]
    refine (ex6i hm N (ofI (ext f (o' ++ [x]) d)) x (vI d) _ (and6i rfl rfl (by ktr_unf) (by unfold ofI ext; simp) (by omega) ?_))
    rw [e2]
    refine tb_nil ?_
    have hlen : (o' ++ [x]).length = o'.length + 1 := by simp
    refine (⟨o'.length, ⟨by omega, ⟨o', and5i rfl ?_ (by simp at hl' ⊢; omega) (fun y hy => h0 y (List.mem_append_left _ hy)) rfl⟩⟩⟩)
    rw [← List.append_assoc] at nd
    exact nd.sublist (List.sublist_append_left _ _)
  · have : ow = [] := by
      have : ow.length = 0 := by simp at q; omega
      exact List.length_eq_zero_iff.mp this
    subst this
    refine tb_nil ⟨_, ?_, h⟩
    have e1 : ext f [] d = f := by funext y; unfold ext; simp
    have e2 : told ++ [] = told := List.append_nil _
    rw [e1, e2]
    exact List.Sublist.refl _
end auto

-- W8
noncomputable abbrev fmW8_0 (v0 v1 v2 : Value) : List (Str × Value) := [("mark", v0), ("lives", v1), ("block", v2)]
section auto
variable {e : Ev} {n N : Nat} {R : HT} {Z : ZT} {Q : Value → ZT → HT → Prop} {la dx hm pt td ls : Addr} {f g : Fn} {p : List Int} {told : List Str} {U : List Str}

noncomputable def HomeOk (f : Fn) (p : List Int) : Prop := ∀ x h, f x = some h → 0 ≤ h ∧ h < p.length
structure LvPre (U : List Str) (N : Nat) (f : Fn) (p : List Int) : Prop where
  u : U.length ≤ N
  n : N ≤ 1000
  hf : Sup U f
  hp : p.length ≤ 900
  home : HomeOk f p

theorem lexpr_ok (P : LvPre U N f p) : ∀ (m : Nat) (t : Nd) (a : Addr) (g : Fn) (Q : Value → ZT → HT → Prop), ht t ≤ m → TreeAt Z t (.ref a) → okN U t → Sup U g →
    Q .none Z (LL la dx hm pt td ls N f p told (mentE f p t g) R) → CallOk e.c (n + m + 1) (.ref 126) [.ref la, .ref a] Q Z (LL la dx hm pt td ls N f p told g R)
  | 0, .mk _ _ _ _, a, g, Q, hm0, _, _, _, _ => by simp [ht] at hm0
  | m + 1, .mk kind name val kids, a, g, Q, hm0, hT, ok, hg, h => by
    refine TreeAt.elim hT fun dx' ka vs w h1 h2 h3 h4 h5 => ?_
    have hlen := h5.length
    have hvl : vs.length ≤ 2000 := by rw [hlen]; exact ok.2.2.2.2.1
    have hkh : hts kids ≤ m := by simp only [ht] at hm0; exact Nat.le_of_succ_le_succ hm0
    refine CallOk.cut (call_fn (F_live_expr rfl) rfl ?_)
    have loop : ∀ g1, Sup U g1 → mentEs f p kids g1 = mentE f p (.mk kind name val kids) g → TB e.c (n + (m + 1)) d126.1.2 false (d126.1.1.drop 1) (fun fl σ' => ∃ H'', H''.Sublist σ'.H ∧ Q (match fl with | .ret v => v | _ => .none) σ'.Z H'') ⟨([("lives", .ref la), ("tree", .ref a)] : List (Str × Value)), Z, LL la dx hm pt td ls N f p told g1 R⟩ := by
      intro g1 hg1 he
      refine tb_cons (ts_for (xs := ["kid"]) (bnd1 (Bnd.local rfl rfl)) ?_)
      repeat ktr_rel
      refine pi_list (.inl h4) (forI .lst (fun i σ => σ = ⟨([("lives", .ref la), ("tree", .ref a)] : List (Str × Value)), Z, LL la dx hm pt td ls N f p told (mentEs f p (kids.take i) g1) R⟩) ?_ ?_ ?_ ?_)
      · rintro i σ rfl; exact .inl h4
      · rfl
      · rintro i σ hi rfl
        have hi' : i < kids.length := by rw [← hlen]; exact hi
        refine hide fun G9 hG9 => ?_
        refine ex1e (h5.get (List.getElem?_eq_getElem hi')) fun v h9x => ?_
        refine and2e h9x fun hv hA => ?_
        try clear h9x
        refine ex1e (hA.ref) fun b e9b => ?_
        obtain rfl := e9b
        refine hG9 ?_; clear hG9 G9
        have e1 : vs.getD i .none = .ref b := by rw [List.getD_eq_getElem?_getD, hv]; rfl
        have hmem : kids[i] ∈ kids := List.getElem_mem hi'
        refine TB.cut ?_
        refine St.at1 e1 ?_
        refine tb_cons ?_
        repeat ktr_rel
        have hokt : okNs U (kids.take i) := okNs_take i ok.2.2.2.2.2.2
        refine bc_call (.more (lexpr_ok P m kids[i] b _ _ (Nat.le_trans (ht_le hmem) hkh) hA (okNs_mem ok.2.2.2.2.2.2 hmem) (Sup.mentEs _ hokt hg1) ?_) (by omega))
        refine kdn ?_
        refine tb_nil ⟨_, ?_, rfl⟩
        rw [List.take_add_one, List.getElem?_eq_getElem hi']
        show Le _ _ ⟨_, _, LL la dx hm pt td ls N f p told (mentEs f p (kids.take i ++ [kids[i]]) g1) R⟩
        rw [mentEs_snoc]
        exact Le.facts (FactsIn.of rfl)
      · rintro σ rfl
        refine tb_nil ⟨_, List.Sublist.refl _, ?_⟩
        have e1 : kids.take (Sr.lst ka vs).N = kids := List.take_of_length_le (by first | exact Nat.le_of_eq hlen.symm | exact Nat.le_of_eq hlen | simp [Sr.N, hlen])
        rw [e1, he]
        exact h
    refine tb_cons ?_
    repeat ktr_rel
    refine ⟨fun q => ?_, fun q => ?_⟩
    · have hk : kind = "name" := by first | exact eq_of_beq q | exact ne_of_beq_false q | exact of_decide_eq_true q | exact of_decide_eq_false q | simpa using q
      have hU := ok.1 hk
      refine tb_cons ?_
      repeat ktr_rel
      refine bc_call (.more (mention_ok (n := n) P.u P.n hU hg (P.home _) (by have := P.hp; omega) ?_) (by omega))
      refine kdn ?_
      refine tb_nil ?_
      refine loop _ (hg.ment hU) ?_
      rw [mentE, if_pos hk]
    · refine tb_nil ?_
      have hk : kind ≠ "name" := by first | exact eq_of_beq q | exact ne_of_beq_false q | exact of_decide_eq_true q | exact of_decide_eq_false q | simpa using q
      refine loop g hg ?_
      rw [mentE, if_neg hk]

noncomputable def nmsS (t : Nd) : List Str := if t.kind = "let" then t.names else []
noncomputable def StSpec (e : Ev) (U : List Str) (N m lv : Nat) : Prop := ∀ (la dx hm pt td ls : Addr) (f g : Fn) (p : List Int) (told : List Str) (R : HT) (Z : ZT) (t : Nd) (a : Addr) (Q : Value → ZT → HT → Prop), ht t ≤ m → p ≠ [] → p.length + m ≤ 900 → LvPre U N f p → TreeAt Z t (.ref a) → okN U t → Sup U g →
  (told ++ dn t).Nodup → (told ++ dn t).length ≤ 9000 → (∀ x ∈ dn t, f x = none) →
  Q .none Z (LL la dx hm pt td ls N (ext f (nmsS t) ((p.length : Int) - 1)) p (told ++ nmsS t) (gS t p f g) R) → CallOk e.c lv (.ref 133) [.ref la, .ref a] Q Z (LL la dx hm pt td ls N f p told g R)
noncomputable def BkSpec (e : Ev) (U : List Str) (N m lv : Nat) : Prop := ∀ (la dx hm pt td ls : Addr) (f g : Fn) (p : List Int) (told : List Str) (R : HT) (Z : ZT) (kind name : Str) (val : Vl) (kids : List Nd) (a : Addr) (Q : Value → ZT → HT → Prop), hts kids + 1 ≤ m → p.length + m ≤ 900 → U.length ≤ N → N ≤ 1000 → Sup U f →
  (∀ x h, f x = some h → 0 ≤ h ∧ h < p.length + 1) → TreeAt Z (.mk kind name val kids) (.ref a) → okN U (.mk kind name val kids) → Sup U g →
  (told ++ dns kids).Nodup → (told ++ dns kids).length ≤ 9000 → (∀ x ∈ dns kids, f x = none) →
  Q .none Z (LL la dx hm pt td ls N f p told (gB kids p f 0 g) R) → CallOk e.c lv (.ref 119) [.ref la, .ref a] Q Z (LL la dx hm pt td ls N f p told g R)

theorem lblock_step {m lv : Nat} (S : StSpec e U N m (lv + 1)) : BkSpec e U N (m + 1) (lv + 2) := by
  intro la dx hm pt td ls f g p told R Z kind name val kids a Q hm0 hpl hU hN hf hhome hT ok hg hnd hlen9 hfr h
  refine TreeAt.elim hT fun dx' ka vs w h1 h2 h3 h4 h5 => ?_
  have hlen := h5.length
  have hvl : vs.length ≤ 2000 := by rw [hlen]; exact ok.2.2.2.2.1
  refine CallOk.cut (call_fn (F_live_block rfl) rfl ?_)
  refine tb_cons ?_
  repeat ktr_rel
  refine bc_len (by ktr_unf) (by simp at hlen9 ⊢; omega) ?_
  repeat ktr_rel
  refine tb_cons ?_
  repeat ktr_rel
  refine bc_append (by ktr_unf) (by simp; omega) ?_
  refine kdn ?_
  have e1 : p.map vI ++ [vI 0] = (p ++ [0]).map vI := by simp
  rw [e1]
  refine tb_cons (ts_for (xs := ["at", "kid"]) (bnd2 (Bnd.local rfl rfl) (Bnd.local rfl rfl)) ?_)
  repeat ktr_rel
  refine bc_enum (.inl h4) fun en it => ?_
  refine pi_enum (vs := vs) rfl (forI .enm (fun i σ => ∃ j : Int, σ = ⟨(fmW8_0 (vI (told.map vS).length) (.ref la) (.ref a)), Z, LL la dx hm pt td ls N (ext f (own (kids.take i)) p.length) (p ++ [j]) (told ++ own (kids.take i)) (gB (kids.take i) p f 0 g) R⟩) ?_ ?_ ?_ ?_)
  · rintro i σ ⟨j, rfl⟩; exact .inl h4
  · refine ⟨0, ?_⟩
    simp only [List.take_zero, own, ext_nil, List.append_nil]
    rw [gB]
    rfl
  · rintro i σ hi ⟨j, rfl⟩
    have hi' : i < kids.length := by rw [← hlen]; exact hi
    refine hide fun G9 hG9 => ?_
    refine ex1e (h5.get (List.getElem?_eq_getElem hi')) fun v h9x => ?_
    refine and2e h9x fun hv hA => ?_
    try clear h9x
    refine ex1e (hA.ref) fun b e9b => ?_
    obtain rfl := e9b
    refine hG9 ?_; clear hG9 G9
    have e1 : vs.getD i .none = .ref b := by rw [List.getD_eq_getElem?_getD, hv]; rfl
    have hmem : kids[i] ∈ kids := List.getElem_mem hi'
    refine TB.cut ?_
    refine St.at2 e1 ?_
    refine tb_cons ?_
    repeat ktr_rel
    refine ⟨1, rfl, ?_⟩
    refine si_list_neg (vs := (p ++ [j]).map vI) (i := -1) (by decide) (by simp; omega) (by decide) (by ktr_unf) ?_
    have e2 : ((p ++ [j]).map vI).set ((-1 : Int) + (((p ++ [j]).map vI).length : Nat)).toNat (vI i) = (p ++ [(i : Int)]).map vI := by
      have : ((-1 : Int) + (((p ++ [j]).map vI).length : Nat)).toNat = p.length := by simp; omega
      rw [this]; simp
    rw [e2]
    refine tb_cons ?_
    repeat ktr_rel
    have hkind : ∃ kk kn kv kks, kids[i] = .mk kk kn kv kks := by rcases kids[i] with ⟨kk, kn, kv, kks⟩; exact (ex4i _ _ _ _ rfl)
    refine ex4e hkind fun kk kn kv kks hki => ?_
    try clear hkind
    have hA' := hA
    rw [hki] at hA'
    refine TreeAt.elim hA' fun bx bka bvs bw b1 b2 b3 b4 b5 => ?_
    have okk : okN U kids[i] := okNs_mem ok.2.2.2.2.2.2 hmem
    have hfunc : kk ≠ "func" := by rw [hki] at okk; exact okk.2.2.2.1
    repeat ktr_rel
    refine ⟨fun _ => ?_, fun q => absurd q (by simpa using hfunc)⟩
    refine tb_cons ?_
    repeat ktr_rel
    have split1 : kids = kids.take i ++ kids[i] :: kids.drop (i + 1) := by rw [List.getElem_cons_drop, List.take_append_drop]
    have hdn : dns kids = dns (kids.take i) ++ (dn kids[i] ++ dns (kids.drop (i + 1))) := by
      conv => lhs; rw [split1]
      rw [dns_append]; rfl
    have hsubl : ((told ++ own (kids.take i)) ++ dn kids[i]).Sublist (told ++ dns kids) := by
      rw [hdn, List.append_assoc]
      exact (List.Sublist.refl told).append ((own_dns _).append (List.sublist_append_left _ _))
    have hplen : ((p ++ [(i : Int)]).length : Int) - 1 = (p.length : Int) := by simp
    have hownU : ∀ x ∈ own (kids.take i), x ∈ U := own_ok (okNs_take i ok.2.2.2.2.2.2)
    refine bc_call (S la dx hm pt td ls (ext f (own (kids.take i)) p.length) _ (p ++ [(i : Int)]) (told ++ own (kids.take i)) R Z kids[i] b _ (Nat.le_trans (ht_le hmem) (by omega)) (by simp) (by simp; omega) ⟨hU, hN, hf.ext hownU, by simp; omega, ?_⟩ hA okk (Sup.gB _ p f 0 (okNs_take i ok.2.2.2.2.2.2) hg) (hnd.sublist hsubl) (Nat.le_trans hsubl.length_le hlen9) ?_ ?_)
    · intro x hh hx
      unfold ext at hx
      split at hx
      · cases hx; simp; omega
      · have := hhome x hh hx; simp; omega
    · intro x hx
      have hxd : x ∈ dns kids := by rw [hdn]; exact List.mem_append_right _ (List.mem_append_left _ hx)
      have hno : x ∉ own (kids.take i) := by
        intro hm
        rw [hdn] at hnd
        have h3 := (List.nodup_append.mp (hnd.sublist (List.sublist_append_right told _))).2.2
        exact h3 x ((own_dns _).subset hm) x (List.mem_append_left _ hx) rfl
      unfold ext
      rw [if_neg hno]
      exact hfr x hxd
    · refine kdn ?_
      refine tb_nil ?_
      refine tb_nil ⟨_, ?_, i, rfl⟩
      rw [List.take_add_one, List.getElem?_eq_getElem hi']
      show Le _ _ ⟨_, _, LL la dx hm pt td ls N (ext f (own (kids.take i ++ [kids[i]])) p.length) (p ++ [(i : Int)]) (told ++ own (kids.take i ++ [kids[i]])) (gB (kids.take i ++ [kids[i]]) p f 0 g) R⟩
      rw [own_snoc, gB_snoc, ← ext_ext, ← List.append_assoc, ← hplen]
      have e4 : (0 : Int) + (kids.take i).length = i := by rw [List.length_take, Nat.min_eq_left (Nat.le_of_lt hi')]; omega
      rw [e4]
      exact Le.facts (FactsIn.of rfl)
  · rintro σ ⟨j, rfl⟩
    have e1 : kids.take (Sr.enm ka vs).N = kids := List.take_of_length_le (by first | exact Nat.le_of_eq hlen.symm | exact Nat.le_of_eq hlen | simp [Sr.N, hlen])
    rw [e1]
    refine tb_cons ?_
    repeat ktr_rel
    have e2 : (p ++ [j]).map vI = p.map vI ++ [vI j] := by simp
    dsimp only [LL]
    rw [e2]
    refine bc_pop (by ktr_unf) (by simp; omega) ?_
    refine ⟨fun _ h => (nomatch h), ?_⟩
    refine tb_cons ?_
    repeat ktr_rel
    rw [List.length_map]
    have hso : (told ++ own kids).Sublist (told ++ dns kids) := (List.Sublist.refl told).append (own_dns _)
    refine bc_call (.more (close_ok (n := 0) (N := N) (own := own kids) hN (hnd.sublist hso) (Nat.le_trans hso.length_le (by omega)) (fun x hx => hfr x ((own_dns _).subset hx)) p.length ?_) (by omega))
    exact ⟨fun _ h => (nomatch h), tb_nil ⟨_, List.Sublist.refl _, h⟩⟩

theorem upd_ext (f : Fn) (a : List Str) (x : Str) (d : Int) : upd (ext f a d) x d = ext f (a ++ [x]) d := by
  funext y; unfold upd ext; simp only [List.mem_append, List.mem_singleton]
  by_cases h1 : y = x <;> by_cases h2 : y ∈ a <;> simp [h1, h2]
noncomputable abbrev stt (la a : Addr) : List (Str × Value) := [("lives", .ref la), ("tree", .ref a)]

theorem lstat_tail {lv : Nat} (hlv : 1 ≤ lv) {kind name : Str} {val : Vl} {kids : List Nd} {a dx' ka : Addr} {w : Value} (P : LvPre U N f p) (hp0 : p ≠ []) (hg : Sup U g) (ok : okN U (.mk kind name val kids)) (htl : kind = "let" → told.length + val.names!.length ≤ 9000)
    (h1 : Z a = some (.inst 150 dx')) (h2 : Z dx' = some (.attrs [("kind", vS kind), ("name", vS name), ("value", w), ("kids", .ref ka), ("line", vI 0)])) (h3 : ValAt Z val w)
    (h : Q .none Z (LL la dx hm pt td ls N (ext f (if kind = "let" then val.names! else []) ((p.length : Int) - 1)) p (told ++ (if kind = "let" then val.names! else [])) (if kind = "let" then tellG (p.getLastD 0) val.names! g else if kind = "assign" then mentNs f p val.names! g else g) R)) :
    TB e.c lv d133.1.2 false (d133.1.1.drop 2) (fun fl σ' => ∃ H'', H''.Sublist σ'.H ∧ Q (match fl with | .ret v => v | _ => .none) σ'.Z H'') ⟨stt la a, Z, LL la dx hm pt td ls N f p told g R⟩ := by
  obtain ⟨lv, rfl⟩ : ∃ l, lv = l + 1 := ⟨lv - 1, by omega⟩
  refine tb_cons ?_
  repeat ktr_rel
  refine ⟨fun q => ?_, fun q => ?_⟩
  · have hk : kind = "let" := by first | exact eq_of_beq q | exact ne_of_beq_false q | exact of_decide_eq_true q | exact of_decide_eq_false q | simpa using q
    refine hide fun G9 hG9 => ?_
    refine ex1e (ok.2.2.2.2.2.1 (.inl hk)) fun ns e9b => ?_
    obtain rfl := e9b
    refine ex1e h3 fun na h9x => ?_
    refine and2e h9x fun e9b hna => ?_
    try clear h9x h3
    obtain rfl := e9b
    refine hG9 ?_; clear hG9 G9
    rw [if_pos hk, if_pos hk] at h
    have hns : ∀ x ∈ ns, x ∈ U := ok.2.1
    have hn1 : ns.length ≤ 1000 := ok.2.2.1
    refine tb_cons (ts_for (xs := ["name"]) (bnd1 (Bnd.local rfl rfl)) ?_)
    repeat ktr_rel
    refine pi_list (.inl hna) (forI .lst (fun i σ => σ = ⟨stt la a, Z, LL la dx hm pt td ls N (ext f (ns.take i) ((p.length : Int) - 1)) p (told ++ ns.take i) (tellG (p.getLastD 0) (ns.take i) g) R⟩) ?_ ?_ ?_ ?_)
    · rintro i σ rfl; exact .inl hna
    · simp only [List.take_zero, ext_nil, List.append_nil]; rfl
    · rintro i σ hi rfl
      have hi' : i < ns.length := by first | exact Nat.lt_of_lt_of_eq hi (List.length_map _) | exact hi | simpa [Sr.N] using hi
      have e1 : (ns.map vS).getD i .none = vS ns[i] := by first | exact getD_at hi' | simp [List.getD_eq_getElem?_getD, hi']
      refine TB.cut ?_
      refine St.at1 e1 ?_
      refine tb_cons ?_
      repeat ktr_rel
      have htk : ∀ x ∈ ns.take i, x ∈ U := fun x hx => hns x (List.mem_of_mem_take hx)
      refine bc_call (.more (tell_ok (n := 0) P.u P.n (hns _ (List.getElem_mem hi')) (hg.tellG htk) (P.hf.ext htk) (by have := P.hp; omega) hp0 (by have := htl hk; simp [Vl.names!] at this ⊢; omega) ?_) (by omega))
      refine ⟨fun _ h => (nomatch h), tb_nil ⟨_, ?_, rfl⟩⟩
      rw [List.take_add_one, List.getElem?_eq_getElem hi']
      show Le _ _ ⟨_, _, LL la dx hm pt td ls N (ext f (ns.take i ++ [ns[i]]) ((p.length : Int) - 1)) p (told ++ (ns.take i ++ [ns[i]])) (tellG (p.getLastD 0) (ns.take i ++ [ns[i]]) g) R⟩
      rw [tellG_snoc, ← upd_ext, ← List.append_assoc]
      exact Le.facts (FactsIn.of rfl)
    · rintro σ rfl
      have e1 : ns.take (Sr.lst na (ns.map vS)).N = ns := List.take_of_length_le (by first | exact Nat.le_of_eq (List.length_map _).symm | simp [Sr.N])
      rw [e1]
      refine tb_nil (tb_nil ⟨_, List.Sublist.refl _, h⟩)
  · have hk : kind ≠ "let" := by first | exact eq_of_beq q | exact ne_of_beq_false q | exact of_decide_eq_true q | exact of_decide_eq_false q | simpa using q
    rw [if_neg hk, if_neg hk, ext_nil, List.append_nil] at h
    refine tb_cons ?_
    repeat ktr_rel
    refine ⟨fun q => ?_, fun q => ?_⟩
    · have hk : kind = "assign" := by first | exact eq_of_beq q | exact ne_of_beq_false q | exact of_decide_eq_true q | exact of_decide_eq_false q | simpa using q
      refine hide fun G9 hG9 => ?_
      refine ex1e (ok.2.2.2.2.2.1 (.inr hk)) fun ns e9b => ?_
      obtain rfl := e9b
      refine ex1e h3 fun na h9x => ?_
      refine and2e h9x fun e9b hna => ?_
      try clear h9x h3
      obtain rfl := e9b
      refine hG9 ?_; clear hG9 G9
      rw [if_pos hk] at h
      have hns : ∀ x ∈ ns, x ∈ U := ok.2.1
      refine tb_cons (ts_for (xs := ["name"]) (bnd1 (Bnd.local rfl rfl)) ?_)
      repeat ktr_rel
      refine pi_list (.inl hna) (forI .lst (fun i σ => σ = ⟨stt la a, Z, LL la dx hm pt td ls N f p told (mentNs f p (ns.take i) g) R⟩) ?_ ?_ ?_ ?_)
      · rintro i σ rfl; exact .inl hna
      · rfl
      · rintro i σ hi rfl
        have hi' : i < ns.length := by first | exact Nat.lt_of_lt_of_eq hi (List.length_map _) | exact hi | simpa [Sr.N] using hi
        have e1 : (ns.map vS).getD i .none = vS ns[i] := by first | exact getD_at hi' | simp [List.getD_eq_getElem?_getD, hi']
        refine TB.cut ?_
        refine St.at1 e1 ?_
        refine tb_cons ?_
        repeat ktr_rel
        have htk : ∀ x ∈ ns.take i, x ∈ U := fun x hx => hns x (List.mem_of_mem_take hx)
        refine bc_call (.more (mention_ok (n := 0) P.u P.n (hns _ (List.getElem_mem hi')) (hg.mentNs htk) (P.home _) (by have := P.hp; omega) ?_) (by omega))
        refine ⟨fun _ h => (nomatch h), tb_nil ⟨_, ?_, rfl⟩⟩
        rw [List.take_add_one, List.getElem?_eq_getElem hi']
        show Le _ _ ⟨_, _, LL la dx hm pt td ls N f p told (mentNs f p (ns.take i ++ [ns[i]]) g) R⟩
        rw [mentNs_snoc]
        exact Le.facts (FactsIn.of rfl)
      · rintro σ rfl
        have e1 : ns.take (Sr.lst na (ns.map vS)).N = ns := List.take_of_length_le (by first | exact Nat.le_of_eq (List.length_map _).symm | simp [Sr.N])
        rw [e1]
        refine tb_nil (tb_nil (tb_nil ⟨_, List.Sublist.refl _, h⟩))
    · have hk : kind ≠ "assign" := by first | exact eq_of_beq q | exact ne_of_beq_false q | exact of_decide_eq_true q | exact of_decide_eq_false q | simpa using q
      rw [if_neg hk] at h
      refine tb_nil (tb_nil (tb_nil ⟨_, List.Sublist.refl _, h⟩))

theorem gK_block {kind name : Str} {val : Vl} {kids : List Nd} (hk : kind = "block") : gK (.mk kind name val kids) p f g = gB kids p f 0 g := by rw [gK, if_pos hk]
theorem gK_case {kind name : Str} {val : Vl} {kids : List Nd} (hk : kind = "case") : gK (.mk kind name val kids) p f g = gKs kids p f g := by
  subst hk; rw [gK, if_neg (by decide), if_pos rfl]
theorem gS_case {kind name : Str} {val : Vl} {kids : List Nd} (hk : kind = "case") : gS (.mk kind name val kids) p f g = gKs kids p f g := by
  subst hk; rw [gS, if_neg (by decide), if_neg (by decide), if_neg (by decide)]
theorem gK_expr {kind name : Str} {val : Vl} {kids : List Nd} (hk : kind ≠ "block") (hk2 : kind ≠ "case") : gK (.mk kind name val kids) p f g = mentE f p (.mk kind name val kids) g := by
  rw [gK, if_neg hk, if_neg hk2, mentE]
theorem dn_of_not {kind name : Str} {val : Vl} {kids : List Nd} (hk : kind ≠ "let") : dn (.mk kind name val kids) = dns kids := by rw [dn, if_neg hk]; rfl

theorem lstat_step {m lv : Nat} (B : BkSpec e U N (m + 1) lv) (S : StSpec e U N m lv) (hlv : m + 2 ≤ lv) : StSpec e U N (m + 1) (lv + 1) := by
  intro la dx hm pt td ls f g p told R Z t a Q hm0 hp0 hpl P hT ok hg hnd hlen9 hfr h
  have hTt := hT
  refine hide fun G9 hG9 => ?_
  obtain ⟨kind, name, val, kids⟩ := t
  refine hG9 ?_; clear hG9 G9
  refine TreeAt.elim hT fun dx' ka vs w h1 h2 h3 h4 h5 => ?_
  have hlen := h5.length
  have hvl : vs.length ≤ 2000 := by rw [hlen]; exact ok.2.2.2.2.1
  have hkh : hts kids ≤ m := by simp only [ht] at hm0; exact Nat.le_of_succ_le_succ hm0
  have okk : okNs U kids := ok.2.2.2.2.2.2
  refine CallOk.cut (call_fn (F_live_statement rfl) rfl ?_)
  refine tb_cons ?_
  repeat ktr_rel
  refine ⟨fun q => ?_, fun q => ?_⟩
  · have hk : kind = "block" := by first | exact eq_of_beq q | exact ne_of_beq_false q | exact of_decide_eq_true q | exact of_decide_eq_false q | simpa using q
    have hkl : kind ≠ "let" := by rw [hk]; decide
    rw [dn_of_not hkl] at hnd hlen9 hfr
    have e1 : nmsS (.mk kind name val kids) = [] := by unfold nmsS; rw [show (Nd.mk kind name val kids).kind = kind from rfl, if_neg hkl]
    rw [e1, ext_nil, List.append_nil, gS, if_pos hk] at h
    refine tb_cons ?_
    repeat ktr_rel
    refine bc_call (B la dx hm pt td ls f g p told R Z kind name val kids a _ (by omega) (by omega) P.u P.n P.hf (fun x hh hx => by have := P.home x hh hx; omega) hTt ok hg hnd hlen9 hfr ?_)
    refine kdn ?_
    refine tb_cons ?_
    repeat ktr_rel
    exact ⟨_, List.Sublist.refl _, h⟩
  · have hk : kind ≠ "block" := by first | exact eq_of_beq q | exact ne_of_beq_false q | exact of_decide_eq_true q | exact of_decide_eq_false q | simpa using q
    refine tb_nil ?_
    have hsub : (told ++ dns kids).Sublist (told ++ dn (.mk kind name val kids)) := by
      rw [dn]; exact (List.Sublist.refl told).append (List.sublist_append_right _ _)
    have hnd' := hnd.sublist hsub
    have hfr' : ∀ x ∈ dns kids, f x = none := fun x hx => hfr x (by rw [dn]; exact List.mem_append_right _ hx)
    refine tb_cons (ts_for (xs := ["kid"]) (bnd1 (Bnd.local rfl rfl)) ?_)
    repeat ktr_rel
    refine pi_list (.inl h4) (forI .lst (fun i σ => σ = ⟨stt la a, Z, LL la dx hm pt td ls N f p told (gKs (kids.take i) p f g) R⟩) ?_ ?_ ?_ ?_)
    · rintro i σ rfl; exact .inl h4
    · simp only [List.take_zero]; rw [gKs]; rfl
    · rintro i σ hi rfl
      have hi' : i < kids.length := by rw [← hlen]; exact hi
      refine hide fun G9 hG9 => ?_
      refine ex1e (h5.get (List.getElem?_eq_getElem hi')) fun v h9x => ?_
      refine and2e h9x fun hv hA => ?_
      try clear h9x
      refine ex1e (hA.ref) fun b e9b => ?_
      obtain rfl := e9b
      refine hG9 ?_; clear hG9 G9
      have e1 : vs.getD i .none = .ref b := by rw [List.getD_eq_getElem?_getD, hv]; rfl
      have hmem : kids[i] ∈ kids := List.getElem_mem hi'
      have hkind : ∃ kk kn kv kks, kids[i] = .mk kk kn kv kks := by rcases kids[i] with ⟨kk, kn, kv, kks⟩; exact (ex4i _ _ _ _ rfl)
      refine ex4e hkind fun kk kn kv kks hki => ?_
      try clear hkind
      have hA' := hA
      have hAA := hA
      have okki : okN U kids[i] := okNs_mem okk hmem
      have hkiht : ht kids[i] ≤ m := Nat.le_trans (ht_le hmem) hkh
      have hgi : Sup U (gKs (kids.take i) p f g) := Sup.gKs _ p f (okNs_take i okk) hg
      have hsk : (told ++ dn kids[i]).Sublist (told ++ dns kids) := (List.Sublist.refl told).append (dn_sub hmem)
      have hfk : ∀ x ∈ dn kids[i], f x = none := fun x hx => hfr' x ((dn_sub hmem).subset hx)
      have done : ∀ g', g' = gK kids[i] p f (gKs (kids.take i) p f g) → ∃ σ'', Le e.c ⟨([("kid", .ref b)] : List (Str × Value)) ++ stt la a, Z, LL la dx hm pt td ls N f p told g' R⟩ σ'' ∧ σ'' = ⟨stt la a, Z, LL la dx hm pt td ls N f p told (gKs (kids.take (i + 1)) p f g) R⟩ := by
        rintro g' rfl
        refine ⟨_, ?_, rfl⟩
        rw [List.take_add_one, List.getElem?_eq_getElem hi']
        show Le _ _ ⟨_, _, LL la dx hm pt td ls N f p told (gKs (kids.take i ++ [kids[i]]) p f g) R⟩
        rw [gKs_snoc]
        exact Le.facts (FactsIn.of rfl)
      rw [hki] at hA' hAA hkiht hsk hfk okki done
      refine TreeAt.elim hA' fun bx bka bvs bw b1 b2 b3 b4 b5 => ?_
      refine TB.cut ?_
      refine St.at1 e1 ?_
      refine tb_cons ?_
      repeat ktr_rel
      refine ⟨fun q => ?_, fun q => ?_⟩
      · have hkb : kk = "block" := by first | exact eq_of_beq q | exact ne_of_beq_false q | exact of_decide_eq_true q | exact of_decide_eq_false q | simpa using q
        have hkl : kk ≠ "let" := by rw [hkb]; decide
        rw [dn_of_not hkl] at hsk hfk
        refine tb_cons ?_
        repeat ktr_rel
        refine bc_call (B la dx hm pt td ls f _ p told R Z kk kn kv kks b _ (by simp only [ht] at hkiht; exact Nat.le_trans hkiht (Nat.le_succ m)) (by omega) P.u P.n P.hf (fun x hh hx => by have := P.home x hh hx; omega) hAA okki hgi (hnd'.sublist hsk) (Nat.le_trans hsk.length_le (Nat.le_trans hsub.length_le hlen9)) hfk ?_)
        refine ⟨fun _ h => (nomatch h), tb_nil (tb_nil (done _ ?_))⟩
        rw [gK_block hkb]
      · have hkb : kk ≠ "block" := by first | exact eq_of_beq q | exact ne_of_beq_false q | exact of_decide_eq_true q | exact of_decide_eq_false q | simpa using q
        refine tb_cons ?_
        repeat ktr_rel
        refine ⟨fun q => ?_, fun q => ?_⟩
        · have hkc : kk = "case" := by first | exact eq_of_beq q | exact ne_of_beq_false q | exact of_decide_eq_true q | exact of_decide_eq_false q | simpa using q
          have hkl : kk ≠ "let" := by rw [hkc]; decide
          refine tb_cons ?_
          repeat ktr_rel
          refine bc_call (S la dx hm pt td ls f _ p told R Z _ b _ hkiht hp0 (by omega) P hAA okki hgi (hnd'.sublist hsk) (Nat.le_trans hsk.length_le (Nat.le_trans hsub.length_le hlen9)) hfk ?_)
          have e4 : nmsS (.mk kk kn kv kks) = [] := by unfold nmsS; rw [show (Nd.mk kk kn kv kks).kind = kk from rfl, if_neg hkl]
          rw [e4, ext_nil, List.append_nil]
          refine ⟨fun _ h => (nomatch h), tb_nil (tb_nil (tb_nil (done _ ?_)))⟩
          rw [gK_case hkc, gS_case hkc]
        · have hkc : kk ≠ "case" := by first | exact eq_of_beq q | exact ne_of_beq_false q | exact of_decide_eq_true q | exact of_decide_eq_false q | simpa using q
          refine tb_cons ?_
          repeat ktr_rel
          refine bc_call (.more (lexpr_ok (n := 0) P m _ b _ _ hkiht hAA okki hgi ?_) (by omega))
          refine ⟨fun _ h => (nomatch h), tb_nil (tb_nil (tb_nil (done _ ?_)))⟩
          rw [gK_expr hkb hkc]
    · rintro σ rfl
      have e1 : kids.take (Sr.lst ka vs).N = kids := List.take_of_length_le (by first | exact Nat.le_of_eq hlen.symm | exact Nat.le_of_eq hlen | simp [Sr.N, hlen])
      rw [e1]
      refine lstat_tail (by omega) P hp0 (Sup.gKs _ p f okk hg) ok ?_ h1 h2 h3 ?_
      · intro hkl
        have : (dn (.mk kind name val kids)).length = val.names!.length + (dns kids).length := by rw [dn, if_pos hkl]; simp
        rw [List.length_append] at hlen9; omega
      · have e5 : gS (.mk kind name val kids) p f g = if kind = "let" then tellG (p.getLastD 0) val.names! (gKs kids p f g) else if kind = "assign" then mentNs f p val.names! (gKs kids p f g) else gKs kids p f g := by rw [gS, if_neg hk]
        rw [e5] at h
        exact h
theorem live_ok : ∀ m, BkSpec e U N (m + 1) (2 * m + 3) ∧ StSpec e U N m (2 * m + 2)
  | 0 => by
    have s0 : StSpec e U N 0 2 := by
      intro la dx hm pt td ls f g p told R Z t a Q hm0
      refine hide fun G9 hG9 => ?_
      obtain ⟨kind, name, val, kids⟩ := t
      refine hG9 ?_; clear hG9 G9
      simp [ht] at hm0
    exact ⟨lblock_step (m := 0) (lv := 1) s0, s0⟩
  | m + 1 => by
    refine and2e (live_ok m) fun b s => ?_
    have s' : StSpec e U N (m + 1) (2 * m + 4) := lstat_step (lv := 2 * m + 3) b (fun la dx hm pt td ls f g p told R Z t a Q c1 c2 c3 c4 c5 c6 c7 c8 c9 c10 c11 => (s la dx hm pt td ls f g p told R Z t a Q c1 c2 c3 c4 c5 c6 c7 c8 c9 c10 c11).more (by omega)) (by omega)
    exact ⟨lblock_step (m := m + 1) (lv := 2 * m + 3) s', s'⟩
end auto

-- P3

noncomputable def SubP (H C : HT) : Prop := ∃ H3, H.Perm H3 ∧ C.Sublist H3
theorem SubP.refl {H : HT} : SubP H H := ⟨H, .refl _, .refl _⟩
theorem SubP.cons {H C : HT} {p} (h : SubP H C) : SubP (p :: H) C := let ⟨H3, a, b⟩ := h; ⟨p :: H3, a.cons p, .cons _ b⟩
theorem SubP.perm {H C : HT} (h : H.Perm C) : SubP H C := ⟨C, h, .refl _⟩
theorem SubP.sub {H C : HT} (h : C.Sublist H) : SubP H C := ⟨H, .refl _, h⟩
theorem sublist_perm {C H3 : HT} (h : C.Sublist H3) : ∃ E, H3.Perm (C ++ E) := by
  induction h with
  | slnil => exact ⟨[], .refl _⟩
  | cons a _ ih => obtain ⟨E, hE⟩ := ih; exact ⟨a :: E, (hE.cons a).trans (List.perm_middle.symm)⟩
  | cons_cons a _ ih => obtain ⟨E, hE⟩ := ih; exact ⟨E, hE.cons a⟩
theorem SubP.iff {H C : HT} : SubP H C ↔ ∃ E, H.Perm (C ++ E) := by
  constructor
  · rintro ⟨H3, a, b⟩; obtain ⟨E, hE⟩ := sublist_perm b; exact ⟨E, a.trans hE⟩
  · rintro ⟨E, h⟩; exact ⟨_, h, List.sublist_append_left _ _⟩
theorem SubP.trans {A B C : HT} (h : SubP A B) (k : SubP B C) : SubP A C := by
  rw [SubP.iff] at *
  obtain ⟨E, hE⟩ := h; obtain ⟨E', hE'⟩ := k
  exact ⟨E' ++ E, hE.trans (by rw [← List.append_assoc]; exact hE'.append_right E)⟩
theorem CallOk.subp {c n f args Q Z} {H C : HT} (h : CallOk c n f args Q Z C) (s : SubP H C) : CallOk c n f args Q Z H := let ⟨_, a, b⟩ := s; CallOk.perm (CallOk.sub h b) a
theorem CallOk.cuts {c n f args} {Q : Value → ZT → HT → Prop} {Z H} (h : CallOk c n f args (fun v Z' H' => ∃ H'', SubP H' H'' ∧ Q v Z' H'') Z H) : CallOk c n f args Q Z H :=
  h.turn fun _ Z' _ ⟨H'', ⟨H3, p, s⟩, q⟩ _ _ X => (ex2i Z' H'' ⟨(X.perm p).sub s, q⟩)
theorem Le.subp {c m Z H C} (s : SubP H C) : Le c ⟨m, Z, H⟩ ⟨m, Z, C⟩ := let ⟨_, a, b⟩ := s; (Le.perm a).trans (Le.sub b)

noncomputable def nameKids : List Nd → List Str
  | [] => []
  | t :: r => (if t.kind = "name" then [t.name] else []) ++ nameKids r
mutual
noncomputable def stL : Nd → List Str
  | .mk kind name val kids => (if kind = "let" ∨ kind = "assign" then val.names! else []) ++ (nameKids kids ++ (if kind = "block" then rowsAll kids else rowsNe kids).flatten)
noncomputable def rowsAll : List Nd → List (List Str)
  | [] => []
  | t :: r => stL t :: rowsAll r
noncomputable def rowsNe : List Nd → List (List Str)
  | [] => []
  | t :: r => (if t.kids = [] then [] else [stL t]) ++ rowsNe r
end
noncomputable def ksOf (rows : List (List Str)) (a : Nat) (x : Str) : List Int := ((List.range (rows.length - a)).filter fun i => decide (x ∈ rows.getD (a + i) [])).map fun i => ((a + i : Nat) : Int)
noncomputable def lastK (rows : List (List Str)) (a : Nat) (x : Str) : Int := (ksOf rows a x).getLastD 0
noncomputable def setNs (rows : List (List Str)) (a : Nat) : List Str → Fn → Fn
  | [], g => g
  | x :: r, g => setNs rows a r (upd g x (lastK rows a x))
noncomputable def setD (rows : List (List Str)) : Nat → List Nd → Fn → Fn
  | _, [], g => g
  | i, t :: r, g => setD rows (i + 1) r (setNs rows i (if t.kind = "let" then t.names else []) g)
mutual
noncomputable def duS : Nd → Fn → Fn
  | .mk kind name val kids, g => if kind = "block" then setD (rowsAll kids) 0 kids (duAll kids g) else duNe kids g
noncomputable def duAll : List Nd → Fn → Fn
  | [], g => g
  | t :: r, g => duAll r (duS t g)
noncomputable def duNe : List Nd → Fn → Fn
  | [], g => g
  | t :: r, g => duNe r (if t.kids = [] then g else duS t g)
end
theorem rowsAll_len : ∀ ks, (rowsAll ks).length = ks.length
  | [] => rfl
  | t :: r => by rw [rowsAll, List.length_cons, List.length_cons, rowsAll_len r]
theorem rowsAll_snoc : ∀ ks t, rowsAll (ks ++ [t]) = rowsAll ks ++ [stL t]
  | [], t => by rw [List.nil_append, rowsAll, rowsAll]; rfl
  | u :: r, t => by rw [List.cons_append, rowsAll, rowsAll, rowsAll_snoc r t]; rfl
theorem rowsNe_snoc : ∀ ks t, rowsNe (ks ++ [t]) = rowsNe ks ++ (if t.kids = [] then [] else [stL t])
  | [], t => by rw [List.nil_append, rowsNe, rowsNe]; simp [rowsNe]
  | u :: r, t => by rw [List.cons_append, rowsNe, rowsNe, rowsNe_snoc r t, List.append_assoc]
theorem duAll_snoc : ∀ ks t g, duAll (ks ++ [t]) g = duS t (duAll ks g)
  | [], t, g => by rw [List.nil_append, duAll, duAll, duAll]
  | u :: r, t, g => by rw [List.cons_append, duAll, duAll, duAll_snoc r t]
theorem duNe_snoc : ∀ ks t g, duNe (ks ++ [t]) g = if t.kids = [] then duNe ks g else duS t (duNe ks g)
  | [], t, g => by rw [List.nil_append, duNe, duNe, duNe]
  | u :: r, t, g => by rw [List.cons_append, duNe, duNe, duNe_snoc r t]
theorem nameKids_snoc : ∀ (ks : List Nd) (t : Nd), nameKids (ks ++ [t]) = nameKids ks ++ (if t.kind = "name" then [t.name] else [])
  | [], t => by simp [nameKids]
  | u :: r, t => by rw [List.cons_append, nameKids, nameKids, nameKids_snoc r t, List.append_assoc]
theorem setNs_snoc (rows a) : ∀ ns x g, setNs rows a (ns ++ [x]) g = upd (setNs rows a ns g) x (lastK rows a x)
  | [], x, g => rfl
  | u :: r, x, g => setNs_snoc rows a r x _
theorem setD_snoc (rows) : ∀ (i : Nat) (ks : List Nd) (t : Nd) (g : Fn), setD rows i (ks ++ [t]) g = setNs rows (i + ks.length) (if t.kind = "let" then t.names else []) (setD rows i ks g)
  | i, [], t, g => rfl
  | i, u :: r, t, g => by
    rw [List.cons_append, setD, setD_snoc rows (i + 1) r t, setD]
    have : i + 1 + r.length = i + (u :: r).length := by simp; omega
    rw [this]
theorem Sup.setNs {U rows a} : ∀ {ns : List Str} {g}, Sup U g → (∀ x ∈ ns, x ∈ U) → Sup U (setNs rows a ns g)
  | [], g, h, _ => h
  | x :: r, g, h, hx => (h.upd (hx x (.head _))).setNs fun y hy => hx y (.tail _ hy)
theorem Sup.setD {U rows} : ∀ {i} {ks : List Nd} {g}, okNs U ks → Sup U g → Sup U (setD rows i ks g)
  | _, [], g, _, h => h
  | i, t :: r, g, ok, h => by
    rw [Mine.setD]
    refine Sup.setD ok.2 (h.setNs ?_)
    intro x hx
    split at hx
    · have := ok.1; obtain ⟨k, n, v, ks⟩ := t; exact this.2.1 x hx
    · cases hx
mutual
theorem Sup.duS {U} : ∀ (t : Nd) {g}, okN U t → Sup U g → Sup U (duS t g)
  | .mk kind name val kids, g, ok, h => by
    have hk := ok.2.2.2.2.2.2
    rw [Mine.duS]
    split
    · exact Sup.setD hk (Sup.duAll kids hk h)
    · exact Sup.duNe kids hk h
theorem Sup.duAll {U} : ∀ (t : List Nd) {g}, okNs U t → Sup U g → Sup U (duAll t g)
  | [], g, _, h => by rw [Mine.duAll]; exact h
  | t :: r, g, ok, h => by rw [Mine.duAll]; exact Sup.duAll r ok.2 (Sup.duS t ok.1 h)
theorem Sup.duNe {U} : ∀ (t : List Nd) {g}, okNs U t → Sup U g → Sup U (duNe t g)
  | [], g, _, h => by rw [Mine.duNe]; exact h
  | t :: r, g, ok, h => by
    rw [Mine.duNe]
    refine Sup.duNe r ok.2 ?_
    split
    · exact h
    · exact Sup.duS t ok.1 h
end
noncomputable def rowsH : List Addr → List (List Str) → HT
  | a :: r, row :: rs => (a, .list (row.map vS)) :: rowsH r rs
  | _, _ => []
theorem rowsH_snoc {a : Addr} {row : List Str} : ∀ {as : List Addr} {rs}, as.length = rs.length → rowsH (as ++ [a]) (rs ++ [row]) = rowsH as rs ++ [(a, .list (row.map vS))]
  | [], [], _ => rfl
  | b :: as, r :: rs, h => by simp only [List.cons_append, rowsH]; rw [rowsH_snoc (by simpa using h)]
theorem rowsH_get {i : Nat} {a row} : ∀ {as : List Addr} {rs : List (List Str)}, as[i]? = some a → rs[i]? = some row → (a, AO.list (row.map vS)) ∈ rowsH as rs := by
  intro as
  induction as generalizing i with
  | nil => intro rs h; simp at h
  | cons b as ih =>
    intro rs h1 h2
    cases rs with
    | nil => simp at h2
    | cons r rs =>
      cases i with
      | zero => simp at h1 h2; subst h1 h2; exact .head _
      | succ i => exact .tail _ (ih (by simpa using h1) (by simpa using h2))
theorem flat_len {rows : List (List Str)} {r : List Str} (h : r ∈ rows) : r.length ≤ rows.flatten.length := by
  induction rows with
  | nil => cases h
  | cons a rs ih =>
    rw [List.flatten_cons, List.length_append]
    rcases List.mem_cons.mp h with rfl | h
    · omega
    · have := ih h; omega
theorem flat_take (rows : List (List Str)) (i : Nat) : (rows.take i).flatten.length ≤ rows.flatten.length := by
  conv => rhs; rw [← List.take_append_drop i rows]
  rw [List.flatten_append, List.length_append]; omega

-- W9
noncomputable abbrev fmW9_0 (v0 v1 v2 : Value) : List (Str × Value) := [("rows", v0), ("block", v1), ("due", v2)]
section auto
variable {e : Ev} {n N : Nat} {R : HT} {Z : ZT} {Q : Value → ZT → HT → Prop} {g : Fn} {U : List Str}

noncomputable abbrev inFor : Stmt := stAt (forBody (stAt d288.1.1 1)) 0
noncomputable def StoodSpec (e : Ev) (U : List Str) (N m lv : Nat) : Prop := ∀ (du : Addr) (g : Fn) (R : HT) (Z : ZT) (t : Nd) (a : Addr) (Q : Value → ZT → HT → Prop), ht t ≤ m → TreeAt Z t (.ref a) → okN U t → U.length ≤ N → N ≤ 1000 → Sup U g → (stL t).length ≤ 400000 →
  (∀ fa, Q (.ref fa) Z ((fa, .list ((stL t).map vS)) :: (du, .dict N (ofI (duS t g))) :: R)) → CallOk e.c lv (.ref 283) [.ref a, .ref du] Q Z ((du, .dict N (ofI g)) :: R)
noncomputable def RowsSpec (e : Ev) (U : List Str) (N m lv : Nat) : Prop := ∀ (du : Addr) (g : Fn) (R : HT) (Z : ZT) (kind name : Str) (val : Vl) (kids : List Nd) (a : Addr) (Q : Value → ZT → HT → Prop), hts kids + 1 ≤ m → TreeAt Z (.mk kind name val kids) (.ref a) → okNs U kids → kids.length ≤ 2000 → U.length ≤ N → N ≤ 1000 → Sup U g → (rowsAll kids).flatten.length ≤ 400000 →
  (∀ D rs, rs.length = kids.length → Q (.ref D) Z ((D, .list (rs.map .ref)) :: (du, .dict N (ofI (setD (rowsAll kids) 0 kids (duAll kids g)))) :: (rowsH rs (rowsAll kids) ++ R))) → CallOk e.c lv (.ref 288) [.ref a, .ref du] Q Z ((du, .dict N (ofI g)) :: R)

theorem rowsAll_mem {t : Nd} : ∀ {ks : List Nd}, t ∈ ks → stL t ∈ rowsAll ks
  | u :: r, h => by
    rw [rowsAll]
    rcases List.mem_cons.mp h with rfl | h
    · exact .head _
    · exact .tail _ (rowsAll_mem h)
theorem rowsAll_get : ∀ {ks : List Nd} {i : Nat} (h : i < ks.length), (rowsAll ks).getD i [] = stL ks[i]
  | t :: r, 0, _ => by rw [rowsAll]; rfl
  | t :: r, i + 1, h => by
    rw [rowsAll]
    have := rowsAll_get (ks := r) (i := i) (by first | exact eq_of_beq h | exact ne_of_beq_false h | exact of_decide_eq_true h | exact of_decide_eq_false h | simpa using h)
    simpa using this
theorem kid_shape {Z : ZT} {kids : List Nd} {vs : List Value} (h5 : TreesAt Z kids vs) {i : Nat} (hi : i < kids.length) : ∃ b kk kn kv kks, vs.getD i .none = .ref b ∧ kids[i] = .mk kk kn kv kks ∧ TreeAt Z (.mk kk kn kv kks) (.ref b) := by
  refine hide fun G9 hG9 => ?_
  refine ex1e (h5.get (List.getElem?_eq_getElem hi)) fun v h9x => ?_
  refine and2e h9x fun hv hA => ?_
  try clear h9x
  refine ex1e (hA.ref) fun b e9b => ?_
  obtain rfl := e9b
  refine hG9 ?_; clear hG9 G9
  rcases hki : kids[i] with ⟨kk, kn, kv, kks⟩
  rw [hki] at hA
  exact (ex5i b kk kn kv kks (and3i (by rw [List.getD_eq_getElem?_getD, hv]; rfl) rfl hA))

noncomputable abbrev RwH (D du : Addr) (rs : List Addr) (kids : List Nd) (N : Nat) (g : Fn) (R : HT) : HT := (D, .list (rs.map .ref)) :: (du, .dict N (ofI g)) :: (rowsH rs (rowsAll kids) ++ R)
noncomputable abbrev rwM (b a D du : Addr) (i : Nat) : List (Str × Value) := [("stat", .ref b), ("at", vI i), ("rows", .ref D), ("block", .ref a), ("due", .ref du)]
theorem rows_step {m lv : Nat} (S : StoodSpec e U N m lv) : RowsSpec e U N (m + 1) (lv + 1) := by
  intro du g R Z kind name val kids a Q hm hT ok hk2 hU hN hg hfl h
  refine TreeAt.elim hT fun dx' ka vs w h1 h2 h3 h4 h5 => ?_
  have hlen := h5.length
  refine CallOk.cuts (call_fn (F_rows rfl) rfl ?_)
  refine tb_cons ?_
  repeat ktr_rel
  refine te_comp (xs := ["stat"]) (bnd1 (Bnd.local rfl rfl)) ?_
  repeat ktr_rel
  refine pi_list (.inl h4) (cmpI .lst (by first | (refine Nat.le_trans (Nat.le_of_eq (List.length_map _)) ?_; omega) | (show List.length _ ≤ _; omega) | (simp [Sr.N]; omega)) [("due", .ref du)] (fun i ys Z' H' => Z' = Z ∧ ∃ rs : List Addr, rs.length = min i kids.length ∧ ys = rs.map .ref ∧ H'.Perm ((du, .dict N (ofI (duAll (kids.take i) g))) :: (rowsH rs (rowsAll (kids.take i)) ++ R))) ?_ ?_ ?_ ?_ ?_)
  · intro p hp; simp at hp; subst hp; exact ⟨rfl, rfl⟩
  · rintro i ys Z' H' m' ⟨rfl, _⟩; exact .inl h4
  · refine (⟨rfl, ⟨[], and3i (by simp) rfl ?_⟩⟩)
    simp only [List.take_zero]
    rw [duAll, rowsAll]
    exact List.Perm.refl _
  · intro i ys Z' H' hi h9
    refine hide fun G9 hG9 => ?_
    refine and2e h9 fun e9a h9x => ?_
    refine ex1e h9x fun rs h9y => ?_
    refine and3e h9y fun hrs e9d hp => ?_
    try clear h9y h9x h9
    obtain rfl := e9a
    obtain rfl := e9d
    refine hG9 ?_; clear hG9 G9
    have hi' : i < kids.length := by rw [← hlen]; exact hi
    refine ex5e (kid_shape h5 hi') fun b kk kn kv kks h9x => ?_
    refine and3e h9x fun e1 hki hA => ?_
    try clear h9x
    have hmem : kids[i] ∈ kids := List.getElem_mem hi'
    refine ct_nil ?_
    refine St.at1 e1 ?_
    repeat ktr_rel
    have hst : (stL kids[i]).length ≤ 400000 := by
      refine Nat.le_trans (flat_len (rows := rowsAll kids) ?_) hfl
      exact rowsAll_mem hmem
    have hok := okNs_mem ok hmem
    have hht : ht kids[i] ≤ m := Nat.le_trans (ht_le hmem) (by omega)
    rw [hki] at hok hht hst
    refine bc_call (.perm (S du _ _ Z' _ b _ hht hA hok hU hN (Sup.duAll _ (okNs_take i ok) hg) hst fun fa => ?_) hp)
    refine (⟨rfl, ⟨rs ++ [fa], and3i (by simp; omega) (by simp) ?_⟩⟩)
    rw [List.take_add_one, List.getElem?_eq_getElem hi']
    show List.Perm _ ((du, AO.dict N (ofI (duAll (kids.take i ++ [kids[i]]) g))) :: (rowsH (rs ++ [fa]) (rowsAll (kids.take i ++ [kids[i]])) ++ R))
    rw [duAll_snoc, rowsAll_snoc, rowsH_snoc (by rw [rowsAll_len, List.length_take]; exact hrs), hki, List.append_assoc]
    exact (List.Perm.swap _ _ _).trans ((List.perm_middle (l₁ := rowsH rs (rowsAll (kids.take i)))).symm.cons _)
  · rintro D ys Z' H' ⟨rfl, rs, hrs, rfl, hp⟩ hys
    have e1 : kids.take (Sr.lst ka vs).N = kids := List.take_of_length_le (by first | exact Nat.le_of_eq hlen.symm | exact Nat.le_of_eq hlen | simp [Sr.N, hlen])
    have hN' : (Sr.lst ka vs).N = kids.length := by first | exact hlen | simp [Sr.N, hlen]
    rw [e1] at hp
    rw [hN', Nat.min_self] at hrs
    refine sn_cell rfl rfl rfl ?_
    refine TB.le (Le.perm (hp.cons (D, .list (rs.map .ref)))) ?_
    refine tb_cons (ts_for (xs := ["at", "stat"]) (bnd2 (Bnd.local rfl rfl) (Bnd.local rfl rfl)) ?_)
    repeat ktr_rel
    refine bc_enum (.inl h4) fun en it => ?_
    have hrl := rowsAll_len kids
    refine pi_enum (vs := vs) rfl (forI .enm (fun i σ => σ = ⟨(fmW9_0 (.ref D) (.ref a) (.ref du)), Z', (D, .list (rs.map .ref)) :: (du, .dict N (ofI (setD (rowsAll kids) 0 (kids.take i) (duAll kids g)))) :: (rowsH rs (rowsAll kids) ++ R)⟩) ?_ rfl ?_ ?_)
    · rintro i σ rfl; exact .inl h4
    · rintro i σ hi rfl
      have hi' : i < kids.length := by rw [← hlen]; exact hi
      refine ex5e (kid_shape h5 hi') fun b kk kn kv kks h9x => ?_
      refine and3e h9x fun e1 hki hA => ?_
      try clear h9x
      have hmem : kids[i] ∈ kids := List.getElem_mem hi'
      have hok := okNs_mem ok hmem
      have hgi : Sup U (setD (rowsAll kids) 0 (kids.take i) (duAll kids g)) := Sup.setD (okNs_take i ok) (Sup.duAll kids ok hg)
      have hfin : setD (rowsAll kids) 0 (kids.take (i + 1)) (duAll kids g) = setNs (rowsAll kids) i (if kk = "let" then kv.names! else []) (setD (rowsAll kids) 0 (kids.take i) (duAll kids g)) := by
        rw [List.take_add_one, List.getElem?_eq_getElem hi']
        show setD _ _ (kids.take i ++ [kids[i]]) _ = _
        rw [setD_snoc, hki, List.length_take, Nat.min_eq_left (Nat.le_of_lt hi'), Nat.zero_add]
        rfl
      rw [hki] at hok
      refine TreeAt.elim hA fun bx bka bvs bw b1 b2 b3 b4 b5 => ?_
      refine TB.cut ?_
      refine St.at2 e1 ?_
      have inner : ∀ (Qf : Flow → St → Prop) (na : Addr) (ns : List Str) (G : HT), (Z' na = some (.list (ns.map vS)) ∨ (na, AO.list (ns.map vS)) ∈ G) → (∀ x ∈ ns, x ∈ U) → ns.length ≤ 1000 →
          (∀ x ∈ ns, x ∈ (rowsAll kids).getD i []) → (∀ G' : HT, Qf .next ⟨rwM b a D du i, Z', G' ++ RwH D du rs kids N (setNs (rowsAll kids) i ns (setD (rowsAll kids) 0 (kids.take i) (duAll kids g))) R⟩) →
          PI e.c lv d288.1.2 false (.ref na) (kForB e.c lv d288.1.2 false (forTgt inFor) (forBody inFor) ["name"] Qf)
            ⟨rwM b a D du i, Z', G ++ RwH D du rs kids N (setD (rowsAll kids) 0 (kids.take i) (duAll kids g)) R⟩ := by
        intro Qf na ns G hna hns hn1 hin hQ
        refine pi_list (vs := ns.map vS) (hna.elim .inl fun hm => .inr (List.mem_append_left _ hm)) (forI .lst (fun j σ => ∃ G', (∀ q ∈ G, q ∈ G') ∧ σ = ⟨rwM b a D du i, Z', G' ++ RwH D du rs kids N (setNs (rowsAll kids) i (ns.take j) (setD (rowsAll kids) 0 (kids.take i) (duAll kids g))) R⟩) ?_ ⟨G, fun _ h => h, rfl⟩ ?_ ?_)
        · rintro j σ ⟨G', hG, rfl⟩; exact hna.elim .inl fun hm => .inr (List.mem_append_left _ (hG _ hm))
        · rintro j σ hj ⟨G', hG, rfl⟩
          have hj' : j < ns.length := by first | exact Nat.lt_of_lt_of_eq hj (List.length_map _) | exact hj | simpa [Sr.N] using hj
          have e1 : (ns.map vS).getD j .none = vS ns[j] := by first | exact getD_at hj' | simp [List.getD_eq_getElem?_getD, hj']
          refine TB.cut ?_
          refine St.at1 e1 ?_
          have hx := hin ns[j] (List.getElem_mem hj')
          have hxU := hns ns[j] (List.getElem_mem hj')
          have htk1 : ns.take (j + 1) = ns.take j ++ [ns[j]] := by rw [List.take_add_one, List.getElem?_eq_getElem hj']; rfl
          generalize ns[j] = x at *
          have hgj : Sup U (setNs (rowsAll kids) i (ns.take j) (setD (rowsAll kids) 0 (kids.take i) (duAll kids g))) := hgi.setNs fun y hy => hns y (List.mem_of_mem_take hy)
          have hlr : rs.length = (rowsAll kids).length := by rw [hrl]; omega
          have hil : i < (rowsAll kids).length := by rw [hrl]; exact hi'
          refine TB.le (Le.perm List.perm_append_comm) ?_
          refine tb_cons ?_
          repeat ktr_rel
          refine te_comp (xs := ["k"]) (bnd1 (Bnd.local rfl rfl)) ?_
          repeat ktr_rel
          refine bc_len (by ktr_unf) (by simp; omega) ?_
          repeat ktr_rel
          refine bc_range2 fun rr => ?_
          rw [List.length_map, hlr]
          refine pi_range (a := (i : Nat)) (b := (rowsAll kids).length) (by ktr_unf) (by omega) (by omega) (by omega) (by omega) (cmpI .rng (by simp [Sr.N]; omega) [("rows", .ref D), ("name", vS x)] (fun q ys Z2 H2 => Z2 = Z' ∧ H2 = (rr, .rng i (rowsAll kids).length) :: (((D, .list (rs.map .ref)) :: (du, .dict N (ofI (setNs (rowsAll kids) i (ns.take j) (setD (rowsAll kids) 0 (kids.take i) (duAll kids g))))) :: (rowsH rs (rowsAll kids) ++ R)) ++ G') ∧
              ys = (((List.range q).filter fun q => decide (x ∈ (rowsAll kids).getD (i + q) [])).map fun q => ((i + q : Nat) : Int)).map vI) ?_ ?_ ?_ ?_ ?_)
          · intro p hp; simp at hp; rcases hp with rfl | rfl <;> exact ⟨rfl, rfl⟩
          · exact fun _ _ _ _ _ _ => trivial
          · exact (and3i rfl rfl rfl)
          · rintro q ys Z2 H2 hq ⟨rfl, rfl, rfl⟩
            have hq' : i + q < (rowsAll kids).length := by simp [Sr.N] at hq; omega
            refine ct_one ?_
            show TT _ _ _ _ _ _ ⟨([("k", vI ((i : Nat) + (q : Nat)))] : List (Str × Value)) ++ ([("rows", .ref D), ("name", vS x)] : List (Str × Value)), _, _⟩
            have hcast : ((i : Nat) : Int) + (q : Nat) = ((i + q : Nat) : Int) := by omega
            rw [hcast]
            repeat ktr_rel
            refine gi_list (v := .ref (rs[i + q]'(by omega))) (by ktr_unf) (by omega) (by omega) (by rw [List.getElem?_map, Int.toNat_natCast, List.getElem?_eq_getElem (by omega)]; rfl) ?_
            have hrow : (rs[i + q]'(by omega), AO.list (((rowsAll kids)[i + q]).map vS)) ∈ rowsH rs (rowsAll kids) := rowsH_get (List.getElem?_eq_getElem (by omega)) (List.getElem?_eq_getElem hq')
            refine co_in_strs (.inr (List.mem_cons_of_mem _ (List.mem_append_left _ (List.mem_cons_of_mem _ (List.mem_cons_of_mem _ (List.mem_append_left _ hrow)))))) ?_
            have hget : (rowsAll kids).getD (i + q) [] = (rowsAll kids)[i + q] := by rw [List.getD_eq_getElem?_getD, List.getElem?_eq_getElem hq']; rfl
            refine tv_bool ⟨fun t => ?_, fun t => ?_⟩
            · repeat ktr_rel
              refine (and3i rfl rfl ?_)
              rw [List.range_succ, List.filter_append, List.filter_cons, hget, if_pos t]
              simp
            · refine (and3i rfl rfl ?_)
              rw [List.range_succ, List.filter_append, List.filter_cons, hget, if_neg (by rw [t]; decide)]
              simp
          · rintro L2 ys Z2 H2 ⟨rfl, rfl, rfl⟩ hys
            have hNq : (Sr.rng i (((rowsAll kids).length : Int) - (i : Nat)).toNat).N = (rowsAll kids).length - i := by show (((rowsAll kids).length : Int) - (i : Nat)).toNat = _; omega
            rw [hNq] at hys ⊢
            have hne : (((List.range ((rowsAll kids).length - i)).filter fun q => decide (x ∈ (rowsAll kids).getD (i + q) [])).map fun q => ((i + q : Nat) : Int)) ≠ [] := by
              intro hh
              have : (0 : Nat) ∈ (List.range ((rowsAll kids).length - i)).filter fun q => decide (x ∈ (rowsAll kids).getD (i + q) []) := List.mem_filter.mpr ⟨List.mem_range.mpr (by omega), by simpa using hx⟩
              rw [List.map_eq_nil_iff.mp hh] at this
              cases this
            have hks : lastK (rowsAll kids) i x = (((List.range ((rowsAll kids).length - i)).filter fun q => decide (x ∈ (rowsAll kids).getD (i + q) [])).map fun q => ((i + q : Nat) : Int)).getLastD 0 := rfl
            generalize (((List.range ((rowsAll kids).length - i)).filter fun q => decide (x ∈ (rowsAll kids).getD (i + q) [])).map fun q => ((i + q : Nat) : Int)) = ks at *
            have hkp := List.length_pos_iff.mpr hne
            repeat ktr_rel
            refine ⟨1, rfl, ?_⟩
            refine gi_list_neg (v := vI (lastK (rowsAll kids) i x)) (by ktr_unf) (by decide) (by simp; omega) (by decide) ?_ ?_
            · have : ((-1 : Int) + ((ks.map vI).length : Nat)).toNat = ks.length - 1 := by rw [List.length_map]; omega
              rw [this, List.getElem?_map, hks, List.getLastD_eq_getLast?, List.getLast?_eq_getElem?]
              have h2 : ks.length - 1 < ks.length := by omega
              simp [List.getElem?_eq_getElem h2]
            repeat ktr_rel
            refine si_dictUI U hU (by omega) hxU (fun y hy => hgj y hy) (by ktr_unf) ?_
            refine tb_nil ⟨_, ?_, (L2, .list (ks.map vI)) :: (rr, .rng i (rowsAll kids).length) :: G', fun q hq => .tail _ (.tail _ (hG q hq)), rfl⟩
            rw [htk1, setNs_snoc]
            refine Le.trans (Le.facts (m' := rwM b a D du i) (FactsIn.of rfl)) (Le.perm ?_)
            refine List.Perm.cons _ (List.Perm.cons _ ?_)
            exact List.perm_append_comm (l₁ := _ :: _ :: (rowsH rs (rowsAll kids) ++ R)) (l₂ := G')
        · rintro σ ⟨G', hG, rfl⟩
          have e1 : ns.take (Sr.lst na (ns.map vS)).N = ns := List.take_of_length_le (by first | exact Nat.le_of_eq (List.length_map _).symm | simp [Sr.N])
          rw [e1]
          exact hQ G'
      refine tb_cons (ts_for (xs := ["name"]) (bnd1 (Bnd.cell rfl rfl rfl)) ?_)
      repeat ktr_rel
      refine ⟨fun q => ?_, fun q => ?_⟩
      · have hk : kk = "let" := eq_of_beq q
        refine hide fun G9 hG9 => ?_
        refine ex1e (hok.2.2.2.2.2.1 (.inl hk)) fun ns e9b => ?_
        obtain rfl := e9b
        refine ex1e b3 fun na h9x => ?_
        refine and2e h9x fun e9b hna => ?_
        try clear h9x b3
        obtain rfl := e9b
        refine hG9 ?_; clear hG9 G9
        repeat ktr_rel
        refine inner _ na ns [] (.inl hna) hok.2.1 hok.2.2.1 (fun x hx => ?_) fun G' => ?_
        · have : (rowsAll kids).getD i [] = stL kids[i] := rowsAll_get hi'
          rw [this, hki, stL, if_pos (.inl hk)]
          exact List.mem_append_left _ hx
        · refine tb_nil ⟨_, ?_, rfl⟩
          rw [hfin, if_pos hk]
          exact (Le.facts (m' := (fmW9_0 (.ref D) (.ref a) (.ref du))) (FactsIn.of rfl)).trans (Le.sub (List.sublist_append_right _ _))
      · have hk : kk ≠ "let" := ne_of_beq_false q
        repeat ktr_rel
        refine ksq rfl fun E => ?_
        refine inner _ E [] [(E, .list [])] (.inr (.head _)) (fun x hx => nomatch hx) (by decide) (fun x hx => nomatch hx) fun G' => ?_
        refine tb_nil ⟨_, ?_, rfl⟩
        rw [hfin, if_neg hk]
        exact (Le.facts (m' := (fmW9_0 (.ref D) (.ref a) (.ref du))) (FactsIn.of rfl)).trans (Le.sub (List.sublist_append_right _ _))
    · rintro σ rfl
      have e1 : kids.take (Sr.enm ka vs).N = kids := List.take_of_length_le (by first | exact Nat.le_of_eq hlen.symm | exact Nat.le_of_eq hlen | simp [Sr.N, hlen])
      rw [e1]
      repeat tb_rel
      exact ⟨_, SubP.refl, h D rs (by omega)⟩

theorem PI.le {c n sc cmp v} {Q : Sr → St → Prop} {σ σ' : St} (l : Le c σ σ') (h : PI c n sc cmp v Q σ') : PI c n sc cmp v Q σ := by
  unfold PI at *
  intro v' hv L cl A B s₀ s ok rm b X
  exact h v' hv L cl A B s₀ s ok rm b (l _ _ _ _ _ _ _ X)
noncomputable abbrev sdM (fa a du : Addr) : List (Str × Value) := [("found", .ref fa), ("tree", .ref a), ("due", .ref du)]
theorem rowsNe_mem {t : Nd} (ht : t.kids ≠ []) : ∀ {ks : List Nd}, t ∈ ks → stL t ∈ rowsNe ks
  | u :: r, h => by
    rw [rowsNe]
    rcases List.mem_cons.mp h with rfl | h
    · rw [if_neg ht]; exact .head _
    · exact List.mem_append_right _ (rowsNe_mem ht h)

theorem stood_step {m lv : Nat} (B : RowsSpec e U N (m + 1) lv) (S : StoodSpec e U N m lv) (hlv : 1 ≤ lv) : StoodSpec e U N (m + 1) (lv + 1) := by
  intro du g R Z t a Q hm0 hT ok hU hN hg hsz h
  have hTt := hT
  refine hide fun G9 hG9 => ?_
  obtain ⟨kind, name, val, kids⟩ := t
  refine hG9 ?_; clear hG9 G9
  refine TreeAt.elim hT fun dx' ka vs w h1 h2 h3 h4 h5 => ?_
  have hlen := h5.length
  have hk2 : kids.length ≤ 2000 := ok.2.2.2.2.1
  have hkh : hts kids ≤ m := by simp only [ht] at hm0; exact Nat.le_of_succ_le_succ hm0
  have okk : okNs U kids := ok.2.2.2.2.2.2
  have hst := hsz
  rw [stL, List.length_append, List.length_append] at hst
  refine hide fun G9 hG9 => ?_
  obtain ⟨base, hbase⟩ : ∃ b, b = (if kind = "let" ∨ kind = "assign" then val.names! else []) := ⟨_, rfl⟩
  obtain ⟨rows, hrows⟩ : ∃ b, b = (if kind = "block" then rowsAll kids else rowsNe kids) := ⟨_, rfl⟩
  refine hG9 ?_; clear hG9 G9
  have hstL : stL (.mk kind name val kids) = base ++ (nameKids kids ++ rows.flatten) := by rw [stL, hbase, hrows]
  rw [← hbase, ← hrows] at hst
  refine CallOk.cuts (call_fn (F_stood rfl) rfl ?_)
  refine tb_cons ?_
  refine ts_assign ?_
  refine TE.via (P := fun v σ1 => ∃ fa, v = .ref fa ∧ ∃ T tv, σ1 = ⟨([("tree", .ref a), ("due", .ref du)] : List (Str × Value)), Z, (fa, .list (base.map vS)) :: (T, tv) :: (du, .dict N (ofI g)) :: R⟩) ?_ ?_
  · intro Fq hF
    repeat ktr_rel
    refine ksq rfl fun T => ?_
    refine co_in_tup (ys := ["let", "assign"]) (by ktr_unf) ?_
    refine tv_bool ⟨fun q => ?_, fun q => ?_⟩
    · have hk : kind = "let" ∨ kind = "assign" := by
        simp at q
        rcases q with q | q
        · exact .inl q.symm
        · exact .inr q.symm
      refine hide fun G9 hG9 => ?_
      refine ex1e (ok.2.2.2.2.2.1 hk) fun ns e9b => ?_
      obtain rfl := e9b
      refine ex1e h3 fun na h9x => ?_
      refine and2e h9x fun e9b hna => ?_
      try clear h9x h3
      obtain rfl := e9b
      refine hG9 ?_; clear hG9 G9
      rw [if_pos hk] at hbase
      subst hbase
      repeat ktr_rel
      refine bc_list (.inl hna) (by have := ok.2.2.1; simp [Vl.names!] at this ⊢; omega) fun D => hF _ _ (⟨D, ⟨rfl, ex2i T _ rfl⟩⟩)
    · have hk : ¬ (kind = "let" ∨ kind = "assign") := by
        simp at q
        rintro (hk | hk)
        · exact q.1 hk.symm
        · exact q.2 hk.symm
      rw [if_neg hk] at hbase
      subst hbase
      repeat ktr_rel
      exact ksq rfl fun D => hF _ _ (⟨D, ⟨rfl, ex2i T _ rfl⟩⟩)
  · intro v σ1 h9
    refine hide fun G9 hG9 => ?_
    refine ex1e h9 fun fa h9x => ?_
    refine and2e h9x fun e9b h9y => ?_
    refine ex2e h9y fun T tv e9e => ?_
    try clear h9y h9x h9
    obtain rfl := e9b
    obtain rfl := e9e
    refine hG9 ?_; clear hG9 G9
    refine sn_local rfl rfl ?_
    refine tb_cons ?_
    repeat ktr_rel
    refine te_comp (xs := ["each"]) (bnd1 (Bnd.local rfl rfl)) ?_
    repeat ktr_rel
    refine pi_list (.inl h4) (cmpI .lst (by first | (refine Nat.le_trans (Nat.le_of_eq (List.length_map _)) ?_; omega) | (show List.length _ ≤ _; omega) | (simp [Sr.N]; omega)) [] (fun i ys Z' H' => Z' = Z ∧ H' = (fa, .list (base.map vS)) :: (T, tv) :: (du, .dict N (ofI g)) :: R ∧ ys = (nameKids (kids.take i)).map vS) ?_ ?_ ?_ ?_ ?_)
    · intro p hp; simp at hp
    · rintro i ys Z' H' m' ⟨rfl, _⟩; exact .inl h4
    · exact (and3i rfl rfl rfl)
    · rintro i ys Z' H' hi ⟨rfl, rfl, rfl⟩
      have hi' : i < kids.length := by rw [← hlen]; exact hi
      refine ex5e (kid_shape h5 hi') fun b kk kn kv kks h9x => ?_
      refine and3e h9x fun e1 hki hA => ?_
      try clear h9x
      refine TreeAt.elim hA fun bx bka bvs bw b1 b2 b3 b4 b5 => ?_
      refine ct_one ?_
      refine St.at1 e1 ?_
      repeat ktr_rel
      have htk : nameKids (kids.take (i + 1)) = nameKids (kids.take i) ++ (if kk = "name" then [kn] else []) := by
        rw [List.take_add_one, List.getElem?_eq_getElem hi']
        show nameKids (kids.take i ++ [kids[i]]) = _
        rw [nameKids_snoc, hki]; rfl
      refine ⟨fun q => ?_, fun q => ?_⟩
      · have hk : kk = "name" := by first | exact eq_of_beq q | exact ne_of_beq_false q | exact of_decide_eq_true q | exact of_decide_eq_false q | simpa using q
        repeat ktr_rel
        refine (and3i rfl rfl ?_)
        rw [htk, if_pos hk]; simp
      · have hk : kk ≠ "name" := by first | exact eq_of_beq q | exact ne_of_beq_false q | exact of_decide_eq_true q | exact of_decide_eq_false q | simpa using q
        refine (and3i rfl rfl ?_)
        rw [htk, if_neg hk]; simp
    · rintro L2 ys Z' H' ⟨rfl, rfl, rfl⟩ hys
      have e1 : kids.take (Sr.lst ka vs).N = kids := List.take_of_length_le (by first | exact Nat.le_of_eq hlen.symm | exact Nat.le_of_eq hlen | simp [Sr.N, hlen])
      rw [e1]
      repeat ktr_rel
      refine bc_extend (by ktr_unf) (by ktr_unf) (by simp; omega) ?_
      refine kdn ?_
      rw [← List.map_append]
      generalize hf0 : base ++ nameKids kids = f0 at *
      refine TB.le ((Le.facts (m' := sdM fa a du) (FactsIn.of rfl)).trans (Le.sub (H' := (fa, .list (f0.map vS)) :: (du, .dict N (ofI g)) :: R) (.cons _ (.cons_cons _ (.cons _ (List.Sublist.refl _)))))) ?_
      have hlenf : f0.length + rows.flatten.length ≤ 400000 := by rw [← hf0, List.length_append]; omega
      refine tb_cons (ts_for (xs := ["row"]) (bnd1 (Bnd.local rfl rfl)) ?_)
      refine TE.via (P := fun v σ1 => ∃ D rs, v = .ref D ∧ rs.length = rows.length ∧ Le e.c σ1 ⟨sdM fa a du, Z', (D, .list (rs.map .ref)) :: (fa, .list (f0.map vS)) :: (du, .dict N (ofI (duS (.mk kind name val kids) g))) :: (rowsH rs rows ++ R)⟩) ?_ ?_
      · intro Fq hF
        repeat ktr_rel
        refine ⟨fun q => ?_, fun q => ?_⟩
        · have hk : kind = "block" := by first | exact eq_of_beq q | exact ne_of_beq_false q | exact of_decide_eq_true q | exact of_decide_eq_false q | simpa using q
          rw [if_pos hk] at hrows
          repeat ktr_rel
          refine bc_call (.perm (B du g ((fa, .list (f0.map vS)) :: R) Z' kind name val kids a _ (by omega) hTt okk hk2 hU hN hg (by rw [← hrows]; omega) fun D rs hrs => ?_) (List.Perm.swap _ _ _))
          refine hF _ _ (ex2i D rs (and3i rfl (by rw [hrows, rowsAll_len]; exact hrs) (Le.perm ?_)))
          rw [duS, if_pos hk, hrows]
          refine List.Perm.cons _ ?_
          exact (List.perm_middle (l₁ := (du, _) :: rowsH rs (rowsAll kids)))
        · have hk : kind ≠ "block" := by first | exact eq_of_beq q | exact ne_of_beq_false q | exact of_decide_eq_true q | exact of_decide_eq_false q | simpa using q
          rw [if_neg hk] at hrows
          refine te_comp (xs := ["kid"]) (bnd1 (Bnd.local rfl rfl)) ?_
          repeat ktr_rel
          refine pi_list (.inl h4) (cmpI .lst (by first | (refine Nat.le_trans (Nat.le_of_eq (List.length_map _)) ?_; omega) | (show List.length _ ≤ _; omega) | (simp [Sr.N]; omega)) [("due", .ref du)] (fun i ys Z2 H2 => Z2 = Z' ∧ ∃ rs : List Addr, rs.length = (rowsNe (kids.take i)).length ∧ ys = rs.map .ref ∧ SubP H2 ((du, .dict N (ofI (duNe (kids.take i) g))) :: (rowsH rs (rowsNe (kids.take i)) ++ ((fa, .list (f0.map vS)) :: R)))) ?_ ?_ ?_ ?_ ?_)
          · intro p hp; simp at hp; subst hp; exact ⟨rfl, rfl⟩
          · rintro i ys Z2 H2 m' ⟨rfl, _⟩; exact .inl h4
          · refine (⟨rfl, ⟨[], and3i ?_ rfl ?_⟩⟩)
            · simp only [List.take_zero]; rw [rowsNe]; rfl
            · simp only [List.take_zero]
              rw [duNe, rowsNe]
              exact SubP.perm (List.Perm.swap _ _ _)
          · intro i ys Z2 H2 hi h9
            refine hide fun G9 hG9 => ?_
            refine and2e h9 fun e9a h9x => ?_
            refine ex1e h9x fun rs h9y => ?_
            refine and3e h9y fun hrs e9d hp => ?_
            try clear h9y h9x h9
            obtain rfl := e9a
            obtain rfl := e9d
            refine hG9 ?_; clear hG9 G9
            have hi' : i < kids.length := by rw [← hlen]; exact hi
            refine ex5e (kid_shape h5 hi') fun b kk kn kv kks h9x => ?_
            refine and3e h9x fun e1 hki hA => ?_
            try clear h9x
            have hmem : kids[i] ∈ kids := List.getElem_mem hi'
            have hok := okNs_mem okk hmem
            have hht : ht kids[i] ≤ m := Nat.le_trans (ht_le hmem) hkh
            have hAA := hA
            refine TreeAt.elim hA fun bx bka bvs bw b1 b2 b3 b4 b5 => ?_
            have htk : kids.take (i + 1) = kids.take i ++ [kids[i]] := by rw [List.take_add_one, List.getElem?_eq_getElem hi']; rfl
            have hbvs : bvs = [] ↔ kks = [] := by
              have := b5.length
              constructor
              · rintro rfl; exact List.length_eq_zero_iff.mp this.symm
              · rintro rfl; exact List.length_eq_zero_iff.mp this
            refine ct_one ?_
            refine St.at1 e1 ?_
            repeat ktr_rel
            refine ksq rfl fun E => ?_
            refine co_ne_list_nil (.inl b4) (by ktr_unf) ?_
            refine tv_bool ⟨fun q => ?_, fun q => ?_⟩
            · have hne : kks ≠ [] := by
                intro hh
                rw [← hbvs] at hh
                subst hh
                simp at q
              have hne' : kids[i].kids ≠ [] := by rw [hki]; exact hne
              have hstk : (stL kids[i]).length ≤ 400000 := Nat.le_trans (flat_len (rowsNe_mem hne' hmem)) (by rw [← hrows]; omega)
              rw [hki] at hok hht hstk
              repeat ktr_rel
              refine bc_call (.subp (S du _ _ Z2 _ b _ hht hAA hok hU hN (Sup.duNe _ (okNs_take i okk) hg) hstk fun fb => ?_) hp.cons)
              refine (⟨rfl, ⟨rs ++ [fb], and3i ?_ (by simp) ?_⟩⟩)
              · rw [htk, rowsNe_snoc, if_neg hne']; simp [hrs]
              · rw [htk, duNe_snoc, rowsNe_snoc, if_neg hne', if_neg hne', rowsH_snoc hrs, hki, List.append_assoc]
                exact SubP.perm ((List.Perm.swap _ _ _).trans ((List.perm_middle (l₁ := rowsH rs (rowsNe (kids.take i)))).symm.cons _))
            · have hne : kks = [] := by
                rw [← hbvs]
                simpa using q
              have hne' : kids[i].kids = [] := by rw [hki]; exact hne
              refine (⟨rfl, ⟨rs, and3i ?_ rfl ?_⟩⟩)
              · rw [htk, rowsNe_snoc, if_pos hne']; simp [hrs]
              · rw [htk, duNe_snoc, rowsNe_snoc, if_pos hne', if_pos hne', List.append_nil]
                exact hp.cons
          · rintro D ys Z2 H2 ⟨rfl, rs, hrs, rfl, hp⟩ hys
            have e1 : kids.take (Sr.lst ka vs).N = kids := List.take_of_length_le (by first | exact Nat.le_of_eq hlen.symm | exact Nat.le_of_eq hlen | simp [Sr.N, hlen])
            rw [e1] at hp hrs
            refine hF _ _ (ex2i D rs (and3i rfl (by rw [hrows]; exact hrs) (Le.subp ?_)))
            rw [duS, if_neg hk, hrows]
            have hc : SubP ((D, AO.list (rs.map Value.ref)) :: H2) ((D, AO.list (rs.map Value.ref)) :: ((du, .dict N (ofI (duNe kids g))) :: (rowsH rs (rowsNe kids) ++ ((fa, .list (f0.map vS)) :: R)))) := by
              refine ex1e hp fun H3 h9x => ?_
              refine and2e h9x fun p1 p2 => ?_
              try clear h9x hp
              exact ⟨_ :: H3, p1.cons _, .cons_cons _ p2⟩
            refine hc.trans (SubP.perm (List.Perm.cons _ ?_))
            exact (List.perm_middle (l₁ := (du, _) :: rowsH rs (rowsNe kids)))
      · intro v σ1 h9
        refine hide fun G9 hG9 => ?_
        refine ex2e h9 fun D rs h9x => ?_
        refine and3e h9x fun e9c hrs hle => ?_
        try clear h9x h9
        obtain rfl := e9c
        refine hG9 ?_; clear hG9 G9
        refine PI.le hle ?_
        refine pi_list (by ktr_unf) (forI .lst (fun i σ => σ = ⟨sdM fa a du, Z', (D, .list (rs.map .ref)) :: (fa, .list ((f0 ++ (rows.take i).flatten).map vS)) :: (du, .dict N (ofI (duS (.mk kind name val kids) g))) :: (rowsH rs rows ++ R)⟩) ?_ ?_ ?_ ?_)
        · rintro i σ rfl; exact .inr (.head _)
        · simp only [List.take_zero, List.flatten_nil, List.append_nil]
        · rintro i σ hi rfl
          have hi' : i < rows.length := by simp [Sr.N] at hi; omega
          have e1 : (rs.map Value.ref).getD i .none = .ref (rs[i]'(by omega)) := by rw [List.getD_eq_getElem?_getD, List.getElem?_map, List.getElem?_eq_getElem (by omega)]; rfl
          have hrow : (rs[i]'(by omega), AO.list (rows[i].map vS)) ∈ rowsH rs rows := rowsH_get (List.getElem?_eq_getElem (by omega)) (List.getElem?_eq_getElem hi')
          refine TB.cut ?_
          refine St.at1 e1 ?_
          refine tb_cons ?_
          repeat ktr_rel
          have hfl2 := flat_take rows i
          have hfl3 := flat_len (List.getElem_mem hi')
          refine bc_extend (by ktr_unf) (.inr (.tail _ (.tail _ (.tail _ (List.mem_append_left _ hrow))))) (by simp only [List.length_map, List.length_append]; omega) ?_
          refine ⟨fun _ h => (nomatch h), tb_nil ⟨_, ?_, rfl⟩⟩
          rw [← List.map_append, List.take_add_one, List.getElem?_eq_getElem hi']
          show Le _ _ ⟨_, _, (D, AO.list (rs.map .ref)) :: (fa, .list ((f0 ++ (rows.take i ++ [rows[i]]).flatten).map vS)) :: (du, .dict N (ofI (duS (.mk kind name val kids) g))) :: (rowsH rs rows ++ R)⟩
          rw [List.flatten_append, List.append_assoc, show ([rows[i]] : List (List Str)).flatten = rows[i] by simp]
          exact Le.facts (FactsIn.of rfl)
        · rintro σ rfl
          have e1 : rows.take (Sr.lst D (rs.map Value.ref)).N = rows := List.take_of_length_le (by first | (refine Nat.le_trans (Nat.le_of_eq (List.length_map _)) ?_; omega) | (show List.length _ ≤ _; omega) | (simp [Sr.N]; omega))
          rw [e1]
          repeat tb_rel
          refine ⟨(fa, .list ((stL (.mk kind name val kids)).map vS)) :: (du, .dict N (ofI (duS (.mk kind name val kids) g))) :: R, SubP.sub ?_, h fa⟩
          rw [hstL, ← List.append_assoc, hf0]
          exact .cons _ (.cons_cons _ (.cons_cons _ (List.sublist_append_right _ _)))
theorem rows_ok : ∀ m, RowsSpec e U N (m + 1) (2 * m + 2) ∧ StoodSpec e U N m (2 * m + 1)
  | 0 => by
    have s0 : StoodSpec e U N 0 1 := by
      intro du g R Z t a Q hm0
      refine hide fun G9 hG9 => ?_
      obtain ⟨kind, name, val, kids⟩ := t
      refine hG9 ?_; clear hG9 G9
      simp [ht] at hm0
    exact ⟨rows_step (m := 0) (lv := 1) s0, s0⟩
  | m + 1 => by
    refine and2e (rows_ok m) fun b s => ?_
    have s' : StoodSpec e U N (m + 1) (2 * m + 3) := stood_step (lv := 2 * m + 2) b (fun du g R Z t a Q c1 c2 c3 c4 c5 c6 c7 c8 => (s du g R Z t a Q c1 c2 c3 c4 c5 c6 c7 c8).more (by omega)) (by omega)
    exact ⟨rows_step (m := m + 1) (lv := 2 * m + 3) s', s'⟩
end auto

-- W10

noncomputable abbrev YL (ya yd sl wh fr : Addr) (N : Nat) (slots : List Str) (held : Fn) (free : List Int) (temps floor : Int) (R : HT) : HT :=
  (ya, .inst 66 yd) :: (yd, .attrs [("slots", .ref sl), ("where", .ref wh), ("free", .ref fr), ("temps", vI temps), ("floor", vI floor)]) :: (sl, .list (slots.map vS)) :: (wh, .dict N (ofI held)) :: (fr, .list (free.map vI)) :: R
noncomputable def roomF (n : Nat) (temps : Int) : List Int → Int → Int
  | [], found => found
  | a :: r, found => roomF n temps r (if (n : Int) + temps - 1 - a ≤ 16 ∧ (found < 0 ∨ a < found) then a else found)

noncomputable abbrev fmW10_0 (v0 v1 v2 : Value) : List (Str × Value) := [("self", v0), ("at", v1), ("name", v2)]
section auto
variable {e : Ev} {n N : Nat} {R : HT} {Z : ZT} {Q : Value → ZT → HT → Prop} {ya yd sl wh fr : Addr} {slots : List Str} {held : Fn} {free : List Int} {temps floor : Int} {U : List Str}

theorem distance_ok {i : Int} (hs : slots.length ≤ 1000) (h : Q (vI ((slots.length : Int) + temps - 1 - i)) Z (YL ya yd sl wh fr N slots held free temps floor R)) :
    CallOk e.c (n + 1) (.ref 35) [.ref ya, vI i] Q Z (YL ya yd sl wh fr N slots held free temps floor R) := by
  refine call_fn (F_Ldistance rfl) rfl ?_
  repeat tb_rel
  refine bc_lenm (by ktr_unf) (by first | omega | (simp; omega)) ?_
  repeat tb_rel
  all_goals exact h

theorem release_ok {x : Str} {i : Int} (hN : N ≤ 1000) (hs : slots.length ≤ 1000) (hx : held x = some i) (h0 : 0 ≤ i) (h1 : i < slots.length) (hf : free.length ≤ 1000)
    (h : Q .none Z (YL ya yd sl wh fr N (slots.set i.toNat "") (del held x) (free ++ [i]) temps floor R)) :
    CallOk e.c (n + 1) (.ref 42) [.ref ya, vS x] Q Z (YL ya yd sl wh fr N slots held free temps floor R) := by
  refine call_fn (F_Lrelease rfl) rfl ?_
  repeat tb_rel
  refine bc_dpop (by ktr_unf) (ofI_some hx) (by omega) ?_
  rw [delF_ofI]
  repeat tb_rel
  refine si_list (vs := slots.map vS) h0 (by first | exact eq_of_beq h1 | exact ne_of_beq_false h1 | exact of_decide_eq_true h1 | exact of_decide_eq_false h1 | simpa using h1) (by omega) (by ktr_unf) ?_
  rw [← List.map_set]
  repeat tb_rel
  refine bc_append (by ktr_unf) (by simp; omega) ?_
  refine kdn ?_
  rw [show free.map vI ++ [vI i] = (free ++ [i]).map vI by simp]
  repeat tb_rel
  all_goals exact h

theorem keep_ok {x : Str} (hU : U.length ≤ N) (hN : N ≤ 1000) (hx : x ∈ U) (hg : Sup U held) (hs : slots.length ≤ 1000)
    (h : Q .none Z (YL ya yd sl wh fr N (slots ++ [x]) (upd held x slots.length) free (temps - 1) floor R)) :
    CallOk e.c (n + 1) (.ref 63) [.ref ya, vS x] Q Z (YL ya yd sl wh fr N slots held free temps floor R) := by
  refine call_fn (F_Lkeep rfl) rfl ?_
  repeat tb_rel
  refine bc_len (by ktr_unf) (by simp; omega) ?_
  repeat tb_rel
  refine si_dictUI U hU (by omega) hx (fun y hy => hg y hy) (by ktr_unf) ?_
  repeat tb_rel
  refine bc_append (by ktr_unf) (by simp; omega) ?_
  refine kdn ?_
  rw [show slots.map vS ++ [vS x] = (slots ++ [x]).map vS by simp]
  repeat tb_rel
  refine sa_own (cls_layout e) (by ktr_unf) (by decide) (Nat.le_of_ble_eq_true rfl) (.tail .head) ?_
  repeat tb_rel
  rw [List.length_map]
  all_goals exact h

theorem take_ok {x : Str} {pre post : List Int} {i : Int} (hfr : free = pre ++ i :: post) (hni : i ∉ pre) (hU : U.length ≤ N) (hN : N ≤ 1000) (hx : x ∈ U) (hg : Sup U held) (hs : slots.length ≤ 1000) (hl : free.length ≤ 1000) (h0 : 0 ≤ i) (h1 : i < slots.length)
    (h : Q .none Z (YL ya yd sl wh fr N (slots.set i.toNat x) (upd held x i) (pre ++ post) temps floor R)) :
    CallOk e.c (n + 1) (.ref 56) [.ref ya, vI i, vS x] Q Z (YL ya yd sl wh fr N slots held free temps floor R) := by
  subst hfr
  refine call_fn (F_Ltake rfl) rfl ?_
  refine TB.le (Le.facts (m' := (fmW10_0 (.ref ya) (vI i) (vS x))) (FactsIn.of rfl)) ?_
  refine tb_cons ?_
  repeat ktr_rel
  dsimp only [YL]
  rw [show (pre ++ i :: post).map vI = pre.map vI ++ vI i :: post.map vI by simp]
  refine bc_remove (by ktr_unf) (by simp at hl ⊢; omega) ?_ ?_ ?_
  · intro v hv
    rw [← List.map_append] at hv
    refine ex1e (List.mem_map.mp hv) fun j h9x => ?_
    refine and2e h9x fun _ e9c => ?_
    try clear h9x
    obtain rfl := e9c
    exact ⟨j, rfl⟩
  · intro hm
    refine ex1e (List.mem_map.mp hm) fun j h9x => ?_
    refine and2e h9x fun hj e => ?_
    try clear h9x
    cases e; exact hni hj
  refine kdn ?_
  rw [← List.map_append]
  repeat tb_rel
  refine si_list (vs := slots.map vS) h0 (by first | exact eq_of_beq h1 | exact ne_of_beq_false h1 | exact of_decide_eq_true h1 | exact of_decide_eq_false h1 | simpa using h1) (by omega) (by ktr_unf) ?_
  rw [← List.map_set]
  repeat tb_rel
  refine si_dictUI U hU (by omega) hx (fun y hy => hg y hy) (by ktr_unf) ?_
  repeat tb_rel
  all_goals exact h

theorem roomF_snoc (n : Nat) (t : Int) : ∀ (l : List Int) (a f : Int), roomF n t (l ++ [a]) f = (if (n : Int) + t - 1 - a ≤ 16 ∧ (roomF n t l f < 0 ∨ a < roomF n t l f) then a else roomF n t l f)
  | [], a, f => rfl
  | b :: r, a, f => roomF_snoc n t r a _

theorem room_ok (hs : slots.length ≤ 1000) (hl : free.length ≤ 1000) (h : Q (vI (roomF slots.length temps free (-1))) Z (YL ya yd sl wh fr N slots held free temps floor R)) :
    CallOk e.c (n + 2) (.ref 49) [.ref ya] Q Z (YL ya yd sl wh fr N slots held free temps floor R) := by
  refine CallOk.cut (call_fn (F_Lroom rfl) rfl ?_)
  refine tb_cons ?_
  repeat ktr_rel
  refine ⟨1, rfl, ?_⟩
  repeat ktr_rel
  refine tb_cons (ts_for (xs := ["at"]) (bnd1 (Bnd.local rfl rfl)) ?_)
  repeat ktr_rel
  refine pi_list (by ktr_unf) (forI .lst (fun i σ => σ = ⟨([("found", vI (roomF slots.length temps (free.take i) (-1))), ("self", .ref ya)] : List (Str × Value)), Z, YL ya yd sl wh fr N slots held free temps floor R⟩) ?_ ?_ ?_ ?_)
  · rintro i σ rfl; ktr_unf
  · rfl
  · rintro i σ hi rfl
    have hi' : i < free.length := by first | exact Nat.lt_of_lt_of_eq hi (List.length_map _) | exact hi | simpa [Sr.N] using hi
    have e1 : (free.map vI).getD i .none = vI free[i] := by first | exact getD_at hi' | simp [List.getD_eq_getElem?_getD, hi']
    have e2 : roomF slots.length temps (free.take (i + 1)) (-1) = (if (slots.length : Int) + temps - 1 - free[i] ≤ 16 ∧ (roomF slots.length temps (free.take i) (-1) < 0 ∨ free[i] < roomF slots.length temps (free.take i) (-1)) then free[i] else roomF slots.length temps (free.take i) (-1)) := by
      rw [List.take_add_one, List.getElem?_eq_getElem hi']
      exact roomF_snoc _ _ _ _ _
    generalize roomF slots.length temps (free.take i) (-1) = fd at *
    refine TB.cut ?_
    refine St.at1 e1 ?_
    refine tb_cons ?_
    repeat ktr_rel
    refine bc_call (distance_ok hs ?_)
    repeat ktr_rel
    have fin : ∀ (m : List (Str × Value)) (v : Int), FactsIn m ([("found", vI v), ("self", .ref ya)] : List (Str × Value)) → v = roomF slots.length temps (free.take (i + 1)) (-1) → ∃ σ'', Le e.c ⟨m, Z, YL ya yd sl wh fr N slots held free temps floor R⟩ σ'' ∧ σ'' = (⟨([("found", vI (roomF slots.length temps (free.take (i + 1)) (-1))), ("self", .ref ya)] : List (Str × Value)), Z, YL ya yd sl wh fr N slots held free temps floor R⟩ : St) :=
      fun m v hm hv => by subst hv; exact ⟨_, Le.facts hm, rfl⟩
    refine ⟨fun q1 => ?_, fun q1 => ?_⟩
    · have q1' : (slots.length : Int) + temps - 1 - free[i] ≤ 16 := by first | exact eq_of_beq q1 | exact ne_of_beq_false q1 | exact of_decide_eq_true q1 | exact of_decide_eq_false q1 | simpa using q1
      repeat ktr_rel
      refine ⟨fun q2 => ?_, fun q2 => ?_⟩
      · repeat ktr_rel
        refine tb_cons ?_
        repeat ktr_rel
        exact fin _ free[i] (FactsIn.of rfl) (by rw [e2, if_pos ⟨q1', .inl (by first | exact eq_of_beq q2 | exact ne_of_beq_false q2 | exact of_decide_eq_true q2 | exact of_decide_eq_false q2 | simpa using q2)⟩])
      · repeat ktr_rel
        refine ⟨fun q3 => ?_, fun q3 => ?_⟩
        · repeat ktr_rel
          refine tb_cons ?_
          repeat ktr_rel
          exact fin _ free[i] (FactsIn.of rfl) (by rw [e2, if_pos ⟨q1', .inr (by first | exact eq_of_beq q3 | exact ne_of_beq_false q3 | exact of_decide_eq_true q3 | exact of_decide_eq_false q3 | simpa using q3)⟩])
        · repeat ktr_rel
          refine fin _ fd (FactsIn.of rfl) ?_
          rw [e2, if_neg]
          rintro ⟨_, h | h⟩
          · simp at q2; omega
          · simp at q3; omega
    · repeat ktr_rel
      refine fin _ fd (FactsIn.of rfl) ?_
      rw [e2, if_neg]
      rintro ⟨h, _⟩
      simp at q1; omega
  · rintro σ rfl
    have e1 : free.take (Sr.lst fr (free.map vI)).N = free := List.take_of_length_le (by first | exact Nat.le_of_eq (List.length_map _).symm | simp [Sr.N])
    rw [e1]
    repeat tb_rel
    all_goals exact ⟨_, List.Sublist.refl _, h⟩
end auto

-- W11

noncomputable def tripF (nm sp hm : Addr) (od : Bool) : Str → Option Value := fun x => if x = "names" then some (.ref nm) else if x = "spots" then some (.ref sp) else if x = "home" then some (.ref hm) else if x = "odd" then some (.bool od) else none
theorem tripF_names {nm sp hm : Addr} {od : Bool} : tripF nm sp hm od "names" = some (.ref nm) := by unfold tripF; rw [if_pos rfl]
theorem tripF_spots {nm sp hm : Addr} {od : Bool} : tripF nm sp hm od "spots" = some (.ref sp) := by unfold tripF; rw [if_neg (by decide), if_pos rfl]
theorem tripF_home {nm sp hm : Addr} {od : Bool} : tripF nm sp hm od "home" = some (.ref hm) := by unfold tripF; rw [if_neg (by decide), if_neg (by decide), if_pos rfl]
theorem tripF_odd {nm sp hm : Addr} {od : Bool} : tripF nm sp hm od "odd" = some (.bool od) := by unfold tripF; rw [if_neg (by decide), if_neg (by decide), if_neg (by decide), if_pos rfl]
theorem tripF_set {nm sp hm : Addr} {od od' : Bool} : updF (tripF nm sp hm od) "odd" (.bool od') = tripF nm sp hm od' := by
  funext x; unfold updF tripF
  by_cases h : x = "odd"
  · subst h; rw [if_pos rfl, if_neg (by decide), if_neg (by decide), if_neg (by decide), if_pos rfl]
  · rw [if_neg h]; simp only [h, if_false]
noncomputable abbrev TR (tr nm sp hm : Addr) (N M : Nat) (names : Fn) (spots : Int → Option Int) (home : Fn) (od : Bool) (R : HT) : HT :=
  (tr, .dict 4 (tripF nm sp hm od)) :: (nm, .dict N (ofI names)) :: (sp, .dicti M (ofI spots)) :: (hm, .dict N (ofI home)) :: R
noncomputable def Agree (names : Fn) (spots : Int → Option Int) (home : Fn) (x : Str) : Prop := ∃ h w, home x = some h ∧ spots h = some w ∧ names x = some w ∧ 0 ≤ w ∧ w < 1000003

noncomputable def setV (w : Int) (i : Nat) : Int := (w + 7 * (i : Int)).fmod 1000003
noncomputable def setNm (w : Int) : Nat → List Str → Fn → Fn
  | _, [], g => g
  | i, x :: r, g => setNm w (i + 1) r (upd g x (setV w i))
noncomputable def setSp (w : Int) (home : Fn) : Nat → List Str → (Int → Option Int) → (Int → Option Int)
  | _, [], g => g
  | i, x :: r, g => setSp w home (i + 1) r (match home x with | some h => upd g h (setV w i) | none => g)
theorem setNm_snoc (w : Int) : ∀ (i : Nat) (ns : List Str) (x : Str) (g : Fn), setNm w i (ns ++ [x]) g = upd (setNm w i ns g) x (setV w (i + ns.length))
  | i, [], x, g => rfl
  | i, u :: r, x, g => by rw [List.cons_append, setNm, setNm_snoc w (i + 1) r x, setNm]; congr 2; simp; omega
theorem setSp_snoc (w : Int) (home : Fn) : ∀ (i : Nat) (ns : List Str) (x : Str) (g : Int → Option Int), setSp w home i (ns ++ [x]) g = (match home x with | some h => upd (setSp w home i ns g) h (setV w (i + ns.length)) | none => setSp w home i ns g)
  | i, [], x, g => rfl
  | i, u :: r, x, g => by
    rw [List.cons_append, setSp, setSp_snoc w home (i + 1) r x, setSp]
    have : i + 1 + r.length = i + (u :: r).length := by simp; omega
    rw [this]
theorem Sup.setNm {U w} : ∀ {i : Nat} {ns : List Str} {g}, Sup U g → (∀ x ∈ ns, x ∈ U) → Sup U (setNm w i ns g)
  | _, [], g, h, _ => h
  | i, x :: r, g, h, hx => (h.upd (hx x (.head _))).setNm fun y hy => hx y (.tail _ hy)
noncomputable def SupI (UI : List Int) (g : Int → Option Int) : Prop := ∀ y, (g y).isSome → y ∈ UI
theorem SupI.setSp {UI w home} : ∀ {i : Nat} {ns : List Str} {g}, SupI UI g → (∀ x ∈ ns, ∀ h, home x = some h → h ∈ UI) → SupI UI (setSp w home i ns g)
  | _, [], g, h, _ => h
  | i, x :: r, g, h, hx => by
    rw [Mine.setSp]
    refine SupI.setSp ?_ fun y hy => hx y (.tail _ hy)
    split
    · rename_i hh he
      intro y hy
      unfold upd at hy
      split at hy
      · rename_i e; rw [e]; exact hx x (.head _) hh he
      · exact h y hy
    · exact h

noncomputable abbrev fmW11_0 (v0 v1 v2 : Value) : List (Str × Value) := [("word", v0), ("trip", v1), ("tree", v2)]
noncomputable abbrev fmW11_1 (v0 v1 v2 : Value) : List (Str × Value) := [("trip", v0), ("goals", v1), ("word", v2)]
section auto
variable {e : Ev} {n N M : Nat} {R : HT} {Z : ZT} {Q : Value → ZT → HT → Prop} {tr nm sp hm : Addr} {names home : Fn} {spots : Int → Option Int} {L : List Str}

theorem value0_ok {t : Nd} {a : Addr} (hT : TreeAt Z t (.ref a)) (hw : W0E L t) (hA : ∀ x ∈ L, Agree names spots home x)
    (h : ∀ r, 0 ≤ r → r < 1000003 → Q (vI r) Z (TR tr nm sp hm N M names spots home false R)) : CallOk e.c (n + 1) (.ref 322) [.ref tr, .ref a] Q Z (TR tr nm sp hm N M names spots home false R) := by
  cases hw with
  | num i h0 h1 =>
    refine TreeAt.elim hT fun dx' ka vs w b1 b2 b3 b4 b5 => ?_
    obtain rfl := b3
    refine call_fn (F_value rfl) rfl ?_
    refine tb_cons ?_
    repeat ktr_rel
    refine tb_cons ?_
    repeat ktr_rel
    refine tb_cons ?_
    repeat ktr_rel
    exact h i h0 (by omega)
  | nam x hx =>
    refine TreeAt.elim hT fun dx' ka vs w b1 b2 b3 b4 b5 => ?_
    refine ex2e (hA x hx) fun hh w' h9x => ?_
    refine and5e h9x fun g1 g2 g3 g4 g5 => ?_
    try clear h9x
    refine call_fn (F_value rfl) rfl ?_
    refine tb_cons ?_
    repeat ktr_rel
    refine tb_cons ?_
    repeat ktr_rel
    refine gi_dict (by ktr_unf) tripF_spots ?_
    repeat ktr_rel
    refine gi_dict (by ktr_unf) tripF_home ?_
    repeat ktr_rel
    refine gi_dict (by ktr_unf) (ofI_some g1) ?_
    repeat ktr_rel
    refine ⟨1, rfl, ?_⟩
    repeat ktr_rel
    have gs : ((ofI spots) hh).getD (vI (-1)) = vI w' := by rw [ofI_some g2]; rfl
    refine bc_geti (by ktr_unf) ?_
    rw [gs]
    repeat ktr_rel
    refine tb_cons ?_
    repeat ktr_rel
    refine gi_dict (by ktr_unf) tripF_odd ?_
    repeat ktr_rel
    refine gi_dict (by ktr_unf) tripF_names ?_
    repeat ktr_rel
    refine gi_dict (by ktr_unf) (ofI_some g3) ?_
    refine co_ne ?_
    rw [show (w' != w') = false by simp]
    repeat ktr_rel
    refine si_dict_old (by ktr_unf) (by rw [tripF_odd]; rfl) (by decide) ?_
    rw [tripF_set]
    repeat ktr_rel
    refine tb_cons ?_
    repeat ktr_rel
    exact h w' g4 g5

theorem value_ok {t : Nd} {a : Addr} (hT : TreeAt Z t (.ref a)) (hw : WE L t) (hA : ∀ x ∈ L, Agree names spots home x)
    (h : ∀ r, 0 ≤ r → r < 1000003 → Q (vI r) Z (TR tr nm sp hm N M names spots home false R)) : CallOk e.c (n + 2) (.ref 322) [.ref tr, .ref a] Q Z (TR tr nm sp hm N M names spots home false R) := by
  cases hw with
  | atom h0 => exact (value0_ok hT h0 hA h).more (Nat.le_succ _)
  | @call f ks hks hlen =>
    refine TreeAt.elim hT fun dx' ka vs w b1 b2 b3 b4 b5 => ?_
    have hl := b5.length
    refine CallOk.cut (call_fn (F_value rfl) rfl ?_)
    refine tb_cons ?_
    repeat ktr_rel
    refine tb_cons ?_
    repeat ktr_rel
    refine tb_cons ?_
    repeat ktr_rel
    refine tb_cons (ts_for (xs := ["each"]) (bnd1 (Bnd.local rfl rfl)) ?_)
    repeat ktr_rel
    refine pi_list (.inl b4) (forI .lst (fun i σ => ∃ r : Int, 0 ≤ r ∧ r < 1000003 ∧ σ = ⟨(fmW11_0 (vI r) (.ref tr) (.ref a)), Z, TR tr nm sp hm N M names spots home false R⟩) ?_ ?_ ?_ ?_)
    · rintro i σ ⟨r, _, _, rfl⟩; exact .inl b4
    · exact (⟨0, and3i (by decide) (by decide) rfl⟩)
    · intro i σ hi h9
      refine hide fun G9 hG9 => ?_
      refine ex1e h9 fun r h9x => ?_
      refine and3e h9x fun r0 r1 e9d => ?_
      try clear h9x h9
      obtain rfl := e9d
      refine hG9 ?_; clear hG9 G9
      have hi' : i < ks.length := by rw [← hl]; exact hi
      refine hide fun G9 hG9 => ?_
      refine ex1e (b5.get (List.getElem?_eq_getElem hi')) fun v h9x => ?_
      refine and2e h9x fun hv hAt => ?_
      try clear h9x
      refine ex1e (hAt.ref) fun b e9b => ?_
      obtain rfl := e9b
      refine hG9 ?_; clear hG9 G9
      have e1 : vs.getD i .none = .ref b := by rw [List.getD_eq_getElem?_getD, hv]; rfl
      refine TB.cut ?_
      refine St.at1 e1 ?_
      refine tb_cons ?_
      repeat ktr_rel
      refine bo_mul (.of_left (by decide)) ?_
      repeat ktr_rel
      refine bc_call (value0_ok hAt (hks _ (List.getElem_mem hi')) hA fun r' r0' r1' => ?_)
      repeat ktr_rel
      refine bo_mod (by decide) ?_
      repeat ktr_rel
      refine (⟨_, ⟨?_, ⟨(3 * r + r' + 1).fmod 1000003, and3i (Int.fmod_nonneg_of_pos _ (by decide)) (Int.fmod_lt_of_pos _ (by decide)) rfl⟩⟩⟩)
      exact Le.facts (FactsIn.of rfl)
    · intro σ h9
      refine hide fun G9 hG9 => ?_
      refine ex1e h9 fun r h9x => ?_
      refine and3e h9x fun r0 r1 e9d => ?_
      try clear h9x h9
      obtain rfl := e9d
      refine hG9 ?_; clear hG9 G9
      refine tb_cons ?_
      repeat ktr_rel
      exact ⟨_, List.Sublist.refl _, h r r0 r1⟩

theorem set_ok {gl : Addr} {ns : List Str} {w : Int} {U : List Str} {UI : List Int} (hgl : Z gl = some (.list (ns.map vS)) ∨ (gl, AO.list (ns.map vS)) ∈ R) (hU : U.length ≤ N) (hN : N ≤ 1000) (hUI : UI.length ≤ M) (hM : M ≤ 1000) (hns : ∀ x ∈ ns, x ∈ U)
    (hhome : ∀ x ∈ ns, ∃ h, home x = some h ∧ h ∈ UI) (hnames : Sup U names) (hspots : SupI UI spots) {od : Bool}
    (h : Q .none Z (TR tr nm sp hm N M (setNm w 0 ns names) (setSp w home 0 ns spots) home od R)) :
    CallOk e.c (n + 1) (.ref 329) [.ref tr, .ref gl, vI w] Q Z (TR tr nm sp hm N M names spots home od R) := by
  refine CallOk.cuts (call_fn (F_set rfl) rfl ?_)
  refine tb_cons (ts_for (xs := ["at", "name"]) (bnd2 (Bnd.local rfl rfl) (Bnd.local rfl rfl)) ?_)
  repeat ktr_rel
  have hgl' : ∀ (m : List (Str × Value)) (a b c d : Addr × AO), Ob (⟨m, Z, a :: b :: c :: d :: R⟩ : St) gl (.list (ns.map vS)) := fun m a b c d => hgl.elim .inl fun hh => .inr (.tail _ (.tail _ (.tail _ (.tail _ hh))))
  refine bc_enum (hgl' _ _ _ _ _) fun en it => ?_
  refine pi_enum (vs := ns.map vS) rfl (forI .enm (fun i σ => σ = ⟨(fmW11_1 (.ref tr) (.ref gl) (vI w)), Z, TR tr nm sp hm N M (setNm w 0 (ns.take i) names) (setSp w home 0 (ns.take i) spots) home od R⟩) ?_ rfl ?_ ?_)
  · rintro i σ rfl; exact hgl' _ _ _ _ _
  · rintro i σ hi rfl
    have hi' : i < ns.length := by first | exact Nat.lt_of_lt_of_eq hi (List.length_map _) | exact hi | simpa [Sr.N] using hi
    have e1 : (ns.map vS).getD i .none = vS ns[i] := by first | exact getD_at hi' | simp [List.getD_eq_getElem?_getD, hi']
    have hmem : ns[i] ∈ ns := List.getElem_mem hi'
    have htk : ∀ x ∈ ns.take i, x ∈ ns := fun x hx => List.mem_of_mem_take hx
    have hg1 : Sup U (setNm w 0 (ns.take i) names) := hnames.setNm fun x hx => hns x (htk x hx)
    have hg2 : SupI UI (setSp w home 0 (ns.take i) spots) := hspots.setSp fun x hx h he => by
      obtain ⟨h', e1, e2⟩ := hhome x (htk x hx); rw [he] at e1; cases e1; exact e2
    refine ex1e (hhome _ hmem) fun hh h9x => ?_
    refine and2e h9x fun he hhU => ?_
    try clear h9x
    have hl : (ns.take i).length = i := by rw [List.length_take]; omega
    have k1 : setNm w 0 (ns.take (i + 1)) names = upd (setNm w 0 (ns.take i) names) ns[i] (setV w i) := by
      rw [List.take_add_one, List.getElem?_eq_getElem hi']
      show setNm w 0 (ns.take i ++ [ns[i]]) names = _
      rw [setNm_snoc, hl, Nat.zero_add]
    have k2 : setSp w home 0 (ns.take (i + 1)) spots = upd (setSp w home 0 (ns.take i) spots) hh (setV w i) := by
      rw [List.take_add_one, List.getElem?_eq_getElem hi']
      show setSp w home 0 (ns.take i ++ [ns[i]]) spots = _
      rw [setSp_snoc, he, hl, Nat.zero_add]
    refine TB.cut ?_
    refine St.at2 e1 ?_
    refine tb_cons ?_
    repeat ktr_rel
    refine bo_mul (.of_left (by decide)) ?_
    repeat ktr_rel
    refine bo_mod (by decide) ?_
    repeat ktr_rel
    refine gi_dict (by ktr_unf) tripF_names ?_
    repeat ktr_rel
    refine si_dictUI U hU (by omega) (hns _ hmem) (fun y hy => hg1 y hy) (by ktr_unf) ?_
    refine tb_cons ?_
    repeat ktr_rel
    refine bo_mul (.of_left (by decide)) ?_
    repeat ktr_rel
    refine bo_mod (by decide) ?_
    repeat ktr_rel
    refine gi_dict (by ktr_unf) tripF_spots ?_
    repeat ktr_rel
    refine gi_dict (by ktr_unf) tripF_home ?_
    repeat ktr_rel
    refine gi_dict (by ktr_unf) (ofI_some he) ?_
    refine si_dictiUI UI hUI (by omega) hhU (fun y hy => hg2 y hy) (by ktr_unf) ?_
    refine tb_nil ⟨_, ?_, rfl⟩
    rw [k1, k2]
    exact Le.facts (FactsIn.of rfl)
  · rintro σ rfl
    have e1 : ns.take (Sr.enm gl (ns.map vS)).N = ns := List.take_of_length_le (by first | exact Nat.le_of_eq (List.length_map _).symm | simp [Sr.N])
    rw [e1]
    repeat tb_rel
    exact ⟨_, SubP.refl, h⟩
end auto

-- W12

inductive InnerOf : Nd → List Nd → Prop
  | let' {ns w} : InnerOf (letN ns w) []
  | asg {x w} : InnerOf (asgN x w) []
  | pop {w} : InnerOf (popN w) []
  | iff {w b} : InnerOf (ifN w b) [b]
  | fr {a w b d} : InnerOf (forN a w b d) [d, b]
  | sw {w} {rows : List (Vl × Nd)} : InnerOf (swN w (rows.map fun r => caseN r.1 r.2)) (rows.map (·.2))
  | blk {ks} : InnerOf (blkN ks) [blkN ks]

section auto
variable {e : Ev} {n : Nat} {R : HT} {Z : ZT} {Q : Value → ZT → HT → Prop}

theorem inner_ok {t : Nd} {bs : List Nd} {a : Addr} (hT : TreeAt Z t (.ref a)) (hi : InnerOf t bs) (hlen : t.kids.length ≤ 1000)
    (h : ∀ D vs, TreesAt Z bs vs → Q (.ref D) Z ((D, .list vs) :: R)) : CallOk e.c (n + 1) (.ref 293) [.ref a] Q Z R := by
  have hTT := hT
  cases hi with
  | @let' ns w0 =>
    refine TreeAt.elim hT fun dx' ka vs w b1 b2 b3 b4 b5 => ?_
    refine call_fn (F_inner rfl) rfl ?_
    repeat tb_rel
    exact ⟨by simp, fun D => h D [] rfl⟩
  | asg =>
    refine TreeAt.elim hT fun dx' ka vs w b1 b2 b3 b4 b5 => ?_
    refine call_fn (F_inner rfl) rfl ?_
    repeat tb_rel
    exact ⟨by simp, fun D => h D [] rfl⟩
  | pop =>
    refine TreeAt.elim hT fun dx' ka vs w b1 b2 b3 b4 b5 => ?_
    refine call_fn (F_inner rfl) rfl ?_
    repeat tb_rel
    exact ⟨by simp, fun D => h D [] rfl⟩
  | blk =>
    refine TreeAt.elim hT fun dx' ka vs w b1 b2 b3 b4 b5 => ?_
    refine call_fn (F_inner rfl) rfl ?_
    repeat tb_rel
    exact ⟨by simp, fun D => h D _ (TreesAt.one hTT)⟩
  | iff =>
    refine TreeAt.elim hT fun dx' ka vs w b1 b2 b3 b4 b5 => ?_
    refine ex1e (b5.get (i := 1) rfl) fun v h9x => ?_
    refine and2e h9x fun hv hA => ?_
    try clear h9x
    refine call_fn (F_inner rfl) rfl ?_
    repeat tb_rel
    refine gi_list (.inl b4) (by decide) (by decide) hv ?_
    repeat tb_rel
    exact ⟨by simp, fun D => h D _ (TreesAt.one hA)⟩
  | fr =>
    refine TreeAt.elim hT fun dx' ka vs w b1 b2 b3 b4 b5 => ?_
    refine hide fun G9 hG9 => ?_
    refine ex1e (b5.get (i := 3) rfl) fun v h9x => ?_
    refine and2e h9x fun hv hA => ?_
    try clear h9x
    refine ex1e (b5.get (i := 2) rfl) fun u h9x => ?_
    refine and2e h9x fun hu hB => ?_
    try clear h9x
    refine hG9 ?_; clear hG9 G9
    refine call_fn (F_inner rfl) rfl ?_
    repeat tb_rel
    refine gi_list (.inl b4) (by decide) (by decide) hv ?_
    repeat tb_rel
    refine gi_list (.inl b4) (by decide) (by decide) hu ?_
    repeat tb_rel
    exact ⟨by simp, fun D => h D _ (TreesAt.two hA hB)⟩
  | @sw w0 rows =>
    refine TreeAt.elim hT fun dx' ka vs w b1 b2 b3 b4 b5 => ?_
    have hl := b5.length
    have hrl : rows.length ≤ 999 := by simp [Nd.kids] at hlen; omega
    refine CallOk.cuts (call_fn (F_inner rfl) rfl ?_)
    repeat tb_rel
    refine te_comp (xs := ["row"]) (bnd1 (Bnd.local rfl rfl)) ?_
    repeat tb_rel
    refine to_some ?_
    repeat tb_rel
    refine ⟨1, rfl, to_none (to_none (⟨by simp, ex2i ka vs (and4i rfl (.inl (.inl b4)) (by rw [hl]; simp; omega) (fun D => ?_))⟩))⟩
    have hd := b5.drop 1
    rw [show ((1 : Int)) = ((1 : Nat) : Int) from rfl, pick_drop]
    generalize vs.drop 1 = us at *
    have hd' : TreesAt Z (rows.map fun r => caseN r.1 r.2) us := hd
    have hul : us.length = rows.length := by rw [hd'.length, List.length_map]
    refine pi_list (by ktr_unf) (cmpI .lst (by first | (refine Nat.le_trans (Nat.le_of_eq (List.length_map _)) ?_; omega) | (show List.length _ ≤ _; omega) | (simp [Sr.N]; omega)) [] (fun i ys Z' H' => Z' = Z ∧ H' = (D, .list us) :: R ∧ TreesAt Z ((rows.map (·.2)).take i) ys) ?_ ?_ ?_ ?_ ?_)
    · intro p hp; simp at hp
    · rintro i ys Z' H' m' ⟨_, rfl, _⟩; exact .inr (.head _)
    · exact (and3i rfl rfl rfl)
    · rintro i ys Z' H' hi ⟨rfl, rfl, hys⟩
      have hi' : i < rows.length := by simp [Sr.N] at hi; omega
      refine hide fun G9 hG9 => ?_
      refine ex1e (hd'.get (i := i) (t := caseN rows[i].1 rows[i].2) (by simp [hi'])) fun v h9x => ?_
      refine and2e h9x fun hv hA => ?_
      try clear h9x
      refine ex1e (hA.ref) fun b e9b => ?_
      obtain rfl := e9b
      refine hG9 ?_; clear hG9 G9
      have e1 : us.getD i .none = .ref b := by rw [List.getD_eq_getElem?_getD, hv]; rfl
      refine TreeAt.elim hA fun bx bka bvs bw c1 c2 c3 c4 c5 => ?_
      refine ex1e (c5.get (i := 0) rfl) fun u h9x => ?_
      refine and2e h9x fun hu hB => ?_
      try clear h9x
      refine ct_nil ?_
      refine St.at1 e1 ?_
      repeat tb_rel
      refine gi_list (.inl c4) (by decide) (by decide) hu ?_
      refine (and3i rfl rfl ?_)
      rw [List.take_add_one, List.getElem?_map, List.getElem?_eq_getElem hi']
      exact hys.append (TreesAt.one hB)
    · rintro D2 ys Z' H' ⟨rfl, rfl, hys⟩ hl2
      have e1 : (rows.map (·.2)).take (Sr.lst D us).N = rows.map (·.2) := List.take_of_length_le (by simp [Sr.N, hul])
      rw [e1] at hys
      repeat tb_rel
      exact ⟨_, SubP.sub (.cons_cons _ (.cons _ (List.Sublist.refl _))), h D2 ys hys⟩
end auto

-- W13

noncomputable def planF (ya hd hm du : Addr) : Str → Option Value := fun x => if x = "layout" then some (.ref ya) else if x = "held" then some (.ref hd) else if x = "home" then some (.ref hm) else if x = "last" then some (.ref du) else none
theorem planF_layout {ya hd hm du : Addr} : planF ya hd hm du "layout" = some (.ref ya) := by unfold planF; rw [if_pos rfl]
theorem planF_held {ya hd hm du : Addr} : planF ya hd hm du "held" = some (.ref hd) := by unfold planF; rw [if_neg (by decide), if_pos rfl]
theorem planF_home {ya hd hm du : Addr} : planF ya hd hm du "home" = some (.ref hm) := by unfold planF; rw [if_neg (by decide), if_neg (by decide), if_pos rfl]
theorem planF_last {ya hd hm du : Addr} : planF ya hd hm du "last" = some (.ref du) := by unfold planF; rw [if_neg (by decide), if_neg (by decide), if_neg (by decide), if_pos rfl]
structure Ly where
  slots : List Str
  held : Fn
  free : List Int
noncomputable def Ly.rel (l : Ly) (x : Str) : Ly := match l.held x with
  | some i => ⟨l.slots.set i.toNat "", del l.held x, l.free ++ [i]⟩
  | none => l
noncomputable def Ly.rels : List Str → Ly → Ly
  | [], l => l
  | x :: r, l => Ly.rels r (l.rel x)
theorem Ly.rels_snoc : ∀ (ns : List Str) (x : Str) (l : Ly), Ly.rels (ns ++ [x]) l = (Ly.rels ns l).rel x
  | [], x, l => rfl
  | y :: r, x, l => Ly.rels_snoc r x _
noncomputable def Ly.Ok (l : Ly) : Prop := ∀ x i, l.held x = some i → 0 ≤ i ∧ i < l.slots.length
theorem Ly.rel_ok {l : Ly} (h : l.Ok) (x : Str) : (l.rel x).Ok := by
  unfold Ly.rel
  split
  · intro y i hy
    dsimp only at hy ⊢
    unfold del at hy
    split at hy
    · cases hy
    · rw [List.length_set]; exact h y i hy
  · exact h
theorem Ly.rels_ok : ∀ (ns : List Str) {l : Ly}, l.Ok → (Ly.rels ns l).Ok
  | [], _, h => h
  | x :: r, _, h => Ly.rels_ok r (Ly.rel_ok h x)
theorem Ly.rel_len (l : Ly) (x : Str) : (l.rel x).slots.length = l.slots.length ∧ (l.rel x).free.length ≤ l.free.length + 1 := by
  unfold Ly.rel; split
  · simp
  · simp
theorem Ly.rels_len : ∀ (ns : List Str) (l : Ly), (Ly.rels ns l).slots.length = l.slots.length ∧ (Ly.rels ns l).free.length ≤ l.free.length + ns.length
  | [], l => ⟨rfl, Nat.le_refl _⟩
  | x :: r, l => by
    have a := Ly.rels_len r (l.rel x); have b := Ly.rel_len l x
    show (Ly.rels r (l.rel x)).slots.length = _ ∧ (Ly.rels r (l.rel x)).free.length ≤ _
    rw [a.1, b.1]
    refine ⟨rfl, ?_⟩
    have := a.2; have := b.2
    simp only [List.length_cons]; omega
theorem Ly.rels_held : ∀ (ns : List Str) (l : Ly) (x : Str), x ∉ ns → (Ly.rels ns l).held x = l.held x
  | [], l, x, _ => rfl
  | y :: r, l, x, h => by
    simp only [List.mem_cons, not_or] at h
    show (Ly.rels r (l.rel y)).held x = _
    rw [Ly.rels_held r _ x h.2]
    unfold Ly.rel
    split
    · dsimp only; unfold del; rw [if_neg h.1]
    · rfl
noncomputable abbrev PL (pl ya yd sl wh fr hd hm du : Addr) (N : Nat) (l : Ly) (home due : Fn) (temps floor : Int) (R : HT) : HT :=
  (pl, .dict 4 (planF ya hd hm du)) :: (hd, .dict N (ofI l.held)) :: (hm, .dict N (ofI home)) :: (du, .dict N (ofI due)) :: YL ya yd sl wh fr N l.slots l.held l.free temps floor R
theorem perm_yl {p h m d a b s w f : Addr × AO} {R : HT} : (p :: h :: m :: d :: a :: b :: s :: w :: f :: R).Perm (a :: b :: s :: w :: f :: p :: h :: m :: d :: R) := (List.perm_append_comm (l₁ := [p, h, m, d]) (l₂ := [a, b, s, w, f])).append_right R

section auto
variable {e : Ev} {n N : Nat} {R : HT} {Z : ZT} {Q : Value → ZT → HT → Prop} {pl ya yd sl wh fr hd hm du : Addr} {l : Ly} {home due : Fn} {temps floor : Int}

theorem let_go_ok {gl : Addr} {ns : List Str} (hgl : Z gl = some (.list (ns.map vS)) ∨ (gl, AO.list (ns.map vS)) ∈ R) (hN : N ≤ 1000) (hl : l.Ok) (hs : l.slots.length ≤ 900) (hf : l.free.length + ns.length ≤ 900) (hnd : ns.Nodup) (hh : ∀ x ∈ ns, (l.held x).isSome)
    (h : Q .none Z (PL pl ya yd sl wh fr hd hm du N (Ly.rels ns l) home due temps floor R)) :
    CallOk e.c (n + 2) (.ref 305) [.ref pl, .ref gl] Q Z (PL pl ya yd sl wh fr hd hm du N l home due temps floor R) := by
  refine CallOk.cuts (call_fn (F_letgo rfl) rfl ?_)
  refine tb_cons (ts_for (xs := ["name"]) (bnd1 (Bnd.local rfl rfl)) ?_)
  repeat ktr_rel
  have hgl' : ∀ (m : List (Str × Value)) (H : HT), (∀ p ∈ R, p ∈ H) → Ob (⟨m, Z, H⟩ : St) gl (.list (ns.map vS)) := fun m H hH => hgl.elim .inl fun hh => .inr (hH _ hh)
  refine pi_list (hgl' _ _ fun p hp => by simp [hp]) (forI .lst (fun i σ => σ = ⟨([("plan", .ref pl), ("ended", .ref gl)] : List (Str × Value)), Z, PL pl ya yd sl wh fr hd hm du N (Ly.rels (ns.take i) l) home due temps floor R⟩) ?_ rfl ?_ ?_)
  · rintro i σ rfl; exact hgl' _ _ fun p hp => by simp [hp]
  · rintro i σ hi rfl
    have hi' : i < ns.length := by first | exact Nat.lt_of_lt_of_eq hi (List.length_map _) | exact hi | simpa [Sr.N] using hi
    have e1 : (ns.map vS).getD i .none = vS ns[i] := by first | exact getD_at hi' | simp [List.getD_eq_getElem?_getD, hi']
    have hmem : ns[i] ∈ ns := List.getElem_mem hi'
    have k1 : Ly.rels (ns.take (i + 1)) l = (Ly.rels (ns.take i) l).rel ns[i] := by
      rw [List.take_add_one, List.getElem?_eq_getElem hi']
      exact Ly.rels_snoc _ _ _
    have hno : ns[i] ∉ ns.take i := by
      intro hm
      have h3 : (ns.take i ++ ns[i] :: ns.drop (i + 1)).Nodup := by rw [List.getElem_cons_drop, List.take_append_drop]; exact hnd
      exact (List.nodup_append.mp h3).2.2 _ hm _ (.head _) rfl
    have hheld := hh _ hmem
    rw [← Ly.rels_held (ns.take i) l _ hno] at hheld
    have hok := Ly.rels_ok (ns.take i) hl
    have hlen := Ly.rels_len (ns.take i) l
    have htl : (ns.take i).length ≤ ns.length := by rw [List.length_take]; omega
    generalize Ly.rels (ns.take i) l = l1 at *
    refine ex1e (Option.isSome_iff_exists.mp hheld) fun ix hix => ?_
    refine and2e (hok _ _ hix) fun h0 h1 => ?_
    have k2 : l1.rel ns[i] = ⟨l1.slots.set ix.toNat "", del l1.held ns[i], l1.free ++ [ix]⟩ := by unfold Ly.rel; rw [hix]
    refine TB.cut ?_
    refine St.at1 e1 ?_
    refine tb_cons ?_
    repeat ktr_rel
    refine gi_dict (by ktr_unf) planF_layout ?_
    repeat ktr_rel
    refine bc_call (.perm (release_ok hN (by omega) hix h0 h1 (by omega) ?_) perm_yl)
    refine kdn ?_
    refine tb_cons ?_
    repeat ktr_rel
    refine gi_dict (by ktr_unf) planF_held ?_
    repeat ktr_rel
    refine bc_dpop (by ktr_unf) (ofI_some hix) (by omega) ?_
    rw [delF_ofI]
    refine ⟨fun _ h => (nomatch h), tb_nil ⟨_, ?_, rfl⟩⟩
    rw [k1, k2]
    refine Le.trans (Le.facts (m' := ([("plan", .ref pl), ("ended", .ref gl)] : List (Str × Value))) (FactsIn.of rfl)) (Le.perm ?_)
    exact perm_yl.symm
  · rintro σ rfl
    have e1 : ns.take (Sr.lst gl (ns.map vS)).N = ns := List.take_of_length_le (by first | exact Nat.le_of_eq (List.length_map _).symm | simp [Sr.N])
    rw [e1]
    repeat tb_rel
    exact ⟨_, SubP.refl, h⟩
end auto

-- W14

noncomputable def emptyIx (slots : List Str) : List Int := ((List.range slots.length).filter fun i => decide (slots.getD i "" = "")).map fun i => ((i : Nat) : Int)
structure Ly.Sound (l : Ly) : Prop where
  fwd : ∀ x i, l.held x = some i → 0 ≤ i ∧ i < l.slots.length ∧ l.slots.getD i.toNat "" = x ∧ x ≠ ""
  bwd : ∀ (i : Nat) x, l.slots[i]? = some x → x ≠ "" → l.held x = some (i : Int)
  fre : l.free.Perm (emptyIx l.slots)
  len : l.slots.length < 64

theorem nodup_map_inj {α β : Type} {f : α → β} : ∀ {l : List α}, l.Nodup → (∀ a ∈ l, ∀ b ∈ l, f a = f b → a = b) → (l.map f).Nodup
  | [], _, _ => List.nodup_nil
  | a :: r, nd, h => by
    rw [List.nodup_cons] at nd
    rw [List.map_cons, List.nodup_cons]
    refine ⟨fun hm => ?_, nodup_map_inj nd.2 fun x hx y hy => h x (.tail _ hx) y (.tail _ hy)⟩
    refine ex1e (List.mem_map.mp hm) fun b h9x => ?_
    refine and2e h9x fun hb e => ?_
    try clear h9x
    exact nd.1 (h b (.tail _ hb) a (.head _) e ▸ hb)
theorem Ly.Sound.count {l : Ly} (S : l.Sound) {ks : List Str} (nd : ks.Nodup) (hm : ∀ x, x ∈ ks ↔ (l.held x).isSome) : (l.slots.length : Int) - (emptyIx l.slots).length = ks.length := by
  obtain ⟨I, hI⟩ : ∃ I, I = (List.range l.slots.length).filter fun i => !decide (l.slots.getD i "" = "") := ⟨_, rfl⟩
  have hIn : I.Nodup := by rw [hI]; exact (List.nodup_range).filter _
  have hcount : l.slots.length = (emptyIx l.slots).length + I.length := by
    unfold emptyIx
    rw [List.length_map, hI, ← List.countP_eq_length_filter, ← List.countP_eq_length_filter]
    have := List.length_eq_countP_add_countP (fun i => decide (l.slots.getD i "" = "")) (l := List.range l.slots.length)
    rw [List.length_range] at this
    rw [show (fun a => decide ¬decide (l.slots.getD a "" = "") = true) = (fun i => !decide (l.slots.getD i "" = "")) from by funext a; simp] at this
    exact this
  have memI : ∀ i, i ∈ I ↔ i < l.slots.length ∧ l.slots.getD i "" ≠ "" := fun i => by rw [hI]; simp
  have a1 : ks.length ≤ I.length := by
    have h1 : (ks.map fun x => ((l.held x).getD 0).toNat).Nodup := nodup_map_inj nd fun a ha b hb e => by
      refine ex1e (Option.isSome_iff_exists.mp ((hm a).mp ha)) fun i hi => ?_
      refine ex1e (Option.isSome_iff_exists.mp ((hm b).mp hb)) fun j hj => ?_
      rw [hi, hj] at e
      have f1 := S.fwd a i hi; have f2 := S.fwd b j hj
      rw [← f1.2.2.1, ← f2.2.2.1]
      have e' : i.toNat = j.toNat := e
      rw [e']
    have := nodup_sub_len (U := I) h1 fun y hy => by
      refine hide fun G9 hG9 => ?_
      refine ex1e (List.mem_map.mp hy) fun x h9x => ?_
      refine and2e h9x fun hx e9c => ?_
      try clear h9x
      obtain rfl := e9c
      refine ex1e (Option.isSome_iff_exists.mp ((hm x).mp hx)) fun i hi => ?_
      refine hG9 ?_; clear hG9 G9
      have f1 := S.fwd x i hi
      rw [hi, memI]
      exact ⟨by show i.toNat < _; omega, by show l.slots.getD i.toNat "" ≠ ""; rw [f1.2.2.1]; exact f1.2.2.2⟩
    rwa [List.length_map] at this
  have a2 : I.length ≤ ks.length := by
    have hb : ∀ i ∈ I, l.held (l.slots.getD i "") = some ((i : Nat) : Int) := fun i hi => by
      refine and2e ((memI i).mp hi) fun h1 h2 => ?_
      exact S.bwd i _ (by rw [List.getD_eq_getElem?_getD, List.getElem?_eq_getElem h1]; rfl) h2
    have h1 : (I.map fun i => l.slots.getD i "").Nodup := nodup_map_inj hIn fun a ha b hb' e => by
      have f1 := hb a ha; have f2 := hb b hb'
      rw [show l.slots.getD a "" = l.slots.getD b "" from e, f2] at f1
      have : ((b : Nat) : Int) = (a : Nat) := Option.some.inj f1
      omega
    have := nodup_sub_len (U := ks) h1 fun y hy => by
      refine ex1e (List.mem_map.mp hy) fun i h9x => ?_
      refine and2e h9x fun hi e9c => ?_
      try clear h9x
      obtain rfl := e9c
      rw [hm, hb i hi]; rfl
    rwa [List.length_map] at this
  omega
noncomputable abbrev fmW14_0 (v0 v1 v2 : Value) : List (Str × Value) := [("held", v0), ("layout", v1), ("plan", v2)]
section auto
variable {e : Ev} {n N : Nat} {R : HT} {Z : ZT} {Q : Value → ZT → HT → Prop} {pl ya yd sl wh fr hd hm du : Addr} {l : Ly} {home due : Fn} {temps floor : Int}

theorem is_sound_ok (hN : N ≤ 1000) (S : l.Sound) (h : Q (.bool true) Z (PL pl ya yd sl wh fr hd hm du N l home due temps floor R)) :
    CallOk e.c (n + 5) (.ref 298) [.ref pl] Q Z (PL pl ya yd sl wh fr hd hm du N l home due temps floor R) := by
  have hlen := S.len
  refine CallOk.cuts (call_fn (F_sound rfl) rfl ?_)
  refine tb_cons (ts_tuple2 (Bnd.local rfl rfl) (Bnd.cell rfl rfl rfl) ?_)
  repeat ktr_rel
  refine gi_dict (by ktr_unf) planF_layout ?_
  repeat ktr_rel
  refine gi_dict (by ktr_unf) planF_held ?_
  repeat ktr_rel
  refine ⟨by simp, fun T => (ex3i T _ _ (and3i rfl (by ktr_unf) ?_))⟩
  refine TB.le ((Le.facts (m' := (fmW14_0 (.ref hd) (.ref ya) (.ref pl))) (FactsIn.of rfl)).trans (Le.sub (.cons _ (List.Sublist.refl _)))) ?_
  refine tb_cons (ts_assign_comp (xs := ["at", "name"]) (bnd2 (Bnd.local rfl rfl) (Bnd.local rfl rfl)) rfl rfl ?_)
  repeat ktr_rel
  refine bc_enum (by ktr_unf) fun en it => ?_
  refine pi_enum (vs := l.slots.map vS) rfl (cmpI .enm (by first | (refine Nat.le_trans (Nat.le_of_eq (List.length_map _)) ?_; omega) | (show List.length _ ≤ _; omega) | (simp [Sr.N]; omega)) [("held", .ref hd)] (fun i ys Z' H' => Z' = Z ∧ H' = PL pl ya yd sl wh fr hd hm du N l home due temps floor R ∧ ys = (List.range i).map fun j => vI (j : Nat)) ?_ ?_ ?_ ?_ ?_)
  · intro p hp; simp at hp; subst hp; exact ⟨rfl, rfl⟩
  · rintro i ys Z' H' m' ⟨_, rfl, _⟩; ktr_unf
  · exact (and3i rfl rfl rfl)
  · rintro i ys Z' H' hi ⟨rfl, rfl, rfl⟩
    have hi' : i < l.slots.length := by first | exact Nat.lt_of_lt_of_eq hi (List.length_map _) | exact hi | simpa [Sr.N] using hi
    have e1 : (l.slots.map vS).getD i .none = vS l.slots[i] := by first | exact getD_at hi' | simp [List.getD_eq_getElem?_getD, hi']
    have hb := S.bwd i l.slots[i] (List.getElem?_eq_getElem hi')
    refine ct_nil ?_
    refine St.at2 e1 ?_
    repeat ktr_rel
    refine ⟨fun q => ?_, fun q => ?_⟩
    · have hne : l.slots[i] ≠ "" := by first | exact eq_of_beq q | exact ne_of_beq_false q | exact of_decide_eq_true q | exact of_decide_eq_false q | simpa using q
      repeat ktr_rel
      refine ⟨1, rfl, ?_⟩
      repeat ktr_rel
      refine bc_get (by ktr_unf) ?_
      rw [show (ofI l.held l.slots[i]).getD (vI (-1)) = vI i by rw [ofI_some (hb hne)]; rfl]
      refine (and3i rfl rfl ?_)
      rw [List.range_succ, List.map_append]; rfl
    · repeat ktr_rel
      refine (and3i rfl rfl ?_)
      rw [List.range_succ, List.map_append]; rfl
  · rintro D ys Z' H' ⟨rfl, rfl, rfl⟩ hys
    rw [show (Sr.enm sl (l.slots.map vS)).N = l.slots.length by simp [Sr.N]]
    refine tb_cons (ts_assign_comp (xs := ["at", "name"]) (bnd2 (Bnd.local rfl rfl) (Bnd.local rfl rfl)) rfl rfl ?_)
    repeat ktr_rel
    refine bc_enum (by ktr_unf) fun en it => ?_
    refine pi_enum (vs := l.slots.map vS) rfl (cmpI .enm (by first | (refine Nat.le_trans (Nat.le_of_eq (List.length_map _)) ?_; omega) | (show List.length _ ≤ _; omega) | (simp [Sr.N]; omega)) [] (fun i ys Z2 H2 => Z2 = Z' ∧ H2 = (D, .list ((List.range l.slots.length).map fun j => vI (j : Nat))) :: PL pl ya yd sl wh fr hd hm du N l home due temps floor R ∧
      ys = (((List.range i).filter fun i => decide (l.slots.getD i "" = "")).map fun i => ((i : Nat) : Int)).map vI) ?_ ?_ ?_ ?_ ?_)
    · intro p hp; simp at hp
    · rintro i ys Z2 H2 m' ⟨_, rfl, _⟩; ktr_unf
    · exact (and3i rfl rfl rfl)
    · rintro i ys Z2 H2 hi ⟨rfl, rfl, rfl⟩
      have hi' : i < l.slots.length := by first | exact Nat.lt_of_lt_of_eq hi (List.length_map _) | exact hi | simpa [Sr.N] using hi
      have e1 : (l.slots.map vS).getD i .none = vS l.slots[i] := by first | exact getD_at hi' | simp [List.getD_eq_getElem?_getD, hi']
      have e2 : l.slots.getD i "" = l.slots[i] := by rw [List.getD_eq_getElem?_getD, List.getElem?_eq_getElem hi']; rfl
      refine ct_one ?_
      refine St.at2 e1 ?_
      repeat ktr_rel
      refine ⟨fun q => ?_, fun q => ?_⟩
      · repeat ktr_rel
        refine (and3i rfl rfl ?_)
        rw [List.range_succ, List.filter_append, List.filter_cons, e2, if_pos (by first | exact eq_of_beq q | exact ne_of_beq_false q | exact of_decide_eq_true q | exact of_decide_eq_false q | simpa using q)]
        simp
      · refine (and3i rfl rfl ?_)
        rw [List.range_succ, List.filter_append, List.filter_cons, e2, if_neg (by first | exact eq_of_beq q | exact ne_of_beq_false q | exact of_decide_eq_true q | exact of_decide_eq_false q | simpa using q)]
        simp
    · rintro E ys Z2 H2 ⟨rfl, rfl, rfl⟩ hys2
      rw [show (Sr.enm sl (l.slots.map vS)).N = l.slots.length by simp [Sr.N]]
      show TB _ _ _ _ _ _ ⟨_, _, (E, AO.list ((emptyIx l.slots).map vI)) :: _⟩
      refine tb_cons ?_
      repeat ktr_rel
      refine co_ne_dict (by ktr_unf) (by ktr_unf) (fun x v hv => by unfold ofI at hv; obtain ⟨i, _, rfl⟩ := Option.map_eq_some_iff.mp hv; exact ⟨i, rfl⟩) ?_
      repeat ktr_rel
      refine bc_len (by ktr_unf) (by simp; omega) ?_
      repeat ktr_rel
      have hel : (emptyIx l.slots).length ≤ l.slots.length := by unfold emptyIx; rw [List.length_map]; exact Nat.le_trans (List.length_filter_le _ _) (by simp)
      refine bc_len (vs := (emptyIx l.slots).map vI) (by ktr_unf) (by simp; omega) ?_
      repeat ktr_rel
      refine bc_len_dict (f := ofI l.held) (k := N) (by ktr_unf) (by omega) fun ks nd hm => ?_
      have hc := S.count nd fun x => by rw [hm x, ofI_isSome]
      repeat ktr_rel
      have hc' : (((((List.range l.slots.length).map fun j => vI (j : Nat)).length : Int) - (((emptyIx l.slots).map vI).length : Nat)) != (ks.length : Int)) = false := by
        rw [List.length_map, List.length_map, List.length_range, hc]; simp
      rw [hc']
      repeat ktr_rel
      refine tb_cons ?_
      repeat ktr_rel
      refine bc_len (by ktr_unf) (by simp; omega) ?_
      rw [List.length_map, List.length_range]
      repeat ktr_rel
      refine bc_range1 fun rr => ?_
      repeat ktr_rel
      refine bc_listrange (r := rr) (b := l.slots.length) (by ktr_unf) (by omega) fun D3 => ?_
      have el : ((List.range l.slots.length).map fun i => vI (i : Nat)) = ((List.range l.slots.length).map fun i => ((i : Nat) : Int)).map vI := by rw [List.map_map]; rfl
      rw [el]
      refine co_eq_ints (n := n) (xs := (List.range l.slots.length).map fun i => ((i : Nat) : Int)) (ys := (List.range l.slots.length).map fun i => ((i : Nat) : Int)) (by ktr_unf) (by ktr_unf) ?_
      rw [decide_eq_true rfl]
      repeat ktr_rel
      have hfl : l.free.length < 64 := by rw [S.fre.length_eq]; omega
      refine bc_sorted (ns := l.free) (.inr (.tail _ (.tail _ (.tail _ (.tail _ (.tail _ (.tail _ (.tail _ (.tail _ (.tail _ (.tail _ (.tail _ (.tail _ (.head _)))))))))))))) hfl fun D4 ms hp hs => ?_
      have hms : ms = emptyIx l.slots := by
        refine List.Perm.eq_of_pairwise (le := (· ≤ ·)) ?_ hs ?_ (hp.trans S.fre)
        · intro a b _ _ h1 h2; omega
        · unfold emptyIx
          rw [List.pairwise_map]
          refine List.Pairwise.imp (R := (· < ·)) (fun h => by omega) (List.Pairwise.filter _ List.pairwise_lt_range)
      subst hms
      repeat ktr_rel
      refine co_eq_ints (n := n) (xs := emptyIx l.slots) (ys := emptyIx l.slots) (by ktr_unf) (by ktr_unf) ?_
      rw [decide_eq_true rfl]
      refine ⟨_, SubP.sub ?_, h⟩
      exact .cons _ (.cons _ (.cons _ (.cons _ (.cons _ (List.Sublist.refl _)))))
end auto

-- P4

noncomputable def WEV (V : Str → Prop) (w : Nd) : Prop := ∃ L, WE L w ∧ ∀ x ∈ L, V x
noncomputable def HOk (h : Fn) (V : Str → Prop) : Prop := (∀ x, V x → ∃ i, h x = some i ∧ 0 ≤ i ∧ i < 64) ∧ ∀ x y, V x → V y → h x = h y → x = y
inductive FitS (U : List Str) (h : Fn) (B : (Str → Prop) → List Nd → (Str → Prop) → Prop) (V : Str → Prop) : Nd → (Str → Prop) → Prop
  | let0 {ns V'} : (∀ x ∈ ns, x ∈ U) → (∀ x, V' x → V x ∨ x ∈ ns) → HOk h (fun x => V' x ∨ x ∈ ns) → FitS U h B V (letN ns none) V'
  | let1 {ns w V'} : WEV V w → (∀ x ∈ ns, x ∈ U) → (∀ x, V' x → V x ∨ x ∈ ns) → HOk h (fun x => V' x ∨ x ∈ ns) → FitS U h B V (letN ns (some w)) V'
  | asg {x w V'} : WEV V w → x ∈ U → (∀ y, V' y → V y) → HOk h (fun y => V' y ∨ y ∈ [x]) → FitS U h B V (asgN x w) V'
  | pop {w V'} : WEV V w → (∀ x, V' x → V x) → FitS U h B V (popN w) V'
  | iff {w b V'} : WEV V w → B V b V → (∀ x, V' x → V x) → FitS U h B V (ifN w (blkN b)) V'
  | fr {w a b V'} : WEV V w → B V a V → B V b V → (∀ x, V' x → V x) → FitS U h B V (forN (blkN []) w (blkN b) (blkN a)) V'
  | sw1 {w b V'} : WEV V w → B V b V → (∀ x, V' x → V x) → FitS U h B V (swN w [caseN .none (blkN b)]) V'
  | sw2 {w v a b V'} : WEV V w → B V a V → B V b V → (∀ x, V' x → V x) → FitS U h B V (swN w [caseN (.int v) (blkN a), caseN .none (blkN b)]) V'
  | blk {b V'} : B V b V → (∀ x, V' x → V x) → FitS U h B V (blkN b) V'
inductive FitL (S : (Str → Prop) → Nd → (Str → Prop) → Prop) : (Str → Prop) → List Nd → (Str → Prop) → Prop
  | nil {V} : FitL S V [] V
  | cons {V t V1 r V2} : S V t V1 → FitL S V1 r V2 → FitL S V (t :: r) V2
theorem FitL.snoc {S V ts V1 t V2} (h : FitL S V ts V1) (s : S V1 t V2) : FitL S V (ts ++ [t]) V2 := by
  induction h with
  | nil => exact .cons s .nil
  | cons a _ ih => exact .cons a (ih s)
noncomputable def FitB (U : List Str) (h : Fn) : Nat → (Str → Prop) → List Nd → (Str → Prop) → Prop
  | 0 => fun _ _ _ => False
  | d + 1 => FitL (FitS U h (FitB U h d))

theorem setV_mod (w : Int) (i : Nat) : 0 ≤ setV w i ∧ setV w i < 1000003 := ⟨Int.fmod_nonneg_of_pos _ (by decide), Int.fmod_lt_of_pos _ (by decide)⟩
theorem agree_set {V : Str → Prop} {home : Fn} {w : Int} : ∀ (ns : List Str) (i : Nat) {names : Fn} {spots : Int → Option Int}, HOk home (fun x => V x ∨ x ∈ ns) → (∀ y, V y → y ∉ ns → Agree names spots home y) →
    ∀ y, V y ∨ y ∈ ns → Agree (setNm w i ns names) (setSp w home i ns spots) home y := by
  have key : ∀ (ns : List Str) (i : Nat) {names : Fn} {spots : Int → Option Int} (W : Str → Prop), HOk home (fun x => W x ∨ x ∈ ns) → (∀ y, W y → Agree names spots home y) →
      ∀ y, W y ∨ y ∈ ns → Agree (setNm w i ns names) (setSp w home i ns spots) home y := by
    intro ns
    induction ns with
    | nil => intro i names spots W _ h y hy; exact h y (hy.elim id fun h => nomatch h)
    | cons x r ih =>
      intro i names spots W H h y hy
      refine ex1e (H.1 x (.inr (.head _))) fun ix h9x => ?_
      refine and3e h9x fun hx x0 x1 => ?_
      try clear h9x
      rw [setNm, setSp, hx]
      refine ih (i + 1) (fun z => W z ∨ z = x) ⟨fun z hz => H.1 z ?_, fun a b ha hb => H.2 a b ?_ ?_⟩ ?_ y ?_
      · rcases hz with (hz | rfl) | hz
        · exact .inl hz
        · exact .inr (.head _)
        · exact .inr (.tail _ hz)
      · rcases ha with (hz | rfl) | hz
        · exact .inl hz
        · exact .inr (.head _)
        · exact .inr (.tail _ hz)
      · rcases hb with (hz | rfl) | hz
        · exact .inl hz
        · exact .inr (.head _)
        · exact .inr (.tail _ hz)
      · intro z hz
        have hm := setV_mod w i
        by_cases e : z = x
        · subst e
          exact (ex2i ix _ (and4i hx (if_pos rfl) (if_pos rfl) hm))
        · refine ex2e (h z (hz.resolve_right e)) fun hh v h9x => ?_
          refine and4e h9x fun g1 g2 g3 g4 => ?_
          try clear h9x
          refine (ex2i hh v (and4i g1 ?_ ?_ g4))
          · show (if hh = ix then some (setV w i) else spots hh) = some v
            rw [if_neg, g2]
            intro e2
            exact e (H.2 z x (.inl (hz.resolve_right e)) (.inr (.head _)) (by rw [g1, hx, e2]))
          · unfold upd; rw [if_neg e, g3]
      · rcases hy with hy | hy
        · exact .inl (.inl hy)
        · rcases List.mem_cons.mp hy with rfl | hy
          · exact .inl (.inr rfl)
          · exact .inr hy
  intro ns i names spots H h y hy
  refine key ns i (fun z => V z ∧ z ∉ ns) ⟨fun z hz => H.1 z ?_, fun a b ha hb => H.2 a b ?_ ?_⟩ (fun z hz => h z hz.1 hz.2) y ?_
  · exact hz.imp And.left id
  · exact ha.imp And.left id
  · exact hb.imp And.left id
  · by_cases e : y ∈ ns
    · exact .inr e
    · exact .inl ⟨hy.resolve_right e, e⟩

-- W15

theorem TB.abs {c n sc cmp b} {Q : Flow → St → Prop} {σ : St} (h : ∀ Fq : Flow → St → Prop, (∀ σ', Q .next σ' → Fq .next σ') → TB c n sc cmp b Fq σ) : TB c n sc cmp b Q σ := h Q fun _ h => h
noncomputable def DoneOk (e : Ev) (U : List Str) (UI : List Int) (N M d lv : Nat) : Prop := ∀ (tr nm sp hm : Addr) (names home : Fn) (spots : Int → Option Int) (R : HT) (Z : ZT) (kids : List Nd) (a : Addr) (V V' : Str → Prop) (Q : Value → ZT → HT → Prop),
  FitB U home d V kids V' → TreeAt Z (blkN kids) (.ref a) → Sup U names → SupI UI spots → (∀ x, V x → Agree names spots home x) →
  (∀ names' spots', Sup U names' → SupI UI spots' → (∀ x, V' x → Agree names' spots' home x) → Q .none Z (TR tr nm sp hm N M names' spots' home false R)) →
  CallOk e.c lv (.ref 336) [.ref tr, .ref a] Q Z (TR tr nm sp hm N M names spots home false R)
theorem fmod_two (r : Int) : r.fmod 2 = 0 ∨ r.fmod 2 = 1 := by
  have h0 := Int.fmod_nonneg_of_pos r (b := 2) (by decide)
  have h1 := Int.fmod_lt_of_pos r (b := 2) (by decide)
  omega
theorem fmod_one (r : Int) : r.fmod 1 = 0 := by
  have h0 := Int.fmod_nonneg_of_pos r (b := 1) (by decide)
  have h1 := Int.fmod_lt_of_pos r (b := 1) (by decide)
  omega

noncomputable abbrev fmW15_0 (v0 v1 v2 : Value) : List (Str × Value) := [("stat", v0), ("trip", v1), ("block", v2)]
section auto
variable {e : Ev} {n N M d : Nat} {U : List Str} {UI : List Int}

theorem done_step {lv : Nat} (B : DoneOk e U UI N M d (lv + 2)) (hU : U.length ≤ N) (hN : N ≤ 1000) (hUI : UI.length ≤ M) (hM : M ≤ 1000) (h64 : ∀ i : Int, 0 ≤ i → i < 64 → i ∈ UI) : DoneOk e U UI N M (d + 1) (lv + 3) := by
  intro tr nm sp hm names home spots R Z kids a V V' Q hfit hT hg1 hg2 hA h
  refine TreeAt.elim hT fun dx' ka vs w b1 b2 b3 b4 b5 => ?_
  have hlen := b5.length
  refine CallOk.cuts (call_fn (F_done rfl) rfl ?_)
  refine tb_cons (ts_for (xs := ["stat"]) (bnd1 (Bnd.local rfl rfl)) ?_)
  repeat ktr_rel
  refine pi_list (.inl b4) (forI .lst (fun i σ => ∃ V1 names spots, FitL (FitS U home (FitB U home d)) V1 (kids.drop i) V' ∧ Sup U names ∧ SupI UI spots ∧ (∀ x, V1 x → Agree names spots home x) ∧
    σ = ⟨([("trip", .ref tr), ("block", .ref a)] : List (Str × Value)), Z, TR tr nm sp hm N M names spots home false R⟩) ?_ ?_ ?_ ?_)
  · rintro i σ ⟨_, _, _, _, _, _, _, rfl⟩; exact .inl b4
  · exact (ex3i V names spots (and5i hfit hg1 hg2 hA rfl))
  · clear hA hg1 hg2
    intro i σ hi h9
    refine hide fun G9 hG9 => ?_
    refine ex3e h9 fun V1 names spots h9x => ?_
    refine and5e h9x fun hF hg1 hg2 hA e9h => ?_
    try clear h9x h9
    obtain rfl := e9h
    refine hG9 ?_; clear hG9 G9
    have hi' : i < kids.length := by rw [← hlen]; exact hi
    refine hide fun G9 hG9 => ?_
    refine ex1e (b5.get (List.getElem?_eq_getElem hi')) fun v h9x => ?_
    refine and2e h9x fun hv hAt => ?_
    try clear h9x
    refine ex1e (hAt.ref) fun b e9b => ?_
    obtain rfl := e9b
    refine hG9 ?_; clear hG9 G9
    have e1 : vs.getD i .none = .ref b := by rw [List.getD_eq_getElem?_getD, hv]; rfl
    rw [List.drop_eq_getElem_cons hi'] at hF
    generalize kids[i] = t at *
    obtain ⟨V2, hS, hF2⟩ : ∃ V2, FitS U home (FitB U home d) V1 t V2 ∧ FitL (FitS U home (FitB U home d)) V2 (kids.drop (i + 1)) V' := by
      cases hF with
      | cons hs hf => exact ⟨_, hs, hf⟩
    refine TB.cut ?_
    refine St.at1 e1 ?_
    refine TB.abs fun Fq hFq => ?_
    have fin : ∀ (m : List (Str × Value)) (H2 : HT) (names : Fn) (spots : Int → Option Int), SubP H2 (TR tr nm sp hm N M names spots home false R) → FactsIn m ([("trip", .ref tr), ("block", .ref a)] : List (Str × Value)) → Sup U names → SupI UI spots → (∀ x, V2 x → Agree names spots home x) → Fq .next ⟨m, Z, H2⟩ :=
      fun m H2 names spots hs hm h1 h2 h3 => hFq _ (⟨_, ⟨(Le.subp hs).trans (Le.facts hm), ex3i V2 names spots (and5i hF2 h1 h2 h3 rfl)⟩⟩)
    clear hFq
    have hAA := hAt
    -- what a set needs
    have setH : ∀ {ns : List Str}, (∀ x, V2 x → V1 x ∨ x ∈ ns) → HOk home (fun x => V2 x ∨ x ∈ ns) → (∀ x ∈ ns, x ∈ U) → ∀ w, (∀ x ∈ ns, ∃ h, home x = some h ∧ h ∈ UI) ∧ Sup U (setNm w 0 ns names) ∧ SupI UI (setSp w home 0 ns spots) ∧ ∀ x, V2 x → Agree (setNm w 0 ns names) (setSp w home 0 ns spots) home x := by
      intro ns hsub hok hns w
      have hho : ∀ x ∈ ns, ∃ h, home x = some h ∧ h ∈ UI := fun x hx => by
        obtain ⟨i, g1, g2, g3⟩ := hok.1 x (.inr hx); exact ⟨i, g1, h64 i g2 g3⟩
      refine (and4i hho (hg1.setNm hns) (hg2.setSp fun x hx h he => ?_) (fun x hx => agree_set ns 0 hok (fun y hy hny => hA y ((hsub y hy).resolve_right hny)) x (.inl hx)))
      obtain ⟨h', e1, e2⟩ := hho x hx; rw [he] at e1; cases e1; exact e2
    induction hS with
    | @let0 ns _ hns hsub hok =>
      refine TreeAt.elim hAt fun dx' ka' vs' w' c1 c2 c3 c4 c5 => ?_
      refine ex1e c3 fun na h9x => ?_
      refine and2e h9x fun e9b hna => ?_
      try clear h9x c3
      obtain rfl := e9b
      refine tb_cons ?_
      repeat ktr_rel
      refine ksq rfl fun T => ?_
      refine co_in_tup (ys := ["let", "assign"]) (by ktr_unf) ?_
      refine tv_bool ⟨fun _ => ?_, fun q => absurd q (by decide)⟩
      repeat tb_rel
      have hvs : vs' = [] := c5
      subst hvs
      refine ksq rfl fun E => ?_
      refine co_ne_list_nil (.inl c4) (by ktr_unf) ?_
      refine tv_bool ⟨fun q => absurd q (by decide), fun _ => ?_⟩
      repeat tb_rel
      refine and4e (setH hsub hok hns 0) fun s1 s2 s3 s4 => ?_
      refine bc_call (.subp (set_ok (.inl hna) hU hN hUI hM hns s1 hg1 hg2 ?_) SubP.refl.cons.cons)
      refine kdn ?_
      repeat tb_rel
      refine fin _ _ _ _ SubP.refl ?_ s2 s3 s4
      exact (FactsIn.of rfl)
    | @let1 ns u _ hw hns hsub hok =>
      refine ex1e hw fun L h9x => ?_
      refine and2e h9x fun hWE hL => ?_
      try clear h9x hw
      refine TreeAt.elim hAt fun dx' ka' vs' w' c1 c2 c3 c4 c5 => ?_
      refine hide fun G9 hG9 => ?_
      refine ex1e c3 fun na h9x => ?_
      refine and2e h9x fun e9b hna => ?_
      try clear h9x c3
      obtain rfl := e9b
      refine ex1e (c5.get (i := 0) rfl) fun v1 h9x => ?_
      refine and2e h9x fun hv1 hA1 => ?_
      try clear h9x
      refine ex1e (hA1.ref) fun r1 e9b => ?_
      obtain rfl := e9b
      refine hG9 ?_; clear hG9 G9
      refine tb_cons ?_
      repeat ktr_rel
      refine ksq rfl fun T => ?_
      refine co_in_tup (ys := ["let", "assign"]) (by ktr_unf) ?_
      refine tv_bool ⟨fun _ => ?_, fun q => absurd q (by decide)⟩
      repeat tb_rel
      refine ksq rfl fun E => ?_
      refine co_ne_list_nil (.inl c4) (by ktr_unf) ?_
      have hvs : vs' ≠ [] := by rintro rfl; simp at hv1
      refine tv_bool ⟨fun _ => ?_, fun q => absurd q (by simp [hvs])⟩
      repeat tb_rel
      refine gi_list (.inl c4) (by decide) (by decide) hv1 ?_
      repeat tb_rel
      refine bc_call (.subp (value_ok (n := lv) hA1 hWE (fun x hx => hA x (hL x hx)) fun r _ _ => ?_) SubP.refl.cons.cons)
      repeat tb_rel
      refine and4e (setH hsub hok hns r) fun s1 s2 s3 s4 => ?_
      refine bc_call (set_ok (.inl hna) hU hN hUI hM hns s1 hg1 hg2 ?_)
      refine kdn ?_
      repeat tb_rel
      refine fin _ _ _ _ SubP.refl ?_ s2 s3 s4
      exact (FactsIn.of rfl)
    | @asg y u _ hw hyU hsub hok =>
      refine ex1e hw fun L h9x => ?_
      refine and2e h9x fun hWE hL => ?_
      try clear h9x hw
      refine TreeAt.elim hAt fun dx' ka' vs' w' c1 c2 c3 c4 c5 => ?_
      refine hide fun G9 hG9 => ?_
      refine ex1e c3 fun na h9x => ?_
      refine and2e h9x fun e9b hna => ?_
      try clear h9x c3
      obtain rfl := e9b
      refine ex1e (c5.get (i := 0) rfl) fun v1 h9x => ?_
      refine and2e h9x fun hv1 hA1 => ?_
      try clear h9x
      refine ex1e (hA1.ref) fun r1 e9b => ?_
      obtain rfl := e9b
      refine hG9 ?_; clear hG9 G9
      refine tb_cons ?_
      repeat ktr_rel
      refine ksq rfl fun T => ?_
      refine co_in_tup (ys := ["let", "assign"]) (by ktr_unf) ?_
      refine tv_bool ⟨fun _ => ?_, fun q => absurd q (by decide)⟩
      repeat tb_rel
      refine ksq rfl fun E => ?_
      refine co_ne_list_nil (.inl c4) (by ktr_unf) ?_
      have hvs : vs' ≠ [] := by rintro rfl; simp at hv1
      refine tv_bool ⟨fun _ => ?_, fun q => absurd q (by simp [hvs])⟩
      repeat tb_rel
      refine gi_list (.inl c4) (by decide) (by decide) hv1 ?_
      repeat tb_rel
      refine bc_call (.subp (value_ok (n := lv) hA1 hWE (fun x hx => hA x (hL x hx)) fun r _ _ => ?_) SubP.refl.cons.cons)
      repeat tb_rel
      have hns : ∀ x ∈ [y], x ∈ U := fun x hx => by rcases List.mem_cons.mp hx with rfl | h; exact hyU; cases h
      refine and4e (setH (ns := [y]) (fun x hx => .inl (hsub x hx)) hok hns r) fun s1 s2 s3 s4 => ?_
      refine bc_call (set_ok (.inl hna) hU hN hUI hM hns s1 hg1 hg2 ?_)
      refine kdn ?_
      repeat tb_rel
      refine fin _ _ _ _ SubP.refl ?_ s2 s3 s4
      exact (FactsIn.of rfl)
    | @pop u _ hw hsub =>
      refine ex1e hw fun L h9x => ?_
      refine and2e h9x fun hWE hL => ?_
      try clear h9x hw
      refine TreeAt.elim hAt fun dx' ka' vs' w' c1 c2 c3 c4 c5 => ?_
      refine hide fun G9 hG9 => ?_
      refine ex1e (c5.get (i := 0) rfl) fun v1 h9x => ?_
      refine and2e h9x fun hv1 hA1 => ?_
      try clear h9x
      refine ex1e (hA1.ref) fun r1 e9b => ?_
      obtain rfl := e9b
      refine hG9 ?_; clear hG9 G9
      refine TreeAt.elim hA1 fun dx2 ka2 vs2 w2 g1 g2 g3 g4 g5 => ?_
      refine hide fun G9 hG9 => ?_
      refine ex1e (g5.get (i := 0) rfl) fun v2 h9x => ?_
      refine and2e h9x fun hv2 hA2 => ?_
      try clear h9x
      refine ex1e (hA2.ref) fun r2 e9b => ?_
      obtain rfl := e9b
      refine hG9 ?_; clear hG9 G9
      refine tb_cons ?_
      repeat ktr_rel
      refine ksq rfl fun T => ?_
      refine co_in_tup (ys := ["let", "assign"]) (by ktr_unf) ?_
      refine tv_bool ⟨fun q => absurd q (by decide), fun _ => ?_⟩
      repeat tb_rel
      refine gi_list (.inl c4) (by decide) (by decide) hv1 ?_
      repeat tb_rel
      refine gi_list (.inl g4) (by decide) (by decide) hv2 ?_
      repeat tb_rel
      refine bc_call (.subp (value_ok (n := lv) hA2 hWE (fun x hx => hA x (hL x hx)) fun r _ _ => ?_) SubP.refl.cons)
      refine ⟨fun _ h => (nomatch h), ?_⟩
      repeat tb_rel
      refine fin _ _ _ _ SubP.refl ?_ hg1 hg2 fun x hx => hA x (hsub x hx)
      exact (FactsIn.of rfl)
    | @iff u bb _ hw hB hsub =>
      refine ex1e hw fun L h9x => ?_
      refine and2e h9x fun hWE hL => ?_
      try clear h9x hw
      refine TreeAt.elim hAt fun dx' ka' vs' w' c1 c2 c3 c4 c5 => ?_
      refine hide fun G9 hG9 => ?_
      refine ex1e (c5.get (i := 0) rfl) fun v1 h9x => ?_
      refine and2e h9x fun hv1 hA1 => ?_
      try clear h9x
      refine ex1e (hA1.ref) fun r1 e9b => ?_
      obtain rfl := e9b
      refine ex1e (c5.get (i := 1) rfl) fun v2 h9x => ?_
      refine and2e h9x fun hv2 hA2 => ?_
      try clear h9x
      refine ex1e (hA2.ref) fun r2 e9b => ?_
      obtain rfl := e9b
      refine hG9 ?_; clear hG9 G9
      refine tb_cons ?_
      repeat ktr_rel
      refine ksq rfl fun T => ?_
      refine co_in_tup (ys := ["let", "assign"]) (by ktr_unf) ?_
      refine tv_bool ⟨fun q => absurd q (by decide), fun _ => ?_⟩
      refine tb_cons ?_
      repeat ktr_rel
      refine tb_cons ?_
      repeat ktr_rel
      refine tb_cons ?_
      repeat ktr_rel
      refine gi_list (.inl c4) (by decide) (by decide) hv1 ?_
      repeat ktr_rel
      refine bc_call (.subp (value_ok (n := lv) hA1 hWE (fun x hx => hA x (hL x hx)) fun r _ _ => ?_) SubP.refl.cons)
      repeat ktr_rel
      refine bo_mod (by decide) ?_
      repeat ktr_rel
      refine ⟨fun _ => ?_, fun _ => ?_⟩
      · refine tb_cons ?_
        repeat ktr_rel
        refine gi_list (.inl c4) (by decide) (by decide) hv2 ?_
        repeat ktr_rel
        refine bc_call (B _ _ _ _ _ _ _ _ _ _ _ _ _ _ hB hA2 hg1 hg2 hA fun n2 s2 k1 k2 k3 => ?_)
        refine kdn ?_
        repeat tb_rel
        refine fin _ _ _ _ SubP.refl ?_ k1 k2 fun x hx => k3 x (hsub x hx)
        exact (FactsIn.of rfl)
      · repeat tb_rel
        refine fin _ _ _ _ SubP.refl ?_ hg1 hg2 fun x hx => hA x (hsub x hx)
        exact (FactsIn.of rfl)
    | @fr u aa bb _ hw hB1 hB2 hsub =>
      refine ex1e hw fun L h9x => ?_
      refine and2e h9x fun hWE hL => ?_
      try clear h9x hw
      refine TreeAt.elim hAt fun dx' ka' vs' w' c1 c2 c3 c4 c5 => ?_
      refine hide fun G9 hG9 => ?_
      refine ex1e (c5.get (i := 1) rfl) fun v1 h9x => ?_
      refine and2e h9x fun hv1 hA1 => ?_
      try clear h9x
      refine ex1e (hA1.ref) fun r1 e9b => ?_
      obtain rfl := e9b
      refine ex1e (c5.get (i := 2) rfl) fun v2 h9x => ?_
      refine and2e h9x fun hv2 hA2 => ?_
      try clear h9x
      refine ex1e (hA2.ref) fun r2 e9b => ?_
      obtain rfl := e9b
      refine ex1e (c5.get (i := 3) rfl) fun v3 h9x => ?_
      refine and2e h9x fun hv3 hA3 => ?_
      try clear h9x
      refine ex1e (hA3.ref) fun r3 e9b => ?_
      obtain rfl := e9b
      refine hG9 ?_; clear hG9 G9
      refine tb_cons ?_
      repeat ktr_rel
      refine ksq rfl fun T => ?_
      refine co_in_tup (ys := ["let", "assign"]) (by ktr_unf) ?_
      refine tv_bool ⟨fun q => absurd q (by decide), fun _ => ?_⟩
      refine tb_cons ?_
      repeat ktr_rel
      refine tb_cons ?_
      repeat ktr_rel
      refine tb_cons ?_
      repeat ktr_rel
      refine tb_cons (ts_for (xs := ["turn"]) (bnd1 (Bnd.local rfl rfl)) ?_)
      repeat ktr_rel
      refine bc_range1 fun rr => ?_
      refine pi_range (by ktr_unf) (by decide) (by decide) (by decide) (by decide) (forI .rng (fun j σ => ∃ names spots H2, Sup U names ∧ SupI UI spots ∧ (∀ x, V1 x → Agree names spots home x) ∧ SubP H2 (TR tr nm sp hm N M names spots home false R) ∧
        σ = ⟨(fmW15_0 (.ref b) (.ref tr) (.ref a)), Z, H2⟩) (fun _ _ _ => trivial) ?_ ?_ ?_)
      · exact (ex3i names spots _ (and5i hg1 hg2 hA SubP.refl.cons.cons rfl))
      · clear hA hg1 hg2 setH
        intro j σ hj h9
        refine hide fun G9 hG9 => ?_
        refine ex3e h9 fun names spots H2 h9x => ?_
        refine and5e h9x fun hg1 hg2 hA hs2 e9h => ?_
        try clear h9x h9
        obtain rfl := e9h
        refine hG9 ?_; clear hG9 G9
        refine TB.le (Le.subp hs2) ?_
        refine TB.cut ?_
        show TB _ _ _ _ _ _ ⟨([("turn", vI (0 + (j : Nat)))] : List (Str × Value)) ++ _, _, _⟩
        refine TB.abs fun Fq2 hFq2 => ?_
        have fin2 : ∀ (m : List (Str × Value)) (names : Fn) (spots : Int → Option Int), FactsIn m (fmW15_0 (.ref b) (.ref tr) (.ref a)) → Sup U names → SupI UI spots → (∀ x, V1 x → Agree names spots home x) →
          Fq2 .next ⟨m, Z, TR tr nm sp hm N M names spots home false R⟩ :=
          fun m names spots hm h1 h2 h3 => hFq2 _ (⟨_, ⟨Le.facts hm, ex3i names spots _ (and5i h1 h2 h3 SubP.refl rfl)⟩⟩)
        clear hFq2
        refine tb_cons ?_
        repeat ktr_rel
        refine gi_list (.inl c4) (by decide) (by decide) hv1 ?_
        repeat ktr_rel
        refine bc_call (value_ok (n := lv) hA1 hWE (fun x hx => hA x (hL x hx)) fun r _ _ => ?_)
        repeat ktr_rel
        refine bo_mod (by decide) ?_
        repeat ktr_rel
        refine ⟨fun _ => ?_, fun _ => ?_⟩
        · refine tb_cons ?_
          repeat ktr_rel
          refine gi_list (.inl c4) (by decide) (by decide) hv3 ?_
          repeat ktr_rel
          refine bc_call (B _ _ _ _ _ _ _ _ _ _ _ _ _ _ hB1 hA3 hg1 hg2 hA fun n2 s2 k1 k2 k3 => ?_)
          refine kdn ?_
          refine tb_cons ?_
          repeat ktr_rel
          refine gi_list (.inl c4) (by decide) (by decide) hv2 ?_
          repeat ktr_rel
          refine bc_call (B _ _ _ _ _ _ _ _ _ _ _ _ _ _ hB2 hA2 k1 k2 k3 fun n3 s3 k1 k2 k3 => ?_)
          refine kdn ?_
          repeat tb_rel
          refine fin2 _ _ _ ?_ k1 k2 k3
          exact (FactsIn.of rfl)
        · repeat tb_rel
          refine fin2 _ _ _ ?_ hg1 hg2 hA
          exact (FactsIn.of rfl)
      · intro σ h9
        refine hide fun G9 hG9 => ?_
        refine ex3e h9 fun names spots H2 h9x => ?_
        refine and5e h9x fun hg1 hg2 hA hs2 e9h => ?_
        try clear h9x h9
        obtain rfl := e9h
        refine hG9 ?_; clear hG9 G9
        repeat tb_rel
        refine fin _ _ _ _ hs2 ?_ hg1 hg2 fun x hx => hA x (hsub x hx)
        exact (FactsIn.of rfl)
    | @sw1 u bb _ hw hB hsub =>
      refine ex1e hw fun L h9x => ?_
      refine and2e h9x fun hWE hL => ?_
      try clear h9x hw
      refine TreeAt.elim hAt fun dx' ka' vs' w' c1 c2 c3 c4 c5 => ?_
      have hl5 : vs'.length = 2 := c5.length
      refine hide fun G9 hG9 => ?_
      refine ex1e (c5.get (i := 0) rfl) fun v1 h9x => ?_
      refine and2e h9x fun hv1 hA1 => ?_
      try clear h9x
      refine ex1e (hA1.ref) fun r1 e9b => ?_
      obtain rfl := e9b
      refine ex1e (c5.get (i := 1) rfl) fun v2 h9x => ?_
      refine and2e h9x fun hv2 hA2 => ?_
      try clear h9x
      refine ex1e (hA2.ref) fun r2 e9b => ?_
      obtain rfl := e9b
      refine hG9 ?_; clear hG9 G9
      refine TreeAt.elim hA2 fun dx2 ka2 vs2 w2 g1 g2 g3 g4 g5 => ?_
      refine hide fun G9 hG9 => ?_
      refine ex1e (g5.get (i := 0) rfl) fun v3 h9x => ?_
      refine and2e h9x fun hv3 hA3 => ?_
      try clear h9x
      refine ex1e (hA3.ref) fun r3 e9b => ?_
      obtain rfl := e9b
      refine hG9 ?_; clear hG9 G9
      refine tb_cons ?_
      repeat ktr_rel
      refine ksq rfl fun T => ?_
      refine co_in_tup (ys := ["let", "assign"]) (by ktr_unf) ?_
      refine tv_bool ⟨fun q => absurd q (by decide), fun _ => ?_⟩
      repeat tb_rel
      refine gi_list (.inl c4) (by decide) (by decide) hv1 ?_
      repeat tb_rel
      refine bc_call (.subp (value_ok (n := lv) hA1 hWE (fun x hx => hA x (hL x hx)) fun r _ _ => ?_) SubP.refl.cons)
      repeat tb_rel
      refine bc_len (.inl c4) (by omega) ?_
      rw [hl5]
      repeat tb_rel
      refine bo_mod (by decide) ?_
      repeat tb_rel
      rw [show (1 : Int) + r.fmod (((2 : Nat) : Int) - 1) = 1 by rw [show (((2 : Nat) : Int) - 1) = 1 by decide, fmod_one]; rfl]
      refine gi_list (.inl c4) (by decide) (by decide) hv2 ?_
      repeat tb_rel
      refine gi_list (.inl g4) (by decide) (by decide) hv3 ?_
      repeat tb_rel
      refine bc_call (B _ _ _ _ _ _ _ _ _ _ _ _ _ _ hB hA3 hg1 hg2 hA fun n2 s2 k1 k2 k3 => ?_)
      refine kdn ?_
      repeat tb_rel
      refine fin _ _ _ _ SubP.refl ?_ k1 k2 fun x hx => k3 x (hsub x hx)
      exact (FactsIn.of rfl)
    | @sw2 u v aa bb _ hw hB1 hB2 hsub =>
      refine ex1e hw fun L h9x => ?_
      refine and2e h9x fun hWE hL => ?_
      try clear h9x hw
      refine TreeAt.elim hAt fun dx' ka' vs' w' c1 c2 c3 c4 c5 => ?_
      have hl5 : vs'.length = 3 := c5.length
      refine hide fun G9 hG9 => ?_
      refine ex1e (c5.get (i := 0) rfl) fun v1 h9x => ?_
      refine and2e h9x fun hv1 hA1 => ?_
      try clear h9x
      refine ex1e (hA1.ref) fun r1 e9b => ?_
      obtain rfl := e9b
      refine ex1e (c5.get (i := 1) rfl) fun v2 h9x => ?_
      refine and2e h9x fun hv2 hA2 => ?_
      try clear h9x
      refine ex1e (hA2.ref) fun r2 e9b => ?_
      obtain rfl := e9b
      refine hG9 ?_; clear hG9 G9
      refine TreeAt.elim hA2 fun dx2 ka2 vs2 w2 g1 g2 g3 g4 g5 => ?_
      refine hide fun G9 hG9 => ?_
      refine ex1e (g5.get (i := 0) rfl) fun v3 h9x => ?_
      refine and2e h9x fun hv3 hA3 => ?_
      try clear h9x
      refine ex1e (hA3.ref) fun r3 e9b => ?_
      obtain rfl := e9b
      refine ex1e (c5.get (i := 2) rfl) fun v4 h9x => ?_
      refine and2e h9x fun hv4 hA4 => ?_
      try clear h9x
      refine ex1e (hA4.ref) fun r4 e9b => ?_
      obtain rfl := e9b
      refine hG9 ?_; clear hG9 G9
      refine TreeAt.elim hA4 fun dx4 ka4 vs4 w4 f1 f2 f3 f4 f5 => ?_
      refine hide fun G9 hG9 => ?_
      refine ex1e (f5.get (i := 0) rfl) fun v5 h9x => ?_
      refine and2e h9x fun hv5 hA5 => ?_
      try clear h9x
      refine ex1e (hA5.ref) fun r5 e9b => ?_
      obtain rfl := e9b
      refine hG9 ?_; clear hG9 G9
      refine tb_cons ?_
      repeat ktr_rel
      refine ksq rfl fun T => ?_
      refine co_in_tup (ys := ["let", "assign"]) (by ktr_unf) ?_
      refine tv_bool ⟨fun q => absurd q (by decide), fun _ => ?_⟩
      repeat tb_rel
      refine gi_list (.inl c4) (by decide) (by decide) hv1 ?_
      repeat tb_rel
      refine bc_call (.subp (value_ok (n := lv) hA1 hWE (fun x hx => hA x (hL x hx)) fun r _ _ => ?_) SubP.refl.cons)
      repeat tb_rel
      refine bc_len (.inl c4) (by omega) ?_
      rw [hl5]
      repeat tb_rel
      refine bo_mod (by decide) ?_
      repeat tb_rel
      rcases fmod_two r with hr | hr
      · rw [show (1 : Int) + r.fmod (((3 : Nat) : Int) - 1) = 1 by rw [show (((3 : Nat) : Int) - 1) = 2 by decide, hr]; rfl]
        refine gi_list (.inl c4) (by decide) (by decide) hv2 ?_
        repeat tb_rel
        refine gi_list (.inl g4) (by decide) (by decide) hv3 ?_
        repeat tb_rel
        refine bc_call (B _ _ _ _ _ _ _ _ _ _ _ _ _ _ hB1 hA3 hg1 hg2 hA fun n2 s2 k1 k2 k3 => ?_)
        refine kdn ?_
        repeat tb_rel
        refine fin _ _ _ _ SubP.refl ?_ k1 k2 fun x hx => k3 x (hsub x hx)
        exact (FactsIn.of rfl)
      · rw [show (1 : Int) + r.fmod (((3 : Nat) : Int) - 1) = 2 by rw [show (((3 : Nat) : Int) - 1) = 2 by decide, hr]; rfl]
        refine gi_list (.inl c4) (by decide) (by decide) hv4 ?_
        repeat tb_rel
        refine gi_list (.inl f4) (by decide) (by decide) hv5 ?_
        repeat tb_rel
        refine bc_call (B _ _ _ _ _ _ _ _ _ _ _ _ _ _ hB2 hA5 hg1 hg2 hA fun n2 s2 k1 k2 k3 => ?_)
        refine kdn ?_
        repeat tb_rel
        refine fin _ _ _ _ SubP.refl ?_ k1 k2 fun x hx => k3 x (hsub x hx)
        exact (FactsIn.of rfl)
    | @blk bb _ hB hsub =>
      have hAA := hAt
      refine TreeAt.elim hAt fun dx' ka' vs' w' c1 c2 c3 c4 c5 => ?_
      refine tb_cons ?_
      repeat ktr_rel
      refine ksq rfl fun T => ?_
      refine co_in_tup (ys := ["let", "assign"]) (by ktr_unf) ?_
      refine tv_bool ⟨fun q => absurd q (by decide), fun _ => ?_⟩
      repeat tb_rel
      refine bc_call (.subp (B _ _ _ _ _ _ _ _ _ _ _ _ _ _ hB hAA hg1 hg2 hA fun n2 s2 k1 k2 k3 => ?_) SubP.refl.cons)
      refine kdn ?_
      repeat tb_rel
      refine fin _ _ _ _ SubP.refl ?_ k1 k2 fun x hx => k3 x (hsub x hx)
      exact (FactsIn.of rfl)
  · intro σ h9
    refine hide fun G9 hG9 => ?_
    refine ex3e h9 fun V1 n2 s2 h9x => ?_
    refine and5e h9x fun hF hg1 hg2 hA e9h => ?_
    try clear h9x h9
    obtain rfl := e9h
    refine hG9 ?_; clear hG9 G9
    have e1 : kids.drop (Sr.lst ka vs).N = [] := List.drop_eq_nil_of_le (by first | exact Nat.le_of_eq hlen.symm | exact Nat.le_of_eq hlen | simp [Sr.N, hlen])
    rw [e1] at hF
    cases hF
    repeat tb_rel
    exact ⟨_, SubP.refl, h n2 s2 hg1 hg2 hA⟩
end auto

-- P5a

inductive Shp : Nd → List Nd → List (List Nd) → List Str → List Str → Prop
  | let0 {ns} : Shp (letN ns none) [] [] ns []
  | let1 {ns w} : Shp (letN ns (some w)) [w] [] ns []
  | asg {x w} : Shp (asgN x w) [w] [] [] [x]
  | pop {w} : Shp (popN w) [w] [] [] []
  | iff {w b} : Shp (ifN w (blkN b)) [w] [b] [] []
  | fr {w a b} : Shp (forN (blkN []) w (blkN b) (blkN a)) [w] [b, a] [] []
  | sw1 {w b} : Shp (swN w [caseN .none (blkN b)]) [w] [b] [] []
  | sw2 {w v a b} : Shp (swN w [caseN (.int v) (blkN a), caseN .none (blkN b)]) [w] [a, b] [] []
  | blk {b} : Shp (blkN b) [] [b] [] []
noncomputable def Nd.ks : Nd → List Nd | .mk _ _ _ ks => ks
noncomputable def shp : Nd → List Nd × List (List Nd)
  | .mk kind _ _ ks => if kind = "if" then (ks.take 1, (ks.drop 1).map Nd.ks) else if kind = "for" then ((ks.drop 1).take 1, (ks.drop 2).map Nd.ks) else
    if kind = "switch" then (ks.take 1, (ks.drop 1).flatMap fun c => c.ks.map Nd.ks) else if kind = "block" then ([], [ks]) else if kind = "expr" then (ks.flatMap Nd.ks, []) else (ks, [])
theorem Shp.inv {t ws bs tl ml} (h : Shp t ws bs tl ml) : (ws, bs) = shp t := by cases h <;> rfl
theorem Shp.uniq {t ws bs tl ml ws' bs' tl' ml'} (h : Shp t ws bs tl ml) (h' : Shp t ws' bs' tl' ml') : ws' = ws ∧ bs' = bs := Prod.mk.inj (h'.inv.trans h.inv.symm)
noncomputable def rd : Nd → List Str
  | .mk kind name _ kids => if kind = "name" then [name] else nameKids kids
theorem rd_mk (kind name val kids) : rd (.mk kind name val kids) = if kind = "name" then [name] else nameKids kids := rfl
noncomputable def rds : List Nd → List Str
  | [] => []
  | w :: r => rd w ++ rds r
noncomputable def dnss : List (List Nd) → List Str
  | [] => []
  | b :: r => dns b ++ dnss r
noncomputable def tlOf (t : Nd) : List Str := if t.kind = "let" then t.names else []
noncomputable def PS (B : List Nd → Prop) (t : Nd) : Prop := ∃ ws bs tl ml, Shp t ws bs tl ml ∧ (∀ w ∈ ws, ∃ L, WE L w) ∧ ∀ b ∈ bs, B b
noncomputable def Pl : Nat → List Nd → Prop
  | 0 => fun kids => kids = []
  | d + 1 => fun kids => ∀ t ∈ kids, PS (Pl d) t
theorem Pl.nil : ∀ d, Pl d []
  | 0 => rfl
  | d + 1 => fun t h => nomatch h
theorem Pl.tail {d t r} (h : Pl d (t :: r)) : Pl d r := by
  cases d with
  | zero => cases h
  | succ d => exact fun u hu => h u (.tail _ hu)
theorem Pl.head {d t r} (h : Pl (d + 1) (t :: r)) : PS (Pl d) t := h t (.head _)

theorem atom_facts {L t} (h : W0E L t) : t.kids = [] ∧ t.kind ≠ "block" ∧ t.kind ≠ "case" ∧ t.kind ≠ "let" ∧ t.kind ≠ "assign" := by
  induction h with
  | num i => exact (and5i rfl (by show ("number" : Str) ≠ _; decide) (by show ("number" : Str) ≠ _; decide) (by show ("number" : Str) ≠ _; decide) (by show ("number" : Str) ≠ _; decide))
  | nam x => exact (and5i rfl (by show ("name" : Str) ≠ _; decide) (by show ("name" : Str) ≠ _; decide) (by show ("name" : Str) ≠ _; decide) (by show ("name" : Str) ≠ _; decide))
theorem we_facts {L t} (h : WE L t) : t.kind ≠ "block" ∧ t.kind ≠ "case" ∧ t.kind ≠ "let" ∧ t.kind ≠ "assign" := by
  induction h with
  | atom h => exact (atom_facts h).2
  | call => exact (and4i (by show ("call" : Str) ≠ _; decide) (by show ("call" : Str) ≠ _; decide) (by show ("call" : Str) ≠ _; decide) (by show ("call" : Str) ≠ _; decide))
theorem atoms_mentE {L : List Str} {f : Fn} {p : List Int} : ∀ {ks : List Nd} {g : Fn}, (∀ t ∈ ks, W0E L t) → mentEs f p ks g = mentNs f p (nameKids ks) g
  | [], g, _ => rfl
  | t :: r, g, h => by
    show mentEs f p r (mentE f p t g) = _
    rw [atoms_mentE (ks := r) fun u hu => h u (.tail _ hu)]
    have := h t (.head _)
    rw [nameKids]
    cases this with
    | num i =>
      show _ = mentNs f p ((if ("number" : Str) = "name" then _ else []) ++ nameKids r) g
      rw [if_neg (by decide)]
      show mentNs f p (nameKids r) (mentE f p (numN i) g) = mentNs f p (nameKids r) g
      unfold mentE
      rw [if_neg (by decide)]; rfl
    | nam x =>
      show _ = mentNs f p ((if ("name" : Str) = "name" then [x] else []) ++ nameKids r) g
      rw [if_pos rfl]
      show mentNs f p (nameKids r) (mentE f p (namN x) g) = mentNs f p (nameKids r) (mentG f p g x)
      unfold mentE
      rw [if_pos rfl]; rfl
theorem we_mentE {L : List Str} {f : Fn} {p : List Int} {w : Nd} {g : Fn} (h : WE L w) : mentE f p w g = mentNs f p (rd w) g := by
  induction h with
  | atom h0 =>
    induction h0 with
    | num i => rw [rd_mk]; unfold mentE; rw [if_neg (by decide), if_neg (by decide)]; rfl
    | nam x => rw [rd_mk]; unfold mentE; rw [if_pos rfl, if_pos rfl]; rfl
  | call hk _ =>
    rw [rd_mk]; unfold mentE
    rw [if_neg (by decide), if_neg (by decide)]
    exact atoms_mentE hk
theorem we_gK {L : List Str} {f : Fn} {p : List Int} {w : Nd} {g : Fn} (h : WE L w) : gK w p f g = mentNs f p (rd w) g := by
  rw [← we_mentE h]
  refine hide fun G9 hG9 => ?_
  obtain ⟨kind, name, val, kids⟩ := w
  refine hG9 ?_; clear hG9 G9
  have hf : kind ≠ "block" ∧ kind ≠ "case" ∧ kind ≠ "let" ∧ kind ≠ "assign" := we_facts h
  rw [gK, if_neg hf.1, if_neg hf.2.1]
  unfold mentE; rfl
theorem atoms_ne {L : List Str} : ∀ {ks : List Nd}, (∀ t ∈ ks, W0E L t) → rowsNe ks = []
  | [], _ => by rw [rowsNe]
  | t :: r, h => by rw [rowsNe, atoms_ne fun u hu => h u (.tail _ hu), if_pos (atom_facts (h t (.head _))).1]; rfl
theorem atoms_duNe {L : List Str} {g : Fn} : ∀ {ks : List Nd}, (∀ t ∈ ks, W0E L t) → duNe ks g = g
  | [], _ => by rw [duNe]
  | t :: r, h => by rw [duNe, if_pos (atom_facts (h t (.head _))).1, atoms_duNe fun u hu => h u (.tail _ hu)]
theorem atoms_dns {L : List Str} : ∀ {ks : List Nd}, (∀ t ∈ ks, W0E L t) → dns ks = []
  | [], _ => rfl
  | t :: r, h => by
    show dn t ++ dns r = []
    rw [atoms_dns fun u hu => h u (.tail _ hu)]
    have := h t (.head _)
    cases this with
    | num i => unfold dn; rw [if_neg (by decide)]; rfl
    | nam x => unfold dn; rw [if_neg (by decide)]; rfl
theorem we_dn {L w} (h : WE L w) : dn w = [] := by
  induction h with
  | atom h0 =>
    induction h0 with
    | num i => unfold dn; rw [if_neg (by decide)]; rfl
    | nam x => unfold dn; rw [if_neg (by decide)]; rfl
  | call hk _ => unfold dn; rw [if_neg (by decide)]; exact atoms_dns hk
theorem nk_num {i r} : nameKids (numN i :: r) = nameKids r := by
  rw [nameKids]; show (if ("number" : Str) = "name" then _ else _) ++ _ = _; rw [if_neg (by decide)]; rfl
theorem nk_nam {x r} : nameKids (namN x :: r) = x :: nameKids r := by
  rw [nameKids]; show (if ("name" : Str) = "name" then _ else _) ++ _ = _; rw [if_pos rfl]; rfl
theorem nk_call {f ks r} : nameKids (callN f ks :: r) = nameKids r := by
  rw [nameKids]; show (if ("call" : Str) = "name" then _ else _) ++ _ = _; rw [if_neg (by decide)]; rfl
theorem nk_blk {b r} : nameKids (blkN b :: r) = nameKids r := by
  rw [nameKids]; show (if ("block" : Str) = "name" then _ else _) ++ _ = _; rw [if_neg (by decide)]; rfl
theorem nk_case {v b r} : nameKids (caseN v b :: r) = nameKids r := by
  rw [nameKids]; show (if ("case" : Str) = "name" then _ else _) ++ _ = _; rw [if_neg (by decide)]; rfl
theorem rd_num {i} : rd (numN i) = [] := by rw [rd_mk, if_neg (by decide)]; rfl
theorem rd_nam {x} : rd (namN x) = [x] := by rw [rd_mk, if_pos rfl]
theorem rd_call {f ks} : rd (callN f ks) = nameKids ks := by rw [rd_mk, if_neg (by decide)]
theorem we_ne {L w} (h : WE L w) (r : List Nd) (x : Str) : (x ∈ nameKids (w :: r) ++ (rowsNe (w :: r)).flatten) ↔ x ∈ rd w ∨ x ∈ nameKids r ++ (rowsNe r).flatten := by
  induction h with
  | atom h0 =>
    have hk := (atom_facts h0).1
    induction h0 with
    | num i => rw [nk_num, rd_num, rowsNe, if_pos hk]; simp
    | nam x => rw [nk_nam, rd_nam, rowsNe, if_pos hk]; simp
  | @call f ks hk _ =>
    have e1 : stL (callN f ks) = nameKids ks := by
      rw [stL, if_neg (by decide), if_neg (by decide), atoms_ne hk]; simp
    rw [nk_call, rd_call, rowsNe, e1]
    by_cases hks : ks = []
    · subst hks
      have : (callN f []).kids = [] := rfl
      rw [if_pos this]; simp [nameKids]
    · have : (callN f ks).kids ≠ [] := hks
      rw [if_neg this]; simp [or_left_comm]
theorem we_duNe {L w g} (h : WE L w) (r : List Nd) : duNe (w :: r) g = duNe r g := by
  rw [duNe]
  induction h with
  | atom h0 => rw [if_pos (atom_facts h0).1]
  | @call f ks hk _ =>
    split
    · rfl
    · rw [duS, if_neg (by decide), atoms_duNe hk]


-- P5

noncomputable def bsG (f : Fn) (p : List Int) : List (List Nd) → Fn → Fn
  | [], g => g
  | b :: r, g => bsG f p r (gB b p f 0 g)
noncomputable def bsD : List (List Nd) → Fn → Fn
  | [], g => g
  | b :: r, g => bsD r (setD (rowsAll b) 0 b (duAll b g))
theorem gK_cs {v b p f g} : gK (caseN v b) p f g = gKs [b] p f g := by rw [gK, if_neg (by decide), if_pos rfl]
theorem gK_blk {b p f g} : gK (blkN b) p f g = gB b p f 0 g := by rw [gK, if_pos rfl]
theorem gS_sh {t ws bs tl ml} (h : Shp t ws bs tl ml) (hw : ∀ w ∈ ws, ∃ L, WE L w) (p : List Int) (f g : Fn) :
    gS t p f g = tellG (p.getLastD 0) tl (mentNs f p ml (bsG f p bs (mentNs f p (rds ws) g))) := by
  induction h with
  | let0 => rw [gS, if_neg (by decide), if_pos rfl]; show tellG _ _ (gKs [] p f g) = _; rw [gKs]; rfl
  | @let1 ns w =>
    refine ex1e (hw w (.head _)) fun L hL => ?_
    rw [gS, if_neg (by decide), if_pos rfl]; show tellG _ _ (gKs [w] p f g) = _; rw [gKs, gKs, we_gK hL]; simp [rds, bsG, mentNs, Vl.names!]
  | @asg x w =>
    refine ex1e (hw w (.head _)) fun L hL => ?_
    rw [gS, if_neg (by decide), if_neg (by decide), if_pos rfl]; rw [gKs, gKs, we_gK hL]; simp [rds, bsG, mentNs, Vl.names!, tellG]
  | @pop w =>
    refine ex1e (hw w (.head _)) fun L hL => ?_
    rw [gS, if_neg (by decide), if_neg (by decide), if_neg (by decide), gKs, gKs, gK, if_neg (by decide), if_neg (by decide), if_neg (by decide)]
    show mentE f p w g = _
    rw [we_mentE hL]; simp [rds, bsG, mentNs, tellG]
  | @iff w b =>
    refine ex1e (hw w (.head _)) fun L hL => ?_
    rw [gS, if_neg (by decide), if_neg (by decide), if_neg (by decide), gKs, gKs, gKs, we_gK hL, gK_blk]; simp [rds, bsG, mentNs, tellG]
  | @fr w a b =>
    refine ex1e (hw w (.head _)) fun L hL => ?_
    rw [gS, if_neg (by decide), if_neg (by decide), if_neg (by decide), gKs, gKs, gKs, gKs, gKs, we_gK hL, gK_blk, gK_blk, gK_blk, gB.eq_1]; simp [rds, bsG, mentNs, tellG]
  | @sw1 w b =>
    refine ex1e (hw w (.head _)) fun L hL => ?_
    rw [gS, if_neg (by decide), if_neg (by decide), if_neg (by decide), gKs, gKs, gKs, we_gK hL, gK_cs, gKs, gKs, gK_blk]; simp [rds, bsG, mentNs, tellG]
  | @sw2 w v a b =>
    refine ex1e (hw w (.head _)) fun L hL => ?_
    rw [gS, if_neg (by decide), if_neg (by decide), if_neg (by decide), gKs, gKs, gKs, gKs, we_gK hL, gK_cs, gK_cs, gKs, gKs, gKs, gKs, gK_blk, gK_blk]; simp [rds, bsG, mentNs, tellG]
  | blk => rw [gS, if_pos rfl]; rfl
theorem tl_sh {t ws bs tl ml} (h : Shp t ws bs tl ml) : tlOf t = tl := by
  induction h with
  | let0 => exact if_pos rfl
  | let1 => exact if_pos rfl
  | asg => exact if_neg (show ¬ ("assign" : Str) = "let" by decide)
  | pop => exact if_neg (show ¬ ("expr" : Str) = "let" by decide)
  | iff => exact if_neg (show ¬ ("if" : Str) = "let" by decide)
  | fr => exact if_neg (show ¬ ("for" : Str) = "let" by decide)
  | sw1 => exact if_neg (show ¬ ("switch" : Str) = "let" by decide)
  | sw2 => exact if_neg (show ¬ ("switch" : Str) = "let" by decide)
  | blk => exact if_neg (show ¬ ("block" : Str) = "let" by decide)
theorem dn_blk (b : List Nd) : dn (blkN b) = dns b := by unfold dn; rw [if_neg (by decide)]; rfl
theorem dn_sh {t ws bs tl ml} (h : Shp t ws bs tl ml) (hw : ∀ w ∈ ws, ∃ L, WE L w) : dn t = tl ++ dnss bs := by
  have nw : ∀ w ∈ ws, dn w = [] := fun w hx => let ⟨L, hL⟩ := hw w hx; we_dn hL
  induction h with
  | let0 => unfold dn; rw [if_pos rfl]; rfl
  | @let1 ns w => unfold dn; rw [if_pos rfl]; show _ ++ (dn w ++ []) = _; rw [nw w (.head _)]; simp [dnss, Vl.names!]
  | @asg x w => unfold dn; rw [if_neg (by decide)]; show [] ++ (dn w ++ []) = _; rw [nw w (.head _)]; rfl
  | @pop w => unfold dn; rw [if_neg (by decide)]; show [] ++ (dn (callN "pop" [w]) ++ []) = _; unfold dn; rw [if_neg (by decide)]; show [] ++ (([] ++ (dn w ++ [])) ++ []) = _; rw [nw w (.head _)]; rfl
  | @iff w b => unfold dn; rw [if_neg (by decide)]; show [] ++ (dn w ++ (dn (blkN b) ++ [])) = _; rw [nw w (.head _), dn_blk]; rfl
  | @fr w a b => unfold dn; rw [if_neg (by decide)]; show [] ++ (dn (blkN []) ++ (dn w ++ (dn (blkN b) ++ (dn (blkN a) ++ [])))) = _; rw [nw w (.head _), dn_blk, dn_blk, dn_blk]; rfl
  | @sw1 w b =>
    have e1 : dn (caseN .none (blkN b)) = dns b := by unfold dn; rw [if_neg (by decide)]; show [] ++ (dn (blkN b) ++ []) = _; rw [dn_blk]; simp
    unfold dn; rw [if_neg (by decide)]; show [] ++ (dn w ++ (dn (caseN .none (blkN b)) ++ [])) = _; rw [nw w (.head _), e1]; rfl
  | @sw2 w v a b =>
    have e1 : ∀ v b, dn (caseN v (blkN b)) = dns b := fun v b => by unfold dn; rw [if_neg (by decide)]; show [] ++ (dn (blkN b) ++ []) = _; rw [dn_blk]; simp
    unfold dn; rw [if_neg (by decide)]; show [] ++ (dn w ++ (dn (caseN (.int v) (blkN a)) ++ (dn (caseN .none (blkN b)) ++ []))) = _; rw [nw w (.head _), e1, e1]; rfl
  | blk => rw [dn_blk]; simp [dnss]
theorem duNe_blk (b r g) : duNe (blkN b :: r) g = duNe r (setD (rowsAll b) 0 b (duAll b g)) := by
  rw [duNe]
  by_cases hb : b = []
  · subst hb
    rw [if_pos (show (blkN []).kids = [] from rfl), duAll, rowsAll]; rfl
  · rw [if_neg (show ¬ (blkN b).kids = [] from hb), duS, if_pos rfl]
theorem duNe_case (v b r g) : duNe (caseN v (blkN b) :: r) g = duNe r (setD (rowsAll b) 0 b (duAll b g)) := by
  rw [duNe, if_neg (by simp [Nd.kids]), duS, if_neg (by decide), duNe_blk, duNe]
theorem du_sh {t ws bs tl ml} (h : Shp t ws bs tl ml) (hw : ∀ w ∈ ws, ∃ L, WE L w) (g : Fn) : duS t g = bsD bs g := by
  induction h with
  | let0 => rw [duS, if_neg (by decide)]; show duNe [] g = _; rw [duNe]; rfl
  | @let1 ns w => obtain ⟨L, hL⟩ := hw w (.head _); rw [duS, if_neg (by decide)]; show duNe [w] g = _; rw [we_duNe hL, duNe]; rfl
  | @asg x w => obtain ⟨L, hL⟩ := hw w (.head _); rw [duS, if_neg (by decide), we_duNe hL, duNe]; rfl
  | @pop w =>
    refine ex1e (hw w (.head _)) fun L hL => ?_
    rw [duS, if_neg (by decide), duNe, if_neg (by simp [Nd.kids]), duS, if_neg (by decide), we_duNe hL, duNe, duNe]; rfl
  | @iff w b => obtain ⟨L, hL⟩ := hw w (.head _); rw [duS, if_neg (by decide), we_duNe hL, duNe_blk, duNe]; rfl
  | @fr w a b => obtain ⟨L, hL⟩ := hw w (.head _); rw [duS, if_neg (by decide), duNe_blk, we_duNe hL, duNe_blk, duNe_blk, duNe, duAll, rowsAll]; rfl
  | @sw1 w b => obtain ⟨L, hL⟩ := hw w (.head _); rw [duS, if_neg (by decide), we_duNe hL, duNe_case, duNe]; rfl
  | @sw2 w v a b => obtain ⟨L, hL⟩ := hw w (.head _); rw [duS, if_neg (by decide), we_duNe hL, duNe_case, duNe_case, duNe]; rfl
  | blk => rw [duS, if_pos rfl]; rfl
theorem sh_kind {t ws bs tl ml} (h : Shp t ws bs tl ml) : t.kind ≠ "name" := by
  induction h with
  | let0 => exact (show ("let" : Str) ≠ "name" by decide)
  | let1 => exact (show ("let" : Str) ≠ "name" by decide)
  | asg => exact (show ("assign" : Str) ≠ "name" by decide)
  | pop => exact (show ("expr" : Str) ≠ "name" by decide)
  | iff => exact (show ("if" : Str) ≠ "name" by decide)
  | fr => exact (show ("for" : Str) ≠ "name" by decide)
  | sw1 => exact (show ("switch" : Str) ≠ "name" by decide)
  | sw2 => exact (show ("switch" : Str) ≠ "name" by decide)
  | blk => exact (show ("block" : Str) ≠ "name" by decide)
theorem nameKids_nil {B} : ∀ {b : List Nd}, (∀ t ∈ b, PS B t) → nameKids b = []
  | [], _ => rfl
  | t :: r, h => by
    refine ex4e (h t (.head _)) fun ws bs tl ml h9x => ?_
    refine and2e h9x fun hs _ => ?_
    try clear h9x
    rw [nameKids, if_neg (sh_kind hs), nameKids_nil fun u hu => h u (.tail _ hu)]; rfl
theorem Pl.nameKids {d b} (h : Pl d b) : nameKids b = [] := by
  cases d with
  | zero => rw [show b = [] from h]; rfl
  | succ d => exact nameKids_nil h
theorem blk_ne {d b} (h : Pl d b) (r : List Nd) (x : Str) : (x ∈ nameKids (blkN b :: r) ++ (rowsNe (blkN b :: r)).flatten) ↔ x ∈ (rowsAll b).flatten ∨ x ∈ nameKids r ++ (rowsNe r).flatten := by
  rw [nk_blk, rowsNe]
  by_cases hb : b = []
  · subst hb; rw [if_pos (show (blkN []).kids = [] from rfl), rowsAll]; simp
  · rw [if_neg (show ¬ (blkN b).kids = [] from hb), stL, if_neg (by decide), if_pos rfl, h.nameKids]; simp [or_left_comm]
theorem case_ne {d v b} (h : Pl d b) (r : List Nd) (x : Str) : (x ∈ nameKids (caseN v (blkN b) :: r) ++ (rowsNe (caseN v (blkN b) :: r)).flatten) ↔ x ∈ (rowsAll b).flatten ∨ x ∈ nameKids r ++ (rowsNe r).flatten := by
  rw [nk_case, rowsNe, if_neg (by simp [Nd.kids])]
  have : x ∈ stL (caseN v (blkN b)) ↔ x ∈ (rowsAll b).flatten := by
    rw [stL, if_neg (by decide), if_neg (by decide), List.nil_append, blk_ne h]
    rw [Mine.nameKids, rowsNe]; simp
  simp only [List.nil_append, List.mem_append, List.flatten_append, List.flatten_cons, List.flatten_nil, List.append_nil, this]
  constructor <;> rintro (h | h | h) <;> simp [h]
theorem nil_ne (x : Str) : x ∈ nameKids [] ++ (rowsNe []).flatten ↔ False := by rw [Mine.nameKids, rowsNe]; simp
noncomputable def bsR : List (List Nd) → List Str
  | [] => []
  | b :: r => (rowsAll b).flatten ++ bsR r
theorem st_sh {d t ws bs tl ml} (h : Shp t ws bs tl ml) (hw : ∀ w ∈ ws, ∃ L, WE L w) (hb : ∀ b ∈ bs, Pl d b) (x : Str) : x ∈ stL t ↔ x ∈ tl ∨ x ∈ ml ∨ x ∈ rds ws ∨ x ∈ bsR bs := by
  induction h with
  | let0 => rw [stL, if_pos (by simp), if_neg (by decide), List.mem_append]; show _ ∨ x ∈ nameKids [] ++ (rowsNe []).flatten ↔ _; rw [nil_ne]; simp [Vl.names!, rds, bsR]
  | @let1 ns w => obtain ⟨L, hL⟩ := hw w (.head _); rw [stL, if_pos (by simp), if_neg (by decide), List.mem_append]; show _ ∨ x ∈ nameKids [w] ++ (rowsNe [w]).flatten ↔ _; rw [we_ne hL, nil_ne]; simp [Vl.names!, rds, bsR]
  | @asg y w => obtain ⟨L, hL⟩ := hw w (.head _); rw [stL, if_pos (by simp), if_neg (by decide), List.mem_append, we_ne hL, nil_ne]; simp [Vl.names!, rds, bsR]
  | @pop w =>
    refine ex1e (hw w (.head _)) fun L hL => ?_
    have : x ∈ stL (callN "pop" [w]) ↔ x ∈ rd w := by rw [stL, if_neg (by decide), if_neg (by decide), List.nil_append, we_ne hL, nil_ne]; simp
    rw [stL, if_neg (by decide), if_neg (by decide), List.nil_append, nk_call, rowsNe, if_neg (by simp [Nd.kids]), Mine.nameKids, rowsNe]
    simp [this, rds, bsR]
  | @iff w b => obtain ⟨L, hL⟩ := hw w (.head _); rw [stL, if_neg (by decide), if_neg (by decide), List.nil_append, we_ne hL, blk_ne (hb b (.head _)), nil_ne]; simp [rds, bsR]
  | @fr w a b => obtain ⟨L, hL⟩ := hw w (.head _); rw [stL, if_neg (by decide), if_neg (by decide), List.nil_append, blk_ne (Pl.nil 0), we_ne hL, blk_ne (hb b (.head _)), blk_ne (hb a (.tail _ (.head _))), nil_ne, rowsAll]; simp [rds, bsR]
  | @sw1 w b => obtain ⟨L, hL⟩ := hw w (.head _); rw [stL, if_neg (by decide), if_neg (by decide), List.nil_append, we_ne hL, case_ne (hb b (.head _)), nil_ne]; simp [rds, bsR]
  | @sw2 w v a b => obtain ⟨L, hL⟩ := hw w (.head _); rw [stL, if_neg (by decide), if_neg (by decide), List.nil_append, we_ne hL, case_ne (hb a (.head _)), case_ne (hb b (.tail _ (.head _))), nil_ne]; simp [rds, bsR]
  | @blk b => rw [stL, if_neg (by decide), if_pos rfl, List.nil_append, (hb b (.head _)).nameKids]; simp [rds, bsR]

-- P6

noncomputable def lastI (x : Str) : List (List Str) → Int → Int → Int
  | [], _, v => v
  | r :: rs, i, v => lastI x rs (i + 1) (if x ∈ r then i else v)
theorem mentNs_some {f : Fn} {p : List Int} {x : Str} {h : Int} (hx : f x = some h) : ∀ (ns : List Str) (g : Fn), mentNs f p ns g x = if x ∈ ns then some (p.getD h.toNat 0) else g x
  | [], g => by simp [mentNs]
  | y :: r, g => by
    rw [mentNs, mentNs_some hx r]
    unfold mentG
    by_cases e : y = x
    · subst e
      rw [hx]; simp [upd]
    · have e' : x ≠ y := fun h => e h.symm
      cases f y <;> simp [upd, e']
theorem mentNs_none {f : Fn} {p : List Int} {x : Str} (hx : f x = none) : ∀ (ns : List Str) (g : Fn), mentNs f p ns g x = g x
  | [], g => rfl
  | y :: r, g => by
    rw [mentNs, mentNs_none hx r]
    unfold mentG
    by_cases e : y = x
    · subst e; rw [hx]
    · have e' : x ≠ y := fun h => e h.symm
      cases f y <;> simp [upd, e']
theorem tellG_at (i : Int) (x : Str) : ∀ (ns : List Str) (g : Fn), tellG i ns g x = if x ∈ ns then some i else g x
  | [], g => by simp [tellG]
  | y :: r, g => by
    rw [tellG, tellG_at i x r]
    by_cases e : x = y <;> simp [upd, e]
theorem getD_snoc {p : List Int} {i h : Int} (h0 : 0 ≤ h) (h1 : h < p.length) : (p ++ [i]).getD h.toNat 0 = p.getD h.toNat 0 := by
  rw [List.getD_eq_getElem?_getD, List.getD_eq_getElem?_getD, List.getElem?_append_left (by omega)]
theorem getD_last {p : List Int} {i : Int} : (p ++ [i]).getD (p.length : Int).toNat 0 = i := by
  rw [List.getD_eq_getElem?_getD]; simp
theorem getLastD_snoc {p : List Int} {i : Int} : (p ++ [i]).getLastD 0 = i := by simp
theorem ext_out {f : Fn} {ns : List Str} {d : Int} {x : Str} (h : x ∉ ns) : ext f ns d x = f x := by unfold ext; rw [if_neg h]
theorem ext_in {f : Fn} {ns : List Str} {d : Int} {x : Str} (h : x ∈ ns) : ext f ns d x = some d := by unfold ext; rw [if_pos h]
theorem extIf {f : Fn} {t : Nd} {d : Int} : (if t.kind = "let" then ext f t.names d else f) = ext f (tlOf t) d := by
  unfold tlOf; split
  · rfl
  · rw [ext_nil]
theorem gB_cons {t : Nd} {r p f i g} : gB (t :: r) p f i g = gB r p (ext f (tlOf t) p.length) (i + 1) (gS t (p ++ [i]) f g) := by rw [gB, extIf]
theorem dns_cons (t : Nd) (r : List Nd) : dns (t :: r) = dn t ++ dns r := rfl
theorem dnss_mem {x : Str} : ∀ {bs : List (List Nd)}, x ∈ dnss bs ↔ ∃ b ∈ bs, x ∈ dns b
  | [] => by simp [dnss]
  | b :: r => by simp [dnss, dnss_mem (bs := r)]
theorem tl_dn {t ws bs tl ml} (h : Shp t ws bs tl ml) (hw : ∀ w ∈ ws, ∃ L, WE L w) : tlOf t = tl ∧ dn t = tl ++ dnss bs := ⟨tl_sh h, dn_sh h hw⟩

theorem gB_none : ∀ (d : Nat) (kids : List Nd), Pl d kids → ∀ p f i g x, f x = none → x ∉ dns kids → gB kids p f i g x = g x := by
  intro d
  induction d with
  | zero => intro kids h; rw [show kids = [] from h]; intros; rw [gB]
  | succ d ih =>
    intro kids
    induction kids with
    | nil => intros; rw [gB]
    | cons t r ihr =>
      intro h p f i g x hf hx
      refine hide fun G9 hG9 => ?_
      refine ex4e (h.head) fun ws bs tl ml h9x => ?_
      refine and3e h9x fun hs hw hb => ?_
      try clear h9x
      refine and2e (tl_dn hs hw) fun et ed => ?_
      refine hG9 ?_; clear hG9 G9
      rw [dns_cons, ed, List.mem_append, List.mem_append] at hx
      simp only [not_or] at hx
      refine and2e hx fun n9a x3 => ?_
      try clear hx
      obtain ⟨x1, x2⟩ := n9a
      rw [gB_cons, ihr h.tail _ _ _ _ x (by rw [et, ext_out x1]; exact hf) x3, gS_sh hs hw, tellG_at, if_neg x1, mentNs_none hf]
      have : ∀ (bs : List (List Nd)) g, (∀ b ∈ bs, Pl d b) → x ∉ dnss bs → bsG f (p ++ [i]) bs g x = g x := by
        intro bs
        induction bs with
        | nil => intros; rfl
        | cons b bs ihb =>
          intro g hb hx
          simp only [dnss, List.mem_append, not_or] at hx
          rw [bsG, ihb _ (fun c hc => hb c (.tail _ hc)) hx.2, ih b (hb b (.head _)) _ _ _ _ x hf hx.1]
      rw [this bs _ hb x2, mentNs_none hf]
theorem gB_some : ∀ (d : Nat) (kids : List Nd), Pl d kids → ∀ p f i g x h, f x = some h → 0 ≤ h → h < (p.length : Int) → x ∉ dns kids → gB kids p f i g x = if x ∈ (rowsAll kids).flatten then some (p.getD h.toNat 0) else g x := by
  intro d
  induction d with
  | zero => intro kids h; rw [show kids = [] from h]; intros; rw [gB, rowsAll]; simp
  | succ d ih =>
    intro kids
    induction kids with
    | nil => intros; rw [gB, rowsAll]; simp
    | cons t r ihr =>
      intro hp p f i g x h hf h0 h1 hx
      refine hide fun G9 hG9 => ?_
      refine ex4e (hp.head) fun ws bs tl ml h9x => ?_
      refine and3e h9x fun hs hw hb => ?_
      try clear h9x
      refine and2e (tl_dn hs hw) fun et ed => ?_
      refine hG9 ?_; clear hG9 G9
      rw [dns_cons, ed, List.mem_append, List.mem_append] at hx
      simp only [not_or] at hx
      refine and2e hx fun n9a x3 => ?_
      try clear hx
      obtain ⟨x1, x2⟩ := n9a
      rw [gB_cons, ihr hp.tail _ _ _ _ x h (by rw [et, ext_out x1]; exact hf) h0 h1 x3, gS_sh hs hw, tellG_at, if_neg x1, mentNs_some hf, getD_snoc h0 h1]
      have : ∀ (bs : List (List Nd)) g, (∀ b ∈ bs, Pl d b) → x ∉ dnss bs → bsG f (p ++ [i]) bs g x = if x ∈ bsR bs then some (p.getD h.toNat 0) else g x := by
        intro bs
        induction bs with
        | nil => intros; simp [bsG, bsR]
        | cons b bs ihb =>
          intro g hb hx
          simp only [dnss, List.mem_append, not_or] at hx
          rw [bsG, ihb _ (fun c hc => hb c (.tail _ hc)) hx.2, ih b (hb b (.head _)) _ _ _ _ x h hf h0 (by simp; omega) hx.1, getD_snoc h0 h1, bsR]
          by_cases a1 : x ∈ bsR bs <;> by_cases a2 : x ∈ (rowsAll b).flatten <;> simp only [a1, a2, List.mem_append, or_true, true_or, or_self, if_true, if_false]
      rw [this bs _ hb x2, mentNs_some hf, getD_snoc h0 h1, rowsAll, List.flatten_cons]
      have hst := st_sh hs hw hb x
      simp only [x1, false_or] at hst
      by_cases a1 : x ∈ (rowsAll r).flatten
      · simp only [a1, List.mem_append, or_true, if_true]
      · by_cases a2 : x ∈ ml <;> by_cases a3 : x ∈ bsR bs <;> by_cases a4 : x ∈ rds ws <;> simp only [a1, a2, a3, a4, hst, List.mem_append, or_true, true_or, or_self, if_true, if_false]
theorem gS_some {d t p f g x h} (hp : PS (Pl d) t) (hf : f x = some h) (h0 : 0 ≤ h) (h1 : h < (p.length : Int)) (hx : x ∉ dn t) : gS t p f g x = if x ∈ stL t then some (p.getD h.toNat 0) else g x := by
  refine hide fun G9 hG9 => ?_
  refine ex4e hp fun ws bs tl ml h9x => ?_
  refine and3e h9x fun hs hw hb => ?_
  try clear h9x hp
  refine and2e (tl_dn hs hw) fun et ed => ?_
  refine hG9 ?_; clear hG9 G9
  rw [ed, List.mem_append] at hx
  simp only [not_or] at hx
  refine and2e hx fun x1 x2 => ?_
  try clear hx
  rw [gS_sh hs hw, tellG_at, if_neg x1, mentNs_some hf]
  have : ∀ (bs : List (List Nd)) g, (∀ b ∈ bs, Pl d b) → x ∉ dnss bs → bsG f p bs g x = if x ∈ bsR bs then some (p.getD h.toNat 0) else g x := by
    intro bs
    induction bs with
    | nil => intros; simp [bsG, bsR]
    | cons b bs ihb =>
      intro g hb hx
      simp only [dnss, List.mem_append, not_or] at hx
      rw [bsG, ihb _ (fun c hc => hb c (.tail _ hc)) hx.2, gB_some d b (hb b (.head _)) _ _ _ _ x h hf h0 h1 hx.1, bsR]
      by_cases a1 : x ∈ bsR bs <;> by_cases a2 : x ∈ (rowsAll b).flatten <;> simp only [a1, a2, List.mem_append, or_true, true_or, or_self, if_true, if_false]
  rw [this bs _ hb x2, mentNs_some hf]
  have hst := st_sh hs hw hb x
  simp only [x1, false_or] at hst
  by_cases a2 : x ∈ ml <;> by_cases a3 : x ∈ bsR bs <;> by_cases a4 : x ∈ rds ws <;> simp only [a2, a3, a4, hst, or_true, true_or, or_self, if_true, if_false]
theorem gB_home {d} : ∀ (kids : List Nd), Pl (d + 1) kids → ∀ (p : List Int) f i g x v, f x = some (p.length : Int) → x ∉ dns kids → g x = some v → gB kids p f i g x = some (lastI x (rowsAll kids) i v)
  | [], _, p, f, i, g, x, v, hf, hx, hg => by rw [gB, rowsAll, hg]; rfl
  | t :: r, hp, p, f, i, g, x, v, hf, hx, hg => by
    rw [dns_cons, List.mem_append] at hx
    simp only [not_or] at hx
    have x1 : x ∉ tlOf t := by
      refine hide fun G9 hG9 => ?_
      refine ex4e (hp.head) fun ws bs tl ml h9x => ?_
      refine and3e h9x fun hs hw hb => ?_
      try clear h9x
      refine and2e (tl_dn hs hw) fun et ed => ?_
      refine hG9 ?_; clear hG9 G9
      have := hx.1; rw [ed] at this; rw [et]; exact fun h => this (List.mem_append_left _ h)
    rw [gB_cons, rowsAll, lastI]
    refine gB_home r hp.tail p _ _ _ x _ (by rw [ext_out x1]; exact hf) hx.2 ?_
    rw [gS_some hp.head hf (by omega) (by rw [List.length_append, List.length_singleton]; omega) hx.1, getD_last, hg]
    split <;> rfl

-- P7

theorem ks_last (x : Str) : ∀ (q : List (List Str)) (a : Nat) (v : Int), ((((List.range q.length).filter fun i => decide (x ∈ q.getD i [])).map fun i => ((a + i : Nat) : Int)).getLastD v) = lastI x q a v
  | [], a, v => rfl
  | r :: q, a, v => by
    rw [List.length_cons, List.range_succ_eq_map, List.filter_cons, lastI, List.filter_map]
    have e1 : (((List.range q.length).filter ((fun i => decide (x ∈ (r :: q).getD i [])) ∘ Nat.succ)).map Nat.succ).map (fun i => ((a + i : Nat) : Int)) = ((List.range q.length).filter fun i => decide (x ∈ q.getD i [])).map fun i => ((a + 1 + i : Nat) : Int) := by
      rw [List.map_map]
      congr 1
      funext i; simp only [Function.comp, Nat.succ_eq_add_one]; omega
    have := ks_last x q (a + 1) (if x ∈ r then (a : Int) else v)
    rw [show ((a : Int) + 1) = ((a + 1 : Nat) : Int) by omega, ← this, ← e1]
    by_cases h : x ∈ r
    · have h' : (decide (x ∈ (r :: q).getD 0 [])) = true := by simpa using h
      rw [if_pos h', if_pos h, List.map_cons, List.getLastD_cons]; rfl
    · have h' : ¬ (decide (x ∈ (r :: q).getD 0 [])) = true := by simpa using h
      rw [if_neg h', if_neg h]
theorem ksOf_last (rows : List (List Str)) (a : Nat) (x : Str) (v : Int) : (ksOf rows a x).getLastD v = lastI x (rows.drop a) a v := by
  rw [← ks_last, ksOf, List.length_drop]
  congr 2
  congr 1
  funext i
  rw [List.getD_eq_getElem?_getD, List.getD_eq_getElem?_getD, List.getElem?_drop]
theorem rowsAll_drop : ∀ (ks : List Nd) (a : Nat), (rowsAll ks).drop a = rowsAll (ks.drop a)
  | ks, 0 => rfl
  | [], a + 1 => by rw [rowsAll]; rfl
  | t :: r, a + 1 => by rw [rowsAll, List.drop_succ_cons, List.drop_succ_cons, rowsAll_drop r a]
theorem drop_get {kids : List Nd} {j : Nat} {t : Nd} (h : kids[j]? = some t) : kids.drop j = t :: kids.drop (j + 1) := by
  refine ex1e (List.getElem?_eq_some_iff.mp h) fun h1 h2 => ?_
  rw [List.drop_eq_getElem_cons h1, h2]
theorem lastK_at {kids : List Nd} {j : Nat} {t : Nd} {x : Str} (h : kids[j]? = some t) (hx : x ∈ stL t) : lastK (rowsAll kids) j x = lastI x (rowsAll (kids.drop (j + 1))) (j + 1) j := by
  rw [lastK, ksOf_last, rowsAll_drop, drop_get h, rowsAll, lastI, if_pos hx]
noncomputable def DuB : Nat → Fn → List Nd → Prop
  | 0 => fun _ _ => True
  | d + 1 => fun g kids => ∀ (j : Nat) t, kids[j]? = some t → (∀ x ∈ tlOf t, g x = some (lastI x (rowsAll (kids.drop (j + 1))) (j + 1) j)) ∧ ∀ ws bs tl ml, Shp t ws bs tl ml → ∀ b ∈ bs, DuB d g b
theorem PS.bs {B t ws bs tl ml} (h : PS B t) (hs : Shp t ws bs tl ml) : (∀ w ∈ ws, ∃ L, WE L w) ∧ ∀ b ∈ bs, B b := by
  refine hide fun G9 hG9 => ?_
  refine ex4e h fun ws' bs' tl' ml' h9x => ?_
  refine and3e h9x fun hs' hw hb => ?_
  try clear h9x h
  refine and2e (hs.uniq hs') fun e1 e2 => ?_
  refine hG9 ?_; clear hG9 G9
  rw [← e1, ← e2]; exact ⟨hw, hb⟩
theorem dns_get {kids : List Nd} {j : Nat} {t : Nd} (h : kids[j]? = some t) : ∀ x ∈ dn t, x ∈ dns kids := fun x hx => (dn_sub (List.mem_of_getElem? h)).subset hx
theorem dns_blk {d t ws bs tl ml b x} (hp : PS (Pl d) t) (hs : Shp t ws bs tl ml) (hb : b ∈ bs) (hx : x ∈ dns b) : x ∈ dn t := by
  rw [dn_sh hs (hp.bs hs).1]; exact List.mem_append_right _ (dnss_mem.mpr ⟨b, hb, hx⟩)
theorem DuB.congr : ∀ (d : Nat) {g g' : Fn} {kids : List Nd}, Pl d kids → DuB d g kids → (∀ x ∈ dns kids, g' x = g x) → DuB d g' kids
  | 0, _, _, _, _, _, _ => trivial
  | d + 1, g, g', kids, hp, h, e => fun j t ht => by
    have hpt := hp t (List.mem_of_getElem? ht)
    refine and2e (h j t ht) fun a1 a2 => ?_
    refine ⟨fun x hx => ?_, fun ws bs tl ml hs b hb => DuB.congr d ((hpt.bs hs).2 b hb) (a2 ws bs tl ml hs b hb) fun x hx => e x (dns_get ht x (dns_blk hpt hs hb hx))⟩
    rw [e x ?_, a1 x hx]
    refine ex4e hpt fun ws bs tl ml h9x => ?_
    refine and3e h9x fun hs hw hb => ?_
    try clear h9x hpt
    refine dns_get ht x ?_
    rw [(tl_dn hs hw).2, ← (tl_dn hs hw).1]; exact List.mem_append_left _ hx
theorem DuB.uniq : ∀ (d : Nat) {g g' : Fn} {kids : List Nd}, Pl d kids → DuB d g kids → DuB d g' kids → ∀ x ∈ dns kids, g x = g' x
  | 0, _, _, kids, hp, _, _, x, hx => by rw [show kids = [] from hp] at hx; cases hx
  | d + 1, g, g', kids, hp, h, h', x, hx => by
    have : ∃ (j : Nat) (t : Nd), kids[j]? = some t ∧ x ∈ dn t := by
      clear h h' hp
      induction kids with
      | nil => cases hx
      | cons t r ih =>
        rw [dns_cons, List.mem_append] at hx
        rcases hx with hx | hx
        · exact (ex2i 0 t ⟨rfl, hx⟩)
        · obtain ⟨j, u, e1, e2⟩ := ih hx; exact ⟨j + 1, u, by simpa using e1, e2⟩
    refine hide fun G9 hG9 => ?_
    refine ex2e this fun j t h9x => ?_
    refine and2e h9x fun ht hxt => ?_
    try clear h9x this
    refine ex4e (hp t (List.mem_of_getElem? ht)) fun ws bs tl ml h9x => ?_
    refine and3e h9x fun hs hw hb => ?_
    try clear h9x
    refine hG9 ?_; clear hG9 G9
    rw [(tl_dn hs hw).2, ← (tl_dn hs hw).1, List.mem_append] at hxt
    rcases hxt with hxt | hxt
    · rw [(h j t ht).1 x hxt, (h' j t ht).1 x hxt]
    · refine ex1e (dnss_mem.mp hxt) fun b h9x => ?_
      refine and2e h9x fun hb' hxb => ?_
      try clear h9x
      exact DuB.uniq d (hb b hb') ((h j t ht).2 _ _ _ _ hs b hb') ((h' j t ht).2 _ _ _ _ hs b hb') x hxb
theorem nodup_dnss {bs : List (List Nd)} (h : (dnss bs).Nodup) : ∀ b ∈ bs, (dns b).Nodup := by
  induction bs with
  | nil => intro b hb; cases hb
  | cons c r ih =>
    intro b hb
    rw [dnss, List.nodup_append] at h
    rcases List.mem_cons.mp hb with rfl | hb
    · exact h.1
    · exact ih h.2.1 b hb
theorem gB_du : ∀ (d : Nat) (kids : List Nd), Pl d kids → ∀ p f g, (dns kids).Nodup → (∀ x ∈ dns kids, f x = none) → DuB d (gB kids p f 0 g) kids := by
  intro d
  induction d with
  | zero => intros; trivial
  | succ d ih =>
    have gen : ∀ (kids : List Nd), Pl (d + 1) kids → ∀ p f (i : Nat) g, (dns kids).Nodup → (∀ x ∈ dns kids, f x = none) → ∀ (j : Nat) t, kids[j]? = some t →
        (∀ x ∈ tlOf t, gB kids p f i g x = some (lastI x (rowsAll (kids.drop (j + 1))) (i + j + 1) ((i + j : Nat) : Int))) ∧ ∀ ws bs tl ml, Shp t ws bs tl ml → ∀ b ∈ bs, DuB d (gB kids p f i g) b := by
      intro kids
      induction kids with
      | nil => intro _ p f i g _ _ j t ht; simp at ht
      | cons t0 r ihr =>
        intro hp p f i g nd hf j t ht
        rw [dns_cons, List.nodup_append] at nd
        refine hide fun G9 hG9 => ?_
        refine and3e nd fun nd1 nd2 nd3 => ?_
        try clear nd
        refine ex4e (hp.head) fun ws bs tl ml h9x => ?_
        refine and3e h9x fun hs hw hb => ?_
        try clear h9x
        refine and2e (tl_dn hs hw) fun et ed => ?_
        refine hG9 ?_; clear hG9 G9
        have hfr : ∀ x ∈ dns r, ext f (tlOf t0) p.length x = none := fun x hx => by
          rw [ext_out, hf x (by rw [dns_cons]; exact List.mem_append_right _ hx)]
          intro hx2
          exact nd3 x (by rw [ed, ← et]; exact List.mem_append_left _ hx2) x hx rfl
        rw [gB_cons]
        cases j with
        | succ j =>
          have := ihr hp.tail p (ext f (tlOf t0) p.length) (i + 1) (gS t0 (p ++ [(i : Int)]) f g) nd2 hfr j t (by simpa using ht)
          rw [show ((i : Int) + 1) = ((i + 1 : Nat) : Int) by omega, show (((i : Int) + ((j + 1 : Nat) : Int)) + 1) = (((i + 1 : Nat) : Int) + (j : Nat)) + 1 by omega, show i + (j + 1) = i + 1 + j by omega]
          exact this
        | zero =>
          cases ht
          rw [ed, List.nodup_append] at nd1
          refine ⟨fun x hx => ?_, fun ws' bs' tl' ml' hs' b hb' => ?_⟩
          · have hxr : x ∉ dns r := fun h => nd3 x (by rw [ed, ← et]; exact List.mem_append_left _ hx) x h rfl
            rw [gB_home r hp.tail p _ _ _ x ((i : Nat) : Int) (by rw [ext_in hx]) hxr (by rw [gS_sh hs hw, tellG_at, if_pos (by rw [← et]; exact hx), getLastD_snoc])]
            simp
          · have hsame : dnss bs' = dnss bs ∧ ∀ b ∈ bs', b ∈ bs := by
              rw [(hs.uniq hs').2]; exact ⟨rfl, fun _ h => h⟩
            have hbb := hsame.2 b hb'
            have hfb : ∀ x ∈ dnss bs, f x = none := fun x hx => hf x (by rw [dns_cons, ed]; exact List.mem_append_left _ (List.mem_append_right _ hx))
            have step : ∀ (bs : List (List Nd)) g, (∀ b ∈ bs, Pl d b) → (dnss bs).Nodup → (∀ x ∈ dnss bs, f x = none) → ∀ b ∈ bs, DuB d (bsG f (p ++ [(i : Int)]) bs g) b := by
              intro bs
              induction bs with
              | nil => intro g _ _ _ b hb; cases hb
              | cons c bs ihb =>
                intro g hb nd hf b hbm
                rw [dnss, List.nodup_append] at nd
                rw [bsG]
                rcases List.mem_cons.mp hbm with rfl | hbm
                · refine DuB.congr d (hb _ (.head _)) (ih _ (hb _ (.head _)) (p ++ [(i : Int)]) f g nd.1 fun x hx => hf x (List.mem_append_left _ hx)) fun x hx => ?_
                  have hno : x ∉ dnss bs := fun h => nd.2.2 x hx x h rfl
                  have hfx := hf x (List.mem_append_left _ hx)
                  have : ∀ (bs : List (List Nd)) g, (∀ b ∈ bs, Pl d b) → x ∉ dnss bs → bsG f (p ++ [(i : Int)]) bs g x = g x := by
                    intro bs
                    induction bs with
                    | nil => intros; rfl
                    | cons b bs ihb =>
                      intro g hb hx
                      simp only [dnss, List.mem_append, not_or] at hx
                      rw [bsG, ihb _ (fun c hc => hb c (.tail _ hc)) hx.2, gB_none d b (hb b (.head _)) _ _ _ _ x hfx hx.1]
                  exact this bs _ (fun c hc => hb c (.tail _ hc)) hno
                · exact ihb _ (fun c hc => hb c (.tail _ hc)) nd.2.1 (fun x hx => hf x (List.mem_append_right _ hx)) b hbm
            refine DuB.congr d (hb b hbb) (step bs (mentNs f (p ++ [(i : Int)]) (rds ws) g) hb nd1.2.1 hfb b hbb) fun x hx => ?_
            have hxd : x ∈ dnss bs := dnss_mem.mpr ⟨b, hbb, hx⟩
            have hxt : x ∉ tl := fun h => nd1.2.2 x h x hxd rfl
            have hxr : x ∉ dns r := fun h => nd3 x (by rw [ed]; exact List.mem_append_right _ hxd) x h rfl
            rw [gB_none (d + 1) r hp.tail _ _ _ _ x (by rw [et, ext_out hxt]; exact hfb x hxd) hxr, gS_sh hs hw, tellG_at, if_neg hxt, mentNs_none (hfb x hxd)]
    intro kids hp p f g nd hf j t ht
    have := gen kids hp p f 0 g nd hf j t ht
    simpa using this
theorem setNs_at (rows a x) : ∀ (ns : List Str) (g : Fn), setNs rows a ns g x = if x ∈ ns then some (lastK rows a x) else g x
  | [], g => by simp [setNs]
  | y :: r, g => by
    rw [setNs, setNs_at rows a x r]
    by_cases e : x = y <;> simp [upd, e]
theorem setD_cons (rows) (i : Nat) (t : Nd) (r : List Nd) (g : Fn) : setD rows i (t :: r) g = setD rows (i + 1) r (setNs rows i (tlOf t) g) := by rw [setD]; rfl
noncomputable def tls : List Nd → List Str
  | [] => []
  | t :: r => tlOf t ++ tls r
theorem setD_out (rows x) : ∀ (i : Nat) (ks : List Nd) (g : Fn), x ∉ tls ks → setD rows i ks g x = g x
  | i, [], g, _ => rfl
  | i, t :: r, g, h => by
    simp only [tls, List.mem_append, not_or] at h
    rw [setD_cons, setD_out rows x (i + 1) r _ h.2, setNs_at, if_neg h.1]
theorem setD_in (rows x) : ∀ (i : Nat) (ks : List Nd) (g : Fn), (tls ks).Nodup → ∀ (j : Nat) t, ks[j]? = some t → x ∈ tlOf t → setD rows i ks g x = some (lastK rows (i + j) x)
  | i, [], g, _, j, t, h, _ => by simp at h
  | i, t0 :: r, g, nd, j, t, h, hx => by
    rw [tls, List.nodup_append] at nd
    rw [setD_cons]
    cases j with
    | zero =>
      cases h
      rw [setD_out rows x (i + 1) r _ (fun h => nd.2.2 x hx x h rfl), setNs_at, if_pos hx]; rfl
    | succ j =>
      rw [setD_in rows x (i + 1) r _ nd.2.1 j t (by simpa using h) hx, show i + 1 + j = i + (j + 1) by omega]
theorem tls_dns {d} : ∀ {ks : List Nd}, Pl (d + 1) ks → (tls ks).Sublist (dns ks)
  | [], _ => List.Sublist.refl _
  | t :: r, h => by
    refine ex4e (h.head) fun ws bs tl ml h9x => ?_
    refine and3e h9x fun hs hw hb => ?_
    try clear h9x
    rw [tls, dns_cons, (tl_dn hs hw).2, (tl_dn hs hw).1]
    exact List.Sublist.append (List.sublist_append_left _ _) (tls_dns h.tail)
theorem due_du : ∀ (d : Nat) (kids : List Nd), Pl d kids → (dns kids).Nodup → ∀ g, DuB d (setD (rowsAll kids) 0 kids (duAll kids g)) kids ∧ ∀ x, x ∉ dns kids → setD (rowsAll kids) 0 kids (duAll kids g) x = g x := by
  intro d
  induction d with
  | zero => intro kids h nd g; rw [show kids = [] from h]; refine ⟨trivial, fun x _ => ?_⟩; rw [duAll, rowsAll]; rfl
  | succ d ih =>
    have hb : ∀ (bs : List (List Nd)), (∀ b ∈ bs, Pl d b) → (dnss bs).Nodup → ∀ g, (∀ b ∈ bs, DuB d (bsD bs g) b) ∧ ∀ x, x ∉ dnss bs → bsD bs g x = g x := by
      intro bs
      induction bs with
      | nil => intro _ _ g; exact ⟨fun b hb => absurd hb (List.not_mem_nil), fun _ _ => rfl⟩
      | cons c bs ihb =>
        intro hb nd g
        rw [dnss, List.nodup_append] at nd
        have a := ih c (hb c (.head _)) nd.1 g
        have b := ihb (fun x hx => hb x (.tail _ hx)) nd.2.1 (setD (rowsAll c) 0 c (duAll c g))
        refine ⟨fun x hx => ?_, fun x hx => ?_⟩
        · rcases List.mem_cons.mp hx with rfl | hx
          · exact DuB.congr d (hb _ (.head _)) a.1 fun y hy => b.2 y fun h => nd.2.2 y hy y h rfl
          · exact b.1 x hx
        · simp only [dnss, List.mem_append, not_or] at hx
          rw [bsD, b.2 x hx.2, a.2 x hx.1]
    have ha : ∀ (kids : List Nd), Pl (d + 1) kids → (dns kids).Nodup → ∀ g, (∀ (j : Nat) t, kids[j]? = some t → ∀ ws bs tl ml, Shp t ws bs tl ml → ∀ b ∈ bs, DuB d (duAll kids g) b) ∧ ∀ x, x ∉ dns kids → duAll kids g x = g x := by
      intro kids
      induction kids with
      | nil => intro _ _ g; rw [duAll]; exact ⟨fun j t h => by simp at h, fun _ _ => rfl⟩
      | cons t0 r ihr =>
        intro hp nd g
        rw [dns_cons, List.nodup_append] at nd
        refine hide fun G9 hG9 => ?_
        refine ex4e (hp.head) fun ws bs tl ml h9x => ?_
        refine and3e h9x fun hs hw hbs => ?_
        try clear h9x
        refine and2e (tl_dn hs hw) fun et ed => ?_
        refine hG9 ?_; clear hG9 G9
        have nd1 := nd.1
        rw [ed, List.nodup_append] at nd1
        have a := hb bs hbs nd1.2.1 g
        have b := ihr hp.tail nd.2.1 (duS t0 g)
        rw [duAll]
        refine ⟨fun j t ht ws' bs' tl' ml' hs' c hc => ?_, fun x hx => ?_⟩
        · cases j with
          | succ j => exact b.1 j t (by simpa using ht) ws' bs' tl' ml' hs' c hc
          | zero =>
            cases ht
            have hp0 := hp.head
            have e2 := du_sh hs' (hp0.bs hs').1 g
            have ed' := dn_sh hs' (hp0.bs hs').1
            have nd1' := nd.1
            rw [ed', List.nodup_append] at nd1'
            have a' := hb bs' (hp0.bs hs').2 nd1'.2.1 g
            refine DuB.congr d ((hp0.bs hs').2 c hc) (a'.1 c hc) fun x hx => ?_
            have hx0 : x ∈ dn t0 := dns_blk hp0 hs' hc hx
            rw [b.2 x fun h => nd.2.2 x hx0 x h rfl, e2]
        · rw [dns_cons, List.mem_append] at hx
          simp only [not_or] at hx
          rw [b.2 x hx.2, du_sh hs hw, a.2 x fun h => hx.1 (by rw [ed]; exact List.mem_append_right _ h)]
    intro kids hp nd g
    have a := ha kids hp nd g
    have sub := tls_dns hp
    refine ⟨fun j t ht => ?_, fun x hx => by rw [setD_out _ _ _ _ _ fun h => hx (sub.subset h), a.2 x hx]⟩
    have hpt := hp t (List.mem_of_getElem? ht)
    refine ⟨fun x hx => ?_, fun ws bs tl ml hs b hb' => ?_⟩
    · have hst : x ∈ stL t := by
        refine ex4e hpt fun ws bs tl ml h9x => ?_
        refine and3e h9x fun hs hw hbs => ?_
        try clear h9x hpt
        rw [st_sh hs hw hbs]; rw [(tl_dn hs hw).1] at hx; exact .inl hx
      rw [setD_in _ x 0 kids _ (nd.sublist sub) j t ht hx, Nat.zero_add, lastK_at ht hst]
    · refine DuB.congr d ((hpt.bs hs).2 b hb') (a.1 j t ht ws bs tl ml hs b hb') fun x hx => setD_out _ _ _ _ _ fun h => ?_
      -- a told name of the block is no name of an inner one
      have : ∀ (kids : List Nd), Pl (d + 1) kids → (dns kids).Nodup → ∀ (j : Nat) t, kids[j]? = some t → ∀ ws bs tl ml, Shp t ws bs tl ml → x ∈ dnss bs → x ∉ tls kids := by
        intro kids
        induction kids with
        | nil => intro _ _ j t h; simp at h
        | cons t0 r ihr =>
          intro hp nd j t ht ws bs tl ml hs hx hm
          rw [dns_cons, List.nodup_append] at nd
          rw [tls, List.mem_append] at hm
          have hd0 : x ∈ tlOf t0 → x ∈ dn t0 := fun h => by
            refine ex4e (hp.head) fun ws bs tl ml h9x => ?_
            refine and3e h9x fun hs hw hbs => ?_
            try clear h9x
            rw [(tl_dn hs hw).2, ← (tl_dn hs hw).1]; exact List.mem_append_left _ h
          cases j with
          | zero =>
            cases ht
            have hw := (hp.head.bs hs).1
            have hxd : x ∈ dn t0 := by rw [dn_sh hs hw]; exact List.mem_append_right _ hx
            rcases hm with hm | hm
            · have nd1 := nd.1
              rw [dn_sh hs hw, List.nodup_append] at nd1
              rw [tl_sh hs] at hm
              exact nd1.2.2 x hm x hx rfl
            · exact nd.2.2 x hxd x ((tls_dns hp.tail).subset hm) rfl
          | succ j =>
            have ht' : r[j]? = some t := by simpa using ht
            have hxr : x ∈ dns r := dns_get ht' x (by rw [dn_sh hs ((hp.tail t (List.mem_of_getElem? ht')).bs hs).1]; exact List.mem_append_right _ hx)
            rcases hm with hm | hm
            · exact nd.2.2 x (hd0 hm) x hxr rfl
            · exact ihr hp.tail nd.2.1 j t ht' ws bs tl ml hs hx hm
      exact this kids hp nd j t ht ws bs tl ml hs (dnss_mem.mpr ⟨b, hb', hx⟩) h
theorem live_due {d : Nat} {kids : List Nd} {ps : List Str} (hp : Pl (d + 1) kids) (nd : (dns kids).Nodup) (hps : ∀ x ∈ ps, x ∉ dns kids) :
    gB kids [] (fun x => if x ∈ ps then some 0 else none) 0 (fun x => if x ∈ ps then some (-1) else none) =
      fun x => if x ∈ ps then some (lastI x (rowsAll kids) 0 (-1)) else setD (rowsAll kids) 0 kids (duAll kids fun _ => none) x := by
  funext x
  have hf : ∀ x ∈ dns kids, (fun x => if x ∈ ps then some (0 : Int) else none) x = none := fun x hx => if_neg fun h => hps x h hx
  by_cases h1 : x ∈ ps
  · rw [if_pos h1]
    exact gB_home kids hp [] _ 0 _ x (-1) (if_pos h1) (hps x h1) (if_pos h1)
  · rw [if_neg h1]
    have dd := due_du (d + 1) kids hp nd fun _ => none
    by_cases h2 : x ∈ dns kids
    · exact DuB.uniq (d + 1) hp (gB_du (d + 1) kids hp _ _ _ nd hf) dd.1 x h2
    · rw [dd.2 x h2, gB_none (d + 1) kids hp _ _ _ _ x (if_neg h1) h2, if_neg h1]

-- P8

structure Ly.Snd (l : Ly) : Prop where
  fwd : ∀ x i, l.held x = some i → 0 ≤ i ∧ i < l.slots.length ∧ l.slots.getD i.toNat "" = x ∧ x ≠ ""
  bwd : ∀ (i : Nat) x, l.slots[i]? = some x → x ≠ "" → l.held x = some (i : Int)
  nd : l.free.Nodup
  mem : ∀ i, i ∈ l.free ↔ 0 ≤ i ∧ i < l.slots.length ∧ l.slots.getD i.toNat "" = ""
  len : l.slots.length < 64
theorem mem_emptyIx (slots : List Str) (i : Int) : i ∈ emptyIx slots ↔ 0 ≤ i ∧ i < slots.length ∧ slots.getD i.toNat "" = "" := by
  unfold emptyIx
  rw [List.mem_map]
  constructor
  · rintro ⟨k, hk, rfl⟩
    rw [List.mem_filter, List.mem_range] at hk
    exact (and3i (by omega) (by omega) (by simpa using hk.2))
  · rintro ⟨h0, h1, h2⟩
    refine ⟨i.toNat, ?_, by omega⟩
    rw [List.mem_filter, List.mem_range]
    exact ⟨by omega, by simpa using h2⟩
theorem emptyIx_nodup (slots : List Str) : (emptyIx slots).Nodup := by
  unfold emptyIx
  exact nodup_map_inj ((List.nodup_range).filter _) fun a _ b _ e => by
    have : ((a : Nat) : Int) = (b : Nat) := e
    omega
theorem Ly.Snd.sound {l : Ly} (S : l.Snd) : l.Sound := ⟨S.fwd, S.bwd, (List.perm_ext_iff_of_nodup S.nd (emptyIx_nodup _)).mpr fun i => by rw [S.mem, mem_emptyIx], S.len⟩
theorem Ly.Snd.ok {l : Ly} (S : l.Snd) : l.Ok := fun x i h => ⟨(S.fwd x i h).1, (S.fwd x i h).2.1⟩
theorem Ly.Snd.inj {l : Ly} (S : l.Snd) {x y i} (h : l.held x = some i) (k : l.held y = some i) : x = y := by
  rw [← (S.fwd x i h).2.2.1, ← (S.fwd y i k).2.2.1]
theorem Ly.Snd.freeLen {l : Ly} (S : l.Snd) : l.free.length ≤ l.slots.length := by
  have := nodup_sub_len (U := (List.range l.slots.length).map fun i => ((i : Nat) : Int)) S.nd fun i hi => by
    refine and3e ((S.mem i).mp hi) fun h0 h1 _ => ?_
    rw [List.mem_map]
    exact ⟨i.toNat, by rw [List.mem_range]; omega, by omega⟩
  simpa using this
theorem getD_set {slots : List Str} {i j : Nat} {x : Str} (hi : i < slots.length) : (slots.set i x).getD j "" = if j = i then x else slots.getD j "" := by
  rw [List.getD_eq_getElem?_getD, List.getD_eq_getElem?_getD, List.getElem?_set]
  by_cases e : i = j
  · subst e; simp [hi]
  · have e' : j ≠ i := fun h => e h.symm
    simp [e, e']
theorem getElem?_getD {slots : List Str} {i : Nat} {x : Str} (hx : x ≠ "") : slots[i]? = some x ↔ slots.getD i "" = x := by
  rw [List.getD_eq_getElem?_getD]
  cases slots[i]? with
  | none => simp [hx.symm]
  | some y => simp
theorem Ly.Snd.rel {l : Ly} (S : l.Snd) (x : Str) : (l.rel x).Snd := by
  unfold Ly.rel
  split
  · rename_i i hi
    refine and4e (S.fwd x i hi) fun h0 h1 h2 h3 => ?_
    have hl : i.toNat < l.slots.length := by omega
    refine ⟨fun y j hy => ?_, fun j y hj hy => ?_, ?_, fun j => ?_, by simpa using S.len⟩
    · dsimp only at hy ⊢
      unfold del at hy
      split at hy
      · cases hy
      · rename_i hne
        refine and4e (S.fwd y j hy) fun g0 g1 g2 g3 => ?_
        refine (and4i g0 (by rw [List.length_set]; exact g1) ?_ g3)
        rw [getD_set hl, if_neg, g2]
        intro e
        have e' : j = i := by omega
        subst e'
        exact hne (S.inj hy hi)
    · dsimp only at hj ⊢
      rw [getElem?_getD hy, getD_set hl] at hj
      split at hj
      · exact absurd hj.symm hy
      · rename_i hne
        have := S.bwd j y ((getElem?_getD hy).mpr hj) hy
        unfold del
        rw [if_neg, this]
        rintro rfl
        rw [hi] at this; cases this; simp at hne
    · dsimp only
      rw [List.nodup_append]
      refine (and3i S.nd (by simp) (fun a ha b hb => ?_))
      rw [List.mem_singleton] at hb; subst hb
      rintro rfl
      have := ((S.mem a).mp ha).2.2
      rw [h2] at this; exact h3 this
    · dsimp only
      rw [List.mem_append, List.mem_singleton, S.mem, List.length_set, getD_set hl]
      constructor
      · rintro (⟨g0, g1, g2⟩ | rfl)
        · exact (and3i g0 g1 (by split <;> first | rfl | exact g2))
        · exact (and3i h0 h1 (by rw [if_pos rfl]))
      · rintro ⟨g0, g1, g2⟩
        by_cases e : j = i
        · exact .inr e
        · rw [if_neg (by omega)] at g2
          exact .inl (and3i g0 g1 g2)
  · exact S
theorem Ly.Snd.rels : ∀ (ns : List Str) {l : Ly}, l.Snd → (Ly.rels ns l).Snd
  | [], _, h => h
  | x :: r, _, h => Ly.Snd.rels r (h.rel x)
theorem Ly.rels_at : ∀ (ns : List Str) (l : Ly) (x : Str), (Ly.rels ns l).held x = if x ∈ ns then none else l.held x
  | [], l, x => by simp [Ly.rels]
  | y :: r, l, x => by
    show (Ly.rels r (l.rel y)).held x = _
    rw [Ly.rels_at r]
    have : (l.rel y).held x = if x = y then none else l.held x := by
      unfold Ly.rel
      split
      · rfl
      · rename_i h; split
        · rename_i e; rw [e, h]
        · rfl
    rw [this]
    by_cases a : x = y <;> by_cases b : x ∈ r <;> simp [a, b]
theorem Ly.Snd.take {l : Ly} (S : l.Snd) {pre post : List Int} {i : Int} {x : Str} (hf : l.free = pre ++ i :: post) (hx : x ≠ "") (hn : l.held x = none) : (⟨l.slots.set i.toNat x, upd l.held x i, pre ++ post⟩ : Ly).Snd := by
  have hmem : i ∈ l.free := by rw [hf]; simp
  refine and3e ((S.mem i).mp hmem) fun h0 h1 h2 => ?_
  have hl : i.toNat < l.slots.length := by omega
  have nd := S.nd
  rw [hf] at nd
  have hi : i ∉ pre ++ post := by
    rw [List.perm_middle.nodup_iff, List.nodup_cons] at nd; exact nd.1
  refine ⟨fun y j hy => ?_, fun j y hj hy => ?_, ?_, fun j => ?_, by simpa using S.len⟩
  · dsimp only at hy ⊢
    rw [List.length_set, getD_set hl]
    unfold upd at hy
    split at hy
    · rename_i e; cases hy; subst e; exact (and4i h0 h1 (by rw [if_pos rfl]) hx)
    · refine and4e (S.fwd y j hy) fun g0 g1 g2 g3 => ?_
      refine (and4i g0 g1 ?_ g3)
      rw [if_neg, g2]
      intro e
      have : j = i := by omega
      subst this
      rw [h2] at g2; exact g3 g2.symm
  · dsimp only at hj ⊢
    rw [getElem?_getD hy, getD_set hl] at hj
    unfold upd
    split at hj
    · rename_i e; subst hj; rw [if_pos rfl]; congr 1; omega
    · have := S.bwd j y ((getElem?_getD hy).mpr hj) hy
      rw [if_neg, this]
      rintro rfl
      rw [hn] at this; cases this
  · rw [List.perm_middle.nodup_iff, List.nodup_cons] at nd; exact nd.2
  · dsimp only
    rw [List.length_set, getD_set hl]
    have hm : j ∈ l.free ↔ j = i ∨ j ∈ pre ++ post := by rw [hf]; simp; constructor <;> rintro (h | h | h) <;> simp [h]
    constructor
    · intro hj
      refine and3e ((S.mem j).mp (hm.mpr (.inr hj))) fun g0 g1 g2 => ?_
      refine (and3i g0 g1 ?_)
      rw [if_neg, g2]
      intro e
      have : j = i := by omega
      subst this; exact hi hj
    · rintro ⟨g0, g1, g2⟩
      split at g2
      · exact absurd g2 hx
      · rename_i hne
        refine (hm.mp ((S.mem j).mpr (and3i g0 g1 g2))).resolve_left ?_
        rintro rfl; exact hne rfl
theorem Ly.Snd.keep {l : Ly} (S : l.Snd) {x : Str} (hx : x ≠ "") (hn : l.held x = none) (hl : l.slots.length < 63) : (⟨l.slots ++ [x], upd l.held x l.slots.length, l.free⟩ : Ly).Snd := by
  have gd : ∀ j : Nat, (l.slots ++ [x]).getD j "" = if j = l.slots.length then x else l.slots.getD j "" := fun j => by
    rw [List.getD_eq_getElem?_getD, List.getD_eq_getElem?_getD, List.getElem?_append]
    split
    · rw [if_neg (by omega)]
    · rename_i h
      by_cases e : j = l.slots.length
      · subst e; simp
      · rw [if_neg e, List.getElem?_eq_none (by simp; omega), List.getElem?_eq_none (by omega)]
  refine ⟨fun y j hy => ?_, fun j y hj hy => ?_, S.nd, fun j => ?_, by simp; omega⟩
  · dsimp only at hy ⊢
    rw [gd, List.length_append, List.length_singleton]
    unfold upd at hy
    split at hy
    · rename_i e; cases hy; subst e; exact (and4i (by omega) (by omega) (by rw [if_pos (by omega)]) hx)
    · refine and4e (S.fwd y j hy) fun g0 g1 g2 g3 => ?_
      exact (and4i g0 (by omega) (by rw [if_neg (by omega), g2]) g3)
  · dsimp only at hj ⊢
    rw [getElem?_getD hy, gd] at hj
    unfold upd
    split at hj
    · rename_i e; subst hj; rw [if_pos rfl, e]
    · have := S.bwd j y ((getElem?_getD hy).mpr hj) hy
      rw [if_neg, this]
      rintro rfl
      rw [hn] at this; cases this
  · dsimp only
    rw [gd, List.length_append, List.length_singleton, S.mem]
    constructor
    · rintro ⟨g0, g1, g2⟩; exact (and3i g0 (by omega) (by rw [if_neg (by omega), g2]))
    · rintro ⟨g0, g1, g2⟩
      split at g2
      · exact absurd g2 hx
      · exact (and3i g0 (by omega) g2)
theorem Ly.Snd.pop {slots : List Str} {held : Fn} {free pre post : List Int} (S : (⟨slots ++ [("" : Str)], held, free⟩ : Ly).Snd) (hf : free = pre ++ ((slots.length : Nat) : Int) :: post) : (⟨slots, held, pre ++ post⟩ : Ly).Snd := by
  have gd : ∀ j : Nat, (slots ++ [("" : Str)]).getD j "" = slots.getD j "" := fun j => by
    rw [List.getD_eq_getElem?_getD, List.getD_eq_getElem?_getD, List.getElem?_append]
    split
    · rfl
    · rename_i h
      rw [List.getElem?_eq_none (l := slots) (by omega)]
      cases j - slots.length <;> rfl
  have nd := S.nd
  dsimp only at nd
  rw [hf, List.perm_middle.nodup_iff, List.nodup_cons] at nd
  have hlen := S.len
  simp only [List.length_append, List.length_singleton] at hlen
  refine ⟨fun y j hy => ?_, fun j y hj hy => ?_, nd.2, fun j => ?_, by dsimp only; omega⟩
  · refine and4e (S.fwd y j hy) fun g0 g1 g2 g3 => ?_
    dsimp only at g1 g2 ⊢
    rw [gd] at g2
    refine (and4i g0 ?_ g2 g3)
    have : j.toNat < slots.length := by
      apply Classical.byContradiction; intro h
      rw [List.getD_eq_getElem?_getD, List.getElem?_eq_none (by omega)] at g2
      exact g3 g2.symm
    omega
  · refine S.bwd j y ?_ hy
    dsimp only at hj ⊢
    rw [getElem?_getD hy, gd]; rw [getElem?_getD hy] at hj; exact hj
  · have hm : j ∈ free ↔ j = (slots.length : Nat) ∨ j ∈ pre ++ post := by rw [hf]; simp; constructor <;> rintro (h | h | h) <;> simp [h]
    have := S.mem j
    dsimp only at this ⊢
    rw [gd, List.length_append, List.length_singleton] at this
    constructor
    · intro hj
      refine and3e (this.mp (hm.mpr (.inr hj))) fun g0 g1 g2 => ?_
      refine (and3i g0 ?_ g2)
      have : j ≠ (slots.length : Nat) := by rintro rfl; exact nd.1 hj
      omega
    · rintro ⟨g0, g1, g2⟩
      refine (hm.mp (this.mpr (and3i g0 (by omega) g2))).resolve_left (by omega)
theorem roomF_spec (n : Nat) (t : Int) : ∀ (l : List Int) (f : Int), (∀ a ∈ l, 0 ≤ a) →
    (0 ≤ f → 0 ≤ roomF n t l f ∧ roomF n t l f ≤ f ∧ (roomF n t l f = f ∨ roomF n t l f ∈ l.filter fun a => decide ((n : Int) + t - 1 - a ≤ 16)) ∧ ∀ a ∈ l.filter fun a => decide ((n : Int) + t - 1 - a ≤ 16), roomF n t l f ≤ a) ∧
    (f < 0 → ((l.filter fun a => decide ((n : Int) + t - 1 - a ≤ 16)) = [] → roomF n t l f = f) ∧ ((l.filter fun a => decide ((n : Int) + t - 1 - a ≤ 16)) ≠ [] → roomF n t l f ∈ (l.filter fun a => decide ((n : Int) + t - 1 - a ≤ 16)) ∧ ∀ a ∈ l.filter fun a => decide ((n : Int) + t - 1 - a ≤ 16), roomF n t l f ≤ a))
  | [], f, _ => ⟨fun h => (and4i h (Int.le_refl _) (.inl rfl) (fun a ha => nomatch ha)), fun _ => ⟨fun _ => rfl, fun h => absurd rfl h⟩⟩
  | b :: r, f, hl => by
    have hb := hl b (.head _)
    have ih := fun g => roomF_spec n t r g fun a ha => hl a (.tail _ ha)
    rw [roomF, List.filter_cons]
    by_cases c : (n : Int) + t - 1 - b ≤ 16
    · have c' : decide ((n : Int) + t - 1 - b ≤ 16) = true := by simpa using c
      rw [if_pos c']
      constructor
      · intro hf
        by_cases c2 : b < f
        · rw [if_pos ⟨c, .inr c2⟩]
          refine and4e ((ih b).1 hb) fun g1 g2 g3 g4 => ?_
          refine (and4i g1 (by omega) (.inr ?_) (fun a ha => ?_))
          · rcases g3 with g3 | g3
            · rw [g3]; exact .head _
            · exact .tail _ g3
          · rcases List.mem_cons.mp ha with rfl | ha
            · exact g2
            · exact g4 a ha
        · rw [if_neg (by omega)]
          refine and4e ((ih f).1 hf) fun g1 g2 g3 g4 => ?_
          refine (and4i g1 g2 (g3.imp id (.tail _)) (fun a ha => ?_))
          rcases List.mem_cons.mp ha with rfl | ha
          · omega
          · exact g4 a ha
      · intro hf
        rw [if_pos ⟨c, .inl hf⟩]
        refine and4e ((ih b).1 hb) fun g1 g2 g3 g4 => ?_
        refine ⟨fun h => (nomatch h), fun _ => ⟨?_, fun a ha => ?_⟩⟩
        · rcases g3 with g3 | g3
          · rw [g3]; exact .head _
          · exact .tail _ g3
        · rcases List.mem_cons.mp ha with rfl | ha
          · exact g2
          · exact g4 a ha
    · have c' : ¬ decide ((n : Int) + t - 1 - b ≤ 16) = true := by simpa using c
      rw [if_neg c', if_neg (by omega)]
      exact ih f

-- W16

structure GivenW (U : List Str) (ns : List Str) (l l1 : Ly) (k : Nat) : Prop where
  snd : l1.Snd
  len : l1.slots.length = l.slots.length
  sup : Sup U l1.held
  out : ∀ x, x ∉ ns.drop k → l1.held x = l.held x
  inn : ∀ x ∈ ns.drop k, (l1.held x).isSome
  kle : k ≤ ns.length
structure GivenK (U : List Str) (ns : List Str) (l l1 : Ly) (k i : Nat) : Prop where
  snd : l1.Snd
  len : l1.slots.length = l.slots.length + i
  sup : Sup U l1.held
  out : ∀ x, x ∉ ns.drop k → x ∉ (ns.take k).take i → l1.held x = l.held x
  inn : ∀ x, x ∈ ns.drop k ∨ x ∈ (ns.take k).take i → (l1.held x).isSome
structure Given (U : List Str) (ns : List Str) (l l1 : Ly) : Prop where
  snd : l1.Snd
  len0 : l.slots.length ≤ l1.slots.length
  len : l1.slots.length ≤ l.slots.length + ns.length
  sup : Sup U l1.held
  out : ∀ x, x ∉ ns → l1.held x = l.held x
  inn : ∀ x ∈ ns, (l1.held x).isSome
noncomputable abbrev PY (pl ya yd sl wh fr hd hm du : Addr) (N : Nat) (l : Ly) (home due : Fn) (temps floor : Int) (R : HT) : HT :=
  YL ya yd sl wh fr N l.slots l.held l.free temps floor ((pl, .dict 4 (planF ya hd hm du)) :: (hd, .dict N (ofI l.held)) :: (hm, .dict N (ofI home)) :: (du, .dict N (ofI due)) :: R)

noncomputable abbrev fmW16_0 (v0 v1 v2 v3 : Value) : List (Str × Value) := [("layout", v0), ("left", v1), ("plan", v2), ("fresh", v3)]
noncomputable abbrev fmW16_1 (v0 v1 v2 v3 v4 v5 : Value) : List (Str × Value) := [("spots", v0), ("spot", v1), ("layout", v2), ("left", v3), ("plan", v4), ("fresh", v5)]
section auto
variable {e : Ev} {n N : Nat} {R : HT} {Z : ZT} {Q : Value → ZT → HT → Prop} {pl ya yd sl wh fr hd hm du : Addr} {l : Ly} {home due : Fn} {temps floor : Int} {U : List Str}

theorem given_ok {gl : Addr} {ns : List Str} (hgl : Z gl = some (.list (ns.map vS))) (hU : U.length ≤ N) (hN : N ≤ 1000) (S : l.Snd) (hb : l.slots.length + ns.length ≤ 63) (nd : ns.Nodup)
    (hns : ∀ x ∈ ns, x ∈ U ∧ x ≠ "" ∧ l.held x = none) (sup : Sup U l.held) (suph : Sup U home)
    (h : ∀ l2, Given U ns l l2 → Q (.bool true) Z (PL pl ya yd sl wh fr hd hm du N l2 (fun x => if x ∈ ns then l2.held x else home x) due 0 floor R)) :
    CallOk e.c (n + 4) (.ref 310) [.ref pl, .ref gl] Q Z (PL pl ya yd sl wh fr hd hm du N l home due temps floor R) := by
  refine CallOk.cuts (call_fn (F_given rfl) rfl ?_)
  refine tb_cons (ts_tuple2 (Bnd.cell rfl rfl rfl) (Bnd.cell rfl rfl rfl) ?_)
  repeat ktr_rel
  refine gi_dict (by ktr_unf) planF_layout ?_
  repeat ktr_rel
  refine bc_lenm (.inl hgl) (by first | omega | (simp; omega)) ?_
  repeat ktr_rel
  refine ⟨by simp, fun T => (ex3i T _ _ (and3i rfl (by ktr_unf) ?_))⟩
  refine tb_cons ?_
  repeat ktr_rel
  refine sa_own (cls_layout e) (by ktr_unf) (by decide) (Nat.le_of_ble_eq_true rfl) (by ktr_unf) ?_
  refine TB.le (((Le.facts (m' := (fmW16_0 (.ref ya) (vI (ns.length : Nat)) (.ref pl) (.ref gl))) (FactsIn.of rfl)).trans (Le.sub (.cons _ (List.Sublist.refl _)))).trans (Le.perm perm_yl)) ?_
  show TB _ _ _ _ _ _ ⟨_, _, PY pl ya yd sl wh fr hd hm du N l home due (ns.length : Nat) floor R⟩
  refine tb_cons ?_
  refine TS.via (P := fun fl σ => fl = .next ∧ ∃ (k : Nat) (l1 : Ly), GivenW U ns l l1 k ∧ SubP σ.H (PY pl ya yd sl wh fr hd hm du N l1 home due k floor R) ∧ σ.Z = Z ∧ FactsIn σ.m (fmW16_0 (.ref ya) (vI (k : Nat)) (.ref pl) (.ref gl))) ?_ ?_
  · intro Fq hF
    refine ts_while (fun k σ => ∃ (l1 : Ly), GivenW U ns l l1 k ∧ SubP σ.H (PY pl ya yd sl wh fr hd hm du N l1 home due k floor R) ∧ σ.Z = Z ∧ FactsIn σ.m (fmW16_0 (.ref ya) (vI (k : Nat)) (.ref pl) (.ref gl))) ns.length ?_ ?_
    · exact (⟨l, and4i ⟨S, rfl, sup, fun _ _ => rfl, fun x hx => by simp at hx, Nat.le_refl _⟩ SubP.refl rfl (FactsIn.of rfl)⟩)
    · rintro k ⟨m0, Z0, H0⟩ ⟨l1, W, hsub, hZ, hfa⟩
      dsimp only at hsub hZ hfa
      subst hZ
      refine TT.le ((Le.facts hfa).trans (Le.subp hsub)) ?_
      have S1 := W.snd
      have hlen1 := W.len
      have hk := W.kle
      have hs1 := S1.len
      have hf1 := S1.freeLen
      repeat ktr_rel
      refine ⟨fun q => ?_, fun q => ?_⟩
      · have hk0 : 0 < k := by simp at q; omega
        obtain ⟨Sp, hSp⟩ : ∃ Sp, Sp = l1.free.filter fun a => decide ((l1.slots.length : Int) + (k : Nat) - 1 - a ≤ 16) := ⟨_, rfl⟩
        have hroom := roomF_spec l1.slots.length (k : Nat) l1.free (-1) fun a ha => ((S1.mem a).mp ha).1
        rw [← hSp] at hroom
        replace hroom := hroom.2 (by decide)
        refine tb_cons (ts_assign_comp (xs := ["at"]) (bnd1 (Bnd.local rfl rfl)) rfl rfl ?_)
        repeat ktr_rel
        refine pi_list (by ktr_unf) (cmpI .lst (by first | (refine Nat.le_trans (Nat.le_of_eq (List.length_map _)) ?_; omega) | (show List.length _ ≤ _; omega) | (simp [Sr.N]; omega)) [("layout", .ref ya), ("left", vI (k : Nat))] (fun i ys Z' H' => Z' = Z0 ∧ H' = PY pl ya yd sl wh fr hd hm du N l1 home due k floor R ∧
          ys = ((l1.free.take i).filter fun a => decide ((l1.slots.length : Int) + (k : Nat) - 1 - a ≤ 16)).map vI) ?_ ?_ ?_ ?_ ?_)
        · intro p hp; simp at hp; rcases hp with rfl | rfl <;> exact ⟨rfl, rfl⟩
        · rintro i ys Z' H' m' ⟨_, rfl, _⟩; ktr_unf
        · exact (and3i rfl rfl rfl)
        · rintro i ys Z' H' hi ⟨rfl, rfl, rfl⟩
          have hi' : i < l1.free.length := by first | exact Nat.lt_of_lt_of_eq hi (List.length_map _) | exact hi | simpa [Sr.N] using hi
          have e1 : (l1.free.map vI).getD i .none = vI l1.free[i] := by first | exact getD_at hi' | simp [List.getD_eq_getElem?_getD, hi']
          refine ct_one ?_
          refine St.at1 e1 ?_
          repeat ktr_rel
          refine bc_lenm (by ktr_unf) (by first | omega | (simp; omega)) ?_
          repeat ktr_rel
          have e3 : (l1.free.take (i + 1)).filter (fun a => decide ((l1.slots.length : Int) + (k : Nat) - 1 - a ≤ 16)) = (l1.free.take i).filter (fun a => decide ((l1.slots.length : Int) + (k : Nat) - 1 - a ≤ 16)) ++ (if (l1.slots.length : Int) + (k : Nat) - 1 - l1.free[i] ≤ 16 then [l1.free[i]] else []) := by
            rw [List.take_add_one, List.getElem?_eq_getElem hi', List.filter_append]
            congr 1
            show List.filter _ [l1.free[i]] = _
            rw [List.filter_cons]
            by_cases c : (l1.slots.length : Int) + (k : Nat) - 1 - l1.free[i] ≤ 16
            · rw [if_pos (by first | exact eq_of_beq c | exact ne_of_beq_false c | exact of_decide_eq_true c | exact of_decide_eq_false c | simpa using c), if_pos c]; rfl
            · rw [if_neg (by first | exact eq_of_beq c | exact ne_of_beq_false c | exact of_decide_eq_true c | exact of_decide_eq_false c | simpa using c), if_neg c]; rfl
          refine ⟨fun q2 => ?_, fun q2 => ?_⟩
          · repeat ktr_rel
            refine (and3i rfl rfl ?_)
            rw [e3, if_pos (by first | exact eq_of_beq q2 | exact ne_of_beq_false q2 | exact of_decide_eq_true q2 | exact of_decide_eq_false q2 | simpa using q2), List.map_append]; rfl
          · refine (and3i rfl rfl ?_)
            rw [e3, if_neg (by first | exact eq_of_beq q2 | exact ne_of_beq_false q2 | exact of_decide_eq_true q2 | exact of_decide_eq_false q2 | simpa using q2), List.append_nil]
        · rintro D ys Z' H' ⟨rfl, rfl, rfl⟩ hys
          have e1 : l1.free.take (Sr.lst fr (l1.free.map vI)).N = l1.free := List.take_of_length_le (by first | exact Nat.le_of_eq (List.length_map _).symm | simp [Sr.N])
          rw [e1, ← hSp]
          have hSpl : Sp.length ≤ l1.free.length := by rw [hSp]; exact List.length_filter_le _ _
          refine TB.le (Le.perm perm_up5.symm) ?_
          refine tb_cons ?_
          repeat ktr_rel
          refine bc_call (room_ok (by omega) (by omega) ?_)
          repeat ktr_rel
          generalize hr : roomF l1.slots.length (k : Nat) l1.free (-1) = r at *
          refine TB.cut ?_
          refine TB.le (Le.facts (m' := (fmW16_1 (.ref D) (vI r) (.ref ya) (vI (k : Nat)) (.ref pl) (.ref gl))) (FactsIn.of rfl)) ?_
          refine tb_cons ?_
          refine TS.via (P := fun fl σ => fl = .next ∧ ∃ H2, σ = ⟨(fmW16_1 (.ref D) (vI r) (.ref ya) (vI (k : Nat)) (.ref pl) (.ref gl)), Z', H2⟩ ∧ SubP H2 (PY pl ya yd sl wh fr hd hm du N l1 home due k floor R)) ?_ ?_
          · intro Fq2 hF2
            repeat ktr_rel
            refine ksq rfl fun E => ?_
            refine bo_addl (vs := Sp.map vI) (us := [vI 10000]) (by ktr_unf) (by ktr_unf) (by simp; omega) fun F => ?_
            rw [show Sp.map vI ++ [vI 10000] = (Sp ++ [10000]).map vI by simp]
            repeat ktr_rel
            refine bc_min (ns := Sp ++ [10000]) (by ktr_unf) (by simp) fun mn hmn hle => ?_
            repeat ktr_rel
            have dropAll : SubP ((F, AO.list ((Sp ++ [10000]).map vI)) :: (E, AO.list [vI 10000]) :: YL ya yd sl wh fr N l1.slots l1.held l1.free (k : Nat) floor ((D, .list (Sp.map vI)) :: (pl, .dict 4 (planF ya hd hm du)) :: (hd, .dict N (ofI l1.held)) :: (hm, .dict N (ofI home)) :: (du, .dict N (ofI due)) :: R)) (PY pl ya yd sl wh fr hd hm du N l1 home due k floor R) :=
              SubP.sub (.cons _ (.cons _ (.cons_cons _ (.cons_cons _ (.cons_cons _ (.cons_cons _ (.cons_cons _ (.cons _ (List.Sublist.refl _)))))))))
            by_cases hSe : Sp = []
            · have hr1 : r = -1 := hroom.1 hSe
              have hmn2 : mn = 10000 := by rw [hSe] at hmn; simpa using hmn
              subst hr1 hmn2
              repeat ktr_rel
              refine ksq rfl fun G => ?_
              refine co_ne_list_nil (l := D) (vs := Sp.map vI) (.inr (by simp)) (by ktr_unf) ?_
              rw [show (!decide (Sp.map vI = [])) = false by rw [hSe]; rfl]
              repeat tb_rel
              refine ⟨1, rfl, ?_⟩
              repeat tb_rel
              exact hF2 _ _ ⟨rfl, _, rfl, dropAll.cons⟩
            · refine and2e (hroom.2 hSe) fun hrm hrle => ?_
              have hrr : r = mn := by
                have h1 := hle r (List.mem_append_left _ hrm)
                rcases List.mem_append.mp hmn with h2 | h2
                · have := hrle mn h2; omega
                · have h3 : mn = 10000 := by simpa using h2
                  have h4 := ((S1.mem r).mp (by rw [hSp] at hrm; exact (List.mem_filter.mp hrm).1)).2.1
                  omega
              subst hrr
              rw [show (r != r) = false by simp]
              repeat tb_rel
              exact hF2 _ _ ⟨rfl, _, rfl, dropAll⟩
          · intro fl σ h9
            refine hide fun G9 hG9 => ?_
            refine and2e h9 fun e9a h9x => ?_
            refine ex1e h9x fun H2 h9y => ?_
            refine and2e h9y fun e9c hs2 => ?_
            try clear h9y h9x h9
            obtain rfl := e9a
            obtain rfl := e9c
            refine hG9 ?_; clear hG9 G9
            refine TB.le (Le.subp hs2) ?_
            refine tb_cons ?_
            repeat ktr_rel
            refine ⟨fun q3 => ?_, fun q3 => ?_⟩
            · repeat tb_rel
              exact ⟨_, Le.refl, hF _ _ (⟨rfl, ex2i k l1 (and4i W SubP.refl rfl (FactsIn.of rfl))⟩)⟩
            · have hr0 : 0 ≤ r := by simp at q3; omega
              have hSe : Sp ≠ [] := fun h => by have := hroom.1 h; omega
              refine and2e (hroom.2 hSe) fun hrm hrle => ?_
              have hrf : r ∈ l1.free := by rw [hSp] at hrm; exact (List.mem_filter.mp hrm).1
              refine hide fun G9 hG9 => ?_
              refine and3e ((S1.mem r).mp hrf) fun _ hr1 _ => ?_
              obtain ⟨pre, post, hpp, hpre⟩ : ∃ pre post, l1.free = pre ++ r :: post ∧ r ∉ pre := List.eq_append_cons_of_mem hrf
              obtain ⟨k', rfl⟩ : ∃ k', k = k' + 1 := ⟨k - 1, by omega⟩
              refine hG9 ?_; clear hG9 G9
              have hk' : k' < ns.length := by omega
              have hx := hns ns[k'] (List.getElem_mem hk')
              have hdrop : ns.drop k' = ns[k'] :: ns.drop (k' + 1) := List.drop_eq_getElem_cons hk'
              have hxn : ns[k'] ∉ ns.drop (k' + 1) := by
                have := nd.sublist (List.drop_sublist k' ns)
                rw [hdrop, List.nodup_cons] at this; exact this.1
              have hheld : l1.held ns[k'] = none := by rw [W.out _ hxn]; exact hx.2.2
              have hget : (ns.map vS)[k']? = some (vS ns[k']) := by rw [List.getElem?_map, List.getElem?_eq_getElem hk']; rfl
              have ek : vI (((k' + 1 : Nat) : Int) - 1) = vI ((k' : Nat) : Int) := by congr 1; omega
              refine tb_nil ?_
              refine tb_cons ?_
              repeat ktr_rel
              rw [ek]
              refine tb_cons ?_
              repeat ktr_rel
              refine sa_own (cls_layout e) (by ktr_unf) (by decide) (Nat.le_of_ble_eq_true rfl) (by ktr_unf) ?_
              refine tb_cons ?_
              repeat ktr_rel
              refine gi_list (.inl hgl) (by omega) (by omega) (by rw [Int.toNat_natCast]; exact hget) ?_
              repeat ktr_rel
              refine bc_call (take_ok (free := l1.free) (held := l1.held) (slots := l1.slots) (temps := (k' : Nat)) (U := U) hpp hpre hU hN hx.1 W.sup (by omega) (by omega) hr0 hr1 ?_)
              refine kdn ?_
              refine tb_cons ?_
              repeat ktr_rel
              refine gi_dict (by ktr_unf) planF_held ?_
              repeat ktr_rel
              refine gi_list (.inl hgl) (by omega) (by omega) (by rw [Int.toNat_natCast]; exact hget) ?_
              refine si_dictUI U hU (by omega) hx.1 (fun y hy => W.sup y hy) (by ktr_unf) ?_
              refine tb_nil (⟨_, ⟨Le.refl, ⟨k', ⟨by omega, ⟨⟨l1.slots.set r.toNat ns[k'], upd l1.held ns[k'] r, pre ++ post⟩, and4i ⟨S1.take hpp hx.2.1 hheld, by simpa using hlen1, W.sup.upd hx.1, fun x hxx => ?_, fun x hxx => ?_, by omega⟩ SubP.refl rfl ?_⟩⟩⟩⟩⟩)
              · rw [hdrop, List.mem_cons, not_or] at hxx
                show upd l1.held ns[k'] r x = _
                unfold upd; rw [if_neg hxx.1]; exact W.out x hxx.2
              · rw [hdrop, List.mem_cons] at hxx
                show (upd l1.held ns[k'] r x).isSome
                unfold upd; split
                · rfl
                · rename_i hne; exact W.inn x (hxx.resolve_left hne)
              · exact (FactsIn.of rfl)
      · exact hF _ _ (⟨rfl, ex2i k l1 (and4i W SubP.refl rfl (FactsIn.of rfl))⟩)
  · rintro fl ⟨m0, Z0, H0⟩ ⟨rfl, k, l1, W, hsub, hZ, hfa⟩
    dsimp only at hsub hZ hfa
    subst hZ
    refine TB.le ((Le.facts hfa).trans (Le.subp hsub)) ?_
    have hk := W.kle
    have hlen1 := W.len
    have hsp : (ns.map vS).take k = (ns.take k).map vS := by rw [List.map_take]
    have htl : (ns.take k).length = k := by rw [List.length_take]; omega
    refine tb_cons (ts_for (xs := ["name"]) (bnd1 (Bnd.local rfl rfl)) ?_)
    repeat ktr_rel
    refine to_none ?_
    refine to_some ?_
    repeat ktr_rel
    refine ⟨k, rfl, to_none (⟨by simp, ex2i gl (ns.map vS) (and4i rfl (.inl (.inl hgl)) (by simp; omega) (fun D => ?_))⟩)⟩
    rw [pick_take, hsp]
    refine pi_list (by ktr_unf) (forI .lst (fun i σ => ∃ l2, GivenK U ns l l2 k i ∧ σ = ⟨(fmW16_0 (.ref ya) (vI (k : Nat)) (.ref pl) (.ref gl)), Z0, (D, .list ((ns.take k).map vS)) :: PY pl ya yd sl wh fr hd hm du N l2 home due ((k : Int) - (i : Nat)) floor R⟩) ?_ ?_ ?_ ?_)
    · rintro i σ ⟨l2, _, rfl⟩; ktr_unf
    · refine ⟨l1, ⟨W.snd, hlen1, W.sup, fun x h1 _ => W.out x h1, fun x h1 => W.inn x (h1.resolve_right fun h => by simp at h)⟩, ?_⟩
      rw [show ((k : Int) - ((0 : Nat) : Int)) = k by omega]
    · rintro i σ hi ⟨l2, G, rfl⟩
      have hi' : i < (ns.take k).length := by first | exact Nat.lt_of_lt_of_eq hi (List.length_map _) | exact hi | simpa [Sr.N] using hi
      have e1 : ((ns.take k).map vS).getD i .none = vS (ns.take k)[i] := by rw [List.getD_eq_getElem?_getD, List.getElem?_map, List.getElem?_eq_getElem hi']; rfl
      have hxm : (ns.take k)[i] ∈ ns := List.mem_of_mem_take (List.getElem_mem hi')
      have hx := hns _ hxm
      have htk : (ns.take k).take (i + 1) = (ns.take k).take i ++ [(ns.take k)[i]] := by rw [List.take_add_one, List.getElem?_eq_getElem hi']; rfl
      have ndt : (ns.take k ++ ns.drop k).Nodup := by rw [List.take_append_drop]; exact nd
      rw [List.nodup_append] at ndt
      have hno1 : (ns.take k)[i] ∉ ns.drop k := fun h => ndt.2.2 _ (List.getElem_mem hi') _ h rfl
      have hno2 : (ns.take k)[i] ∉ (ns.take k).take i := by
        intro hm2
        have h3 : ((ns.take k).take i ++ (ns.take k)[i] :: (ns.take k).drop (i + 1)).Nodup := by rw [List.getElem_cons_drop, List.take_append_drop]; exact ndt.1
        exact (List.nodup_append.mp h3).2.2 _ hm2 _ (.head _) rfl
      have hheld : l2.held (ns.take k)[i] = none := by rw [G.out _ hno1 hno2]; exact hx.2.2
      have S2 := G.snd
      have hlen2 := G.len
      generalize hxe : (ns.take k)[i] = x at *
      refine TB.cut ?_
      refine St.at1 e1 ?_
      refine tb_cons ?_
      repeat ktr_rel
      refine bc_lenm (by ktr_unf) (by first | omega | (simp; omega)) ?_
      repeat ktr_rel
      refine gi_dict (by ktr_unf) planF_held ?_
      repeat ktr_rel
      refine si_dictUI U hU (by omega) hx.1 (fun y hy => G.sup y hy) (by ktr_unf) ?_
      refine tb_cons ?_
      repeat ktr_rel
      refine bc_call (.perm (keep_ok hU hN hx.1 G.sup (by omega) ?_) perm_up5.symm)
      refine kdn ?_
      refine tb_nil ⟨_, (Le.facts (m' := (fmW16_0 (.ref ya) (vI (k : Nat)) (.ref pl) (.ref gl))) (FactsIn.of rfl)).trans (Le.perm perm_up5), ⟨l2.slots ++ [x], upd l2.held x l2.slots.length, l2.free⟩, ⟨S2.keep hx.2.1 hheld (by omega), by simp; omega, G.sup.upd hx.1, fun y h1 h2 => ?_, fun y h1 => ?_⟩, ?_⟩
      · rw [htk, List.mem_append, not_or] at h2
        show upd l2.held x _ y = _
        unfold upd; rw [if_neg (fun e => h2.2 (by rw [e]; exact .head _))]; exact G.out y h1 h2.1
      · rw [htk, List.mem_append] at h1
        show (upd l2.held x _ y).isSome
        unfold upd; split
        · rfl
        · rename_i hne
          refine G.inn y (h1.imp id fun h => h.resolve_right fun h => ?_)
          rcases List.mem_cons.mp h with h | h
          · exact hne h
          · cases h
      · have : (k : Int) - (i : Nat) - 1 = (k : Int) - ((i + 1 : Nat) : Int) := by omega
        rw [this]
    · rintro σ ⟨l2, G, rfl⟩
      have e1 : (Sr.lst D ((ns.take k).map vS)).N = k := by simp [Sr.N]; omega
      rw [e1] at G ⊢
      rw [show ((k : Int) - ((k : Nat) : Int)) = 0 by omega]
      have etk : (ns.take k).take k = ns.take k := List.take_of_length_le (by omega)
      have hin : ∀ x, x ∈ ns ↔ x ∈ ns.drop k ∨ x ∈ ns.take k := fun x => by
        conv => lhs; rw [← List.take_append_drop k ns]
        rw [List.mem_append]; exact or_comm
      have GG : Given U ns l l2 := ⟨G.snd, by rw [G.len]; omega, by rw [G.len]; omega, G.sup, fun x hx => by
        rw [hin, not_or] at hx; exact G.out x hx.1 (by rw [etk]; exact hx.2), fun x hx => by
        rw [hin] at hx; exact G.inn x (by rw [etk]; exact hx)⟩
      refine TB.le (Le.sub (.cons _ (List.Sublist.refl _))) ?_
      refine tb_cons (ts_for (xs := ["name"]) (bnd1 (Bnd.local rfl rfl)) ?_)
      repeat ktr_rel
      refine pi_list (.inl hgl) (forI .lst (fun i σ => σ = ⟨(fmW16_0 (.ref ya) (vI (k : Nat)) (.ref pl) (.ref gl)), Z0, PY pl ya yd sl wh fr hd hm du N l2 (fun x => if x ∈ ns.take i then l2.held x else home x) due 0 floor R⟩) ?_ ?_ ?_ ?_)
      · rintro i σ rfl; exact .inl hgl
      · simp only [List.take_zero, List.not_mem_nil, if_false]
      · rintro i σ hi rfl
        have hi' : i < ns.length := by first | exact Nat.lt_of_lt_of_eq hi (List.length_map _) | exact hi | simpa [Sr.N] using hi
        have e1 : (ns.map vS).getD i .none = vS ns[i] := by rw [List.getD_eq_getElem?_getD, List.getElem?_map, List.getElem?_eq_getElem hi']; rfl
        have hxm : ns[i] ∈ ns := List.getElem_mem hi'
        have hx := hns _ hxm
        refine ex1e (Option.isSome_iff_exists.mp (GG.inn _ hxm)) fun ix hix => ?_
        have hsup : Sup U (fun x => if x ∈ ns.take i then l2.held x else home x) := fun y hy => by
          dsimp only at hy
          by_cases c : y ∈ ns.take i
          · rw [if_pos c] at hy; exact GG.sup y hy
          · rw [if_neg c] at hy; exact suph y hy
        refine TB.cut ?_
        refine St.at1 e1 ?_
        refine tb_cons ?_
        repeat ktr_rel
        refine gi_dict (by ktr_unf) planF_held ?_
        repeat ktr_rel
        refine gi_dict (f := ofI l2.held) (by ktr_unf) (ofI_some hix) ?_
        repeat ktr_rel
        refine gi_dict (by ktr_unf) planF_home ?_
        repeat ktr_rel
        refine si_dictUI (f := (fun x => if x ∈ ns.take i then l2.held x else home x)) U hU (by omega) hx.1 (fun y hy => hsup y hy) (by ktr_unf) ?_
        refine tb_nil ⟨_, Le.facts (m' := (fmW16_0 (.ref ya) (vI (k : Nat)) (.ref pl) (.ref gl))) (FactsIn.of rfl), ?_⟩
        have : upd (fun x => if x ∈ ns.take i then l2.held x else home x) ns[i] ix = fun x => if x ∈ ns.take (i + 1) then l2.held x else home x := by
          funext y
          have et : ns.take (i + 1) = ns.take i ++ [ns[i]] := by rw [List.take_add_one, List.getElem?_eq_getElem hi']; rfl
          unfold upd
          by_cases c : y = ns[i]
          · have c2 : y ∈ ns.take (i + 1) := by rw [et, c]; exact List.mem_append_right _ (.head _)
            rw [if_pos c, if_pos c2, c, hix]
          · have c2 : y ∈ ns.take (i + 1) ↔ y ∈ ns.take i := by rw [et, List.mem_append]; exact ⟨fun h => h.resolve_right fun h => c (List.mem_singleton.mp h), .inl⟩
            simp only [c, c2, if_false]
        rw [this]
      · rintro σ rfl
        have e1 : ns.take (Sr.lst gl (ns.map vS)).N = ns := List.take_of_length_le (by first | exact Nat.le_of_eq (List.length_map _).symm | simp [Sr.N])
        rw [e1]
        refine tb_cons ?_
        repeat ktr_rel
        exact ⟨_, SubP.perm perm_yl.symm, h l2 GG⟩
end auto

-- P9

noncomputable def WfS (B : List Str → List Nd → Prop) (L : List Str) (t : Nd) : Prop := ∃ ws bs tl ml, Shp t ws bs tl ml ∧ (∀ w ∈ ws, WE L w) ∧ (∀ x ∈ ml, x ∈ L) ∧ tl.length ≤ 6 ∧ ∀ b ∈ bs, B L b
noncomputable def WfL (B : List Str → List Nd → Prop) : List Str → List Nd → Prop
  | _, [] => True
  | L, t :: r => WfS B L t ∧ WfL B (L ++ tlOf t) r
noncomputable def Wf : Nat → List Str → List Nd → Prop
  | 0 => fun _ _ => False
  | d + 1 => fun L kids => kids.length ≤ bl d ∧ WfL (Wf d) L kids
theorem WfL.ps {d} (hB : ∀ L b, Wf d L b → Pl d b) : ∀ {L kids}, WfL (Wf d) L kids → Pl (d + 1) kids
  | _, [], _ => fun t h => nomatch h
  | L, t :: r, q => fun u hu => by
    have h2 := q.2
    rcases List.mem_cons.mp hu with rfl | hu
    · refine ex4e (q.1) fun ws bs tl ml h9x => ?_
      refine and5e h9x fun hs hw _ _ hb => ?_
      try clear h9x
      exact (ex4i ws bs tl ml (and3i hs (fun w hx => ⟨L, hw w hx⟩) (fun b hx => hB L b (hb b hx))))
    · exact WfL.ps hB h2 u hu
theorem Wf.pl : ∀ (d : Nat) {L kids}, Wf d L kids → Pl d kids
  | 0, _, _, h => h.elim
  | d + 1, _, _, h => WfL.ps (fun L b => Wf.pl d) h.2
theorem frN_le (k k' : Nat) (h : k' ≤ k + 6) : (frN k k').length ≤ 6 := by rw [frN_len]; omega
theorem WS.wf {B : List Str → Nat → List Nd → Nat → Prop} {B' : List Str → List Nd → Prop} (hB : ∀ L k b k', B L k b k' → B' L b) {L k t ns k'} (h : WS B L k t ns k') : WfS B' L t ∧ tlOf t = ns := by
  induction h with
  | let0 h1 h2 => exact ⟨(ex4i _ _ _ _ (and5i (.let0) (fun w hw => nomatch hw) (fun x hx => nomatch hx) (frN_le _ _ h2) (fun b hb => nomatch hb))), tl_sh .let0⟩
  | let1 h1 h2 hw => exact ⟨(ex4i _ _ _ _ (and5i (.let1) (fun w hx => by rcases List.mem_cons.mp hx with rfl | h; exact hw; cases h) (fun x hx => nomatch hx) (frN_le _ _ h2) (fun b hb => nomatch hb))), tl_sh .let1⟩
  | asg hx hw => exact ⟨(ex4i _ _ _ _ (and5i (.asg) (fun w hx => by rcases List.mem_cons.mp hx with rfl | h; exact hw; cases h) (fun y hy => by rcases List.mem_cons.mp hy with rfl | h; exact hx; cases h) (Nat.zero_le _) (fun b hb => nomatch hb))), tl_sh .asg⟩
  | pop hw => exact ⟨(ex4i _ _ _ _ (and5i (.pop) (fun w hx => by rcases List.mem_cons.mp hx with rfl | h; exact hw; cases h) (fun x hx => nomatch hx) (Nat.zero_le _) (fun b hb => nomatch hb))), tl_sh .pop⟩
  | iff hw hb => exact ⟨(ex4i _ _ _ _ (and5i (.iff) (fun w hx => by rcases List.mem_cons.mp hx with rfl | h; exact hw; cases h) (fun x hx => nomatch hx) (Nat.zero_le _) (fun b hx => by rcases List.mem_cons.mp hx with rfl | h; exact hB _ _ _ _ hb; cases h))), tl_sh .iff⟩
  | fr hw ha hb => exact ⟨⟨_, _, _, _, .fr, (fun w hx => by rcases List.mem_cons.mp hx with rfl | h; exact hw; cases h), (fun x hx => nomatch hx), Nat.zero_le _, (fun b hx => by
      rcases List.mem_cons.mp hx with rfl | h
      · exact hB _ _ _ _ hb
      · rcases List.mem_cons.mp h with rfl | h
        · exact hB _ _ _ _ ha
        · cases h)⟩, tl_sh .fr⟩
  | sw1 hw hb => exact ⟨(ex4i _ _ _ _ (and5i (.sw1) (fun w hx => by rcases List.mem_cons.mp hx with rfl | h; exact hw; cases h) (fun x hx => nomatch hx) (Nat.zero_le _) (fun b hx => by rcases List.mem_cons.mp hx with rfl | h; exact hB _ _ _ _ hb; cases h))), tl_sh .sw1⟩
  | sw2 hw ha hb => exact ⟨⟨_, _, _, _, .sw2, (fun w hx => by rcases List.mem_cons.mp hx with rfl | h; exact hw; cases h), (fun x hx => nomatch hx), Nat.zero_le _, (fun b hx => by
      rcases List.mem_cons.mp hx with rfl | h
      · exact hB _ _ _ _ ha
      · rcases List.mem_cons.mp h with rfl | h
        · exact hB _ _ _ _ hb
        · cases h)⟩, tl_sh .sw2⟩
  | blk hb => exact ⟨(ex4i _ _ _ _ (and5i (.blk) (fun w hw => nomatch hw) (fun x hx => nomatch hx) (Nat.zero_le _) (fun b hx => by rcases List.mem_cons.mp hx with rfl | h; exact hB _ _ _ _ hb; cases h))), tl_sh .blk⟩
theorem WL.wf {S : List Str → Nat → Nd → List Str → Nat → Prop} {B' : List Str → List Nd → Prop} (hS : ∀ L k t ns k', S L k t ns k' → WfS B' L t ∧ tlOf t = ns) {L k kids L' k'} (h : WL S L k kids L' k') : WfL B' L kids := by
  induction h with
  | nil => exact trivial
  | cons s _ ih => obtain ⟨a, b⟩ := hS _ _ _ _ _ s; exact ⟨a, by rw [b]; exact ih⟩
theorem WB.wf : ∀ (d : Nat) {L k kids k'}, WB d L k kids k' → Wf (d + 1) L kids
  | 0, L, k, kids, k', ⟨h1, L', h2⟩ => ⟨h1, WL.wf (fun L k t ns k' h => WS.wf (B' := Wf 0) (fun _ _ _ _ h => h.elim) h) h2⟩
  | d + 1, L, k, kids, k', h => by
    refine and2e (WB_iff.mp h) fun h1 h9x => ?_
    refine ex1e h9x fun L' h2 => ?_
    try clear h9x
    exact ⟨h1, WL.wf (fun L k t ns k' h => WS.wf (B' := Wf (d + 1)) (fun _ _ _ _ h => WB.wf d h) h) h2⟩
noncomputable def pk : Nat → Nat
  | 0 => 0
  | d + 1 => 6 * bl d + pk d
theorem lastI_spec (x : Str) : ∀ (q : List (List Str)) (a v : Int), (lastI x q a v = v ∧ ∀ j : Nat, x ∉ q.getD j []) ∨ ∃ j : Nat, j < q.length ∧ lastI x q a v = a + j ∧ x ∈ q.getD j [] ∧ ∀ j' : Nat, j < j' → x ∉ q.getD j' []
  | [], a, v => .inl ⟨rfl, fun j => by simp⟩
  | r :: q, a, v => by
    rw [lastI]
    rcases lastI_spec x q (a + 1) (if x ∈ r then a else v) with ⟨h1, h2⟩ | ⟨j, h1, h2, h3, h4⟩
    · by_cases hx : x ∈ r
      · right
        refine (⟨0, and4i (by simp) (by rw [h1, if_pos hx]; simp) (by simpa using hx) (fun j' hj => ?_)⟩)
        obtain ⟨m, rfl⟩ : ∃ m, j' = m + 1 := ⟨j' - 1, by omega⟩
        have := h2 m
        simpa using this
      · left
        refine ⟨by rw [h1, if_neg hx], fun j => ?_⟩
        cases j with
        | zero => simpa using hx
        | succ j => have := h2 j; simpa using this
    · right
      refine (⟨j + 1, and4i (by simp; omega) (by rw [h2]; omega) (by simpa using h3) (fun j' hj => ?_)⟩)
      obtain ⟨m, rfl⟩ : ∃ m, j' = m + 1 := ⟨j' - 1, by omega⟩
      have := h4 m (by omega)
      simpa using this
theorem WE.filter {L w} (h : WE L w) : WE (L.filter fun x => decide (x ∈ rd w)) w := by
  induction h with
  | atom h0 =>
    induction h0 with
    | num i a b => exact .atom (.num i a b)
    | nam x hx => exact .atom (.nam x (by rw [List.mem_filter, rd_nam]; exact ⟨hx, by simp⟩))
  | @call f ks hk hl =>
    refine .call (fun t ht => ?_) hl
    have hin : ∀ (ks : List Nd) x, namN x ∈ ks → x ∈ nameKids ks := by
      intro ks
      induction ks with
      | nil => intro x h; cases h
      | cons u r ih =>
        intro x h
        rw [nameKids]
        rcases List.mem_cons.mp h with rfl | h
        · exact List.mem_append_left _ (by rw [if_pos (show (namN x).kind = "name" from rfl)]; exact .head _)
        · exact List.mem_append_right _ (ih x h)
    cases hk t ht with
    | num i a b => exact .num i a b
    | nam x hx => exact .nam x (by rw [List.mem_filter, rd_call]; exact ⟨hx, by simpa using hin ks x ht⟩)
theorem WE.wev {L w} {V : Str → Prop} (h : WE L w) (hV : ∀ x ∈ L, x ∈ rd w → V x) : WEV V w := ⟨_, h.filter, fun x hx => by
  rw [List.mem_filter] at hx; exact hV x hx.1 (by simpa using hx.2)⟩
theorem HOk.sub {h : Fn} {V W : Str → Prop} (k : HOk h V) (s : ∀ x, W x → V x) : HOk h W := ⟨fun x hx => k.1 x (s x hx), fun x y hx hy => k.2 x y (s x hx) (s y hy)⟩
theorem fit_stat {U h d t ws bs tl ml} {V V' : Str → Prop} (hs : Shp t ws bs tl ml) (hw : ∀ w ∈ ws, WEV V w) (hb : ∀ b ∈ bs, FitB U h d V b V) (hV : ∀ x, V' x → V x ∨ x ∈ tl) (htU : ∀ x ∈ tl, x ∈ U) (hmU : ∀ x ∈ ml, x ∈ U)
    (hok : HOk h fun x => V' x ∨ x ∈ tl) (hmok : HOk h fun x => V' x ∨ x ∈ ml) : FitS U h (FitB U h d) V t V' := by
  induction hs with
  | let0 => exact .let0 htU hV hok
  | let1 => exact .let1 (hw _ (.head _)) htU hV hok
  | @asg x w => exact .asg (hw _ (.head _)) (hmU x (.head _)) (fun y hy => (hV y hy).resolve_right (List.not_mem_nil)) hmok
  | pop => exact .pop (hw _ (.head _)) (fun y hy => (hV y hy).resolve_right (List.not_mem_nil))
  | iff => exact .iff (hw _ (.head _)) (hb _ (.head _)) (fun y hy => (hV y hy).resolve_right (List.not_mem_nil))
  | fr => exact .fr (hw _ (.head _)) (hb _ (.tail _ (.head _))) (hb _ (.head _)) (fun y hy => (hV y hy).resolve_right (List.not_mem_nil))
  | sw1 => exact .sw1 (hw _ (.head _)) (hb _ (.head _)) (fun y hy => (hV y hy).resolve_right (List.not_mem_nil))
  | sw2 => exact .sw2 (hw _ (.head _)) (hb _ (.head _)) (hb _ (.tail _ (.head _))) (fun y hy => (hV y hy).resolve_right (List.not_mem_nil))
  | blk => exact .blk (hb _ (.head _)) (fun y hy => (hV y hy).resolve_right (List.not_mem_nil))
theorem inner_sh {t ws bs tl ml} (hs : Shp t ws bs tl ml) : ∃ bs' : List (List Nd), InnerOf t (bs'.map blkN) ∧ bs'.Perm bs := by
  induction hs with
  | let0 => exact ⟨[], .let', .refl _⟩
  | let1 => exact ⟨[], .let', .refl _⟩
  | asg => exact ⟨[], .asg, .refl _⟩
  | pop => exact ⟨[], .pop, .refl _⟩
  | iff => exact ⟨[_], .iff, .refl _⟩
  | fr => exact ⟨[_, _], .fr, List.Perm.swap _ _ _⟩
  | @sw1 w b => exact ⟨[b], InnerOf.sw (rows := [(.none, blkN b)]), .refl _⟩
  | @sw2 w v a b => exact ⟨[a, b], InnerOf.sw (rows := [(.int v, blkN a), (.none, blkN b)]), .refl _⟩
  | blk => exact ⟨[_], .blk, .refl _⟩
noncomputable abbrev Dy := List (Int × Addr × List Str)
noncomputable def dyAt : Dy → Int → List Str
  | [], _ => []
  | (k, a, ns) :: r, i => if k = i then ns else dyAt r i
noncomputable def dyRef : Dy → Int → Option Value
  | [], _ => none
  | (k, a, ns) :: r, i => if k = i then some (.ref a) else dyRef r i
noncomputable def dyH : Dy → HT
  | [] => []
  | (k, a, ns) :: r => (a, .list (ns.map vS)) :: dyH r
noncomputable def dyAdd : Dy → Int → Str → Dy
  | [], _, _ => []
  | (k, a, ns) :: r, i, x => if k = i then (k, a, ns ++ [x]) :: r else (k, a, ns) :: dyAdd r i x
theorem dy_get (dy : Dy) (i : Int) (E : Addr) : ∃ ea, (dyRef dy i).getD (.ref E) = .ref ea ∧ (ea, AO.list ((dyAt dy i).map vS)) ∈ (E, AO.list []) :: dyH dy := by
  induction dy with
  | nil => exact ⟨E, rfl, .head _⟩
  | cons p r ih =>
    obtain ⟨k, a, ns⟩ := p
    unfold dyRef dyAt dyH
    by_cases c : k = i
    · rw [if_pos c, if_pos c]; exact ⟨a, rfl, .tail _ (.head _)⟩
    · rw [if_neg c, if_neg c]
      refine ex1e ih fun ea h9x => ?_
      refine and2e h9x fun h1 h2 => ?_
      try clear h9x ih
      refine ⟨ea, h1, ?_⟩
      rcases List.mem_cons.mp h2 with h | h
      · rw [h]; exact .head _
      · exact .tail _ (.tail _ h)
theorem HUpd.app {a : Addr} {o o' : AO} {H H' : HT} (R : HT) (h : HUpd a o o' H H') : HUpd a o o' (H ++ R) (H' ++ R) := by
  induction h with
  | head => exact .head
  | tail _ ih => exact .tail ih
theorem dy_add {dy : Dy} {i : Int} {v : Value} (x : Str) (h : dyRef dy i = some v) : ∃ a, v = .ref a ∧ HUpd a (.list ((dyAt dy i).map vS)) (.list ((dyAt dy i ++ [x]).map vS)) (dyH dy) (dyH (dyAdd dy i x)) ∧ dyRef (dyAdd dy i x) = dyRef dy ∧ (∀ j, dyAt (dyAdd dy i x) j = if j = i then dyAt dy i ++ [x] else dyAt dy j) ∧ (dyAdd dy i x).length = dy.length := by
  induction dy with
  | nil => cases h
  | cons p r ih =>
    obtain ⟨k, a, ns⟩ := p
    unfold dyRef at h
    by_cases c : k = i
    · rw [if_pos c] at h
      cases h
      have e1 : dyAdd ((k, a, ns) :: r) i x = (k, a, ns ++ [x]) :: r := by unfold dyAdd; rw [if_pos c]
      have e2 : dyAt ((k, a, ns) :: r) i = ns := by unfold dyAt; rw [if_pos c]
      rw [e1, e2]
      refine (⟨a, and5i rfl (.head) rfl (fun j => ?_) rfl⟩)
      unfold dyAt
      by_cases c2 : j = i
      · rw [if_pos c2, if_pos (by omega)]
      · rw [if_neg c2, if_neg (by omega), if_neg (by omega)]
    · rw [if_neg c] at h
      refine ex1e (ih h) fun b h9x => ?_
      refine and5e h9x fun h1 h2 h3 h4 h5 => ?_
      try clear h9x
      have e1 : dyAdd ((k, a, ns) :: r) i x = (k, a, ns) :: dyAdd r i x := by conv => lhs; unfold dyAdd
                                                                              rw [if_neg c]
      have e2 : dyAt ((k, a, ns) :: r) i = dyAt r i := by conv => lhs; unfold dyAt
                                                          rw [if_neg c]
      rw [e1, e2]
      refine (⟨b, and5i h1 (.tail h2) ?_ (fun j => ?_) (by simp [h5])⟩)
      · funext j
        show (if k = j then _ else dyRef (dyAdd r i x) j) = (if k = j then _ else dyRef r j)
        rw [h3]
      · show (if k = j then ns else dyAt (dyAdd r i x) j) = _
        rw [h4 j]
        by_cases c2 : k = j
        · rw [if_pos c2, if_neg (by omega)]; show ns = (if k = j then ns else _); rw [if_pos c2]
        · rw [if_neg c2]
          by_cases c3 : j = i
          · rw [if_pos c3, if_pos c3]
          · rw [if_neg c3, if_neg c3]; show _ = (if k = j then ns else _); rw [if_neg c2]
theorem dy_new (dy : Dy) (i : Int) (E : Addr) : dyRef ((i, E, []) :: dy) = updF (dyRef dy) i (.ref E) := by
  funext j; unfold updF
  show (if i = j then _ else _) = _
  by_cases c : j = i
  · rw [if_pos c, if_pos c.symm]
  · rw [if_neg c, if_neg fun h => c h.symm]
theorem dyAt_none {dy : Dy} {i : Int} (h : dyRef dy i = none) : dyAt dy i = [] := by
  induction dy with
  | nil => rfl
  | cons p r ih =>
    obtain ⟨k, a, ns⟩ := p
    unfold dyRef at h
    unfold dyAt
    by_cases c : k = i
    · rw [if_pos c] at h; cases h
    · rw [if_neg c] at h ⊢; exact ih h

-- P10

structure PIn (U : List Str) (d : Nat) (L : List Str) (kids : List Nd) (l : Ly) (home due : Fn) (D : Int → List Str) : Prop where
  wf : Wf d L kids
  snd : l.Snd
  cap : l.slots.length + pk d ≤ 63
  sup : Sup U l.held
  suph : Sup U home
  nd : (dns kids).Nodup
  fresh : ∀ x ∈ dns kids, x ∈ U ∧ x ≠ "" ∧ l.held x = none
  hh : ∀ x i, l.held x = some i → home x = some i
  du : DuB d due kids
  see : ∀ x ∈ L, x ∈ (rowsAll kids).flatten → (l.held x).isSome
  dk : ∀ j x, x ∈ D j → -1 ≤ j ∧ j < kids.length
  dd : ∀ j, (D j).Nodup
  dj : ∀ i j x, x ∈ D i → x ∈ D j → i = j
  dh : ∀ j x, x ∈ D j → (l.held x).isSome
  dr : ∀ j x, x ∈ D j → ∀ m : Nat, j < m → x ∉ (rowsAll kids).getD m []
structure POut (U : List Str) (d : Nat) (kids : List Nd) (l : Ly) (home : Fn) (D : Int → List Str) (l' : Ly) (home' : Fn) : Prop where
  snd : l'.Snd
  len : l'.slots.length = l.slots.length
  heldIn : ∀ x j, x ∈ D j → l'.held x = none
  heldOut : ∀ x, (∀ j, x ∉ D j) → l'.held x = l.held x
  homeo : ∀ x, x ∉ dns kids → home' x = home x
  suph : Sup U home'
  fit : ∀ h : Fn, (∀ x, x ∈ dns kids ∨ (l.held x).isSome → h x = home' x) → FitB U h d (fun x => (l.held x).isSome ∧ x ∉ D (-1)) kids fun x => (l'.held x).isSome
structure PInv (U : List Str) (d : Nat) (kids : List Nd) (l0 : Ly) (home0 : Fn) (D0 : Int → List Str) (i : Nat) (Li : List Str) (l : Ly) (home : Fn) (D : Int → List Str) : Prop where
  wf : WfL (Wf d) Li (kids.drop i)
  snd : l.Snd
  lenlo : l0.slots.length ≤ l.slots.length
  lenhi : l.slots.length ≤ l0.slots.length + 6 * i
  sup : Sup U l.held
  suph : Sup U home
  fresh : ∀ x ∈ dns (kids.drop i), l.held x = none
  hh : ∀ x i, l.held x = some i → home x = some i
  see : ∀ x ∈ Li, x ∈ (rowsAll (kids.drop i)).flatten → (l.held x).isSome
  dk : ∀ j x, x ∈ D j → -1 ≤ j ∧ j < kids.length
  dd : ∀ j, (D j).Nodup
  dj : ∀ i j x, x ∈ D i → x ∈ D j → i = j
  dh : ∀ j x, (i : Int) ≤ j → x ∈ D j → (l.held x).isSome
  dr : ∀ j x, x ∈ D j → ∀ m : Nat, j < m → x ∉ (rowsAll kids).getD m []
  da : ∀ j x, x ∈ D j → (l0.held x).isSome ∨ x ∈ dns (kids.take i)
  dold : ∀ j x, (l0.held x).isSome → (x ∈ D j ↔ x ∈ D0 j)
  acct : ∀ x, (l.held x).isSome → (l0.held x).isSome ∨ ((∃ j, (i : Int) ≤ j ∧ x ∈ D j) ∧ x ∈ dns (kids.take i))
  oldIn : ∀ x j, j < (i : Int) → x ∈ D0 j → l.held x = none
  oldOut : ∀ x, (l0.held x).isSome → (∀ j, j < (i : Int) → x ∉ D0 j) → l.held x = l0.held x
  homeo : ∀ x, x ∉ dns (kids.take i) → home x = home0 x
  trim : l0.slots.length < l.slots.length → l.slots.getLastD "" ≠ ""
  fit : ∀ h : Fn, (∀ x, x ∈ dns (kids.take i) ∨ (l0.held x).isSome → h x = home x) → FitL (FitS U h (FitB U h d)) (fun x => (l0.held x).isSome ∧ x ∉ D0 (-1)) (kids.take i) fun x => (l.held x).isSome
theorem mem_flat {x : Str} {q : List (List Str)} : x ∈ q.flatten ↔ ∃ j : Nat, x ∈ q.getD j [] := by
  rw [List.mem_flatten]
  constructor
  · rintro ⟨r, h1, h2⟩
    obtain ⟨j, hj, e⟩ := List.getElem_of_mem h1
    exact ⟨j, by rw [List.getD_eq_getElem?_getD, List.getElem?_eq_getElem hj, e]; exact h2⟩
  · rintro ⟨j, hj⟩
    by_cases h : j < q.length
    · rw [List.getD_eq_getElem?_getD, List.getElem?_eq_getElem h] at hj
      exact ⟨q[j], List.getElem_mem h, hj⟩
    · rw [List.getD_eq_getElem?_getD, List.getElem?_eq_none (by omega)] at hj
      cases hj
theorem rows_at (kids : List Nd) (i j : Nat) : (rowsAll (kids.drop i)).getD j [] = (rowsAll kids).getD (i + j) [] := by
  rw [← rowsAll_drop, List.getD_eq_getElem?_getD, List.getD_eq_getElem?_getD, List.getElem?_drop]
theorem PInv.start {U d L kids l home due D} (P : PIn U (d + 1) L kids l home due D) : PInv U d kids l home D 0 L (Ly.rels (D (-1)) l) home D := by
  have hl := (Ly.rels_len (D (-1)) l).1
  have at' := Ly.rels_at (D (-1)) l
  have keep : ∀ x, ((Ly.rels (D (-1)) l).held x).isSome → (l.held x).isSome ∧ x ∉ D (-1) := fun x hx => by
    rw [at'] at hx; split at hx
    · cases hx
    · rename_i h; exact ⟨hx, h⟩
  refine ⟨P.wf.2, P.snd.rels _, by omega, by omega, fun x hx => P.sup x (keep x hx).1, P.suph, fun x hx => ?_, fun x i hx => ?_, fun x hx hr => ?_, P.dk, P.dd, P.dj, fun j x hj hx => ?_, P.dr, fun j x hx => .inl (P.dh j x hx), fun _ _ _ => Iff.rfl, fun x hx => .inl (keep x hx).1, fun x j hj hx => ?_, fun x hx hn => ?_, fun _ _ => rfl, fun h => by omega, fun h _ => ?_⟩
  · rw [at']; split
    · rfl
    · exact (P.fresh x hx).2.2
  · rw [at'] at hx; split at hx
    · cases hx
    · exact P.hh x i hx
  · rw [at', if_neg]
    · exact P.see x hx hr
    · intro hm
      refine ex1e (mem_flat.mp hr) fun m hm2 => ?_
      exact P.dr (-1) x hm m (by omega) hm2
  · rw [at', if_neg]
    · exact P.dh j x hx
    · intro hm
      have := P.dj _ _ x hx hm
      omega
  · have := (P.dk j x hx).1
    have e : j = -1 := by omega
    subst e
    rw [at', if_pos hx]
  · rw [at', if_neg (hn (-1) (by omega))]
  · have : (fun x => ((Ly.rels (D (-1)) l).held x).isSome = true) = fun x => (l.held x).isSome = true ∧ x ∉ D (-1) := by
      funext x; apply propext
      refine ⟨keep x, fun ⟨h1, h2⟩ => ?_⟩
      rw [at', if_neg h2]; exact h1
    rw [this, List.take_zero]
    exact .nil
theorem PInv.stop {U d L kids l0 home0 due D0 Li l home D} (P : PIn U (d + 1) L kids l0 home0 due D0) (I : PInv U d kids l0 home0 D0 kids.length Li l home D) : POut U (d + 1) kids l0 home0 D0 l home := by
  have hD : ∀ x j, x ∈ D0 j → l.held x = none := fun x j hx => I.oldIn x j (P.dk j x hx).2 hx
  have hout : ∀ x, (∀ j, x ∉ D0 j) → l.held x = l0.held x := fun x hx => by
    cases h0 : l0.held x with
    | some v => rw [← h0]; exact I.oldOut x (by rw [h0]; rfl) fun j _ => hx j
    | none =>
      cases h1 : l.held x with
      | none => rfl
      | some v =>
        exfalso
        rcases I.acct x (by rw [h1]; rfl) with h | ⟨⟨j, hj, hxj⟩, _⟩
        · rw [h0] at h; cases h
        · have := (I.dk j x hxj).2; omega
  have hidx : ∀ x i, l.held x = some i → i < l0.slots.length := fun x i hx => by
    have : ∀ j, x ∉ D0 j := fun j hj => by rw [hD x j hj] at hx; cases hx
    rw [hout x this] at hx
    exact (P.snd.fwd x i hx).2.1
  have hlen : l.slots.length = l0.slots.length := by
    have := I.lenlo
    apply Classical.byContradiction
    intro hne
    have hlt : l0.slots.length < l.slots.length := by omega
    have ht := I.trim hlt
    have hi : l.slots.length - 1 < l.slots.length := by omega
    have e1 : l.slots.getLastD "" = l.slots[l.slots.length - 1] := by
      rw [List.getLastD_eq_getLast?, List.getLast?_eq_getElem?, List.getElem?_eq_getElem hi]; rfl
    rw [e1] at ht
    have := hidx _ _ (I.snd.bwd _ _ (List.getElem?_eq_getElem hi) ht)
    omega
  refine ⟨I.snd, hlen, hD, hout, fun x hx => I.homeo x (by rwa [List.take_length]), I.suph, fun h hh => ?_⟩
  have := I.fit h (by rwa [List.take_length])
  rwa [List.take_length] at this
structure PMid (U : List Str) (d : Nat) (kids : List Nd) (l0 : Ly) (home0 : Fn) (D0 : Int → List Str) (i : Nat) (Li : List Str) (bs : List (List Nd)) (tl ml : List Str) (lI : Ly) (homeI : Fn) (en : List Str) (l : Ly) (home : Fn) (D : Int → List Str) : Prop where
  snd : l.Snd
  lenlo : l0.slots.length ≤ l.slots.length
  lenhi : l.slots.length ≤ l0.slots.length + 6 * (i + 1)
  sup : Sup U l.held
  suph : Sup U home
  hh : ∀ x i, l.held x = some i → home x = some i
  fresh : ∀ x, x ∈ dnss bs ∨ x ∈ dns (kids.drop (i + 1)) → l.held x = none
  see0 : ∀ x ∈ Li, x ∈ bsR bs → (l.held x).isSome
  see : ∀ x ∈ Li ++ tl, x ∈ (rowsAll (kids.drop (i + 1))).flatten → (l.held x).isSome ∧ x ∉ en
  dk : ∀ j x, x ∈ D j → -1 ≤ j ∧ j < kids.length
  dd : ∀ j, (D j).Nodup
  dj : ∀ i j x, x ∈ D i → x ∈ D j → i = j
  dh : ∀ j x, (i : Int) + 1 ≤ j → x ∈ D j → (l.held x).isSome ∧ x ∉ en
  dr : ∀ j x, x ∈ D j → ∀ m : Nat, j < m → x ∉ (rowsAll kids).getD m []
  da : ∀ j x, x ∈ D j → (l0.held x).isSome ∨ x ∈ dns (kids.take i) ∨ x ∈ tl
  dold : ∀ j x, (l0.held x).isSome → (x ∈ D j ↔ x ∈ D0 j)
  acct : ∀ x, (l.held x).isSome → x ∉ en → (l0.held x).isSome ∨ ((∃ j, (i : Int) + 1 ≤ j ∧ x ∈ D j) ∧ (x ∈ dns (kids.take i) ∨ x ∈ tl))
  acct0 : ∀ x, (l.held x).isSome → (l0.held x).isSome ∨ x ∈ dns (kids.take i) ∨ x ∈ tl
  oldIn : ∀ x j, j < (i : Int) + 1 → x ∈ D0 j → l.held x = none ∨ x ∈ en
  oldOut : ∀ x, (l0.held x).isSome → (∀ j, j < (i : Int) + 1 → x ∉ D0 j) → l.held x = l0.held x ∧ x ∉ en
  homeo : ∀ x, x ∉ tl → home x = homeI x
  enNd : en.Nodup
  enH : ∀ x ∈ en, (l.held x).isSome
  grow : ∀ x, (l.held x).isSome → (lI.held x).isSome ∨ x ∈ tl
  tlH : ∀ x ∈ tl, (l.held x).isSome
  mlH : ∀ x ∈ ml, (l.held x).isSome
  inner : bs ≠ [] → l = lI
theorem take_succ {kids : List Nd} {i : Nat} {t : Nd} (h : kids[i]? = some t) : kids.take (i + 1) = kids.take i ++ [t] := by
  rw [List.take_add_one, h]; rfl
theorem dns_one (t : Nd) : dns [t] = dn t := by rw [dns_cons]; exact List.append_nil _
theorem PInv.dnSplit {kids : List Nd} {i : Nat} {t : Nd} (h : kids[i]? = some t) : dns kids = dns (kids.take i) ++ (dn t ++ dns (kids.drop (i + 1))) := by
  conv => lhs; rw [← List.take_append_drop i kids]
  rw [dns_append, drop_get h, dns_cons]
theorem hok_of {l : Ly} {h : Fn} {W : Str → Prop} (S : l.Snd) (k : ∀ x, W x → (l.held x).isSome ∧ h x = l.held x) : HOk h W := by
  refine ⟨fun x hx => ?_, fun x y hx hy e => ?_⟩
  · refine and2e (k x hx) fun h1 h2 => ?_
    refine ex1e (Option.isSome_iff_exists.mp h1) fun i hi => ?_
    have := S.fwd x i hi
    have := S.len
    exact (⟨i, and3i (by rw [h2, hi]) (by omega) (by omega)⟩)
  · refine hide fun G9 hG9 => ?_
    refine and2e (k x hx) fun h1 h2 => ?_
    refine and2e (k y hy) fun g1 g2 => ?_
    refine ex1e (Option.isSome_iff_exists.mp h1) fun i hi => ?_
    refine hG9 ?_; clear hG9 G9
    rw [h2, g2, hi] at e
    exact S.inj hi e.symm
theorem PMid.next {U d L kids l0 home0 due D0 i Li ws bs tl ml lI homeI DI en l home D home3 t} {l5 : Ly} (P : PIn U (d + 1) L kids l0 home0 due D0) (I : PInv U d kids l0 home0 D0 i Li lI homeI DI)
    (ht : kids[i]? = some t) (hs : Shp t ws bs tl ml) (hw : ∀ w ∈ ws, WE Li w) (hml : ∀ x ∈ ml, x ∈ Li) (M : PMid U d kids l0 home0 D0 i Li bs tl ml lI homeI en l home D)
    (S5 : l5.Snd) (home3o : ∀ x, x ∉ dnss bs → home3 x = home x) (sup3 : Sup U home3)
    (hfit : ∀ h : Fn, (∀ x, x ∈ dnss bs ∨ (l.held x).isSome → h x = home3 x) → ∀ b ∈ bs, FitB U h d (fun x => (l.held x).isSome) b fun x => (l.held x).isSome)
    (h5 : ∀ x, l5.held x = if x ∈ en then none else l.held x) (h5lo : l0.slots.length ≤ l5.slots.length) (h5hi : l5.slots.length ≤ l.slots.length) (h5t : l0.slots.length < l5.slots.length → l5.slots.getLastD ("" : Str) ≠ ("" : Str)) :
    PInv U d kids l0 home0 D0 (i + 1) (Li ++ tl) l5 home3 D := by
  have hpl := P.wf.pl (d + 1)
  have hpt := hpl t (List.mem_of_getElem? ht)
  have hww : ∀ w ∈ ws, ∃ L, WE L w := fun w hx => ⟨Li, hw w hx⟩
  have et := tl_sh hs
  have ed := dn_sh hs hww
  have nd := P.nd
  have split := PInv.dnSplit ht
  rw [split, List.nodup_append] at nd
  refine and3e nd fun n1 n2 n3 => ?_
  try clear nd
  rw [ed] at n3 n2
  rw [List.nodup_append, List.nodup_append] at n2
  have htake := take_succ ht
  have edt : dns (kids.take (i + 1)) = dns (kids.take i) ++ (tl ++ dnss bs) := by rw [htake, dns_append, dns_one, ed]
  have hsome : ∀ x, (l5.held x).isSome → (l.held x).isSome ∧ x ∉ en := fun x hx => by
    rw [h5] at hx; split at hx
    · cases hx
    · rename_i h; exact ⟨hx, h⟩
  have hnone : ∀ x, l.held x = none → l5.held x = none := fun x hx => by rw [h5, hx]; split <;> rfl
  have hback : ∀ x, (l.held x).isSome → x ∉ en → l5.held x = l.held x := fun x _ h => by rw [h5, if_neg h]
  have fresh0 : ∀ x ∈ dnss bs, (l0.held x).isSome → False := fun x hx h => by
    rw [(P.fresh x (by rw [split, ed]; exact List.mem_append_right _ (List.mem_append_left _ (List.mem_append_right _ hx)))).2.2] at h; cases h
  have hwf : WfL (Wf d) (Li ++ tl) (kids.drop (i + 1)) := by
    have := I.wf; rw [drop_get ht] at this; rw [← et]; exact this.2
  refine ⟨hwf, S5, h5lo, by have := M.lenhi; omega, fun x hx => M.sup x (hsome x hx).1, sup3, fun x hx => hnone x (M.fresh x (.inr hx)), fun x j hx => ?_, fun x hx hr => ?_, M.dk, M.dd, M.dj, fun j x hj hx => ?_, M.dr, fun j x hx => ?_, M.dold, fun x hx => ?_, fun x j hj hx => ?_, fun x hx hn => ?_, fun x hx => ?_, h5t, fun h hh => ?_⟩
  · have hs1 := hsome x (by rw [hx]; rfl)
    rw [hback x hs1.1 hs1.2] at hx
    rw [home3o, M.hh x j hx]
    intro hm
    rw [M.fresh x (.inl hm)] at hx; cases hx
  · refine and2e (M.see x hx hr) fun a b => ?_
    rw [hback x a b]; exact a
  · refine and2e (M.dh j x (by omega) hx) fun a b => ?_
    rw [hback x a b]; exact a
  · rw [edt, List.mem_append, List.mem_append]
    exact (M.da j x hx).imp id fun h => h.imp id .inl
  · refine and2e (hsome x hx) fun a b => ?_
    rw [edt, List.mem_append, List.mem_append]
    exact (M.acct x a b).imp id fun ⟨⟨j, hj, hx⟩, h⟩ => ⟨⟨j, by omega, hx⟩, h.imp id .inl⟩
  · rcases M.oldIn x j (by omega) hx with h | h
    · exact hnone x h
    · rw [h5, if_pos h]
  · refine and2e (M.oldOut x hx fun j hj => hn j (by omega)) fun a b => ?_
    rw [h5, if_neg b, a]
  · rw [edt, List.mem_append, List.mem_append, not_or, not_or] at hx
    rw [home3o x hx.2.2, M.homeo x hx.2.1, I.homeo x hx.1]
  · rw [htake]
    have agree : ∀ x, x ∈ dnss bs ∨ (l.held x).isSome → h x = home3 x := fun x hx => hh x (by
      rw [edt, List.mem_append, List.mem_append]
      rcases hx with hx | hx
      · exact .inl (.inr (.inr hx))
      · rcases M.acct0 x hx with h | h | h
        · exact .inr h
        · exact .inl (.inl h)
        · exact .inl (.inr (.inl h)))
    have hheld : ∀ x, (l.held x).isSome → h x = l.held x := fun x hx => by
      rw [agree x (.inr hx), home3o]
      · refine ex1e (Option.isSome_iff_exists.mp hx) fun j hj => ?_
        rw [hj, M.hh x j hj]
      · intro hm
        rw [M.fresh x (.inl hm)] at hx; cases hx
    refine FitL.snoc (I.fit h fun x hx => ?_) (fit_stat hs (fun w hwm => (hw w hwm).wev fun x hx hr => I.see x hx ?_) (fun b hb => ?_) (fun x hx => M.grow x (hsome x hx).1) (fun x hx => M.sup x (M.tlH x hx)) (fun x hx => M.sup x (M.mlH x hx)) (hok_of M.snd fun x hx => ?_) (hok_of M.snd fun x hx => ?_))
    · rw [hh x (by rw [edt, List.mem_append]; exact hx.imp .inl id), home3o, M.homeo]
      · intro hm
        rcases hx with hx | hx
        · exact n3 x hx x (List.mem_append_left _ (List.mem_append_left _ hm)) rfl
        · rw [(P.fresh x (by rw [split, ed]; exact List.mem_append_right _ (List.mem_append_left _ (List.mem_append_left _ hm)))).2.2] at hx; cases hx
      · intro hm
        rcases hx with hx | hx
        · exact n3 x hx x (List.mem_append_left _ (List.mem_append_right _ hm)) rfl
        · exact fresh0 x hm hx
    · rw [drop_get ht, rowsAll, List.flatten_cons]
      refine List.mem_append_left _ ((st_sh hs hww (hpt.bs hs).2 x).mpr (.inr (.inr (.inl ?_))))
      clear hs hw ed et M hfit hww
      induction ws with
      | nil => cases hwm
      | cons u r ih =>
        rw [rds]
        rcases List.mem_cons.mp hwm with rfl | hwm
        · exact List.mem_append_left _ hr
        · exact List.mem_append_right _ (ih hwm)
    · have e := M.inner (by rintro rfl; cases hb)
      have := hfit h agree b hb
      rw [e] at this; exact this
    · have hl : (l.held x).isSome := hx.elim (fun h => (hsome x h).1) (M.tlH x)
      exact ⟨hl, hheld x hl⟩
    · have hl : (l.held x).isSome := hx.elim (fun h => (hsome x h).1) (M.mlH x)
      exact ⟨hl, hheld x hl⟩

-- P11

section
variable {U : List Str} {d : Nat} {L Li : List Str} {kids : List Nd} {l0 lI : Ly} {home0 homeI due : Fn} {D0 D : Int → List Str} {i : Nat} {t : Nd} {ws : List Nd} {bs : List (List Nd)} {tl ml : List Str}

theorem stL_drop (ht : kids[i]? = some t) {x : Str} (h : x ∈ stL t) : x ∈ (rowsAll (kids.drop i)).flatten := by
  rw [drop_get ht, rowsAll, List.flatten_cons]; exact List.mem_append_left _ h
theorem rows_drop1 (ht : kids[i]? = some t) {x : Str} (h : x ∈ (rowsAll (kids.drop (i + 1))).flatten) : x ∈ (rowsAll (kids.drop i)).flatten := by
  rw [drop_get ht, rowsAll, List.flatten_cons]; exact List.mem_append_right _ h
theorem rows_later {x : Str} (h : x ∈ (rowsAll (kids.drop (i + 1))).flatten) : ∃ m : Nat, (i : Int) < m ∧ x ∈ (rowsAll kids).getD m [] := by
  refine ex1e (mem_flat.mp h) fun j hj => ?_
  rw [rows_at] at hj
  exact ⟨i + 1 + j, by omega, hj⟩
theorem dns_drop1 (ht : kids[i]? = some t) {x : Str} (h : x ∈ dns (kids.drop (i + 1))) : x ∈ dns (kids.drop i) := by
  rw [drop_get ht, dns_cons]; exact List.mem_append_right _ h
theorem dns_drop0 (ht : kids[i]? = some t) {x : Str} (h : x ∈ dn t) : x ∈ dns (kids.drop i) := by
  rw [drop_get ht, dns_cons]; exact List.mem_append_left _ h

theorem PInv.midO (P : PIn U (d + 1) L kids l0 home0 due D0) (I : PInv U d kids l0 home0 D0 i Li lI homeI D) (ht : kids[i]? = some t) (hs : Shp t ws bs [] ml) (hw : ∀ w ∈ ws, WE Li w) (hml : ∀ x ∈ ml, x ∈ Li) :
    PMid U d kids l0 home0 D0 i Li bs [] ml lI homeI (D i) lI homeI D := by
  have hpl := P.wf.pl (d + 1)
  have hpt := hpl t (List.mem_of_getElem? ht)
  have hww : ∀ w ∈ ws, ∃ L, WE L w := fun w hx => ⟨Li, hw w hx⟩
  have ed := dn_sh hs hww
  have st := fun x => st_sh hs hww (hpt.bs hs).2 x
  refine ⟨I.snd, I.lenlo, by have := I.lenhi; omega, I.sup, I.suph, I.hh, fun x hx => I.fresh x ?_, fun x hx hr => I.see x hx (stL_drop ht ((st x).mpr (.inr (.inr (.inr hr))))), fun x hx hr => ?_, I.dk, I.dd, I.dj, fun j x hj hx => ⟨I.dh j x (by omega) hx, fun hm => ?_⟩, I.dr, fun j x hx => (I.da j x hx).imp id .inl, I.dold, fun x hx hn => ?_, fun x hx => ?_, fun x j hj hx => ?_, fun x hx hn => ?_, fun _ _ => rfl, I.dd i, fun x hx => I.dh i x (Int.le_refl _) hx, fun x hx => .inl hx, fun x hx => absurd hx List.not_mem_nil, fun x hx => I.see x (hml x hx) (stL_drop ht ((st x).mpr (.inr (.inl hx)))), fun _ => rfl⟩
  · rcases hx with hx | hx
    · exact dns_drop0 ht (by rw [ed]; exact List.mem_append_right _ hx)
    · exact dns_drop1 ht hx
  · rw [List.append_nil] at hx
    refine ⟨I.see x hx (rows_drop1 ht hr), fun hm => ?_⟩
    refine ex1e (rows_later hr) fun m h9x => ?_
    refine and2e h9x fun hm1 hm2 => ?_
    try clear h9x
    exact I.dr i x hm m hm1 hm2
  · have := I.dj _ _ x hx hm; omega
  · rcases I.acct x hx with h | ⟨⟨j, hj, hxj⟩, h⟩
    · exact .inl h
    · refine .inr ⟨⟨j, ?_, hxj⟩, .inl h⟩
      have : j ≠ i := by rintro rfl; exact hn hxj
      omega
  · rcases I.acct x hx with h | ⟨_, h⟩
    · exact .inl h
    · exact .inr (.inl h)
  · by_cases c : j < (i : Int)
    · exact .inl (I.oldIn x j c hx)
    · have e : j = i := by omega
      subst e
      exact .inr ((I.dold i x (P.dh i x hx)).mpr hx)
  · exact ⟨I.oldOut x hx fun j hj => hn j (by omega), fun hm => hn i (by omega) ((I.dold i x hx).mp hm)⟩

theorem due_spec (P : PIn U (d + 1) L kids l0 home0 due D0) (ht : kids[i]? = some t) {x : Str} (hx : x ∈ tlOf t) : ∃ r : Int, due x = some r ∧ (i : Int) ≤ r ∧ r < kids.length ∧ ∀ m : Nat, r < m → x ∉ (rowsAll kids).getD m [] := by
  have hi : i < kids.length := by obtain ⟨h, _⟩ := List.getElem?_eq_some_iff.mp ht; exact h
  have e := (P.du i t ht).1 x hx
  refine ⟨_, e, ?_⟩
  have key : ∀ m : Nat, i + 1 ≤ m → (rowsAll kids).getD m [] = (rowsAll (kids.drop (i + 1))).getD (m - (i + 1)) [] := fun m hm => by rw [rows_at]; congr 1; omega
  rcases lastI_spec x (rowsAll (kids.drop (i + 1))) ((i : Int) + 1) i with ⟨h1, h2⟩ | ⟨j, h1, h2, h3, h4⟩
  · rw [h1]
    refine (and3i (Int.le_refl _) (by omega) (fun m hm => ?_))
    rw [key m (by omega)]; exact h2 _
  · rw [rowsAll_len, List.length_drop] at h1
    rw [h2]
    refine (and3i (by omega) (by omega) (fun m hm => ?_))
    rw [key m (by omega)]; exact h4 _ (by omega)
noncomputable def addD (D : Int → List Str) (due : Fn) (i : Nat) (tl : List Str) (j : Int) : List Str := D j ++ tl.filter fun x => decide (due x = some j ∧ j ≠ (i : Int))
noncomputable def endD (due : Fn) (i : Nat) (tl : List Str) : List Str := tl.filter fun x => decide (due x = some (i : Int))
theorem mem_addD {j : Int} {x : Str} : x ∈ addD D due i tl j ↔ x ∈ D j ∨ (x ∈ tl ∧ due x = some j ∧ j ≠ (i : Int)) := by
  unfold addD; rw [List.mem_append, List.mem_filter, decide_eq_true_iff]
theorem mem_endD {x : Str} : x ∈ endD due i tl ↔ x ∈ tl ∧ due x = some (i : Int) := by
  unfold endD; rw [List.mem_filter, decide_eq_true_iff]
theorem PInv.midL {l2 : Ly} (P : PIn U (d + 1) L kids l0 home0 due D0) (I : PInv U d kids l0 home0 D0 i Li lI homeI D) (ht : kids[i]? = some t) (hs : Shp t ws [] tl []) (hw : ∀ w ∈ ws, WE Li w) (h6 : tl.length ≤ 6)
    (G : Given U tl (Ly.rels (D i) lI) l2) :
    PMid U d kids l0 home0 D0 i Li [] tl [] lI homeI (endD due i tl) l2 (fun x => if x ∈ tl then l2.held x else homeI x) (addD D due i tl) := by
  have hww : ∀ w ∈ ws, ∃ L, WE L w := fun w hx => ⟨Li, hw w hx⟩
  have ed : dn t = tl := by rw [dn_sh hs hww]; exact List.append_nil _
  have et := tl_sh hs
  have nd := P.nd
  have split := PInv.dnSplit ht
  rw [split, List.nodup_append, ed, List.nodup_append] at nd
  refine and3e nd fun n1 n9b n3 => ?_
  try clear nd
  refine and3e n9b fun n2 n4 n5 => ?_
  try clear n9b
  have hlM := (Ly.rels_len (D i) lI).1
  have at' := Ly.rels_at (D i) lI
  have hdue := fun x (hx : x ∈ tl) => due_spec P ht (x := x) (by rw [et]; exact hx)
  have tl0 : ∀ x, x ∈ tl → l0.held x = none := fun x hx => (P.fresh x (by rw [split, ed]; exact List.mem_append_right _ (List.mem_append_left _ hx))).2.2
  have tlD : ∀ x j, x ∈ tl → x ∉ D j := fun x j hx hm => by
    rcases I.da j x hm with h | h
    · rw [tl0 x hx] at h; cases h
    · exact n3 x h x (List.mem_append_left _ hx) rfl
  have out2 : ∀ x, x ∉ tl → l2.held x = if x ∈ D i then none else lI.held x := fun x hx => by rw [G.out x hx, at']
  have outS : ∀ x, x ∉ tl → (l2.held x).isSome → (lI.held x).isSome ∧ x ∉ D i := fun x hx h => by
    rw [out2 x hx] at h; split at h
    · cases h
    · rename_i hm; exact ⟨h, hm⟩
  have outK : ∀ x, x ∉ tl → x ∉ D i → l2.held x = lI.held x := fun x hx hm => by rw [out2 x hx, if_neg hm]
  refine ⟨G.snd, by have := G.len0; have := I.lenlo; omega, by have := G.len; have := I.lenhi; omega, G.sup, fun x hx => ?_, fun x j hx => ?_, fun x hx => ?_, fun x _ hr => by simp [bsR] at hr, fun x hx hr => ?_, fun j x hx => ?_, fun j => ?_, fun j j' x hx hx' => ?_, fun j x hj hx => ?_, fun j x hx => ?_, fun j x hx => ?_, fun j x hx => ?_, fun x hx hn => ?_, fun x hx => ?_, fun x j hj hx => ?_, fun x hx hn => ?_, fun x hx => if_neg hx, n2.filter _, fun x hx => G.inn x (mem_endD.mp hx).1, fun x hx => ?_, G.inn, fun x hx => absurd hx List.not_mem_nil, fun h => absurd rfl h⟩
  · split at hx
    · exact G.sup x hx
    · exact I.suph x hx
  · by_cases c : x ∈ tl
    · rw [if_pos c, hx]
    · rw [if_neg c]
      have := outS x c (by rw [hx]; rfl)
      rw [outK x c this.2] at hx
      exact I.hh x j hx
  · have hx := hx.resolve_left (by simp [dnss])
    have c : x ∉ tl := fun h => n5 x h x hx rfl
    rw [out2 x c, I.fresh x (dns_drop1 ht hx)]
    split <;> rfl
  · refine ex1e (rows_later hr) fun m h9x => ?_
    refine and2e h9x fun hm1 hm2 => ?_
    try clear h9x
    by_cases c : x ∈ tl
    · refine ⟨G.inn x c, fun he => ?_⟩
      refine ex1e (hdue x c) fun r h9x => ?_
      refine and4e h9x fun h1 h2 h3 h4 => ?_
      try clear h9x
      rw [(mem_endD.mp he).2] at h1
      cases h1
      exact h4 m hm1 hm2
    · have hx := (List.mem_append.mp hx).resolve_right c
      have hn : x ∉ D i := fun hm => I.dr i x hm m hm1 hm2
      rw [outK x c hn]
      exact ⟨I.see x hx (rows_drop1 ht hr), fun he => c (mem_endD.mp he).1⟩
  · rcases mem_addD.mp hx with hx | ⟨hx, he, _⟩
    · exact I.dk j x hx
    · refine ex1e (hdue x hx) fun r h9x => ?_
      refine and4e h9x fun h1 h2 h3 h4 => ?_
      try clear h9x
      rw [he] at h1; cases h1
      exact ⟨by omega, h3⟩
  · unfold addD
    rw [List.nodup_append]
    refine (and3i (I.dd j) (n2.filter _) (fun a ha b hb => ?_))
    rintro rfl
    exact tlD a j (List.mem_filter.mp hb).1 ha
  · rcases mem_addD.mp hx with hx | ⟨hx, he, _⟩
    · rcases mem_addD.mp hx' with hx' | ⟨hx', he', _⟩
      · exact I.dj _ _ x hx hx'
      · exact absurd hx (tlD x j hx')
    · rcases mem_addD.mp hx' with hx' | ⟨hx', he', _⟩
      · exact absurd hx' (tlD x j' hx)
      · rw [he] at he'; cases he'; rfl
  · rcases mem_addD.mp hx with hx | ⟨hx, he, _⟩
    · have c : x ∉ tl := fun h => tlD x j h hx
      have hn : x ∉ D i := fun hm => by have := I.dj _ _ x hx hm; omega
      rw [outK x c hn]
      exact ⟨I.dh j x (by omega) hx, fun he => c (mem_endD.mp he).1⟩
    · refine ⟨G.inn x hx, fun he2 => ?_⟩
      rw [(mem_endD.mp he2).2] at he; cases he; omega
  · intro m hm
    rcases mem_addD.mp hx with hx | ⟨hx, he, _⟩
    · exact I.dr j x hx m hm
    · refine ex1e (hdue x hx) fun r h9x => ?_
      refine and4e h9x fun h1 h2 h3 h4 => ?_
      try clear h9x
      rw [he] at h1; cases h1
      exact h4 m hm
  · rcases mem_addD.mp hx with hx | ⟨hx, he, _⟩
    · exact (I.da j x hx).imp id .inl
    · exact .inr (.inr hx)
  · have c : x ∉ tl := fun h => by rw [tl0 x h] at hx; cases hx
    rw [mem_addD, ← I.dold j x hx]
    exact ⟨fun h => h.resolve_right fun h => c h.1, .inl⟩
  · by_cases c : x ∈ tl
    · refine ex1e (hdue x c) fun r h9x => ?_
      refine and4e h9x fun h1 h2 h3 h4 => ?_
      try clear h9x
      have hne : r ≠ i := by rintro rfl; exact hn (mem_endD.mpr ⟨c, h1⟩)
      exact .inr ⟨⟨r, by omega, mem_addD.mpr (.inr (and3i c h1 hne))⟩, .inr c⟩
    · refine and2e (outS x c hx) fun h1 h2 => ?_
      rcases I.acct x h1 with h | ⟨⟨j, hj, hxj⟩, h⟩
      · exact .inl h
      · have : j ≠ i := by rintro rfl; exact h2 hxj
        exact .inr ⟨⟨j, by omega, mem_addD.mpr (.inl hxj)⟩, .inl h⟩
  · by_cases c : x ∈ tl
    · exact .inr (.inr c)
    · rcases I.acct x (outS x c hx).1 with h | ⟨_, h⟩
      · exact .inl h
      · exact .inr (.inl h)
  · have h0 := P.dh j x hx
    have c : x ∉ tl := fun h => by rw [tl0 x h] at h0; cases h0
    left
    rw [out2 x c]
    by_cases c2 : j < (i : Int)
    · rw [I.oldIn x j c2 hx]; split <;> rfl
    · have e : j = i := by omega
      subst e
      rw [if_pos ((I.dold i x h0).mpr hx)]
  · have c : x ∉ tl := fun h => by rw [tl0 x h] at hx; cases hx
    have hni : x ∉ D i := fun hm => hn i (by omega) ((I.dold i x hx).mp hm)
    rw [outK x c hni]
    exact ⟨I.oldOut x hx fun j hj => hn j (by omega), fun he => c (mem_endD.mp he).1⟩
  · by_cases c : x ∈ tl
    · exact .inr c
    · exact .inl (outS x c hx).1
end

-- P12

section
variable {U : List Str} {d : Nat} {L Li : List Str} {kids : List Nd} {l0 lI : Ly} {home0 homeI due : Fn} {D0 D DI : Int → List Str} {i : Nat} {t : Nd} {ws : List Nd} {bs : List (List Nd)} {tl ml en : List Str}
theorem PMid.inn {l l3 : Ly} {home home3 : Fn} (P : PIn U (d + 1) L kids l0 home0 due D0) (ht : kids[i]? = some t) (hs : Shp t ws bs tl ml) (hw : ∀ w ∈ ws, WE Li w) (hb : ∀ b ∈ bs, Wf d Li b) (M : PMid U d kids l0 home0 D0 i Li bs tl ml lI homeI en l home D)
    (S3 : l3.Snd) (h3 : l3.held = l.held) (len3 : l3.slots.length = l.slots.length) (ho3 : ∀ x, x ∉ dnss bs → home3 x = home x) (sup3 : Sup U home3) {b : List Nd} (hbm : b ∈ bs) :
    PIn U d Li b l3 home3 due fun _ => [] := by
  have hi : i < kids.length := by obtain ⟨h, _⟩ := List.getElem?_eq_some_iff.mp ht; exact h
  have hww : ∀ w ∈ ws, ∃ L, WE L w := fun w hx => ⟨Li, hw w hx⟩
  have ed := dn_sh hs hww
  have split := PInv.dnSplit ht
  have nd := P.nd
  rw [split, ed, List.nodup_append, List.nodup_append, List.nodup_append] at nd
  have hk := P.wf.1
  have hcap := P.cap
  have hpk : pk (d + 1) = 6 * bl d + pk d := rfl
  have hmem : ∀ x ∈ dns b, x ∈ dnss bs := fun x hx => dnss_mem.mpr ⟨b, hbm, hx⟩
  refine ⟨hb b hbm, S3, by have := M.lenhi; omega, by rw [h3]; exact M.sup, sup3, nodup_dnss nd.2.1.1.2.1 b hbm, fun x hx => ?_, fun x j hx => ?_, (P.du i t ht).2 ws bs tl ml hs b hbm, fun x hx hr => ?_, fun j x hx => absurd hx List.not_mem_nil, fun j => List.nodup_nil, fun i j x hx => absurd hx List.not_mem_nil, fun j x hx => absurd hx List.not_mem_nil, fun j x hx => absurd hx List.not_mem_nil⟩
  · have h1 := P.fresh x (by rw [split, ed]; exact List.mem_append_right _ (List.mem_append_left _ (List.mem_append_right _ (hmem x hx))))
    exact (and3i h1.1 h1.2.1 (by rw [h3]; exact M.fresh x (.inl (hmem x hx))))
  · rw [h3] at hx
    rw [ho3, M.hh x j hx]
    intro hm
    rw [M.fresh x (.inl hm)] at hx; cases hx
  · rw [h3]
    refine M.see0 x hx ?_
    clear hs hb ed M ho3 split nd hmem
    induction bs with
    | nil => cases hbm
    | cons c r ih =>
      rw [bsR]
      rcases List.mem_cons.mp hbm with rfl | hbm
      · exact List.mem_append_left _ hr
      · exact List.mem_append_right _ (ih hbm)
end
theorem sup_len {U : List Str} {l : Ly} {en : List Str} (sup : Sup U l.held) (nd : en.Nodup) (h : ∀ x ∈ en, (l.held x).isSome) : en.length ≤ U.length := nodup_sub_len nd fun x hx => sup x (h x hx)
noncomputable abbrev DyL (dy : Addr) (dyl : Dy) (R : HT) : HT := (dy, .dicti dyl.length (dyRef dyl)) :: (dyH dyl ++ R)
theorem perm_in9 {x a b c d e f g h i : Addr × AO} {R : HT} : (x :: a :: b :: c :: d :: e :: f :: g :: h :: i :: R).Perm (a :: b :: c :: d :: e :: f :: g :: h :: i :: x :: R) := (List.perm_middle (l₁ := [a, b, c, d, e, f, g, h, i])).symm
theorem hupd9 {y : Addr} {o o' : AO} {a b c d e f g h i : Addr × AO} {R R' : HT} (u : HUpd y o o' R R') : HUpd y o o' (a :: b :: c :: d :: e :: f :: g :: h :: i :: R) (a :: b :: c :: d :: e :: f :: g :: h :: i :: R') := .tail (.tail (.tail (.tail (.tail (.tail (.tail (.tail (.tail u))))))))
theorem SubP.app9 {a b c d e f g h i : Addr × AO} {R R' : HT} (u : SubP R R') : SubP (a :: b :: c :: d :: e :: f :: g :: h :: i :: R) (a :: b :: c :: d :: e :: f :: g :: h :: i :: R') := by
  refine ex1e u fun H3 h9x => ?_
  refine and2e h9x fun p s => ?_
  try clear h9x u
  exact ⟨_, ((((((((p.cons i).cons h).cons g).cons f).cons e).cons d).cons c).cons b).cons a, ((((((((s.cons_cons i).cons_cons h).cons_cons g).cons_cons f).cons_cons e).cons_cons d).cons_cons c).cons_cons b).cons_cons a⟩

-- W17

noncomputable abbrev plM (ea b ya pl a dy : Addr) (i : Nat) (flo : Nat) : List (Str × Value) := [("ended", .ref ea), ("at", vI (i : Nat)), ("stat", .ref b), ("layout", .ref ya), ("floor", vI (flo : Nat)), ("plan", .ref pl), ("block", .ref a), ("dying", .ref dy)]
noncomputable abbrev plFor : List Stmt := forBody (stAt d315.1.1 2)
noncomputable abbrev plIf : List Stmt := ifBody (stAt plFor 1)

section auto
variable {e : Ev} {n N : Nat} {R : HT} {Z : ZT} {pl ya yd sl wh fr hd hm du : Addr} {l : Ly} {home due : Fn} {temps flr : Int} {U : List Str}

theorem pl_dying {ea b a dy dx na ka : Addr} {i flo : Nat} {X : List Value} {tl : List Str} {D : Int → List Str} {dyl : Dy} {Fq : Flow → St → Prop} (hb : Z b = some (.inst 150 dx)) (hdx : Z dx = some (.attrs [("kind", vS "let"), ("name", vS ""), ("value", .ref na), ("kids", .ref ka), ("line", vI 0)]))
    (hna : Z na = some (.list (tl.map vS))) (hdue : ∀ x ∈ tl, ∃ r, due x = some r) (hD : ∀ j, dyAt dyl j = D j) (hDl : ∀ j, (D j).length ≤ 900) (h6 : tl.length ≤ 6) (hl : dyl.length ≤ 900)
    (h : ∀ dyl2, (∀ j, dyAt dyl2 j = addD D due i tl j) → dyl2.length ≤ dyl.length + tl.length → Fq .next ⟨plM ea b ya pl a dy i flo, Z, PL pl ya yd sl wh fr hd hm du N l home due temps flr ((ea, .list X) :: DyL dy dyl2 R)⟩) :
    TS e.c n d315.1.2 false (stAt plIf 3) Fq ⟨plM ea b ya pl a dy i flo, Z, PL pl ya yd sl wh fr hd hm du N l home due temps flr ((ea, .list X) :: DyL dy dyl R)⟩ := by
  refine ts_for (xs := ["name"]) (bnd1 (Bnd.local rfl rfl)) ?_
  repeat ktr_rel
  refine pi_list (.inl hna) (forI .lst (fun k σ => ∃ dyl2 : Dy, (∀ j, dyAt dyl2 j = addD D due i (tl.take k) j) ∧ dyl2.length ≤ dyl.length + k ∧ σ = ⟨plM ea b ya pl a dy i flo, Z, PL pl ya yd sl wh fr hd hm du N l home due temps flr ((ea, .list X) :: DyL dy dyl2 R)⟩) ?_ ?_ ?_ ?_)
  · rintro k σ ⟨_, _, _, rfl⟩; exact .inl hna
  · exact (⟨dyl, and3i (fun j => by rw [hD]; unfold addD; simp) (by omega) rfl⟩)
  · intro k σ hk h9
    refine hide fun G9 hG9 => ?_
    refine ex1e h9 fun dyl2 h9x => ?_
    refine and3e h9x fun h1 h2 e9d => ?_
    try clear h9x h9
    obtain rfl := e9d
    refine hG9 ?_; clear hG9 G9
    have hk' : k < tl.length := by first | exact Nat.lt_of_lt_of_eq hk (List.length_map _) | exact hk | simpa [Sr.N] using hk
    have e1 : (tl.map vS).getD k .none = vS tl[k] := by first | exact getD_at hk' | simp [List.getD_eq_getElem?_getD, hk']
    have htk : tl.take (k + 1) = tl.take k ++ [tl[k]] := by rw [List.take_add_one, List.getElem?_eq_getElem hk']; rfl
    refine ex1e (hdue _ (List.getElem_mem hk')) fun r hr => ?_
    have hadd : ∀ j, addD D due i (tl.take (k + 1)) j = addD D due i (tl.take k) j ++ (if r = j ∧ r ≠ (i : Int) then [tl[k]] else []) := fun j => by
      unfold addD
      rw [htk, List.filter_append, List.append_assoc]
      congr 2
      rw [List.filter_cons, hr]
      by_cases c : r = j ∧ r ≠ (i : Int)
      · rw [if_pos c, if_pos (by rw [decide_eq_true_iff]; exact ⟨by rw [c.1], by rw [← c.1]; exact c.2⟩)]; rfl
      · rw [if_neg c, if_neg (by rw [decide_eq_true_iff]; rintro ⟨c1, c2⟩; cases c1; exact c ⟨rfl, c2⟩)]; rfl
    have hlen2 : ∀ j, (dyAt dyl2 j).length ≤ 1000 := fun j => by
      rw [h1]; unfold addD; rw [List.length_append]
      have := hDl j
      have := List.length_filter_le (fun x => decide (due x = some j ∧ j ≠ (i : Int))) (tl.take k)
      rw [List.length_take] at this
      omega
    generalize tl[k] = x at *
    refine TB.cut ?_
    refine St.at1 e1 ?_
    refine tb_cons ?_
    repeat ktr_rel
    refine gi_dict (by ktr_unf) planF_last ?_
    repeat ktr_rel
    refine gi_dict (by ktr_unf) (ofI_some hr) ?_
    repeat ktr_rel
    refine ⟨fun q => ?_, fun q => ?_⟩
    · have hne : r ≠ (i : Int) := by first | exact eq_of_beq q | exact ne_of_beq_false q | exact of_decide_eq_true q | exact of_decide_eq_false q | simpa using q
      refine tb_cons ?_
      refine ts_expr ?_
      refine te_method ?_
      refine te_method ?_
      repeat ktr_rel
      refine gi_dict (by ktr_unf) planF_last ?_
      repeat ktr_rel
      refine gi_dict (by ktr_unf) (ofI_some hr) ?_
      repeat ktr_rel
      refine ksq rfl fun E => ?_
      have fin : ∀ (m : List (Str × Value)) (H : HT) (dyl3 : Dy), FactsIn m (plM ea b ya pl a dy i flo) → SubP H (PL pl ya yd sl wh fr hd hm du N l home due temps flr ((ea, .list X) :: DyL dy dyl3 R)) → (∀ j, dyAt dyl3 j = if j = r then dyAt dyl2 r ++ [x] else dyAt dyl2 j) → dyl3.length ≤ dyl2.length + 1 →
          ∃ σ'', Le e.c ⟨m, Z, H⟩ σ'' ∧ ∃ dyl2 : Dy, (∀ j, dyAt dyl2 j = addD D due i (tl.take (k + 1)) j) ∧ dyl2.length ≤ dyl.length + (k + 1) ∧ σ'' = ⟨plM ea b ya pl a dy i flo, Z, PL pl ya yd sl wh fr hd hm du N l home due temps flr ((ea, .list X) :: DyL dy dyl2 R)⟩ := by
        intro m H dyl3 f1 f2 f3 f4
        refine (⟨_, ⟨(Le.subp f2).trans (Le.facts f1), ⟨dyl3, and3i (fun j => ?_) (by omega) rfl⟩⟩⟩)
        rw [f3, hadd]
        by_cases c : j = r
        · rw [if_pos c, if_pos ⟨c.symm, hne⟩, h1, c]
        · rw [if_neg c, if_neg fun h => c h.1.symm, h1, List.append_nil]
      refine tl_nil ?_
      cases hdr : dyRef dyl2 r with
      | none =>
        refine bc_setd_new (l := dy) (k := dyl2.length) (f := dyRef dyl2) (H' := (E, .list []) :: PL pl ya yd sl wh fr hd hm du N l home due temps flr ((ea, .list X) :: (dy, .dicti (dyl2.length + 1) (updF (dyRef dyl2) r (.ref E))) :: (dyH dyl2 ++ R))) ?_ hdr (by omega) ?_
        · exact .tail (hupd9 (.tail .head))
        refine gm_append (vs := []) ?_ ?_
        · exact .inr (.head _)
        repeat ktr_rel
        refine bc_append (vs := []) (H' := (E, .list [vS x]) :: PL pl ya yd sl wh fr hd hm du N l home due temps flr ((ea, .list X) :: (dy, .dicti (dyl2.length + 1) (updF (dyRef dyl2) r (.ref E))) :: (dyH dyl2 ++ R))) ?_ (by simp) ?_
        · exact .head
        refine kdn ?_
        repeat tb_rel
        refine fin _ _ ((r, E, [x]) :: dyl2) ?_ ?_ ?_ (Nat.le_refl _)
        · exact (FactsIn.of rfl)
        · have e2 : dyRef ((r, E, [x]) :: dyl2) = updF (dyRef dyl2) r (.ref E) := dy_new dyl2 r E
          show SubP _ (PL pl ya yd sl wh fr hd hm du N l home due temps flr ((ea, .list X) :: (dy, .dicti (dyl2.length + 1) (dyRef ((r, E, [x]) :: dyl2))) :: (E, .list [vS x]) :: (dyH dyl2 ++ R)))
          rw [e2]
          refine SubP.trans (SubP.perm perm_in9) (SubP.app9 (SubP.perm ?_))
          exact (List.perm_middle (l₁ := [_, _])).symm
        · intro j
          show (if r = j then [x] else dyAt dyl2 j) = _
          by_cases c : j = r
          · rw [if_pos c, if_pos c.symm, dyAt_none hdr]; rfl
          · rw [if_neg c, if_neg fun h => c h.symm]
      | some v =>
        refine hide fun G9 hG9 => ?_
        refine ex1e (dy_add x hdr) fun a' h9x => ?_
        refine and5e h9x fun e9b u g2 g3 g4 => ?_
        try clear h9x
        obtain rfl := e9b
        refine hG9 ?_; clear hG9 G9
        refine bc_setd_there (l := dy) (k := dyl2.length) (f := dyRef dyl2) ?_ hdr (by omega) ?_
        · exact .inr (HUpd.tail (hupd9 (.tail (.head (o' := AO.tup []) (r := dyH dyl2 ++ R))))).mem
        refine gm_append (vs := (dyAt dyl2 r).map vS) (.inr ?_) ?_
        · exact (HUpd.tail (hupd9 (.tail (.tail (u.app R))))).mem
        repeat ktr_rel
        refine bc_append (vs := (dyAt dyl2 r).map vS) (H' := (E, .list []) :: PL pl ya yd sl wh fr hd hm du N l home due temps flr ((ea, .list X) :: (dy, .dicti dyl2.length (dyRef dyl2)) :: (dyH (dyAdd dyl2 r x) ++ R))) ?_ (by rw [List.length_map]; have := hlen2 r; omega) ?_
        · have := u.app R
          rw [List.map_append] at this
          exact .tail (hupd9 (.tail (.tail this)))
        refine kdn ?_
        repeat tb_rel
        refine fin _ _ (dyAdd dyl2 r x) ?_ ?_ g3 (by rw [g4]; omega)
        · exact (FactsIn.of rfl)
        · show SubP _ (PL pl ya yd sl wh fr hd hm du N l home due temps flr ((ea, .list X) :: (dy, .dicti (dyAdd dyl2 r x).length (dyRef (dyAdd dyl2 r x))) :: (dyH (dyAdd dyl2 r x) ++ R)))
          rw [g2, g4]
          exact SubP.refl.cons
    · have hne : ¬ (r = (i : Int) ∧ r ≠ (i : Int)) := fun h => h.2 h.1
      have heq : r = (i : Int) := by first | exact eq_of_beq q | exact ne_of_beq_false q | exact of_decide_eq_true q | exact of_decide_eq_false q | simpa using q
      refine tb_nil (tb_nil (⟨_, ⟨?_, ⟨dyl2, and3i (fun j => ?_) (by omega) rfl⟩⟩⟩))
      · exact Le.facts (FactsIn.of rfl)
      · rw [h1, hadd, if_neg (fun h => h.2 heq), List.append_nil]
  · intro σ h9
    refine hide fun G9 hG9 => ?_
    refine ex1e h9 fun dyl2 h9x => ?_
    refine and3e h9x fun h1 h2 e9d => ?_
    try clear h9x h9
    obtain rfl := e9d
    refine hG9 ?_; clear hG9 G9
    have e1 : (Sr.lst na (tl.map vS)).N = tl.length := by first | exact List.length_map _ | simp [Sr.N]
    rw [e1] at h2
    rw [e1, List.take_length] at h1
    exact h dyl2 h1 h2
end auto

-- W18

section auto
variable {e : Ev} {n N : Nat} {R R0 : HT} {Z : ZT} {pl ya yd sl wh fr hd hm du : Addr} {l : Ly} {home due : Fn} {flr : Int} {U : List Str}

theorem pl_let {ea b a dy dx na ka : Addr} {i flo : Nat} {tl : List Str} {D : Int → List Str} {dyl : Dy} {Fq : Flow → St → Prop} (hb : Z b = some (.inst 150 dx)) (hdx : Z dx = some (.attrs [("kind", vS "let"), ("name", vS ""), ("value", .ref na), ("kids", .ref ka), ("line", vI 0)]))
    (hna : Z na = some (.list (tl.map vS))) (hdue : ∀ x ∈ tl, ∃ r, due x = some r) (hD : ∀ j, dyAt dyl j = D j) (hDl : ∀ j, (D j).length ≤ 800) (h6 : tl.length ≤ 6) (hl : dyl.length ≤ 900)
    (hU : U.length ≤ N) (hN : N ≤ 1000) (S : l.Snd) (hcap : l.slots.length + tl.length ≤ 63) (nd : tl.Nodup) (hns : ∀ x ∈ tl, x ∈ U ∧ x ≠ "" ∧ l.held x = none) (sup : Sup U l.held) (suph : Sup U home)
    (hDn : (D i).Nodup) (hDh : ∀ x ∈ D i, (l.held x).isSome) (hea : (ea, AO.list ((D i).map vS)) ∈ R0) (hs0 : SubP R0 (DyL dy dyl R))
    (h : ∀ ea2 dyl2 l2, Given U tl (Ly.rels (D i) l) l2 → (∀ j, dyAt dyl2 j = addD D due i tl j) → dyl2.length ≤ dyl.length + tl.length →
      Fq .next ⟨plM ea2 b ya pl a dy i flo, Z, PL pl ya yd sl wh fr hd hm du N l2 (fun x => if x ∈ tl then l2.held x else home x) due 0 flr ((ea2, .list ((endD due i tl).map vS)) :: DyL dy dyl2 R)⟩) :
    TB e.c (n + 4) d315.1.2 false plIf Fq ⟨plM ea b ya pl a dy i flo, Z, PL pl ya yd sl wh fr hd hm du N l home due 0 flr R0⟩ := by
  have hfl := S.freeLen
  have hsl := S.len
  have hDl' := hDl i
  refine tb_cons ?_
  repeat ktr_rel
  refine bc_call (let_go_ok (gl := ea) (ns := D i) (.inr hea) hN S.ok (by omega) (by omega) hDn hDh ?_)
  refine kdn ?_
  refine TB.le (Le.subp (SubP.app9 hs0)) ?_
  have S1 := S.rels (D i)
  have hl1 := (Ly.rels_len (D i) l).1
  have hat := Ly.rels_at (D i) l
  have sup1 : Sup U (Ly.rels (D i) l).held := fun x hx => by
    rw [hat] at hx; split at hx
    · cases hx
    · exact sup x hx
  have hns1 : ∀ x ∈ tl, x ∈ U ∧ x ≠ "" ∧ (Ly.rels (D i) l).held x = none := fun x hx => by
    refine and3e (hns x hx) fun a1 a2 a3 => ?_
    refine (and3i a1 a2 ?_)
    rw [hat, a3]; split <;> rfl
  generalize Ly.rels (D i) l = l1 at *
  refine tb_cons ?_
  repeat ktr_rel
  refine tt_value ?_ (by intros; rfl)
  repeat ktr_rel
  refine bc_call (given_ok (n := n) hna hU hN S1 (by omega) nd hns1 sup1 suph fun l2 G => ?_)
  repeat ktr_rel
  refine tb_cons (ts_assign_comp (xs := ["name"]) (bnd1 (Bnd.local rfl rfl)) rfl rfl ?_)
  refine te_attr ?_
  refine te_local rfl rfl rfl ?_
  refine ga_own (cls_yul _) (by ktr_unf) (by ktr_unf) (by decide) rfl (by intro _ hh; cases hh) ?_
  refine pi_list (.inl hna) (cmpI .lst (by first | (refine Nat.le_trans (Nat.le_of_eq (List.length_map _)) ?_; omega) | (show List.length _ ≤ _; omega) | (simp [Sr.N]; omega)) [("plan", .ref pl), ("at", vI (i : Nat))] (fun k ys Z' H' => Z' = Z ∧ H' = PL pl ya yd sl wh fr hd hm du N l2 (fun x => if x ∈ tl then l2.held x else home x) due 0 flr (DyL dy dyl R) ∧ ys = (endD due i (tl.take k)).map vS) ?_ ?_ ?_ ?_ ?_)
  · intro p hp; simp at hp; rcases hp with rfl | rfl <;> exact ⟨rfl, rfl⟩
  · rintro i ys Z' H' m' ⟨rfl, _⟩; exact .inl hna
  · exact (and3i rfl rfl rfl)
  · rintro k ys Z' H' hk ⟨rfl, rfl, rfl⟩
    have hk' : k < tl.length := by first | exact Nat.lt_of_lt_of_eq hk (List.length_map _) | exact hk | simpa [Sr.N] using hk
    have e1 : (tl.map vS).getD k .none = vS tl[k] := by first | exact getD_at hk' | simp [List.getD_eq_getElem?_getD, hk']
    have htk : tl.take (k + 1) = tl.take k ++ [tl[k]] := by rw [List.take_add_one, List.getElem?_eq_getElem hk']; rfl
    refine ex1e (hdue _ (List.getElem_mem hk')) fun r hr => ?_
    have hadd : endD due i (tl.take (k + 1)) = endD due i (tl.take k) ++ (if r = (i : Int) then [tl[k]] else []) := by
      unfold endD
      rw [htk, List.filter_append]
      congr 1
      rw [List.filter_cons, hr]
      by_cases c : r = (i : Int)
      · rw [if_pos c, if_pos (by rw [decide_eq_true_iff, c])]; rfl
      · rw [if_neg c, if_neg (by rw [decide_eq_true_iff]; intro h; cases h; exact c rfl)]; rfl
    refine ct_one ?_
    refine St.at1 e1 ?_
    repeat ktr_rel
    refine gi_dict (by ktr_unf) planF_last ?_
    repeat ktr_rel
    refine gi_dict (by ktr_unf) (ofI_some hr) ?_
    repeat ktr_rel
    refine ⟨fun q => ?_, fun q => ?_⟩
    · repeat ktr_rel
      refine (and3i rfl rfl ?_)
      rw [hadd, if_pos (by first | exact eq_of_beq q | exact ne_of_beq_false q | exact of_decide_eq_true q | exact of_decide_eq_false q | simpa using q)]; simp
    · refine (and3i rfl rfl ?_)
      rw [hadd, if_neg (by first | exact eq_of_beq q | exact ne_of_beq_false q | exact of_decide_eq_true q | exact of_decide_eq_false q | simpa using q)]; simp
  · rintro ea2 ys Z' H' ⟨rfl, rfl, rfl⟩ hys
    have e1 : tl.take (Sr.lst na (tl.map vS)).N = tl := List.take_of_length_le (by first | exact Nat.le_of_eq (List.length_map _).symm | simp [Sr.N])
    rw [e1]
    refine TB.le (Le.perm perm_in9) ?_
    refine TB.le (Le.facts (m' := plM ea2 b ya pl a dy i flo) (FactsIn.of rfl)) ?_
    refine tb_cons (pl_dying hb hdx hna hdue hD (fun j => by have := hDl j; omega) h6 hl fun dyl2 h1 h2 => ?_)
    exact tb_nil (h ea2 dyl2 l2 G h1 h2)
end auto

-- W19

noncomputable def PlacedOk (e : Ev) (U : List Str) (N d lv : Nat) : Prop := ∀ (pl ya yd sl wh fr hd hm du : Addr) (l : Ly) (home due : Fn) (flr : Int) (R : HT) (Z : ZT) (L : List Str) (kids : List Nd) (a dy : Addr) (dyl : Dy) (D : Int → List Str) (Q : Value → ZT → HT → Prop),
  TreeAt Z (blkN kids) (.ref a) → PIn U d L kids l home due D → (∀ j, dyAt dyl j = D j) → dyl.length ≤ 100 →
  (∀ l' home', POut U d kids l home D l' home' → Q (.bool true) Z (PL pl ya yd sl wh fr hd hm du N l' home' due 0 flr R)) →
  CallOk e.c lv (.ref 315) [.ref pl, .ref a, .ref dy] Q Z (PL pl ya yd sl wh fr hd hm du N l home due 0 flr (DyL dy dyl R))
theorem Wf.len : ∀ {d : Nat} {L kids}, Wf d L kids → kids.length ≤ 5
  | 0, _, _, h => h.elim
  | d + 1, _, _, h => Nat.le_trans h.1 (by match d with | 0 => decide | 1 => decide | (n + 2) => exact Nat.le_refl 5)
theorem sh_kids {d Li t ws bs tl ml} (h : Shp t ws bs tl ml) (hb : ∀ b ∈ bs, Wf d Li b) : t.kids.length ≤ 1000 ∧ bs.length ≤ 2 := by
  induction h with
  | @blk b => exact ⟨Nat.le_trans (hb b (.head _)).len (by decide), by simp⟩
  | _ => simp [Nd.kids]
theorem dnss_perm {bs bs' : List (List Nd)} (h : bs'.Perm bs) : (dnss bs').Perm (dnss bs) := by
  induction h with
  | nil => exact .refl _
  | cons x _ ih => exact ih.append_left _
  | swap x y l =>
    simp only [dnss]
    rw [← List.append_assoc, ← List.append_assoc]
    exact List.perm_append_comm.append_right _
  | trans _ _ ih1 ih2 => exact ih1.trans ih2
theorem dnss_append : ∀ (a b : List (List Nd)), dnss (a ++ b) = dnss a ++ dnss b
  | [], b => rfl
  | t :: r, b => by rw [List.cons_append, dnss, dnss_append r b, dnss, List.append_assoc]

section auto
variable {e : Ev} {n N : Nat} {R R2 : HT} {Z : ZT} {pl ya yd sl wh fr hd hm du : Addr} {l0 lI l : Ly} {home0 homeI home due : Fn} {flr : Int} {U : List Str}

theorem pl_tail {d : Nat} {L Li : List Str} {kids : List Nd} {D0 D : Int → List Str} {i : Nat} {t : Nd} {ws : List Nd} {bs : List (List Nd)} {tl ml en : List Str} {ea b a dy : Addr} {Fq : Flow → St → Prop}
    (B : PlacedOk e U N d (n + 5)) (P : PIn U (d + 1) L kids l0 home0 due D0) (ht : kids[i]? = some t) (hs : Shp t ws bs tl ml) (hw : ∀ w ∈ ws, WE Li w) (hb : ∀ b ∈ bs, Wf d Li b)
    (M : PMid U d kids l0 home0 D0 i Li bs tl ml lI homeI en l home D) (hea : (ea, AO.list (en.map vS)) ∈ R2) (hT : TreeAt Z t (.ref b)) (hU : U.length ≤ N) (hN : N ≤ 800)
    (h : ∀ (l5 : Ly) home3, l5.Snd → (∀ x, x ∉ dnss bs → home3 x = home x) → Sup U home3 →
      (∀ h : Fn, (∀ x, x ∈ dnss bs ∨ (l.held x).isSome → h x = home3 x) → ∀ b ∈ bs, FitB U h d (fun x => (l.held x).isSome) b fun x => (l.held x).isSome) →
      (∀ x, l5.held x = if x ∈ en then none else l.held x) → l0.slots.length ≤ l5.slots.length → l5.slots.length ≤ l.slots.length → (l0.slots.length < l5.slots.length → l5.slots.getLastD ("" : Str) ≠ ("" : Str)) →
      Fq .next ⟨plM ea b ya pl a dy i l0.slots.length, Z, PL pl ya yd sl wh fr hd hm du N l5 home3 due 0 flr R2⟩) :
    TB e.c (n + 5) d315.1.2 false (plFor.drop 2) Fq ⟨plM ea b ya pl a dy i l0.slots.length, Z, PL pl ya yd sl wh fr hd hm du N l home due 0 flr R2⟩ := by
  refine ex1e (inner_sh hs) fun bs' h9x => ?_
  refine and2e h9x fun hin hperm => ?_
  try clear h9x
  have hdn := dnss_perm hperm
  have hbm : ∀ c, c ∈ bs' ↔ c ∈ bs := fun c => hperm.mem_iff
  have hndbs : (dnss bs').Nodup := by
    have hww : ∀ w ∈ ws, ∃ L, WE L w := fun w hx => ⟨Li, hw w hx⟩
    have nd := P.nd
    rw [PInv.dnSplit ht, dn_sh hs hww, List.nodup_append, List.nodup_append, List.nodup_append] at nd
    exact hdn.nodup_iff.mpr nd.2.1.1.2.1
  have hfr : ∀ x ∈ dnss bs', l.held x = none := fun x hx => M.fresh x (.inl (hdn.mem_iff.mp hx))
  refine tb_cons ?_
  repeat ktr_rel
  refine te_comp (xs := ["inner"]) (bnd1 (Bnd.local rfl rfl)) ?_
  repeat ktr_rel
  refine bc_call (inner_ok (n := n + 4) hT hin (sh_kids hs hb).1 fun D' vs hvs => ?_)
  have hvl : vs.length = bs'.length := by rw [hvs.length, List.length_map]
  refine PI.le (Le.perm perm_in9) ?_
  refine pi_list (by ktr_unf) (cmpI .lst (by simp [Sr.N]; rw [hvl, hperm.length_eq]; have := (sh_kids hs hb).2; omega) [("plan", .ref pl)] (fun k ys Z' H' => Z' = Z ∧ ∃ (l3 : Ly) (home3 : Fn), l3.Snd ∧ l3.held = l.held ∧ l3.slots.length = l.slots.length ∧ Sup U home3 ∧ (∀ x, x ∉ dnss (bs'.take k) → home3 x = home x) ∧
      (∀ h : Fn, (∀ x, x ∈ dnss (bs'.take k) ∨ (l.held x).isSome → h x = home3 x) → ∀ b ∈ bs'.take k, FitB U h d (fun x => (l.held x).isSome) b fun x => (l.held x).isSome) ∧
      H' = PL pl ya yd sl wh fr hd hm du N l3 home3 due 0 flr ((D', .list vs) :: R2) ∧ ys = (List.replicate k true).map Value.bool) ?_ ?_ ?_ ?_ ?_)
  · intro p hp; simp at hp; subst hp; exact ⟨rfl, rfl⟩
  · rintro k ys Z' H' m' ⟨_, l3, home3, _, _, _, _, _, _, rfl, _⟩; ktr_unf
  · exact (⟨rfl, ex2i l home (and8i M.snd rfl rfl M.suph (fun _ _ => rfl) (fun _ _ b hb => by simp at hb) rfl rfl)⟩)
  · intro k ys Z' H' hk h9
    refine hide fun G9 hG9 => ?_
    refine and2e h9 fun e9a h9x => ?_
    refine ex2e h9x fun l3 home3 h9y => ?_
    refine and8e h9y fun S3 e3 len3 sup3 ho3 fit3 e9j e9k => ?_
    try clear h9y h9x h9
    obtain rfl := e9a
    obtain rfl := e9j
    obtain rfl := e9k
    refine hG9 ?_; clear hG9 G9
    have hk' : k < bs'.length := by rw [← hvl]; exact hk
    obtain ⟨v, hv, hAt⟩ := hvs.get (i := k) (t := blkN bs'[k]) (by rw [List.getElem?_map, List.getElem?_eq_getElem hk']; rfl)
    refine ex1e (hAt.ref) fun bb e9b => ?_
    obtain rfl := e9b
    have e1 : vs.getD k .none = .ref bb := by rw [List.getD_eq_getElem?_getD, hv]; rfl
    have htk : bs'.take (k + 1) = bs'.take k ++ [bs'[k]] := by rw [List.take_add_one, List.getElem?_eq_getElem hk']; rfl
    have hck : bs'[k] ∈ bs' := List.getElem_mem hk'
    have edn : dnss (bs'.take (k + 1)) = dnss (bs'.take k) ++ dns bs'[k] := by rw [htk, dnss_append]; simp [dnss]
    have hsubk : ∀ x ∈ dns bs'[k], x ∈ dnss bs' := fun x hx => dnss_mem.mpr ⟨_, hck, hx⟩
    have hsubt : ∀ x ∈ dnss (bs'.take k), x ∈ dnss bs' := fun x hx => by
      refine ex1e (dnss_mem.mp hx) fun c h9x => ?_
      refine and2e h9x fun hc hx => ?_
      try clear h9x
      exact dnss_mem.mpr ⟨c, List.mem_of_mem_take hc, hx⟩
    have hdis : ∀ x ∈ dnss (bs'.take k), x ∉ dns bs'[k] := fun x hx hx2 => by
      have : dnss bs' = dnss (bs'.take k) ++ (dns bs'[k] ++ dnss (bs'.drop (k + 1))) := by
        conv => lhs; rw [← List.take_append_drop k bs', List.drop_eq_getElem_cons hk', dnss_append]
        rfl
      rw [this, List.nodup_append] at hndbs
      exact hndbs.2.2 x hx x (List.mem_append_left _ hx2) rfl
    have hPin : PIn U d Li bs'[k] l3 home3 due fun _ => [] := M.inn P ht hs hw hb S3 e3 len3 (fun x hx => ho3 x fun hm => hx (hdn.mem_iff.mp (hsubt x hm))) sup3 ((hbm _).mp hck)
    generalize bs'[k] = bk at *
    refine ct_nil ?_
    refine St.at1 e1 ?_
    repeat ktr_rel
    refine te_dict0i fun E => ?_
    repeat ktr_rel
    refine bc_call (.perm (B pl ya yd sl wh fr hd hm du l3 home3 due flr ((D', .list vs) :: R2) Z' Li bk bb E [] (fun _ => []) _ hAt hPin (fun _ => rfl) (by simp) fun l' home' O => ?_) perm_in9)
    refine (⟨rfl, ex2i l' home' (and8i O.snd ?_ (by rw [O.len, len3]) O.suph (fun x hx => ?_) (fun h hh => ?_) rfl ?_)⟩)
    · funext x; rw [O.heldOut x fun _ => List.not_mem_nil, e3]
    · rw [edn, List.mem_append, not_or] at hx
      rw [O.homeo x hx.2, ho3 x hx.1]
    · intro c hc
      rw [htk] at hc
      rcases List.mem_append.mp hc with hc | hc
      · refine fit3 h (fun x hx => ?_) c hc
        rw [hh x (by rw [edn, List.mem_append]; exact hx.imp .inl id), O.homeo]
        rcases hx with hx | hx
        · exact hdis x hx
        · intro hm
          rw [hfr x (hsubk x hm)] at hx; cases hx
      · rcases List.mem_cons.mp hc with rfl | hc
        · have := O.fit h fun x hx => hh x (by rw [edn, List.mem_append]; rw [e3] at hx; exact hx.imp .inr id)
          have hV : (fun x => (l3.held x).isSome = true ∧ x ∉ ([] : List Str)) = fun x => (l.held x).isSome = true := by
            funext x; apply propext; rw [e3]; simp
          have hV' : (fun x => (l'.held x).isSome = true) = fun x => (l.held x).isSome = true := by
            funext x; rw [O.heldOut x fun _ => List.not_mem_nil, e3]
          rw [hV, hV'] at this
          exact this
        · cases hc
    · rw [List.replicate_succ', List.map_append]; rfl
  · rintro F ys Z' H' ⟨rfl, l3, home3, S3, e3, len3, sup3, ho3, fit3, rfl, rfl⟩ hys
    have e1 : (Sr.lst D' vs).N = bs'.length := by first | exact hvl | simp [Sr.N, hvl]
    rw [e1, List.take_length] at ho3 fit3
    rw [e1]
    refine co_in_bools (ys := List.replicate bs'.length true) (by ktr_unf) ?_
    rw [show decide (false ∈ List.replicate bs'.length true) = false by rw [decide_eq_false_iff_not]; intro hm; have := List.eq_of_mem_replicate hm; cases this]
    repeat ktr_rel
    refine tt_value ?_ (by intros; rfl)
    repeat ktr_rel
    refine bc_call (.subp (is_sound_ok (n := n) (by omega) S3.sound ?_) SubP.refl.cons)
    repeat ktr_rel
    refine TB.le (Le.subp (SubP.app9 SubP.refl.cons)) ?_
    have supl : Sup U l3.held := by rw [e3]; exact M.sup
    have hend : ∀ x ∈ en, (l3.held x).isSome := fun x hx => by rw [e3]; exact M.enH x hx
    have hel := sup_len supl M.enNd hend
    have hs3 := S3.len
    have hf3 := S3.freeLen
    refine tb_cons ?_
    repeat ktr_rel
    refine bc_call (let_go_ok (gl := ea) (ns := en) (.inr hea) (by omega) S3.ok (by omega) (by omega) M.enNd hend ?_)
    refine kdn ?_
    have S4 := S3.rels en
    have len4 := (Ly.rels_len en l3).1
    have at4 := Ly.rels_at en l3
    generalize Ly.rels en l3 = l4 at *
    refine tb_cons ?_
    refine TS.via (P := fun fl σ => fl = .next ∧ ∃ l5 : Ly, l5.Snd ∧ l5.held = l4.held ∧ l0.slots.length ≤ l5.slots.length ∧ l5.slots.length ≤ l4.slots.length ∧ (l0.slots.length < l5.slots.length → l5.slots.getLastD ("" : Str) ≠ ("" : Str)) ∧
      σ = ⟨plM ea b ya pl a dy i l0.slots.length, Z', PL pl ya yd sl wh fr hd hm du N l5 home3 due 0 flr R2⟩) ?_ ?_
    · intro Fq hF
      refine ts_while (fun k σ => ∃ l5 : Ly, k = l5.slots.length ∧ l5.Snd ∧ l5.held = l4.held ∧ l0.slots.length ≤ l5.slots.length ∧ l5.slots.length ≤ l4.slots.length ∧
        σ = ⟨plM ea b ya pl a dy i l0.slots.length, Z', PL pl ya yd sl wh fr hd hm du N l5 home3 due 0 flr R2⟩) l4.slots.length ?_ ?_
      · exact (⟨l4, and6i rfl S4 rfl (by have := M.lenlo; omega) (Nat.le_refl _) rfl⟩)
      · intro k σ h9
        refine hide fun G9 hG9 => ?_
        refine ex1e h9 fun l5 h9x => ?_
        refine and6e h9x fun e9b S5 e5 lo5 hi5 e9g => ?_
        try clear h9x h9
        obtain rfl := e9b
        obtain rfl := e9g
        refine hG9 ?_; clear hG9 G9
        have hs5 := S5.len
        have hf5 := S5.freeLen
        repeat ktr_rel
        refine bc_lenm (by ktr_unf) (by first | omega | (simp; omega)) ?_
        repeat ktr_rel
        refine ⟨fun q => ?_, fun q => ?_⟩
        · have hlt : l0.slots.length < l5.slots.length := by simp at q; omega
          obtain ⟨slots, held, free⟩ := l5
          dsimp only at *
          have hne : slots ≠ [] := by rintro rfl; simp at hlt
          obtain ⟨s', v, rfl⟩ : ∃ s' v, slots = s' ++ [v] := ⟨slots.dropLast, slots.getLast hne, (List.dropLast_concat_getLast hne).symm⟩
          have hmapl : (s' ++ [v]).map vS = s'.map vS ++ [vS v] := by simp
          simp only [List.length_append, List.length_singleton] at hlt lo5 hi5 hs5 hf5
          repeat ktr_rel
          refine ⟨1, rfl, ?_⟩
          repeat ktr_rel
          refine gi_list_neg (vs := (s' ++ [v]).map vS) (v := vS v) (by ktr_unf) (by decide) (by simp; omega) (by decide) (by
            have hz : ((-1 : Int) + (((s' ++ [v]).map vS).length : Nat)).toNat = s'.length := by simp; omega
            rw [hz, hmapl, List.getElem?_append_right (by simp)]; simp) ?_
          repeat ktr_rel
          refine ⟨fun q2 => ?_, fun q2 => ?_⟩
          · have hv : v = "" := by first | exact eq_of_beq q2 | exact ne_of_beq_false q2 | exact of_decide_eq_true q2 | exact of_decide_eq_false q2 | simpa using q2
            subst hv
            obtain ⟨hi0, hi1, hi2⟩ : (0 : Int) ≤ (s'.length : Nat) ∧ ((s'.length : Nat) : Int) < (s' ++ [("" : Str)]).length ∧ (s' ++ [("" : Str)]).getD ((s'.length : Nat) : Int).toNat "" = "" := ⟨by omega, by rw [List.length_append, List.length_singleton]; omega, by rw [List.getD_eq_getElem?_getD, Int.toNat_natCast, List.getElem?_append_right (by omega)]; simp⟩
            have hmf : ((s'.length : Nat) : Int) ∈ free := (S5.mem _).mpr (and3i hi0 hi1 hi2)
            refine hide fun G9 hG9 => ?_
            obtain ⟨pre, post, hpp, hpre⟩ : ∃ pre post, free = pre ++ ((s'.length : Nat) : Int) :: post ∧ ((s'.length : Nat) : Int) ∉ pre := List.eq_append_cons_of_mem hmf
            subst hpp
            refine hG9 ?_; clear hG9 G9
            have hmapf : (pre ++ ((s'.length : Nat) : Int) :: post).map vI = pre.map vI ++ vI ((s'.length : Nat) : Int) :: post.map vI := by simp
            repeat ktr_rel
            refine tb_cons ?_
            dsimp only [PL, YL]
            rw [hmapl, hmapf]
            repeat ktr_rel
            refine bc_pop (vs := s'.map vS) (v := vS "") (by ktr_unf) (by simp; omega) ?_
            refine kdn ?_
            refine tb_cons ?_
            repeat ktr_rel
            refine bc_lenm (by ktr_unf) (by first | omega | (simp; omega)) ?_
            repeat ktr_rel
            refine bc_remove (pre := pre.map vI) (post := post.map vI) (x := ((s'.length : Nat) : Int)) (by ktr_unf) (by simp at hf5 ⊢; omega) ?_ ?_ ?_
            · intro v hv
              rw [← List.map_append] at hv
              refine ex1e (List.mem_map.mp hv) fun j h9x => ?_
              refine and2e h9x fun _ e9c => ?_
              try clear h9x
              obtain rfl := e9c
              exact ⟨j, rfl⟩
            · intro hm
              refine ex1e (List.mem_map.mp hm) fun j h9x => ?_
              refine and2e h9x fun hj e => ?_
              try clear h9x
              cases e; exact hpre hj
            refine kdn ?_
            rw [← List.map_append]
            refine tb_nil (⟨s'.length, ⟨by simp, ⟨⟨s', held, pre ++ post⟩, and6i rfl (S5.pop rfl) e5 (by dsimp only; omega) (by dsimp only; omega) rfl⟩⟩⟩)
          · repeat ktr_rel
            refine hF _ _ (⟨rfl, ⟨_, and6i S5 e5 (by simpa using lo5) (by simpa using hi5) (fun _ => ?_) rfl⟩⟩)
            dsimp only
            rw [List.getLastD_eq_getLast?, List.getLast?_concat]
            simpa using q2
        · repeat ktr_rel
          refine hF _ _ (⟨rfl, ⟨l5, and6i S5 e5 lo5 hi5 (fun hlt => ?_) rfl⟩⟩)
          simp at q; omega
    · intro fl σ h9
      refine hide fun G9 hG9 => ?_
      refine and2e h9 fun e9a h9x => ?_
      refine ex1e h9x fun l5 h9y => ?_
      refine and6e h9y fun S5 e5 lo5 hi5 tr5 e9h => ?_
      try clear h9y h9x h9
      obtain rfl := e9a
      obtain rfl := e9h
      refine hG9 ?_; clear hG9 G9
      refine tb_nil (h l5 home3 S5 (fun x hx => ho3 x fun hm => hx (hdn.mem_iff.mp hm)) sup3 (fun h hh b hb => fit3 h (fun x hx => hh x (hx.imp hdn.mem_iff.mp id)) b ((hbm b).mpr hb)) (fun x => by rw [e5, at4, e3]) lo5 (by omega) tr5)
end auto

-- W20

noncomputable abbrev fmW20_0 (v0 v1 v2 v3 v4 : Value) : List (Str × Value) := [("layout", v0), ("floor", v1), ("plan", v2), ("block", v3), ("dying", v4)]
section auto
variable {e : Ev} {n N d : Nat} {U : List Str}

theorem placed_step (B : PlacedOk e U N d (n + 5)) (hU : U.length ≤ N) (hN : N ≤ 800) : PlacedOk e U N (d + 1) (n + 6) := by
  intro pl ya yd sl wh fr hd hm du l0 home0 due flr R Z L kids a dy dyl D0 Q hT P hD hdl h
  refine TreeAt.elim hT fun dx' ka vs w b1 b2 b3 b4 b5 => ?_
  have hlen := b5.length
  have hs0 := P.snd.len
  have hf0 := P.snd.freeLen
  have hkl := P.wf.len
  have hl1 := sup_len P.sup (P.dd (-1)) fun x hx => P.dh (-1) x hx
  refine CallOk.cuts (call_fn (F_placed rfl) rfl ?_)
  refine tb_cons (ts_tuple2s (Bnd.local rfl rfl) (Bnd.local rfl rfl) ?_)
  repeat ktr_rel
  refine gi_dict (by ktr_unf) planF_layout ?_
  repeat ktr_rel
  refine gi_dict (by ktr_unf) planF_layout ?_
  repeat ktr_rel
  refine bc_lenm (by ktr_unf) (by first | omega | (simp; omega)) ?_
  repeat ktr_rel
  refine ⟨by simp, fun T => (ex3i T _ _ (and3i rfl (by ktr_unf) ?_))⟩
  refine TB.le ((Le.facts (m' := (fmW20_0 (.ref ya) (vI (l0.slots.length : Nat)) (.ref pl) (.ref a) (.ref dy))) (FactsIn.of rfl)).trans (Le.sub (.cons _ (List.Sublist.refl _)))) ?_
  refine tb_cons ?_
  repeat ktr_rel
  refine ⟨1, rfl, ?_⟩
  repeat ktr_rel
  refine ksq rfl fun E => ?_
  repeat ktr_rel
  refine ex1e (dy_get dyl (-1) E) fun ea h9x => ?_
  refine and2e h9x fun he1 he2 => ?_
  try clear h9x
  refine bc_geti (by ktr_unf) ?_
  rw [he1]
  repeat ktr_rel
  rw [hD] at he2
  refine bc_call (.perm (let_go_ok (gl := ea) (ns := D0 (-1)) (.inr ?_) (by omega) P.snd.ok (by omega) (by omega) (P.dd _) (fun x hx => P.dh _ x hx) ?_) perm_in9)
  · rcases List.mem_cons.mp he2 with h | h
    · rw [h]; exact .head _
    · exact .tail _ (.tail _ (List.mem_append_left _ h))
  refine kdn ?_
  refine TB.le (Le.subp (SubP.app9 SubP.refl.cons)) ?_
  have I0 := PInv.start P
  generalize Ly.rels (D0 (-1)) l0 = ls at *
  refine tb_cons (ts_for (xs := ["at", "stat"]) (bnd2 (Bnd.cell rfl rfl rfl) (Bnd.local rfl rfl)) ?_)
  repeat ktr_rel
  refine bc_enum (.inl b4) fun en it => ?_
  refine pi_enum (vs := vs) rfl (forI .enm (fun i σ => ∃ (Li : List Str) (l1 : Ly) (home1 : Fn) (D1 : Int → List Str) (dyl1 : Dy), PInv U d kids l0 home0 D0 i Li l1 home1 D1 ∧ (∀ j, dyAt dyl1 j = D1 j) ∧ dyl1.length ≤ 100 + 6 * i ∧
    σ = ⟨(fmW20_0 (.ref ya) (vI (l0.slots.length : Nat)) (.ref pl) (.ref a) (.ref dy)), Z, PL pl ya yd sl wh fr hd hm du N l1 home1 due 0 flr (DyL dy dyl1 R)⟩) ?_ ?_ ?_ ?_)
  · rintro i σ ⟨_, _, _, _, _, _, _, _, rfl⟩; exact .inl b4
  · exact (ex5i L ls home0 D0 dyl (and4i I0 hD (by omega) rfl))
  · intro i σ hi h9
    refine hide fun G9 hG9 => ?_
    refine ex5e h9 fun Li l1 home1 D1 dyl1 h9x => ?_
    refine and4e h9x fun I hD1 hdl1 e9i => ?_
    try clear h9x h9
    obtain rfl := e9i
    refine hG9 ?_; clear hG9 G9
    have hi' : i < kids.length := by rw [← hlen]; exact hi
    refine ex5e (kid_shape b5 hi') fun b kk kn kv kks h9x => ?_
    refine and3e h9x fun e1 hki hA => ?_
    try clear h9x
    have ht : kids[i]? = some (.mk kk kn kv kks) := by rw [List.getElem?_eq_getElem hi', hki]
    obtain ⟨ws, bs, tl, ml, hs, hw, hml, h6, hb⟩ : WfS (Wf d) Li (.mk kk kn kv kks) := by
      have := I.wf; rw [drop_get ht] at this; exact this.1
    have hwl : ∀ w ∈ ws, ∃ L, WE L w := fun w hx => ⟨Li, hw w hx⟩
    have hTT := hA
    refine TreeAt.elim hA fun bx bka bvs bw c1 c2 c3 c4 c5 => ?_
    have hbl := P.wf.1
    have hcap := P.cap
    have hpk : pk (d + 1) = 6 * bl d + pk d := rfl
    have hlo := I.lenhi
    have hD1l : ∀ j, (D1 j).length ≤ 800 := fun j => by
      have h1 := nodup_sub_len (U := U) (I.dd j) fun x hx => ?_
      · omega
      · rcases I.da j x hx with h | h
        · exact P.sup x h
        · exact (P.fresh x (by rw [PInv.dnSplit ht]; exact List.mem_append_left _ h)).1
    refine TB.cut ?_
    refine St.at2 e1 ?_
    refine tb_cons ?_
    repeat ktr_rel
    refine ksq rfl fun E => ?_
    repeat ktr_rel
    refine ex1e (dy_get dyl1 (i : Int) E) fun ea h9x => ?_
    refine and2e h9x fun he1 he2 => ?_
    try clear h9x
    refine bc_geti (by ktr_unf) ?_
    rw [he1]
    repeat ktr_rel
    rw [hD1] at he2
    refine TB.le (Le.perm perm_in9) ?_
    refine TB.le (Le.facts (m' := plM ea b ya pl a dy i l0.slots.length) (FactsIn.of rfl)) ?_
    have hea : (ea, AO.list ((D1 i).map vS)) ∈ (E, AO.list []) :: DyL dy dyl1 R := by
      rcases List.mem_cons.mp he2 with h | h
      · rw [h]; exact .head _
      · exact .tail _ (.tail _ (List.mem_append_left _ h))
    refine tb_cons ?_
    refine TS.via (P := fun fl σ => fl = .next ∧ ∃ (ea2 : Addr) (en2 : List Str) (l2 : Ly) (home2 : Fn) (D2 : Int → List Str) (dyl2 : Dy) (R2 : HT), PMid U d kids l0 home0 D0 i Li bs tl ml l1 home1 en2 l2 home2 D2 ∧ (∀ j, dyAt dyl2 j = D2 j) ∧ dyl2.length ≤ 100 + 6 * (i + 1) ∧
      (ea2, AO.list (en2.map vS)) ∈ R2 ∧ SubP R2 (DyL dy dyl2 R) ∧ σ = ⟨plM ea2 b ya pl a dy i l0.slots.length, Z, PL pl ya yd sl wh fr hd hm du N l2 home2 due 0 flr R2⟩) ?_ ?_
    · intro Fq hF
      repeat ktr_rel
      refine ⟨fun q => ?_, fun q => ?_⟩
      · have hk : kk = "let" := by first | exact eq_of_beq q | exact ne_of_beq_false q | exact of_decide_eq_true q | exact of_decide_eq_false q | simpa using q
        subst hk
        have hbs : bs = [] ∧ ml = [] ∧ kn = "" ∧ kv = .names tl := by
          cases hs <;> simp_all
        refine hide fun G9 hG9 => ?_
        refine and4e hbs fun e9a e9b e9c e9d => ?_
        try clear hbs
        obtain rfl := e9a
        obtain rfl := e9b
        obtain rfl := e9c
        obtain rfl := e9d
        refine ex1e c3 fun na h9x => ?_
        refine and2e h9x fun e9b hna => ?_
        try clear h9x c3
        obtain rfl := e9b
        refine hG9 ?_; clear hG9 G9
        have et := tl_sh hs
        have hnd : tl.Nodup := by
          have nd := P.nd
          rw [PInv.dnSplit ht, dn_sh hs hwl, List.nodup_append, List.nodup_append, List.nodup_append] at nd
          exact nd.2.1.1.1
        have htd : ∀ x ∈ tl, x ∈ dn (Nd.mk "let" "" (.names tl) kks) := fun x hx => by rw [dn_sh hs hwl]; exact List.mem_append_left _ hx
        refine pl_let (n := n + 1) c1 c2 hna (fun x hx => ?_) hD1 hD1l h6 (by omega) hU (by omega) I.snd (by omega) hnd (fun x hx => ?_) I.sup I.suph (I.dd i) (fun x hx => I.dh i x (Int.le_refl _) hx) hea SubP.refl.cons fun ea2 dyl2 l2 G g1 g2 => ?_
        · obtain ⟨r, hr, _⟩ := due_spec P ht (x := x) (by rw [et]; exact hx)
          exact ⟨r, hr⟩
        · have := P.fresh x (dns_get ht x (htd x hx))
          exact (and3i this.1 this.2.1 (I.fresh x (dns_drop0 ht (htd x hx))))
        · exact hF _ _ (⟨rfl, ex7i ea2 _ l2 _ _ dyl2 _ (and6i (PInv.midL P I ht hs hw h6 G) g1 (by omega) (.head _) SubP.refl.cons rfl)⟩)
      · have hk : kk ≠ "let" := by first | exact eq_of_beq q | exact ne_of_beq_false q | exact of_decide_eq_true q | exact of_decide_eq_false q | simpa using q
        have htl : tl = [] := by
          have := tl_sh hs
          unfold tlOf at this
          rw [if_neg (show ¬ (Nd.mk kk kn kv kks).kind = "let" from hk)] at this
          exact this.symm
        subst htl
        refine tb_nil (hF _ _ (⟨rfl, ex7i ea (D1 i) l1 home1 D1 dyl1 _ (and6i (PInv.midO P I ht hs hw hml) hD1 (by omega) hea SubP.refl.cons rfl)⟩))
    · intro fl σ h9
      refine hide fun G9 hG9 => ?_
      refine and2e h9 fun e9a h9x => ?_
      refine ex7e h9x fun ea2 en2 l2 home2 D2 dyl2 R2 h9y => ?_
      refine and6e h9y fun M hD2 hdl2 hea2 hs2 e9n => ?_
      try clear h9y h9x h9
      obtain rfl := e9a
      obtain rfl := e9n
      refine hG9 ?_; clear hG9 G9
      refine pl_tail B P ht hs hw hb M hea2 hTT hU hN fun l5 home3 S5 ho3 sup3 fit3 h5 lo5 hi5 tr5 => ?_
      refine (⟨_, ⟨(Le.subp (SubP.app9 hs2)).trans (Le.facts (m' := (fmW20_0 (.ref ya) (vI (l0.slots.length : Nat)) (.ref pl) (.ref a) (.ref dy))) (FactsIn.of rfl)), ex5i (Li ++ tl) l5 home3 D2 dyl2 (and4i (PMid.next P I ht hs hw hml M S5 ho3 sup3 fit3 h5 lo5 hi5 tr5) hD2 hdl2 rfl)⟩⟩)
  · intro σ h9
    refine hide fun G9 hG9 => ?_
    refine ex5e h9 fun Li l1 home1 D1 dyl1 h9x => ?_
    refine and4e h9x fun I hD1 hdl1 e9i => ?_
    try clear h9x h9
    obtain rfl := e9i
    refine hG9 ?_; clear hG9 G9
    have e1 : (Sr.enm ka vs).N = kids.length := by first | exact hlen | simp [Sr.N, hlen]
    rw [e1] at I
    have O := I.stop P
    have hs1 := O.snd.len
    refine tb_cons ?_
    repeat ktr_rel
    refine bc_call (is_sound_ok (n := n) (by omega) O.snd.sound ?_)
    repeat ktr_rel
    refine bc_len (by ktr_unf) (by simp; omega) ?_
    rw [List.length_map, O.len]
    repeat ktr_rel
    rw [show (((l0.slots.length : Nat) : Int) == ((l0.slots.length : Nat) : Int)) = true by simp]
    refine ⟨_, ?_, h l1 home1 O⟩
    exact SubP.app9 (SubP.sub (.cons _ (List.sublist_append_right _ _)))
theorem placed_ok (hU : U.length ≤ N) (hN : N ≤ 800) : ∀ d, PlacedOk e U N d (n + 5 + d)
  | 0 => fun pl ya yd sl wh fr hd hm du l0 home0 due flr R Z L kids a dy dyl D0 Q hT P hD hdl h => P.wf.elim
  | d + 1 => by
    have := placed_step (n := n + d) (e := e) (by have := placed_ok hU hN d; rwa [show n + 5 + d = n + d + 5 by omega] at this) hU hN
    rwa [show n + 5 + (d + 1) = n + d + 6 by omega]
end auto

-- D0
section
variable {prog : Program} {w : World} {A : Around} {E : Value → Shared → Prop} {s : Shared}

theorem keys_none {a : Addr} {xs : Array Value} {k : Nat} {Q : Option Value → Shared → Prop} (hx : IsL s.heap a xs k) (hA : A.handled = none)
    (h : ∀ h' tk, (∀ b o, s.heap.get? b = some o → h'.get? b = some o) → Q none { s with heap := h', toks := tk }) : wpAny (model prog w) A (getAttr? (.ref a) "keys") Q E s := by
  refine hide fun G9 hG9 => ?_
  obtain ⟨hp, g, d, tk, os⟩ := s
  refine hG9 ?_; clear hG9 G9
  have hT : ∀ tk', (⟨hp, g, d, tk', os⟩ : Shared).TypeIs (.ref a) "list" := fun _ => ⟨_, hx, rfl⟩
  have f1 := sub_AttributeError
  have f3 := F.slot_list_getattribute.lookup
  have f4 := F.slot_list_getattribute.bind (.ref a)
  have f5 := am_list_getattr_none
  have hmiss : typeLookup (.type "list") "keys" = pure none := by rw [typeLookup_type, builtinLookup_eq_fast]; kernel_rfl
  unfold getAttr? getAttrBy? getAttrBy
  repeat (any_goals (first | assumption | exact hT _ | ((with_reducible show wpAny _ _ (call (Value.builtin "list.__getattribute__") _ _) _ _ _); refine call_meets F.slot_list_getattribute (hT _) am_entry_list_getattribute (F.args_list_getattribute_2 _ _) (meets_getattribute_miss_list a xs k _ _ _ hmiss (by decide) (by size_fits)) (and3i hx hA (fun h' tk' e hx' => ?_))) | wp_step))
  refine ex2e (hx'.there) fun t' u' he => ?_
  show wpAny _ _ (getattributeRaised _ _ _ _ _ _ _) _ _ _
  unfold getattributeRaised
  repeat (any_goals (first | assumption | wp_step))
  all_goals exact h _ _ hx'.keeps
theorem entry_dul : entryFor table "dict.update.loop" = some Builtin.«dict.update.loop» := entryFor_of_tree (by kernel_rfl)
theorem plain_dul : plainId "dict.update.loop" = true := by decide +kernel
noncomputable def PairAt (h : Heap) (v : Value) (p : Str × Value) : Prop := ∃ (t : Addr) (k : Tok) (n : Nat), v = .ref t ∧ IsT h t #[.str p.1 k, p.2] n
theorem PairAt.keep {h h' : Heap} {v p} (x : PairAt h v p) (hk : ∀ t, v = .ref t → ∀ o, h.get? t = some o → h'.get? t = some o) : PairAt h' v p := by
  obtain ⟨t, k, n, e, ht⟩ := x; exact ⟨t, k, n, e, hk t e _ ht⟩
theorem dict_loop {R : Result → Shared → Prop} (hh : A.handled = none) {l it d : Addr} {items : List Value} {ps : List (Str × Value)} (hit : it ≠ d) (hil : l ≠ it) (hdl : l ≠ d) (hti : ∀ v ∈ items, ∀ t, v = .ref t → t ≠ it ∧ t ≠ d) (hlen : items.length = ps.length) :
    ∀ (m i : Nat) (s : Shared) (kvs : List (Str × Value)) (tk0 : Tok), items.length - i = m → i ≤ items.length → s.heap.IsListIter it l i → s.heap.IsList l items.toArray →
      (∀ (j : Nat) v p, items[j]? = some v → ps[j]? = some p → PairAt s.heap v p) → s.heap.DictOf (PySem.strKind prog w) d kvs → kvs.length + m ≤ sizeLine →
      (∀ h' tk kvs', h'.DictOf (PySem.strKind prog w) d kvs' → kvs' = (ps.drop i).foldl (fun a p => stored a p.1 p.2) kvs → (∀ b o, b ≠ it → b ≠ d → s.heap.get? b = some o → h'.get? b = some o) → R (.ok (.ret .none)) { s with heap := h', toks := tk }) →
      codeAny (model prog w) A (.builtin "dict.update.loop" ⟨[.ref d, .ref it, .int i tk0, .none], []⟩) R s := by
  intro m
  induction m with
  | zero =>
    intro i s kvs tk0 hm hi hI hL hP hD hsz hR
    have hin : i = items.length := by omega
    refine codeAny_builtin entry_dul ?_
    rw [Around.under_plainId plain_dul _]
    show wpAny _ A.in1 (pyNext (.ref it) >>= _) _ _ s
    refine wpAny_bind (wpAny_pyNext_list_end (by simp [hh]) hI hL (by simp [hin]) fun h' hx => ?_)
    show wpAny _ _ (Builtin.Dict.addKeywords d [] >>= _) _ _ _
    refine wpAny_bind (wpAny_pure (wpAny_pure ?_))
    exact hR h' s.toks kvs (hD.extBut hx hit.symm) (by rw [hin, hlen, List.drop_length]; rfl) fun b o h1 _ e => hx b o h1 e
  | succ m ih =>
    intro i s kvs tk0 hm hi hI hL hP hD hsz hR
    have hlt : i < items.length := by omega
    have hlt' : i < ps.length := by omega
    refine codeAny_builtin entry_dul ?_
    rw [Around.under_plainId plain_dul _]
    show wpAny _ A.in1 (pyNext (.ref it) >>= _) _ _ s
    refine wpAny_bind (wpAny_pyNext_list_item hI hL (x := items[i]) (by simp [hlt]) fun h1 hI1 hs1 => ?_)
    have hpair := hP i items[i] ps[i] (List.getElem?_eq_getElem hlt) (List.getElem?_eq_getElem hlt')
    refine ex3e hpair fun t kt n h9x => ?_
    refine and2e h9x fun ev ht => ?_
    try clear h9x hpair
    have htt := hti _ (List.getElem_mem hlt) t ev
    have ht1 : IsT h1 t #[.str ps[i].1 kt, ps[i].2] n := hs1.extBut _ _ htt.1 ht
    have hD1 := hD.sameBut hs1 hit.symm
    rw [ev]
    try with_reducible refine wpAny_holding ?_
    refine wpAny_bind ?_
    try with_reducible refine wpAny_holding ?_
    refine wpAny_bind (wpAny_tryCatch ?_)
    unfold Builtin.Dict.pairItems
    refine wpAny_bind (wpAny_typeOf (T := "tuple") ⟨_, ht1, rfl⟩ ?_)
    rw [if_pos (by decide)]
    refine wpAny_bind (wpAny_seqItems ht1 rfl (wpAny_pure ?_))
    show wpAny _ _ (holding [.str ps[i].1 kt, ps[i].2] (dictSet d (.str ps[i].1 kt) ps[i].2)) _ _ _
    refine wpAny_holding ?_
    refine wpAny_dictSet_pairs (knd := PySem.strKind prog w) (strKind_is _ _ _ _) hD1 (fun h2 hD2 hs2 => ?_) (by omega)
    have other : ∀ b o, b ≠ it → b ≠ d → s.heap.get? b = some o → h2.get? b = some o := fun b o e1 e2 e => hs2.extBut _ _ e2 (hs1.extBut _ _ e1 e)
    have hsl := stored_len kvs ps[i].1 ps[i].2
    refine wpAny_pure ⟨plainId_quiet plain_dul _, ih (i + 1) _ (stored kvs ps[i].1 ps[i].2) 0 (by omega) hlt ?_ ?_ (fun j v p hv hp => (hP j v p hv hp).keep fun t' e o => ?_) hD2 (by omega) fun h' tk kvs' hD' he hk' => ?_⟩
    · obtain ⟨o, ho, r⟩ := hI1; exact ⟨o, hs2.extBut _ _ hit ho, r⟩
    · obtain ⟨o, ho, r⟩ := hL; exact ⟨o, other _ _ hil hdl ho, r⟩
    · have := hti v (List.mem_of_getElem? hv) t' e
      exact other _ _ this.1 this.2
    · refine hR h' tk kvs' hD' ?_ fun b o e1 e2 e => hk' b o e1 e2 (other b o e1 e2 e)
      rw [he, List.drop_eq_getElem_cons hlt']; rfl
end

-- D1
section
variable {prog : Program} {w : World} {A : Around} {E : Value → Shared → Prop} {s : Shared}
theorem call_dict_pairs {l : Addr} {items : List Value} {nl : Nat} {ps : List (Str × Value)} {Q : Value → Shared → Prop} (hh : A.handled = none) (hl : IsL s.heap l items.toArray nl) (hlen : items.length = ps.length) (hsz : ps.length ≤ sizeLine)
    (hP : ∀ (j : Nat) v p, items[j]? = some v → ps[j]? = some p → PairAt s.heap v p)
    (h : ∀ h' tk kvs', h'.DictOf (PySem.strKind prog w) s.heap.objs.size kvs' → kvs' = ps.foldl (fun a p => stored a p.1 p.2) [] → (∀ b o, s.heap.get? b = some o → h'.get? b = some o) → Q (.ref s.heap.objs.size) { s with heap := h', toks := tk }) :
    wpAny (model prog w) A (call (.type "dict") [.ref l]) Q E s := by
  refine callType_codes (Q₁ := fun obj s₁ => obj = .ref s.heap.objs.size ∧ s₁ = { s with heap := s.heap.push { cls := .type "dict", data := .dict #[] } }) F.kt_called_dict (F.kt_typeCall_dict_1 _) F.entry_dict_init (kt_code_dict_new _ ⟨rfl, rfl⟩) ?_
  rintro obj s₁ ⟨rfl, rfl⟩
  have hnew : (s.heap.push { cls := .type "dict", data := .dict #[] }).DictOf (PySem.strKind prog w) s.heap.objs.size [] := Heap.DictOf.new s.heap
  have hl' : IsL (s.heap.push { cls := .type "dict", data := .dict #[] }) l items.toArray nl := Heap.get?_push_of_some _ hl
  have hlS : l < s.heap.objs.size := Heap.lt_size hl
  refine (and3i hnew.typeIs (F.args_dict_init_2 _ _) ?_)
  unfold Builtin.«dict.__init__»
  refine wpAny_bind ?_
  unfold Builtin.Dict.selfAndRest
  refine wpAny_bind (wpAny_notOrdered_dict hnew.typeIs ?_)
  show wpAny _ _ (pure (s.heap.objs.size, [Value.ref l])) _ _ _
  refine wpAny_pure ?_
  show wpAny _ _ (Builtin.Dict.updateFrom "dict.__init__" s.heap.objs.size (.ref l) [] .none) _ _ _
  unfold Builtin.Dict.updateFrom
  refine wpAny_bind (wpAny_typeOf (T := "list") ⟨_, hl', rfl⟩ ?_)
  rw [if_pos (by decide)]
  refine wpAny_bind (keys_none hl' (by simp [hh]) fun h1 tk1 hk1 => ?_)
  rw [if_pos (show (none : Option Value).isNone = true from rfl)]
  refine wpAny_bind (wpAny_rule ?_)
  have hl1 : IsL h1 l items.toArray nl := hk1 _ _ hl'
  have hlist : h1.IsList l items.toArray := (⟨_, and3i hl1 rfl ⟨_, rfl⟩⟩)
  refine wpAny_bind (wpAny_pyIter_list (s := { s with heap := h1, toks := tk1 }) hlist ?_)
  have hk0 : ∀ b o, s.heap.get? b = some o → h1.get? b = some o := fun b o e => hk1 b o (Heap.get?_push_of_some _ e)
  have hsz1 : s.heap.objs.size < h1.objs.size := by
    refine ex3e hnew fun o es ep h9x => ?_
    refine and2e h9x fun ho _ => ?_
    try clear h9x hnew
    exact Heap.lt_size (hk1 _ _ ho)
  have hk2 : ∀ b o, h1.get? b = some o → (h1.push { cls := .type "list_iterator", data := .fields #[.ref l, .int 0 0] }).get? b = some o := fun b o e => Heap.get?_push_of_some _ e
  refine wpAny_pure ⟨plainId_quiet plain_dul _, dict_loop (A := A.in1) (by simp [hh]) (it := h1.objs.size) (d := s.heap.objs.size) (l := l) (items := items) (ps := ps) (Nat.ne_of_gt hsz1) (Nat.ne_of_lt (Nat.lt_trans hlS hsz1)) (Nat.ne_of_lt hlS) (fun v hv t e => ?_) hlen items.length 0 _ [] 0 (by omega) (Nat.zero_le _) (⟨_, and3i (Heap.get?_push_size _ rfl) rfl rfl⟩) (⟨_, and3i (hk2 _ _ hl1) rfl ⟨_, rfl⟩⟩)
    (fun j v p hv hp => (hP j v p hv hp).keep fun t e o ho => hk2 _ _ (hk0 _ _ ho)) ((hnew.keep (h' := h1) hk1).push _) (by simp; omega) fun h' tk kvs' hD he hk => ?_⟩
  · refine hide fun G9 hG9 => ?_
    obtain ⟨j, hj, ej⟩ := List.getElem_of_mem hv
    refine ex3e (hP j v ps[j] (by rw [List.getElem?_eq_getElem hj, ej]) (List.getElem?_eq_getElem (by omega))) fun t' k n h9x => ?_
    refine and2e h9x fun e' ht => ?_
    try clear h9x
    refine hG9 ?_; clear hG9 G9
    rw [e] at e'; cases e'
    have := Heap.lt_size ht
    exact ⟨Nat.ne_of_lt (Nat.lt_trans this hsz1), Nat.ne_of_lt this⟩
  · refine ⟨rfl, h h' tk kvs' hD (by rw [he, List.drop_zero]) fun b o e => hk b o ?_ ?_ (hk2 _ _ (hk0 _ _ e))⟩
    · exact Nat.ne_of_lt (Nat.lt_trans (Heap.lt_size e) hsz1)
    · exact Nat.ne_of_lt (Heap.lt_size e)
end
theorem fold_er {ps qs : List (Str × Value)} (h : qs.map (fun q => (q.1, er q.2)) = ps) : ∀ {kvs : List (Str × Value)} {g : Str → Option Value}, (∀ k, (valueAt kvs k).map er = g k) → ∀ k, (valueAt (qs.foldl (fun a p => stored a p.1 p.2) kvs) k).map er = (ps.foldl (fun g p => updF g p.1 p.2) g) k := by
  subst h
  induction qs with
  | nil => intro kvs g hg k; exact hg k
  | cons q r ih =>
    intro kvs g hg k
    refine ih (fun y => ?_) k
    rw [valueAt_stored]; unfold updF
    by_cases e : y = q.1
    · simp [e]
    · simp [e, hg]
theorem fold_len : ∀ (qs : List (Str × Value)) (kvs : List (Str × Value)), (qs.foldl (fun a p => stored a p.1 p.2) kvs).length ≤ kvs.length + qs.length
  | [], kvs => Nat.le_refl _
  | q :: r, kvs => by
    have h1 := fold_len r (stored kvs q.1 q.2); have h2 := stored_len kvs q.1 q.2
    rw [List.foldl_cons, List.length_cons]; omega
section
variable {c : Cx} {n : Nat} {sc : Scope} {cmp : Bool} {σ : St}
theorem bc_dictpairs {l : Addr} {ts : List Addr} {ps : List (Str × Value)} {Q : Value → St → Prop} (hl : Ob σ l (.list (ts.map .ref))) (ht : ∀ (i : Nat) t p, ts[i]? = some t → ps[i]? = some p → Ob σ t (.tup [vS p.1, p.2])) (hlen : ts.length = ps.length) (hsz : ps.length ≤ 1000)
    (h : ∀ D, Q (.ref D) ⟨σ.m, σ.Z, (D, .dict ps.length (ps.foldl (fun g p => updF g p.1 p.2) fun _ => none)) :: σ.H⟩) : BC c n sc cmp (.type "dict") [.ref l] Q σ := by
  unfold BC
  intro ws hw L cl q f' cd fr A B s₀ s ok r b X
  refine ex1e (map_one hw) fun x h9x => ?_
  refine and2e h9x fun e9b h1 => ?_
  try clear h9x
  obtain rfl := e9b
  rw [er_ref_inv h1]
  refine ex2e (hl.rep X) fun items nl h9x => ?_
  refine and2e h9x fun hL e => ?_
  try clear h9x
  have hil : items.length = ps.length := by rw [← hlen, ← List.length_map (f := er), e, List.length_map]
  have hitem : ∀ (j : Nat) v, items[j]? = some v → ∃ t, ts[j]? = some t ∧ v = .ref t := fun j v hv => by
    have : (items.map er)[j]? = some (er v) := by rw [List.getElem?_map, hv]; rfl
    rw [e, List.getElem?_map] at this
    cases ht : ts[j]? with
    | none => rw [ht] at this; cases this
    | some t =>
      rw [ht] at this
      exact ⟨t, rfl, er_ref_inv (Option.some.inj this).symm⟩
  -- the pairs as they lie
  have hq : ∀ (m : Nat), m ≤ ps.length → ∃ qs : List (Str × Value), qs.map (fun q => (q.1, er q.2)) = ps.take m ∧ ∀ (j : Nat) v q, items[j]? = some v → qs[j]? = some q → PairAt s.heap v q := by
    intro m
    induction m with
    | zero => intro _; exact ⟨[], rfl, fun j v q _ hq => by simp at hq⟩
    | succ m ih =>
      intro hm
      refine ex1e (ih (by omega)) fun qs h9x => ?_
      refine and2e h9x fun e1 e2 => ?_
      try clear h9x
      have hmi : m < items.length := by omega
      have hmp : m < ps.length := by omega
      refine hide fun G9 hG9 => ?_
      refine ex1e (hitem m items[m] (List.getElem?_eq_getElem hmi)) fun t h9x => ?_
      refine and2e h9x fun ht1 ev => ?_
      try clear h9x
      refine ex2e ((ht m t ps[m] ht1 (List.getElem?_eq_getElem hmp)).rep X) fun its k h9x => ?_
      refine and2e h9x fun hT e3 => ?_
      try clear h9x
      refine ex2e (map_two e3) fun u v h9x => ?_
      refine and3e h9x fun e9c e4 e5 => ?_
      try clear h9x
      obtain rfl := e9c
      refine ex1e (er_str_inv e4) fun tk e9b => ?_
      obtain rfl := e9b
      refine hG9 ?_; clear hG9 G9
      have hql : qs.length = m := by
        have := congrArg List.length e1
        rw [List.length_map, List.length_take] at this; omega
      refine ⟨qs ++ [(ps[m].1, v)], ?_, fun j v' q hv hq => ?_⟩
      · rw [List.map_append, e1, List.take_add_one, List.getElem?_eq_getElem hmp]
        show ps.take m ++ [(ps[m].1, er v)] = ps.take m ++ [ps[m]]
        rw [e5]
      · by_cases c : j < m
        · rw [List.getElem?_append_left (by omega)] at hq
          exact e2 j v' q hv hq
        · have : j = m := by
            have := (List.getElem?_eq_some_iff.mp hq).1
            rw [List.length_append, List.length_singleton] at this; omega
          subst this
          rw [List.getElem?_append_right (by omega), hql, Nat.sub_self] at hq
          cases hq
          rw [List.getElem?_eq_getElem hmi] at hv
          cases hv
          exact (ex3i t tk k ⟨ev, hT⟩)
  refine ex1e (hq ps.length (Nat.le_refl _)) fun qs h9x => ?_
  refine and2e h9x fun e1 e2 => ?_
  try clear h9x
  rw [List.take_length] at e1
  have hql : qs.length = ps.length := by rw [← e1, List.length_map]
  refine call_dict_pairs r.1 hL (by rw [hil, hql]) (by rw [hql, sizeLine_eq]; omega) e2 fun h' tk kvs' hD he hk => ⟨_, h _, X.new (tk := tk) hk (Nat.le_refl _) (⟨kvs', and4i hD (fun k => ?_) ?_ (modules_low' ok b X (Nat.le_refl _))⟩)⟩
  · rw [he]; exact fold_er e1 (fun _ => rfl) k
  · rw [he]; have := fold_len qs []; rw [hql] at this; simpa using this
end

-- P13

theorem mem_frN {k k' : Nat} {x : Str} : x ∈ frN k k' ↔ ∃ j, k < j ∧ j ≤ k' ∧ x = nm j := by
  unfold frN
  rw [List.mem_map]
  constructor
  · rintro ⟨i, hi, rfl⟩
    rw [List.mem_range] at hi
    exact (⟨k + 1 + i, and3i (by omega) (by omega) rfl⟩)
  · intro h9
    refine hide fun G9 hG9 => ?_
    refine ex1e h9 fun j h9x => ?_
    refine and3e h9x fun h1 h2 e9d => ?_
    try clear h9x h9
    obtain rfl := e9d
    refine hG9 ?_; clear hG9 G9
    exact ⟨j - (k + 1), by rw [List.mem_range]; omega, by congr 1; omega⟩
theorem frN_nodup {k k' : Nat} (h : k' < 700) : (frN k k').Nodup := by
  unfold frN
  exact nodup_map_inj List.nodup_range fun a ha b hb e => by
    rw [List.mem_range] at ha hb
    have := nm_inj (by omega) (by omega) e
    omega
noncomputable def Rg (k k' : Nat) (l : List Str) : Prop := k ≤ k' ∧ (∀ x ∈ l, ∃ j, k < j ∧ j ≤ k' ∧ x = nm j) ∧ (k' < 700 → l.Nodup)
theorem Rg.nil (k : Nat) : Rg k k [] := (and3i (Nat.le_refl _) (fun x h => nomatch h) (fun _ => List.nodup_nil))
theorem Rg.frN {k k' : Nat} (h : k ≤ k') : Rg k k' (frN k k') := (and3i h (fun x hx => mem_frN.mp hx) frN_nodup)
theorem Rg.app {k k1 k2 : Nat} {a b : List Str} (h : Rg k k1 a) (g : Rg k1 k2 b) : Rg k k2 (a ++ b) := by
  refine (and3i (Nat.le_trans h.1 g.1) (fun x hx => ?_) (fun hk => ?_))
  · rcases List.mem_append.mp hx with hx | hx
    · obtain ⟨j, a1, a2, a3⟩ := h.2.1 x hx; exact ⟨j, a1, Nat.le_trans a2 g.1, a3⟩
    · obtain ⟨j, a1, a2, a3⟩ := g.2.1 x hx; exact ⟨j, Nat.lt_of_le_of_lt h.1 a1, a2, a3⟩
  · rw [List.nodup_append]
    refine (and3i (h.2.2 (Nat.lt_of_le_of_lt g.1 hk)) (g.2.2 hk) (fun x hx y hy => ?_))
    rintro rfl
    refine hide fun G9 hG9 => ?_
    refine ex1e (h.2.1 x hx) fun i h9x => ?_
    refine and3e h9x fun a1 a2 a3 => ?_
    try clear h9x
    refine ex1e (g.2.1 x hy) fun j h9x => ?_
    refine and3e h9x fun b1 b2 b3 => ?_
    try clear h9x
    refine hG9 ?_; clear hG9 G9
    have hg := g.1
    rw [a3] at b3
    have := nm_inj (by omega) (by omega) b3
    omega
theorem Rg.comm {k k1 k2 : Nat} {a b : List Str} (h : Rg k k1 a) (g : Rg k1 k2 b) : Rg k k2 (b ++ a) := by
  have := h.app g
  exact (and3i this.1 (fun x hx => this.2.1 x ((List.perm_append_comm).mem_iff.mp hx)) (fun hk => (List.perm_append_comm).nodup_iff.mp (this.2.2 hk)))
theorem WS.rg {B : List Str → Nat → List Nd → Nat → Prop} (hB : ∀ L k b k', B L k b k' → Rg k k' (dns b)) {L k t ns k'} (h : WS B L k t ns k') : Rg k k' (dn t) := by
  induction h with
  | let0 h1 h2 => rw [dn_sh .let0 (fun w hw => nomatch hw)]; rw [show dnss [] = [] from rfl, List.append_nil]; exact .frN (by omega)
  | let1 h1 h2 hw => rw [dn_sh .let1 (fun w hx => by rcases List.mem_cons.mp hx with rfl | h; exact ⟨_, hw⟩; cases h)]; rw [show dnss [] = [] from rfl, List.append_nil]; exact .frN (by omega)
  | asg hx hw => rw [dn_sh .asg (fun w hx => by rcases List.mem_cons.mp hx with rfl | h; exact ⟨_, hw⟩; cases h)]; exact .nil _
  | pop hw => rw [dn_sh .pop (fun w hx => by rcases List.mem_cons.mp hx with rfl | h; exact ⟨_, hw⟩; cases h)]; exact .nil _
  | iff hw hb => rw [dn_sh .iff (fun w hx => by rcases List.mem_cons.mp hx with rfl | h; exact ⟨_, hw⟩; cases h)]; simpa [dnss] using hB _ _ _ _ hb
  | fr hw ha hb => rw [dn_sh .fr (fun w hx => by rcases List.mem_cons.mp hx with rfl | h; exact ⟨_, hw⟩; cases h)]; simpa [dnss] using (hB _ _ _ _ ha).comm (hB _ _ _ _ hb)
  | sw1 hw hb => rw [dn_sh .sw1 (fun w hx => by rcases List.mem_cons.mp hx with rfl | h; exact ⟨_, hw⟩; cases h)]; simpa [dnss] using hB _ _ _ _ hb
  | sw2 hw ha hb => rw [dn_sh .sw2 (fun w hx => by rcases List.mem_cons.mp hx with rfl | h; exact ⟨_, hw⟩; cases h)]; simpa [dnss] using (hB _ _ _ _ ha).app (hB _ _ _ _ hb)
  | blk hb => rw [dn_sh .blk (fun w hw => nomatch hw)]; simpa [dnss] using hB _ _ _ _ hb
theorem WL.rg {S : List Str → Nat → Nd → List Str → Nat → Prop} (hS : ∀ L k t ns k', S L k t ns k' → Rg k k' (dn t)) {L k kids L' k'} (h : WL S L k kids L' k') : Rg k k' (dns kids) := by
  induction h with
  | nil => exact .nil _
  | cons s _ ih => rw [dns_cons]; exact (hS _ _ _ _ _ s).app ih
theorem WB.rg : ∀ (d : Nat) {L k kids k'}, WB d L k kids k' → Rg k k' (dns kids)
  | 0, L, k, kids, k', ⟨h1, L', h2⟩ => WL.rg (fun L k t ns k' h => WS.rg (fun _ _ _ _ h => h.elim) h) h2
  | d + 1, L, k, kids, k', h => by
    refine and2e (WB_iff.mp h) fun h1 h9x => ?_
    refine ex1e h9x fun L' h2 => ?_
    try clear h9x
    exact WL.rg (fun L k t ns k' h => WS.rg (fun _ _ _ _ h => WB.rg d h) h) h2
theorem we_ok {U L : List Str} (hL : ∀ x ∈ L, x ∈ U) {w} (h : WE L w) : okN U w := by
  have atom : ∀ {t}, W0E L t → okN U t := fun h => by
    induction h with
    | num i => exact (and7i (fun e => absurd e (by decide)) (fun x hx => nomatch hx) (Nat.zero_le _) (by decide) (Nat.zero_le _) (fun e => by rcases e with e | e <;> exact absurd e (by decide)) trivial)
    | nam x hx => exact (and7i (fun _ => hL x hx) (fun x hx => nomatch hx) (Nat.zero_le _) (by decide) (Nat.zero_le _) (fun e => by rcases e with e | e <;> exact absurd e (by decide)) trivial)
  induction h with
  | atom h => exact atom h
  | @call f ks hk hl =>
    refine (and7i (fun e => absurd e (by decide)) (fun x hx => nomatch hx) (Nat.zero_le _) (by decide) (by omega) (fun e => by rcases e with e | e <;> exact absurd e (by decide)) ?_)
    clear hl
    induction ks with
    | nil => trivial
    | cons t r ih => exact ⟨atom (hk t (.head _)), ih fun u hu => hk u (.tail _ hu)⟩
theorem blk_ok {U : List Str} {b : List Nd} (h : okNs U b) (hl : b.length ≤ 2000) : okN U (blkN b) :=
  (and7i (fun e => absurd e (by decide)) (fun x hx => nomatch hx) (Nat.zero_le _) (by decide) hl (fun e => by rcases e with e | e <;> exact absurd e (by decide)) h)
theorem caseN_ok {U : List Str} {v : Vl} {b : List Nd} (hv : v.names! = []) (h : okNs U b) (hl : b.length ≤ 2000) : okN U (caseN v (blkN b)) :=
  (and8i (fun e => absurd e (by decide)) (fun x hx => by rw [hv] at hx; cases hx) (by rw [hv]; exact Nat.zero_le _) (by decide) (by simp) (fun e => by rcases e with e | e <;> exact absurd e (by decide)) (blk_ok h hl) trivial)
theorem ok_sh {U : List Str} {t ws bs tl ml} (hs : Shp t ws bs tl ml) (hw : ∀ w ∈ ws, okN U w) (hb : ∀ b ∈ bs, okNs U b ∧ b.length ≤ 2000) (ht : ∀ x ∈ tl, x ∈ U) (hm : ∀ x ∈ ml, x ∈ U) (h6 : tl.length ≤ 1000) : okN U t := by
  induction hs with
  | let0 => exact (and7i (fun e => absurd e (by decide)) ht h6 (by decide) (Nat.zero_le _) (fun _ => ⟨_, rfl⟩) trivial)
  | let1 => exact (and8i (fun e => absurd e (by decide)) ht h6 (by decide) (by simp) (fun _ => ⟨_, rfl⟩) (hw _ (.head _)) trivial)
  | asg => exact (and8i (fun e => absurd e (by decide)) hm (by simp [Vl.names!]) (by decide) (by simp) (fun _ => ⟨_, rfl⟩) (hw _ (.head _)) trivial)
  | pop => exact (and8i (fun e => absurd e (by decide)) (fun x hx => nomatch hx) (Nat.zero_le _) (by decide) (by simp) (fun e => by rcases e with e | e <;> exact absurd e (by decide)) (and8i (fun e => absurd e (by decide)) (fun x hx => nomatch hx) (Nat.zero_le _) (by decide) (by simp) (fun e => by rcases e with e | e <;> exact absurd e (by decide)) (hw _ (.head _)) trivial) trivial)
  | iff => exact (and9i (fun e => absurd e (by decide)) (fun x hx => nomatch hx) (Nat.zero_le _) (by decide) (by simp) (fun e => by rcases e with e | e <;> exact absurd e (by decide)) (hw _ (.head _)) (blk_ok (hb _ (.head _)).1 (hb _ (.head _)).2) trivial)
  | fr => exact (and11i (fun e => absurd e (by decide)) (fun x hx => nomatch hx) (Nat.zero_le _) (by decide) (by simp) (fun e => by rcases e with e | e <;> exact absurd e (by decide)) (blk_ok trivial (Nat.zero_le _)) (hw _ (.head _)) (blk_ok (hb _ (.head _)).1 (hb _ (.head _)).2) (blk_ok (hb _ (.tail _ (.head _))).1 (hb _ (.tail _ (.head _))).2) trivial)
  | sw1 => exact (and9i (fun e => absurd e (by decide)) (fun x hx => nomatch hx) (Nat.zero_le _) (by decide) (by simp) (fun e => by rcases e with e | e <;> exact absurd e (by decide)) (hw _ (.head _)) (caseN_ok rfl (hb _ (.head _)).1 (hb _ (.head _)).2) trivial)
  | sw2 => exact (and10i (fun e => absurd e (by decide)) (fun x hx => nomatch hx) (Nat.zero_le _) (by decide) (by simp) (fun e => by rcases e with e | e <;> exact absurd e (by decide)) (hw _ (.head _)) (caseN_ok rfl (hb _ (.head _)).1 (hb _ (.head _)).2) (caseN_ok rfl (hb _ (.tail _ (.head _))).1 (hb _ (.tail _ (.head _))).2) trivial)
  | blk => exact blk_ok (hb _ (.head _)).1 (hb _ (.head _)).2
theorem Wf.okNs {U : List Str} : ∀ (d : Nat) {L kids}, Wf d L kids → (∀ x ∈ L, x ∈ U) → (∀ x ∈ dns kids, x ∈ U) → okNs U kids := by
  intro d
  induction d with
  | zero => intro L kids h; exact h.elim
  | succ d ih =>
    intro L kids h
    have := h.2
    clear h
    induction kids generalizing L with
    | nil => intros; trivial
    | cons t r ihr =>
      intro hL hd
      refine and2e this fun n9a h2 => ?_
      try clear this
      obtain ⟨ws, bs, tl, ml, hs, hw, hml, h6, hb⟩ := n9a
      have hww : ∀ w ∈ ws, ∃ L, WE L w := fun w hx => ⟨L, hw w hx⟩
      refine and2e (tl_dn hs hww) fun et ed => ?_
      rw [dns_cons, ed] at hd
      have htU : ∀ x ∈ tl, x ∈ U := fun x hx => hd x (List.mem_append_left _ (List.mem_append_left _ hx))
      refine ⟨ok_sh hs (fun w hx => we_ok hL (hw w hx)) (fun b hbm => ⟨ih (hb b hbm) hL fun x hx => hd x (List.mem_append_left _ (List.mem_append_right _ (dnss_mem.mpr ⟨b, hbm, hx⟩))), Nat.le_trans (hb b hbm).len (by decide)⟩) htU (fun x hx => hL x (hml x hx)) (by omega), ihr h2 (fun x hx => ?_) fun x hx => hd x (List.mem_append_right _ hx)⟩
      rw [et] at hx
      exact (List.mem_append.mp hx).elim (hL x) (htU x)
noncomputable def nn (ks : List Nd) : Nat := (nameKids ks).length + (rowsNe ks).flatten.length
theorem nn_nil : nn [] = 0 := by unfold nn; rw [nameKids, rowsNe]; rfl
theorem nn_we {L w} (h : WE L w) (r : List Nd) : nn (w :: r) ≤ 1001 + nn r := by
  unfold nn
  induction h with
  | atom h0 =>
    have hk := (atom_facts h0).1
    induction h0 with
    | num i => rw [nk_num, rowsNe, if_pos hk]; simp
    | nam x => rw [nk_nam, rowsNe, if_pos hk]; simp; omega
  | @call f ks hk hl =>
    have e1 : stL (callN f ks) = nameKids ks := by
      rw [stL, if_neg (by decide), if_neg (by decide), atoms_ne hk]; simp
    have e2 : ∀ ks : List Nd, (nameKids ks).length ≤ ks.length := by
      intro ks
      induction ks with
      | nil => simp [nameKids]
      | cons t r ih => rw [nameKids, List.length_append, List.length_cons]; split <;> simp <;> omega
    have := e2 ks
    rw [nk_call, rowsNe, e1]
    split <;> simp <;> omega
theorem nn_blk {d b} (h : Pl d b) (r : List Nd) : nn (blkN b :: r) ≤ (rowsAll b).flatten.length + nn r := by
  unfold nn
  rw [nk_blk, rowsNe]
  by_cases hb : b = []
  · subst hb; rw [if_pos (show (blkN []).kids = [] from rfl)]; simp
  · rw [if_neg (show ¬ (blkN b).kids = [] from hb), stL, if_neg (by decide), if_pos rfl, h.nameKids]; simp; omega
theorem nn_case {d v b} (h : Pl d b) (r : List Nd) : nn (caseN v (blkN b) :: r) ≤ (rowsAll b).flatten.length + nn r := by
  have := nn_blk h []
  rw [nn_nil] at this
  unfold nn at this ⊢
  rw [nk_case, rowsNe, if_neg (by simp [Nd.kids]), stL, if_neg (by decide), if_neg (by decide)]
  simp at this ⊢; omega
noncomputable def sumR : List (List Nd) → Nat
  | [] => 0
  | b :: r => (rowsAll b).flatten.length + sumR r
theorem len_sh {d t ws bs tl ml} (hs : Shp t ws bs tl ml) (hw : ∀ w ∈ ws, ∃ L, WE L w) (hb : ∀ b ∈ bs, Pl d b) : (stL t).length ≤ tl.length + ml.length + 1001 + sumR bs := by
  induction hs with
  | let0 => rw [stL, if_pos (by simp), if_neg (by decide), List.length_append]; show _ + (nameKids [] ++ (rowsNe []).flatten).length ≤ _; rw [nameKids, rowsNe]; simp [Vl.names!, sumR] <;> omega
  | @let1 ns w => obtain ⟨L, hL⟩ := hw w (.head _); have := nn_we hL []; rw [nn_nil] at this; unfold nn at this; rw [stL, if_pos (by simp), if_neg (by decide), List.length_append]; show _ + (nameKids [w] ++ (rowsNe [w]).flatten).length ≤ _; rw [List.length_append]; simp [Vl.names!, sumR] at this ⊢; omega
  | @asg y w => obtain ⟨L, hL⟩ := hw w (.head _); have := nn_we hL []; rw [nn_nil] at this; unfold nn at this; rw [stL, if_pos (by simp), if_neg (by decide), List.length_append, List.length_append]; simp [Vl.names!, sumR] at this ⊢; omega
  | @pop w =>
    refine ex1e (hw w (.head _)) fun L hL => ?_
    have h1 := nn_we hL []
    rw [nn_nil] at h1; unfold nn at h1
    rw [stL, if_neg (by decide), if_neg (by decide), List.nil_append, nk_call, rowsNe, if_neg (by simp [Nd.kids]), Mine.nameKids, rowsNe, stL, if_neg (by decide), if_neg (by decide)]
    simp [sumR] at h1 ⊢; omega
  | @iff w b => obtain ⟨L, hL⟩ := hw w (.head _); have h1 := nn_we hL [blkN b]; have h2 := nn_blk (hb b (.head _)) []; rw [nn_nil] at h2; rw [stL, if_neg (by decide), if_neg (by decide), List.nil_append, List.length_append]; simp only [sumR, List.length_nil]; unfold nn at h1 h2; omega
  | @fr w a b => obtain ⟨L, hL⟩ := hw w (.head _); have h0 := nn_blk (Pl.nil 0) [w, blkN b, blkN a]; have h1 := nn_we hL [blkN b, blkN a]; have h2 := nn_blk (hb b (.head _)) [blkN a]; have h3 := nn_blk (hb a (.tail _ (.head _))) []; rw [nn_nil] at h3; rw [rowsAll] at h0; rw [stL, if_neg (by decide), if_neg (by decide), List.nil_append, List.length_append]; simp only [sumR, List.length_nil, List.flatten_nil] at h0 ⊢; unfold nn at h0 h1 h2 h3; omega
  | @sw1 w b => obtain ⟨L, hL⟩ := hw w (.head _); have h1 := nn_we hL [caseN .none (blkN b)]; have h2 := nn_case (v := .none) (hb b (.head _)) []; rw [nn_nil] at h2; rw [stL, if_neg (by decide), if_neg (by decide), List.nil_append, List.length_append]; simp only [sumR, List.length_nil]; unfold nn at h1 h2; omega
  | @sw2 w v a b => obtain ⟨L, hL⟩ := hw w (.head _); have h1 := nn_we hL [caseN (.int v) (blkN a), caseN .none (blkN b)]; have h2 := nn_case (v := .int v) (hb a (.head _)) [caseN .none (blkN b)]; have h3 := nn_case (v := .none) (hb b (.tail _ (.head _))) []; rw [nn_nil] at h3; rw [stL, if_neg (by decide), if_neg (by decide), List.nil_append, List.length_append]; simp only [sumR, List.length_nil]; unfold nn at h1 h2 h3; omega
  | @blk b => rw [stL, if_neg (by decide), if_pos rfl, List.nil_append, (hb b (.head _)).nameKids]; simp [sumR]
noncomputable def szB : Nat → Nat
  | 0 => 0
  | d + 1 => bl d * (1020 + 2 * szB d)
theorem Shp.two {t ws bs tl ml} (h : Shp t ws bs tl ml) : bs.length ≤ 2 ∧ ml.length ≤ 1 := by cases h <;> simp
theorem Wf.size : ∀ (d : Nat) {L kids}, Wf d L kids → (rowsAll kids).flatten.length ≤ szB d := by
  intro d
  induction d with
  | zero => intro L kids h; exact h.elim
  | succ d ih =>
    intro L kids h
    have h1 := h.1
    have h2 := h.2
    clear h
    have key : (rowsAll kids).flatten.length ≤ kids.length * (1020 + 2 * szB d) := by
      clear h1
      induction kids generalizing L with
      | nil => rw [rowsAll]; simp
      | cons t r ihr =>
        refine and2e h2 fun n9a h3 => ?_
        try clear h2
        obtain ⟨ws, bs, tl, ml, hs, hw, hml, h6, hb⟩ := n9a
        have hww : ∀ w ∈ ws, ∃ L, WE L w := fun w hx => ⟨L, hw w hx⟩
        have a1 := len_sh hs hww (fun b hx => (hb b hx).pl d)
        have a2 : sumR bs ≤ bs.length * szB d := by
          clear hs a1
          induction bs with
          | nil => simp [sumR]
          | cons b r ih2 =>
            have := ih (hb b (.head _))
            have := ih2 fun c hc => hb c (.tail _ hc)
            rw [sumR, List.length_cons, Nat.add_mul]; omega
        have a3 := hs.two
        have a4 : bs.length * szB d ≤ 2 * szB d := Nat.mul_le_mul_right _ a3.1
        have a5 := ihr h3
        rw [rowsAll, List.flatten_cons, List.length_append, List.length_cons, Nat.add_mul]
        omega
    exact Nat.le_trans key (Nat.mul_le_mul_right _ h1)
theorem ht_we {L w} (h : WE L w) : ht w ≤ 2 := by
  have atom : ∀ {t}, W0E L t → ht t ≤ 1 := fun h => by cases h <;> simp [ht, ht.hts]
  induction h with
  | atom h => exact Nat.le_trans (atom h) (by decide)
  | @call f ks hk hl =>
    clear hl
    have : hts ks ≤ 1 := by
      induction ks with
      | nil => exact Nat.zero_le _
      | cons t r ih => exact Nat.max_le.mpr ⟨atom (hk t (.head _)), ih fun u hu => hk u (.tail _ hu)⟩
    exact Nat.succ_le_succ this
noncomputable def mxH : List (List Nd) → Nat
  | [] => 0
  | b :: r => max (hts b) (mxH r)
theorem ht_sh {t ws bs tl ml} (hs : Shp t ws bs tl ml) (hw : ∀ w ∈ ws, ∃ L, WE L w) : ht t ≤ max 4 (mxH bs + 3) := by
  induction hs with
  | let0 => simp [ht, ht.hts]; omega
  | @let1 ns w => obtain ⟨L, hL⟩ := hw w (.head _); have := ht_we hL; simp [ht, ht.hts, mxH, hts]; omega
  | @asg y w => obtain ⟨L, hL⟩ := hw w (.head _); have := ht_we hL; simp [ht, ht.hts, mxH, hts]; omega
  | @pop w => obtain ⟨L, hL⟩ := hw w (.head _); have := ht_we hL; simp [ht, ht.hts, mxH, hts]; omega
  | @iff w b => obtain ⟨L, hL⟩ := hw w (.head _); have := ht_we hL; simp [ht, ht.hts, mxH, hts]; omega
  | @fr w a b => obtain ⟨L, hL⟩ := hw w (.head _); have := ht_we hL; simp [ht, ht.hts, mxH, hts]; omega
  | @sw1 w b => obtain ⟨L, hL⟩ := hw w (.head _); have := ht_we hL; simp [ht, ht.hts, mxH, hts]; omega
  | @sw2 w v a b => obtain ⟨L, hL⟩ := hw w (.head _); have := ht_we hL; simp [ht, ht.hts, mxH, hts]; omega
  | @blk b => simp [ht, mxH, hts]; omega
theorem Wf.ht : ∀ (d : Nat) {L kids}, Wf d L kids → hts kids ≤ 3 * d + 1 := by
  intro d
  induction d with
  | zero => intro L kids h; exact h.elim
  | succ d ih =>
    intro L kids h
    have h2 := h.2
    clear h
    induction kids generalizing L with
    | nil => exact Nat.zero_le _
    | cons t r ihr =>
      refine and2e h2 fun n9a h3 => ?_
      try clear h2
      obtain ⟨ws, bs, tl, ml, hs, hw, hml, h6, hb⟩ := n9a
      have a1 := ht_sh hs fun w hx => ⟨L, hw w hx⟩
      have a2 : mxH bs ≤ 3 * d + 1 := by
        clear hs a1
        induction bs with
        | nil => exact Nat.zero_le _
        | cons b r ih2 => exact Nat.max_le.mpr ⟨ih (hb b (.head _)), ih2 fun c hc => hb c (.tail _ hc)⟩
      have a3 := ihr h3
      refine Nat.max_le.mpr ⟨Nat.le_trans a1 ?_, a3⟩
      omega

-- W21

theorem Le.updRep {c : Cx} {m : List (Str × Value)} {Z : ZT} {H H' : HT} {a : Addr} {o o' : AO} (U : HUpd a o o' H H') (hr : ∀ h, Rep c h a o → Rep c h a o') : Le c ⟨m, Z, H⟩ ⟨m, Z, H'⟩ :=
  fun sc cmp L cl s₀ B s X => X.upd (tk := s.toks) U (fun _ _ _ e => e) (hr _ (X.rh.mu _ U.mem).1)
theorem Le.dictUp {c : Cx} {m : List (Str × Value)} {Z : ZT} {H H' : HT} {a : Addr} {k k' : Nat} {f : Str → Option Value} (U : HUpd a (.dict k f) (.dict k' f) H H') (hk : k ≤ k') : Le c ⟨m, Z, H⟩ ⟨m, Z, H'⟩ :=
  Le.updRep U fun h ⟨kvs, h1, h2, h3, h4⟩ => (⟨kvs, and4i h1 h2 (Nat.le_trans h3 hk) h4⟩)
theorem Le.dictiUp {c : Cx} {m : List (Str × Value)} {Z : ZT} {H H' : HT} {a : Addr} {k k' : Nat} {f : Int → Option Value} (U : HUpd a (.dicti k f) (.dicti k' f) H H') (hk : k ≤ k') : Le c ⟨m, Z, H⟩ ⟨m, Z, H'⟩ :=
  Le.updRep U fun h ⟨kvs, h1, h2, h3, h4⟩ => (⟨kvs, and4i h1 h2 (Nat.le_trans h3 hk) h4⟩)
theorem te_slice_h0 {c : Cx} {n : Nat} {sc : Scope} {cmp : Bool} {σ : St} {value : PySem.Expr} {lower upper step : Option PySem.Expr} {p pos : Pos} {Q : Value → St → Prop} {l : Addr} {items : List Value} {vs : List Value} (h0 : c.h0.IsList l items.toArray) (e2 : items.map er = vs) (hlen : vs.length ≤ 1000000)
    (h : TE c n sc cmp value (fun o σ1 => o = .ref l ∧ TO c n sc cmp lower (fun lo σ2 => TO c n sc cmp upper (fun hi σ3 => TO c n sc cmp step (fun st σ4 => st ≠ some 0 ∧
      ∀ D, Q (.ref D) ⟨σ4.m, σ4.Z, (D, .list (pick vs lo hi st)) :: σ4.H⟩) σ3) σ2) σ1) σ) : TE c n sc cmp (.Subscript value (.Slice lower upper step p) pos) Q σ := by
  unfold TE TO at *
  intro L cl q f cd fr A B s₀ s ok rm b X
  refine Subscript_ (h.use ok rm b X fun ov σ1 s1 y1 z1 => ?_)
  obtain ⟨eo, y1⟩ := y1
  refine wpAny_Slice (y1.use ok rm b z1 fun vl σ2 s2 ⟨lo, pl, y2⟩ z2 => y2.use ok rm b z2 fun vu σ3 s3 ⟨hi, pu, y3⟩ z3 => y3.use ok rm b z3 fun vst σ4 s4 ⟨st, ps, y4⟩ z4 => ?_)
  refine and2e y4 fun hne hQ => ?_
  try clear y4
  have e' := er_ref_inv eo
  subst e'
  have hL : s4.heap.IsList l items.toArray := by
    refine ex1e h0 fun o h9x => ?_
    refine and2e h9x fun ho r => ?_
    try clear h9x h0
    exact ⟨o, z4.rh.keep _ _ (b _ _ ho), r⟩
  have hl : vs.length = items.length := by rw [← e2, List.length_map]
  have z5 : Rel c sc cmp L cl s₀ B σ4 { s4 with heap := s4.heap.push { cls := .type "slice", data := .fields #[vl, vu, vst] } } := z4.keeps (tk := s4.toks) fun _ _ e => Heap.get?_push_of_some _ e
  refine subTail (hL.push _).typeIs slot_list_getitem.lookup (wpAny_getItem_list_slice (hL.push _) (Heap.IsSliceOf.new ..) pl pu ps hne ?_ (by rw [List.size_toArray, sizeLine_eq]; omega))
  refine ⟨_, hQ _, ?_⟩
  have := z5.new (tk := s4.toks) (a := (s4.heap.push { cls := .type "slice", data := .fields #[vl, vu, vst] }).objs.size) (o := .list (pick vs lo hi st)) (h' := (s4.heap.push { cls := .type "slice", data := .fields #[vl, vu, vst] }).push { cls := .type "list", data := .seq (slicePick items.toArray lo hi st) })
    (fun _ _ e => Heap.get?_push_of_some _ e) (Nat.le_refl _) (ex2i ((slicePick items.toArray lo hi st).toList) 0 ⟨Heap.get?_push_size _ rfl, by rw [pick_er, e2]⟩)
  exact this
theorem pick_rev2 (ps : List Value) (h : ps.length ≤ 2) : pick ps none none (some (-1)) = ps.reverse := by
  cases ps with
  | nil => rfl
  | cons a r =>
  cases r with
  | nil =>
    have : (sliceRange 0 (-1) (-1)) = [0] := by decide
    have hb : sliceBounds none none (some (-1)) 1 = (0, -1, -1) := by decide
    unfold pick slicePick
    simp [hb, this]
  | cons b r =>
    cases r with
    | cons d r => simp only [List.length_cons] at h; omega
    | nil =>
    have : (sliceRange 1 (-1) (-1)) = [1, 0] := by decide
    have hb : sliceBounds none none (some (-1)) 2 = (1, -1, -1) := by decide
    unfold pick slicePick
    simp [hb, this]
noncomputable def idxF : Nat → List Str → Fn → Fn
  | _, [], g => g
  | i, x :: r, g => idxF (i + 1) r (upd g x i)
theorem idxF_snoc : ∀ (i : Nat) (l : List Str) (x : Str) (g : Fn), idxF i (l ++ [x]) g = upd (idxF i l g) x ((i + l.length : Nat) : Int)
  | i, [], x, g => rfl
  | i, y :: r, x, g => by
    rw [List.cons_append, idxF, idxF_snoc (i + 1) r x, idxF]
    have : i + 1 + r.length = i + (y :: r).length := by simp; omega
    rw [this]
theorem Sup.idxF {U : List Str} : ∀ {i : Nat} {l : List Str} {g : Fn}, Sup U g → (∀ x ∈ l, x ∈ U) → Sup U (idxF i l g)
  | _, [], g, h, _ => h
  | i, x :: r, g, h, hx => (h.upd (hx x (.head _))).idxF fun y hy => hx y (.tail _ hy)
noncomputable def idxP : Nat → List Str → List (Str × Value)
  | _, [] => []
  | i, x :: r => (x, vI (i : Nat)) :: idxP (i + 1) r
theorem idxP_fold : ∀ (i : Nat) (l : List Str) (g : Fn), (idxP i l).foldl (fun g p => updF g p.1 p.2) (ofI g) = ofI (idxF i l g)
  | i, [], g => rfl
  | i, x :: r, g => by
    rw [idxP, List.foldl_cons, idxF, ← idxP_fold (i + 1) r]
    congr 1
    exact updF_ofI g x _
theorem idxP_len : ∀ (i : Nat) (l : List Str), (idxP i l).length = l.length
  | _, [] => rfl
  | i, x :: r => by rw [idxP, List.length_cons, List.length_cons, idxP_len (i + 1) r]

section auto
variable {e : Ev} {n N : Nat} {R : HT} {Z : ZT} {Q : Value → ZT → HT → Prop} {U : List Str}

theorem lives_init (h : ∀ la dx hm pt td ls, Q (.ref la) Z (LL la dx hm pt td ls 0 (fun _ => none) [] [] (fun _ => none) R)) : CallOk e.c (n + 2) (.ref 108) [] Q Z R := by
  refine call_cls (n := n + 1) (cls_lives e) (fI := 84) (e.meth1 rfl) (e.meth3 (C := 108) "__init__" rfl) fun x dx => ?_
  refine CallOk.cuts (call_fn (F_Vinit rfl) rfl ?_)
  refine tb_cons ?_
  refine ts_setattr (te_dict0 fun hm => ?_)
  repeat ktr_rel
  refine sa_own (cls_lives e) (by ktr_unf) (by decide) (Nat.le_of_ble_eq_true rfl) (by ktr_unf) ?_
  refine tb_cons ?_
  repeat ktr_rel
  refine ⟨by simp, fun pt => ?_⟩
  repeat ktr_rel
  refine sa_own (cls_lives e) (by ktr_unf) (by decide) (Nat.le_of_ble_eq_true rfl) (by ktr_unf) ?_
  refine tb_cons ?_
  repeat ktr_rel
  refine ⟨by simp, fun td => ?_⟩
  repeat ktr_rel
  refine sa_own (cls_lives e) (by ktr_unf) (by decide) (Nat.le_of_ble_eq_true rfl) (by ktr_unf) ?_
  refine tb_cons ?_
  refine ts_setattr (te_dict0 fun ls => ?_)
  repeat ktr_rel
  refine sa_own (cls_lives e) (by ktr_unf) (by decide) (Nat.le_of_ble_eq_true rfl) (by ktr_unf) ?_
  refine tb_nil (⟨LL x dx hm pt td ls 0 (fun _ => none) [] [] (fun _ => none) R, and3i (SubP.perm ?_) rfl (h x dx hm pt td ls)⟩)
  have key : ∀ (a b c d i j : Addr × AO), (d :: c :: b :: a :: i :: j :: R).Perm (i :: j :: a :: b :: c :: d :: R) := fun a b c d i j => by
    refine List.Perm.trans (List.perm_append_comm (l₁ := [d, c, b, a]) (l₂ := [i, j]) |>.append_right R) ?_
    refine List.Perm.cons _ (List.Perm.cons _ ?_)
    exact (List.reverse_perm [a, b, c, d]).append_right R
  exact key _ _ _ _ _ _
theorem layout_init {sl : Addr} {L : List Str} (hU : U.length ≤ N) (hN : N ≤ 1000) (hL : ∀ x ∈ L, x ∈ U) (hl : L.length ≤ 10)
    (h : ∀ ya yd wh fr, Q (.ref ya) Z (YL ya yd sl wh fr N L (idxF 0 L fun _ => none) [] 0 (L.length : Nat) R)) : CallOk e.c (n + 2) (.ref 66) [.ref sl] Q Z ((sl, .list (L.map vS)) :: R) := by
  refine call_cls (n := n + 1) (cls_layout e) (fI := 28) (e.meth1 rfl) (e.meth3 (C := 66) "__init__" rfl) fun x dx => ?_
  refine CallOk.cuts (call_fn (F_Linit rfl) rfl ?_)
  refine tb_cons ?_
  repeat ktr_rel
  refine sa_own (cls_layout e) (by ktr_unf) (by decide) (Nat.le_of_ble_eq_true rfl) (by ktr_unf) ?_
  refine tb_cons ?_
  refine ts_setattr (te_dict0 fun wh => ?_)
  repeat ktr_rel
  refine sa_own (cls_layout e) (by ktr_unf) (by decide) (Nat.le_of_ble_eq_true rfl) (by ktr_unf) ?_
  refine tb_cons ?_
  repeat ktr_rel
  refine ⟨by simp, fun fr => ?_⟩
  repeat ktr_rel
  refine sa_own (cls_layout e) (by ktr_unf) (by decide) (Nat.le_of_ble_eq_true rfl) (by ktr_unf) ?_
  refine tb_cons ?_
  repeat ktr_rel
  refine sa_own (cls_layout e) (by ktr_unf) (by decide) (Nat.le_of_ble_eq_true rfl) (by ktr_unf) ?_
  refine tb_cons ?_
  repeat ktr_rel
  refine bc_lenm (vs := L) (by ktr_unf) (by first | omega | (simp; omega)) ?_
  repeat ktr_rel
  refine sa_own (cls_layout e) (by ktr_unf) (by decide) (Nat.le_of_ble_eq_true rfl) (by ktr_unf) ?_
  refine TB.le (((Le.facts (m' := ([("self", .ref x), ("slots", .ref sl)] : List (Str × Value))) (FactsIn.of rfl)).trans (Le.perm (H' := YL x dx sl wh fr 0 L (fun _ => none) [] 0 (L.length : Nat) R) ?_)).trans (Le.dictUp (k' := N) (.tail (.tail (.tail .head))) (Nat.zero_le _))) ?_
  · have key : ∀ (a b c d i : Addr × AO), (a :: b :: c :: d :: i :: R).Perm (c :: d :: i :: b :: a :: R) := fun a b c d i => by
      refine List.Perm.trans (List.perm_append_comm (l₁ := [a, b]) (l₂ := [c, d, i]) |>.append_right R) ?_
      refine List.Perm.cons _ (List.Perm.cons _ (List.Perm.cons _ (List.Perm.swap _ _ _)))
    exact key _ _ _ _ _
  refine tb_cons (ts_for (xs := ["at", "name"]) (bnd2 (Bnd.local rfl rfl) (Bnd.local rfl rfl)) ?_)
  repeat ktr_rel
  refine bc_enum (l := sl) (vs := L.map vS) (by ktr_unf) fun en it => ?_
  refine pi_enum (vs := L.map vS) rfl (forI .enm (fun i σ => σ = ⟨([("self", .ref x), ("slots", .ref sl)] : List (Str × Value)), Z, YL x dx sl wh fr N L (idxF 0 (L.take i) fun _ => none) [] 0 (L.length : Nat) R⟩) ?_ rfl ?_ ?_)
  · rintro i σ rfl; ktr_unf
  · rintro i σ hi rfl
    have hi' : i < L.length := by first | exact Nat.lt_of_lt_of_eq hi (List.length_map _) | exact hi | simpa [Sr.N] using hi
    have e1 : (L.map vS).getD i .none = vS L[i] := by first | exact getD_at hi' | simp [List.getD_eq_getElem?_getD, hi']
    have hsup : Sup U (idxF 0 (L.take i) fun _ => none) := Sup.idxF (fun y hy => by cases hy) fun y hy => hL y (List.mem_of_mem_take hy)
    have htk : idxF 0 (L.take (i + 1)) (fun _ => none) = upd (idxF 0 (L.take i) fun _ => none) L[i] i := by
      rw [List.take_add_one, List.getElem?_eq_getElem hi']
      show idxF 0 (L.take i ++ [L[i]]) _ = _
      rw [idxF_snoc, List.length_take]; congr 2; omega
    refine TB.cut ?_
    refine St.at2 e1 ?_
    refine tb_cons ?_
    repeat ktr_rel
    refine si_dictUI U hU (by omega) (hL _ (List.getElem_mem hi')) (fun y hy => hsup y hy) (by ktr_unf) ?_
    refine tb_nil ⟨_, Le.facts (m' := ([("self", .ref x), ("slots", .ref sl)] : List (Str × Value))) (FactsIn.of rfl), ?_⟩
    show _ = (⟨([("self", .ref x), ("slots", .ref sl)] : List (Str × Value)), Z, YL x dx sl wh fr N L (idxF 0 (L.take (i + 1)) fun _ => none) [] 0 (L.length : Nat) R⟩ : St)
    rw [htk]
  · rintro σ rfl
    have e1 : L.take (Sr.enm sl (L.map vS)).N = L := List.take_of_length_le (by first | exact Nat.le_of_eq (List.length_map _).symm | simp [Sr.N])
    rw [e1]
    refine tb_nil (⟨_, and3i SubP.refl rfl (h x dx wh fr)⟩)
end auto

-- P14

theorem rd_ok {U : List Str} {L w} (h : WE L w) (ok : okN U w) : ∀ x ∈ rd w, x ∈ U := by
  have atom : ∀ {t}, W0E L t → okN U t → ∀ x ∈ nameKids [t], x ∈ U := fun h ok x hx => by
    induction h with
    | num i => rw [nk_num] at hx; simp [nameKids] at hx
    | nam y hy =>
      rw [nk_nam] at hx
      rcases List.mem_cons.mp hx with rfl | hx
      · exact ok.1 rfl
      · simp [nameKids] at hx
  induction h with
  | atom h0 =>
    induction h0 with
    | num i => intro x hx; rw [rd_num] at hx; cases hx
    | nam y hy => intro x hx; rw [rd_nam] at hx; rcases List.mem_cons.mp hx with rfl | hx; exact ok.1 rfl; cases hx
  | @call f ks hk hl =>
    rw [rd_call]
    have okk : okNs U ks := ok.2.2.2.2.2.2
    clear hl ok
    induction ks with
    | nil => intro x hx; simp [nameKids] at hx
    | cons t r ih =>
      intro x hx
      have : nameKids (t :: r) = nameKids [t] ++ nameKids r := by rw [nameKids, nameKids, nameKids, List.append_nil]
      rw [this] at hx
      rcases List.mem_append.mp hx with hx | hx
      · exact atom (hk t (.head _)) okk.1 x hx
      · exact ih (fun u hu => hk u (.tail _ hu)) okk.2 x hx
theorem WEV.restrict {U : List Str} {b : Str} (hb : b ∉ U) {V : Str → Prop} {w : Nd} (h : WEV V w) (ok : okN U w) : WEV (fun x => V x ∧ x ≠ b) w := by
  refine ex1e h fun L h9x => ?_
  refine and2e h9x fun hL hV => ?_
  try clear h9x h
  exact hL.wev fun x hx hr => ⟨hV x hx, fun e => hb (e ▸ rd_ok hL ok x hr)⟩
theorem FitB.restrict {U U2 : List Str} {h : Fn} {b : Str} (hb : b ∉ U2) : ∀ (d : Nat) {V V' : Str → Prop} {kids : List Nd}, FitB U h d V kids V' → okNs U2 kids → FitB U h d (fun x => V x ∧ x ≠ b) kids (fun x => V' x ∧ x ≠ b)
  | 0, _, _, _, f, _ => f.elim
  | d + 1, V, V', kids, f, ok => by
    have ih := fun {V V' : Str → Prop} {kids} => FitB.restrict (U := U) (h := h) hb d (V := V) (V' := V') (kids := kids)
    have st : ∀ {V V' : Str → Prop} {t : Nd}, FitS U h (FitB U h d) V t V' → okN U2 t → FitS U h (FitB U h d) (fun x => V x ∧ x ≠ b) t (fun x => V' x ∧ x ≠ b) := by
      intro V V' t f ok
      cases f with
      | let0 a1 a2 a3 => exact .let0 a1 (fun x hx => (a2 x hx.1).imp (fun h => ⟨h, hx.2⟩) id) (a3.sub fun x hx => hx.imp And.left id)
      | let1 a0 a1 a2 a3 => exact .let1 (a0.restrict hb ok.2.2.2.2.2.2.1) a1 (fun x hx => (a2 x hx.1).imp (fun h => ⟨h, hx.2⟩) id) (a3.sub fun x hx => hx.imp And.left id)
      | asg a0 a1 a2 a3 => exact .asg (a0.restrict hb ok.2.2.2.2.2.2.1) a1 (fun x hx => ⟨a2 x hx.1, hx.2⟩) (a3.sub fun x hx => hx.imp And.left id)
      | pop a0 a1 => exact .pop (a0.restrict hb ok.2.2.2.2.2.2.1.2.2.2.2.2.2.1) (fun x hx => ⟨a1 x hx.1, hx.2⟩)
      | iff a0 a1 a2 => exact .iff (a0.restrict hb ok.2.2.2.2.2.2.1) (ih a1 ok.2.2.2.2.2.2.2.1.2.2.2.2.2.2) (fun x hx => ⟨a2 x hx.1, hx.2⟩)
      | fr a0 a1 a2 a3 => exact .fr (a0.restrict hb ok.2.2.2.2.2.2.2.1) (ih a1 ok.2.2.2.2.2.2.2.2.2.1.2.2.2.2.2.2) (ih a2 ok.2.2.2.2.2.2.2.2.1.2.2.2.2.2.2) (fun x hx => ⟨a3 x hx.1, hx.2⟩)
      | sw1 a0 a1 a2 => exact .sw1 (a0.restrict hb ok.2.2.2.2.2.2.1) (ih a1 ok.2.2.2.2.2.2.2.1.2.2.2.2.2.2.1.2.2.2.2.2.2) (fun x hx => ⟨a2 x hx.1, hx.2⟩)
      | sw2 a0 a1 a2 a3 => exact .sw2 (a0.restrict hb ok.2.2.2.2.2.2.1) (ih a1 ok.2.2.2.2.2.2.2.1.2.2.2.2.2.2.1.2.2.2.2.2.2) (ih a2 ok.2.2.2.2.2.2.2.2.1.2.2.2.2.2.2.1.2.2.2.2.2.2) (fun x hx => ⟨a3 x hx.1, hx.2⟩)
      | blk a1 a2 => exact .blk (ih a1 ok.2.2.2.2.2.2) (fun x hx => ⟨a2 x hx.1, hx.2⟩)
    have lst : ∀ {V V' : Str → Prop} {kids : List Nd}, FitL (FitS U h (FitB U h d)) V kids V' → okNs U2 kids → FitL (FitS U h (FitB U h d)) (fun x => V x ∧ x ≠ b) kids (fun x => V' x ∧ x ≠ b) := by
      intro V V' kids f
      induction f with
      | nil => intro _; exact .nil
      | cons s _ ih => intro ok; exact .cons (st s ok.1) (ih ok.2)
    exact lst f ok
theorem idxF_out (x : Str) : ∀ (i : Nat) (l : List Str) (g : Fn), x ∉ l → idxF i l g x = g x
  | _, [], g, _ => rfl
  | i, y :: r, g, h => by
    simp only [List.mem_cons, not_or] at h
    rw [idxF, idxF_out x (i + 1) r _ h.2]; unfold upd; rw [if_neg h.1]
theorem idxF_get (x : Str) : ∀ (i : Nat) (l : List Str) (g : Fn), l.Nodup → ∀ j : Nat, l[j]? = some x → idxF i l g x = some ((i + j : Nat) : Int)
  | _, [], g, _, j, h => by simp at h
  | i, y :: r, g, nd, j, h => by
    rw [List.nodup_cons] at nd
    rw [idxF]
    cases j with
    | zero =>
      have hy : y = x := by simpa using h
      subst hy
      rw [idxF_out y (i + 1) r _ nd.1]; unfold upd; rw [if_pos rfl]; rfl
    | succ j => rw [idxF_get x (i + 1) r _ nd.2 j (by simpa using h), show i + 1 + j = i + (j + 1) by omega]
theorem snd0 {l : List Str} (nd : l.Nodup) (hne : ∀ x ∈ l, x ≠ "") (hlen : l.length < 64) : (⟨l, idxF 0 l fun _ => none, []⟩ : Ly).Snd := by
  have hin : ∀ x i, idxF 0 l (fun _ => none) x = some i → ∃ j : Nat, i = j ∧ l[j]? = some x := fun x i hx => by
    by_cases hm : x ∈ l
    · obtain ⟨j, hj, e⟩ := List.getElem_of_mem hm
      have hjx : l[j]? = some x := by rw [List.getElem?_eq_getElem hj, e]
      rw [idxF_get x 0 l _ nd j hjx] at hx
      cases hx
      exact ⟨j, by simp, hjx⟩
    · rw [idxF_out x 0 l _ hm] at hx; cases hx
  refine ⟨fun x i hx => ?_, fun j x hj hx => ?_, List.nodup_nil, fun i => ?_, hlen⟩
  · refine hide fun G9 hG9 => ?_
    refine ex1e (hin x i hx) fun j h9x => ?_
    refine and2e h9x fun e9b hj => ?_
    try clear h9x
    obtain rfl := e9b
    refine ex1e (List.getElem?_eq_some_iff.mp hj) fun h1 h2 => ?_
    refine hG9 ?_; clear hG9 G9
    refine (and4i (by omega) (by show ((j : Nat) : Int) < (l.length : Nat); omega) ?_ (hne x (List.mem_of_getElem? hj)))
    show l.getD ((j : Nat) : Int).toNat "" = x
    rw [Int.toNat_natCast, List.getD_eq_getElem?_getD, hj]; rfl
  · show idxF 0 l (fun _ => none) x = _
    rw [idxF_get x 0 l _ nd j hj, Nat.zero_add]
  · refine ⟨fun h => absurd h List.not_mem_nil, fun ⟨h0, h1, h2⟩ => ?_⟩
    have hj : i.toNat < l.length := by have : i < (l.length : Int) := h1; omega
    have h2' : l.getD i.toNat "" = "" := h2
    rw [List.getD_eq_getElem?_getD, List.getElem?_eq_getElem hj] at h2'
    exact absurd h2' (hne _ (List.getElem_mem hj))
noncomputable def UU : List Str := "p" :: "q" :: "<back>" :: frN 0 480
noncomputable def U2 : List Str := "p" :: "q" :: frN 0 480
theorem UU_len : UU.length ≤ 500 := by unfold UU; simp [frN_len]
theorem U2_back : ("<back>" : Str) ∉ U2 := by
  unfold U2
  simp only [List.mem_cons, not_or]
  refine (and3i (by decide) (by decide) (fun h => ?_))
  refine ex1e (mem_frN.mp h) fun j h9x => ?_
  refine and3e h9x fun h1 h2 h3 => ?_
  try clear h9x
  exact (nm_other ⟨j, by omega⟩).2.2.2 h3.symm
structure TreeFacts (ps : List Str) (b : List Nd) : Prop where
  wf : Wf 3 ps b
  nd : (dns b).Nodup
  inU2 : ∀ x ∈ dns b, x ∈ U2
  nm : ∀ x ∈ dns b, x ≠ "" ∧ x ≠ "p" ∧ x ≠ "q" ∧ x ≠ "<back>"
  len : (dns b).length ≤ 480
theorem treeFacts {ps : List Str} {b : List Nd} {k' : Nat} (h : WB 2 ps 0 b k') (hk : k' ≤ 480) : TreeFacts ps b := by
  refine and3e (h.rg) fun h1 h2 h3 => ?_
  have hx : ∀ x ∈ dns b, x ∈ frN 0 480 := fun x hx => by
    refine ex1e (h2 x hx) fun j h9x => ?_
    refine and3e h9x fun a1 a2 a3 => ?_
    try clear h9x
    exact mem_frN.mpr (⟨j, and3i a1 (by omega) a3⟩)
  refine ⟨h.wf 2, h3 (by omega), fun x hxx => .tail _ (.tail _ (hx x hxx)), fun x hxx => ?_, ?_⟩
  · refine hide fun G9 hG9 => ?_
    refine ex1e (h2 x hxx) fun j h9x => ?_
    refine and3e h9x fun a1 a2 e9d => ?_
    try clear h9x
    obtain rfl := e9d
    refine hG9 ?_; clear hG9 G9
    exact nm_other ⟨j, by omega⟩
  · have := nodup_sub_len (h3 (by omega)) hx
    rw [frN_len] at this; exact this
theorem U2_UU : ∀ x ∈ U2, x ∈ UU := fun x hx => by
  unfold U2 at hx; unfold UU
  rcases List.mem_cons.mp hx with rfl | hx
  · exact .head _
  · rcases List.mem_cons.mp hx with rfl | hx
    · exact .tail _ (.head _)
    · exact .tail _ (.tail _ (.tail _ hx))
theorem ps_U2 {ps : List Str} (h : ∀ x ∈ ps, x = "p" ∨ x = "q") : ∀ x ∈ ps, x ∈ U2 := fun x hx => by
  unfold U2
  rcases h x hx with rfl | rfl
  · exact .head _
  · exact .tail _ (.head _)
noncomputable def dueF (ps : List Str) (b : List Nd) : Fn := fun x => if x ∈ ps then some (lastI x (rowsAll b) 0 (-1)) else setD (rowsAll b) 0 b (duAll b fun _ => none) x
noncomputable def dieF (ps : List Str) (b : List Nd) (j : Int) : List Str := ps.filter fun x => decide (dueF ps b x = some j)
theorem pin_top {ps : List Str} {b : List Nd} (T : TreeFacts ps b) (hps : ∀ x ∈ ps, x = "p" ∨ x = "q") (hnd : ps.Nodup) (hl2 : ps.length ≤ 2) :
    PIn UU 3 ps b ⟨"<back>" :: ps.reverse, idxF 0 ("<back>" :: ps.reverse) fun _ => none, []⟩ (idxF 0 ("<back>" :: ps.reverse) fun _ => none) (dueF ps b) (dieF ps b) := by
  have hpd : ∀ x ∈ ps, x ∉ dns b := fun x hx hd => by
    have := T.nm x hd
    rcases hps x hx with rfl | rfl
    · exact this.2.1 rfl
    · exact this.2.2.1 rfl
  have hbp : ("<back>" : Str) ∉ ps := fun h => by rcases hps _ h with h | h <;> exact absurd h (by decide)
  have hndL : (("<back>" : Str) :: ps.reverse).Nodup := by
    rw [List.nodup_cons, List.mem_reverse]; exact ⟨hbp, (List.reverse_perm ps).nodup_iff.mpr hnd⟩
  have hLU : ∀ x ∈ (("<back>" : Str) :: ps.reverse), x ∈ UU := fun x hx => by
    rcases List.mem_cons.mp hx with rfl | hx
    · exact .tail _ (.tail _ (.head _))
    · exact U2_UU x (ps_U2 hps x (List.mem_reverse.mp hx))
  have hheld : ∀ x ∈ ps, (idxF 0 ("<back>" :: ps.reverse) (fun _ => none) x).isSome := fun x hx => by
    obtain ⟨j, hj, e⟩ := List.getElem_of_mem (List.mem_cons_of_mem ("<back>" : Str) (List.mem_reverse.mpr hx))
    rw [idxF_get x 0 _ _ hndL j (by rw [List.getElem?_eq_getElem hj, e])]; rfl
  have hsup : Sup UU (idxF 0 ("<back>" :: ps.reverse) fun _ => none) := Sup.idxF (fun y hy => by cases hy) hLU
  have hD : ∀ j x, x ∈ dieF ps b j → x ∈ ps ∧ j = lastI x (rowsAll b) 0 (-1) := fun j x hx => by
    unfold dieF at hx
    rw [List.mem_filter, decide_eq_true_iff] at hx
    refine ⟨hx.1, ?_⟩
    have := hx.2
    unfold dueF at this
    rw [if_pos hx.1] at this
    exact (Option.some.inj this).symm
  refine ⟨T.wf, snd0 hndL (fun x hx => ?_) (by simp; omega), ?_, hsup, hsup, T.nd, fun x hx => (and3i (U2_UU x (T.inU2 x hx)) ((T.nm x hx).1) ?_), fun x i h => h, ?_, fun x hx _ => hheld x hx, fun j x hx => ?_, fun j => hnd.filter _, fun i j x hi hj => ?_, fun j x hx => hheld x (hD j x hx).1, fun j x hx m hm => ?_⟩
  · rcases List.mem_cons.mp hx with rfl | hx
    · decide
    · rcases hps x (List.mem_reverse.mp hx) with rfl | rfl <;> decide
  · show (("<back>" : Str) :: ps.reverse).length + pk 3 ≤ 63
    rw [List.length_cons, List.length_reverse, show pk 3 = 54 from rfl]; omega
  · show idxF 0 (("<back>" : Str) :: ps.reverse) (fun _ => none) x = none
    rw [idxF_out]
    have := T.nm x hx
    simp only [List.mem_cons, List.mem_reverse, not_or]
    exact ⟨this.2.2.2, fun h => hpd x h hx⟩
  · refine DuB.congr 3 (T.wf.pl 3) (due_du 3 b (T.wf.pl 3) T.nd fun _ => none).1 fun x hx => ?_
    unfold dueF; rw [if_neg fun h => hpd x h hx]
  · refine and2e (hD j x hx) fun _ e9b => ?_
    obtain rfl := e9b
    rcases lastI_spec x (rowsAll b) 0 (-1) with ⟨h1, _⟩ | ⟨j, h1, h2, _⟩
    · rw [h1]; omega
    · rw [h2]; rw [rowsAll_len] at h1; omega
  · rw [(hD i x hi).2, (hD j x hj).2]
  · refine and2e (hD j x hx) fun _ e9b => ?_
    obtain rfl := e9b
    rcases lastI_spec x (rowsAll b) 0 (-1) with ⟨h1, h2⟩ | ⟨j, h1, h2, _, h4⟩
    · exact h2 m
    · rw [h2] at hm; exact h4 m (by omega)

-- W22

theorem updTake {ps : List Str} {c : Str → Int} {g : Fn} {i : Nat} (hi : i < ps.length) : upd (fun x => if x ∈ ps.take i then some (c x) else g x) ps[i] (c ps[i]) = fun x => if x ∈ ps.take (i + 1) then some (c x) else g x := by
  funext y
  have et : ps.take (i + 1) = ps.take i ++ [ps[i]] := by rw [List.take_add_one, List.getElem?_eq_getElem hi]; rfl
  unfold upd
  by_cases e : y = ps[i]
  · have c2 : y ∈ ps.take (i + 1) := by rw [et, e]; exact List.mem_append_right _ (.head _)
    rw [if_pos e, if_pos c2, e]
  · have c2 : y ∈ ps.take (i + 1) ↔ y ∈ ps.take i := by rw [et, List.mem_append]; exact ⟨fun h => h.resolve_right fun h => e (List.mem_singleton.mp h), .inl⟩
    simp only [e, c2, if_false]
noncomputable def cellF (c : Int) : Int := (if c < 0 then -c else c).fmod 2147483647
theorem perm6 {x a b c d e f : Addr × AO} {R : HT} : (x :: a :: b :: c :: d :: e :: f :: R).Perm (a :: b :: c :: d :: e :: f :: x :: R) := (List.perm_middle (l₁ := [a, b, c, d, e, f])).symm

noncomputable abbrev fmW22_0 (v0 v1 v2 : Value) : List (Str × Value) := [("params", v0), ("well", v1), ("house", v2)]
section auto
variable {e : Ev} {Fq : Flow → St → Prop}

noncomputable abbrev lwB : List Stmt := d341.1.1

theorem law_gen {w4 : Addr} {items : List Value} {ns : List Int} (hL : e.h0.IsList w4 items.toArray) (hI : items.map er = ns.map vI) (hn : ns.length ≤ 63)
    (h : ∀ (ps : List Str) (se a : Addr) (Z : ZT) (b : List Nd) (k' : Nat), (∀ x ∈ ps, x = "p" ∨ x = "q") → ps.Nodup → ps.length ≤ 2 → k' ≤ 480 → TreeAt Z (blkN b) (.ref a) → WB 2 ps 0 b k' →
      TB e.c 59 d341.1.2 false (lwB.drop 4) Fq ⟨([("block", .ref a), ("params", .ref se)] : List (Str × Value)), Z, (se, .list (ps.map vS)) :: []⟩) :
    TB e.c 59 d341.1.2 false lwB Fq ⟨([("script", .ref w4)] : List (Str × Value)), fun _ => none, []⟩ := by
  refine tb_cons ?_
  repeat ktr_rel
  refine te_comp (xs := ["cell"]) (bnd1 (Bnd.local rfl rfl)) ?_
  refine te_slice_h0 hL hI (by simp; omega) ?_
  repeat ktr_rel
  refine ⟨rfl, ?_⟩
  refine to_none ?_
  refine to_some ?_
  repeat ktr_rel
  refine ⟨((63 : Nat) : Int), rfl, to_none ⟨by simp, fun D => ?_⟩⟩
  rw [pick_take, List.take_of_length_le (by simp; omega)]
  refine pi_list (by ktr_unf) (cmpI .lst (by first | (refine Nat.le_trans (Nat.le_of_eq (List.length_map _)) ?_; omega) | (show List.length _ ≤ _; omega) | (simp [Sr.N]; omega)) [] (fun i ys Z' H' => Z' = (fun _ => none) ∧ H' = (D, .list (ns.map vI)) :: [] ∧ ys = ((ns.take i).map cellF).map vI) ?_ ?_ ?_ ?_ ?_)
  · intro p hp; cases hp
  · rintro i ys Z' H' m' ⟨_, rfl, _⟩; ktr_unf
  · exact (and3i rfl rfl rfl)
  · rintro i ys Z' H' hi ⟨rfl, rfl, rfl⟩
    have hi' : i < ns.length := by first | exact Nat.lt_of_lt_of_eq hi (List.length_map _) | exact hi | simpa [Sr.N] using hi
    have e1 : (ns.map vI).getD i .none = vI ns[i] := by first | exact getD_at hi' | simp [List.getD_eq_getElem?_getD, hi']
    refine ct_nil ?_
    refine St.at1 e1 ?_
    repeat ktr_rel
    refine bc_int ?_
    repeat ktr_rel
    refine bc_abs ?_
    repeat ktr_rel
    refine bo_mod (by decide) ?_
    refine (and3i rfl rfl ?_)
    rw [List.take_add_one, List.getElem?_eq_getElem hi', List.map_append, List.map_append]; rfl
  · rintro cs ys Z' H' ⟨rfl, rfl, rfl⟩ hys
    have e1 : ns.take (Sr.lst D (ns.map vI)).N = ns := List.take_of_length_le (by first | exact Nat.le_of_eq (List.length_map _).symm | simp [Sr.N])
    rw [e1]
    have hcl : (ns.map cellF).length ≤ 63 := by rw [List.length_map]; exact hn
    generalize ns.map cellF = cells at *
    repeat ktr_rel
    refine ⟨by simp, fun wl => ?_⟩
    repeat ktr_rel
    refine tb_cons ?_
    repeat ktr_rel
    refine ⟨by simp, fun pq => ?_⟩
    refine to_none ?_
    refine to_some ?_
    repeat ktr_rel
    refine bc_call (.perm (draw_ok (by decide) (by decide) (by decide) hcl fun r r0 r1 => ?_) ((List.perm_append_comm (l₁ := [_]) (l₂ := [_, _])).append_right _))
    obtain ⟨k, rfl⟩ : ∃ k : Nat, r = (k : Int) := ⟨r.toNat, by omega⟩
    refine ⟨((k : Nat) : Int), rfl, to_none (⟨by simp, ex2i pq ([vS "p", vS "q"]) (and4i rfl (.inl (by ktr_unf)) (by simp) (fun se => ?_))⟩)⟩
    rw [pick_take]
    obtain ⟨ps, hps⟩ : ∃ ps, ps = (["p", "q"] : List Str).take k := ⟨_, rfl⟩
    have eps : [vS "p", vS "q"].take k = ps.map vS := by rw [hps, List.map_take]; rfl
    rw [eps]
    have hp1 : ∀ x ∈ ps, x = "p" ∨ x = "q" := fun x hx => by
      rw [hps] at hx
      have := List.mem_of_mem_take hx
      simpa using this
    have hp2 : ps.Nodup := by rw [hps]; exact (show (["p", "q"] : List Str).Nodup by decide).sublist (List.take_sublist _ _)
    have hp3 : ps.length ≤ 2 := by rw [hps, List.length_take]; exact Nat.min_le_right _ _
    repeat ktr_rel
    refine tb_cons ?_
    refine ts_assign (te_dict (ks := ["count"]) (by decide) (by decide) (by decide) rfl fun ho => ?_)
    refine tp_cons ?_
    repeat ktr_rel
    refine tp_nil ⟨_, .head, ?_⟩
    repeat ktr_rel
    have hhs : funOf ((["count"] : List Str).zip [vI 0]) = houseF 0 := by funext x; unfold houseF; show (if x = "count" then _ else _) = _; rfl
    rw [hhs]
    refine TB.le ((Le.facts (m' := (fmW22_0 (.ref se) (.ref wl) (.ref ho))) (FactsIn.of rfl)).trans (Le.subp (C := GL wl cs ho se cells 1 0 ps []) (SubP.iff.mpr ⟨[(pq, .list [vS "p", vS "q"]), (D, .list (ns.map vI))], ?_⟩))) ?_
    · have key : ∀ (ho se wl cs pq D : Addr × AO), ([ho, se, wl, cs, pq, D] : HT).Perm [wl, cs, ho, se, pq, D] := fun ho se wl cs pq D =>
        (List.perm_append_comm (l₁ := [ho, se]) (l₂ := [wl, cs])).append_right [pq, D]
      exact key _ _ _ _ _ _
    refine tb_cons ?_
    repeat ktr_rel
    refine bc_call ((gen_ok (n := 47) wl cs ho se cells 1 0 ps [] _ _ hcl (by decide) (by decide) (by decide) (by omega) fun r a Z' b k' h1 h2 h3 h4 h5 h6 h7 => ?_))
    repeat ktr_rel
    refine TB.le ((Le.facts (m' := ([("block", .ref a), ("params", .ref se)] : List (Str × Value))) (FactsIn.of rfl)).trans (Le.sub (.cons _ (.cons _ (.cons _ (List.Sublist.refl _)))))) ?_
    exact h ps se a Z' b k' hp1 hp2 hp3 (by omega) h6 h7
end auto

-- W23

noncomputable abbrev fmW23_0 (v0 v1 v2 v3 : Value) : List (Str × Value) := [("block", v0), ("params", v1), ("due", v2), ("dying", v3)]
noncomputable abbrev fmW23_1 (v0 v1 v2 v3 v4 : Value) : List (Str × Value) := [("lives", v0), ("due", v1), ("dying", v2), ("block", v3), ("params", v4)]
noncomputable abbrev fmW23_2 (v0 v1 v2 v3 v4 v5 : Value) : List (Str × Value) := [("rows", v0), ("lives", v1), ("due", v2), ("dying", v3), ("block", v4), ("params", v5)]
section auto
variable {e : Ev} {Fq : Flow → St → Prop}

noncomputable abbrev homeP (ps : List Str) : Fn := fun x => if x ∈ ps then some 0 else none
noncomputable abbrev lastP (ps : List Str) : Fn := fun x => if x ∈ ps then some (-1) else none
theorem supIf {U ps : List Str} {c : Str → Int} {g : Fn} (h : ∀ x ∈ ps, x ∈ U) (hg : Sup U g) : Sup U (fun x => if x ∈ ps then some (c x) else g x) := fun y hy => by
  dsimp only at hy
  by_cases e : y ∈ ps
  · exact h y e
  · rw [if_neg e] at hy; exact hg y hy
theorem law_live {ps : List Str} {se a : Addr} {Z : ZT} {b : List Nd} (hp1 : ∀ x ∈ ps, x = "p" ∨ x = "q") (hp2 : ps.Nodup) (hp3 : ps.length ≤ 2) (hT : TreeAt Z (blkN b) (.ref a)) (T : TreeFacts ps b)
    (h : ∀ (dy du : Addr), TB e.c 59 d341.1.2 false (lwB.drop 9) Fq ⟨(fmW23_0 (.ref a) (.ref se) (.ref du) (.ref dy)), Z, (dy, .dicti 0 fun _ => none) :: (du, .dict 500 (ofI (dueF ps b))) :: (se, .list (ps.map vS)) :: []⟩) :
    TB e.c 59 d341.1.2 false (lwB.drop 4) Fq ⟨([("block", .ref a), ("params", .ref se)] : List (Str × Value)), Z, (se, .list (ps.map vS)) :: []⟩ := by
  have hpU : ∀ x ∈ ps, x ∈ UU := fun x hx => U2_UU x (ps_U2 hp1 x hx)
  have hpd : ∀ x ∈ ps, x ∉ dns b := fun x hx hd => by
    have := T.nm x hd
    rcases hp1 x hx with rfl | rfl
    · exact this.2.1 rfl
    · exact this.2.2.1 rfl
  have hht := T.wf.ht 3
  have hsz := T.wf.size 3
  have hbl := T.wf.len
  have hok : okNs UU b := T.wf.okNs 3 hpU fun x hx => U2_UU x (T.inU2 x hx)
  have hUl := UU_len
  refine tb_cons (ts_tuple3s (Bnd.local rfl rfl) (Bnd.local rfl rfl) (Bnd.local rfl rfl) ?_)
  repeat ktr_rel
  refine bc_call (lives_init (n := 57) fun la dx hm pt td ls => ?_)
  repeat ktr_rel
  refine te_dict0 fun du => ?_
  repeat ktr_rel
  refine te_dict0i fun dy => ?_
  repeat ktr_rel
  refine ⟨by simp, fun T0 => (ex4i T0 _ _ _ (and3i rfl (by ktr_unf) ?_))⟩
  refine TB.le ((Le.facts (m' := (fmW23_1 (.ref la) (.ref du) (.ref dy) (.ref a) (.ref se))) (FactsIn.of rfl)).trans
    ((Le.subp (C := (du, .dict 0 fun _ => none) :: LL la dx hm pt td ls 0 (fun _ => none) [] [] (fun _ => none) ((dy, .dicti 0 fun _ => none) :: (se, .list (ps.map vS)) :: [])) (SubP.iff.mpr ⟨[(T0, .tup [.ref la, .ref du, .ref dy])], ?_⟩)).trans
    ((Le.dictUp (k' := 500) .head (Nat.zero_le _)).trans ((Le.dictUp (k' := 500) (.tail (.tail (.tail .head))) (Nat.zero_le _)).trans (Le.dictUp (k' := 500) (.tail (.tail (.tail (.tail (.tail (.tail .head)))))) (Nat.zero_le _)))))) ?_
  · have key : ∀ (t y u a1 a2 a3 a4 a5 a6 s : Addr × AO), ([t, y, u, a1, a2, a3, a4, a5, a6, s] : HT).Perm [u, a1, a2, a3, a4, a5, a6, y, s, t] := fun t y u a1 a2 a3 a4 a5 a6 s => by
      refine List.Perm.trans (List.perm_append_comm (l₁ := [t]) (l₂ := [y, u, a1, a2, a3, a4, a5, a6, s])) ?_
      exact (List.perm_middle (l₁ := [u, a1, a2, a3, a4, a5, a6])).symm
    exact key _ _ _ _ _ _ _ _ _ _
  refine TB.le (σ' := ⟨_, Z, (du, .dict 500 (ofI fun _ => none)) :: LL la dx hm pt td ls 500 (fun _ => none) [] [] (fun _ => none) ((dy, .dicti 0 fun _ => none) :: (se, .list (ps.map vS)) :: [])⟩) Le.refl ?_
  refine tb_cons ?_
  repeat ktr_rel
  have hrows := (rows_ok (e := e) (U := UU) (N := 500) 10).1
  refine bc_call (CallOk.more (hrows du (fun _ => none) _ Z "block" "" .none b a _ (by omega) hT hok (by omega) hUl (by decide) (fun y hy => by cases hy) (Nat.le_trans hsz (by decide)) fun D rs hrs => ?_) (by decide))
  repeat ktr_rel
  have hrl : rs.length = (rowsAll b).length := by rw [hrs, rowsAll_len]
  have due0sup : Sup UU (setD (rowsAll b) 0 b (duAll b fun _ => none)) := Sup.setD hok (Sup.duAll b hok fun y hy => by cases hy)
  generalize hdue0 : setD (rowsAll b) 0 b (duAll b fun _ => none) = due0 at *
  refine TB.le ((Le.facts (m' := (fmW23_2 (.ref D) (.ref la) (.ref du) (.ref dy) (.ref a) (.ref se))) (FactsIn.of rfl)).trans
    (Le.perm (H' := (du, .dict 500 (ofI due0)) :: LL la dx hm pt td ls 500 (fun _ => none) [] [] (fun _ => none) ((dy, .dicti 0 fun _ => none) :: (se, .list (ps.map vS)) :: (D, .list (rs.map .ref)) :: rowsH rs (rowsAll b))) ?_)) ?_
  · refine List.Perm.trans (List.Perm.swap _ _ _) (List.Perm.cons _ ?_)
    refine List.Perm.trans (List.perm_append_comm (l₁ := (D, _) :: rowsH rs (rowsAll b))) ?_
    exact .refl _
  refine tb_cons (ts_for (xs := ["name"]) (bnd1 (Bnd.cell rfl rfl rfl)) ?_)
  repeat ktr_rel
  refine pi_list (vs := ps.map vS) (by ktr_unf) (forI .lst (fun i σ => ∃ G, σ = ⟨(fmW23_2 (.ref D) (.ref la) (.ref du) (.ref dy) (.ref a) (.ref se)), Z,
    (du, .dict 500 (ofI fun x => if x ∈ ps.take i then some (lastI x (rowsAll b) 0 (-1)) else due0 x)) :: LL la dx hm pt td ls 500 (homeP (ps.take i)) [] [] (lastP (ps.take i)) ((dy, .dicti 0 fun _ => none) :: (se, .list (ps.map vS)) :: (D, .list (rs.map .ref)) :: (rowsH rs (rowsAll b) ++ G))⟩) ?_ ?_ ?_ ?_)
  · rintro i σ ⟨G, rfl⟩; ktr_unf
  · have z1 : homeP (ps.take 0) = fun _ => none := by funext x; simp [homeP]
    have z2 : lastP (ps.take 0) = fun _ => none := by funext x; simp [lastP]
    have z3 : (fun x => if x ∈ ps.take 0 then some (lastI x (rowsAll b) 0 (-1)) else due0 x) = due0 := by funext x; simp
    exact ⟨[], by rw [List.append_nil, z1, z2, z3]⟩
  · rintro i σ hi ⟨G, rfl⟩
    have hi' : i < ps.length := by first | exact Nat.lt_of_lt_of_eq hi (List.length_map _) | exact hi | simpa [Sr.N] using hi
    have e1 : (ps.map vS).getD i .none = vS ps[i] := by first | exact getD_at hi' | simp [List.getD_eq_getElem?_getD, hi']
    have hxU : ps[i] ∈ UU := hpU _ (List.getElem_mem hi')
    have u1 := updTake (ps := ps) (c := fun _ => 0) (g := fun _ => none) hi'
    have u2 := updTake (ps := ps) (c := fun _ => -1) (g := fun _ => none) hi'
    have u3 := updTake (ps := ps) (c := fun x => lastI x (rowsAll b) 0 (-1)) (g := due0) hi'
    have htkU : ∀ x ∈ ps.take i, x ∈ UU := fun x hx => hpU x (List.mem_of_mem_take hx)
    have s1 : Sup UU (homeP (ps.take i)) := supIf htkU fun y hy => by cases hy
    have s2 : Sup UU (lastP (ps.take i)) := supIf htkU fun y hy => by cases hy
    have s3 : Sup UU (fun x => if x ∈ ps.take i then some (lastI x (rowsAll b) 0 (-1)) else due0 x) := supIf htkU due0sup
    generalize hx0 : ps[i] = x at *
    refine TB.cut ?_
    refine St.at1 e1 ?_
    refine tb_cons ?_
    repeat ktr_rel
    refine si_dictUI UU (by omega) (by decide) hxU (fun y hy => s1 y hy) (by ktr_unf) ?_
    rw [u1]
    refine tb_cons ?_
    repeat ktr_rel
    refine ⟨1, rfl, ?_⟩
    repeat ktr_rel
    refine si_dictUI UU (by omega) (by decide) hxU (fun y hy => s2 y hy) (by ktr_unf) ?_
    rw [u2]
    refine tb_cons ?_
    repeat ktr_rel
    refine ⟨1, rfl, ?_⟩
    repeat ktr_rel
    refine ⟨by simp, fun D1 => ?_⟩
    refine te_comp (xs := ["at"]) (bnd1 (Bnd.local rfl rfl)) ?_
    repeat ktr_rel
    refine bc_len (l := D) (vs := rs.map .ref) (by ktr_unf) (by simp; omega) ?_
    rw [List.length_map, hrl]
    repeat ktr_rel
    refine bc_range1 fun rr => ?_
    refine pi_range (a := 0) (b := (rowsAll b).length) (by ktr_unf) (by decide) (by decide) (by omega) (by rw [rowsAll_len]; omega) (cmpI .rng (by simp [Sr.N, rowsAll_len]; omega) [("rows", .ref D), ("name", vS x)] (fun q ys Z2 H2 => Z2 = Z ∧ H2 = (rr, .rng 0 (rowsAll b).length) :: (D1, .list [vI (-1)]) :: (du, .dict 500 (ofI fun x => if x ∈ ps.take i then some (lastI x (rowsAll b) 0 (-1)) else due0 x)) :: LL la dx hm pt td ls 500 (fun y => if y ∈ ps.take (i + 1) then some 0 else none) [] [] (fun y => if y ∈ ps.take (i + 1) then some (-1) else none) ((dy, .dicti 0 fun _ => none) :: (se, .list (ps.map vS)) :: (D, .list (rs.map .ref)) :: (rowsH rs (rowsAll b) ++ G)) ∧
        ys = (((List.range q).filter fun q => decide (x ∈ (rowsAll b).getD q [])).map fun q => ((0 + q : Nat) : Int)).map vI) ?_ ?_ ?_ ?_ ?_)
    · intro p hp; simp at hp; rcases hp with rfl | rfl <;> exact ⟨rfl, rfl⟩
    · exact fun _ _ _ _ _ _ => trivial
    · exact (and3i rfl rfl rfl)
    · rintro q ys Z2 H2 hq ⟨rfl, rfl, rfl⟩
      have hq' : q < (rowsAll b).length := by simp [Sr.N] at hq; omega
      refine ct_one ?_
      show TT _ _ _ _ _ _ ⟨([("at", vI (0 + (q : Nat)))] : List (Str × Value)) ++ ([("rows", .ref D), ("name", vS x)] : List (Str × Value)), _, _⟩
      rw [Int.zero_add]
      repeat ktr_rel
      refine gi_list (a := D) (vs := rs.map .ref) (v := .ref (rs[q]'(by omega))) (.inr (by simp)) (by omega) (by rw [rowsAll_len] at hq'; omega) (by rw [List.getElem?_map, Int.toNat_natCast, List.getElem?_eq_getElem (by omega)]; rfl) ?_
      have hrow : (rs[q]'(by omega), AO.list (((rowsAll b)[q]).map vS)) ∈ rowsH rs (rowsAll b) := rowsH_get (List.getElem?_eq_getElem (by omega)) (List.getElem?_eq_getElem hq')
      refine co_in_strs (ys := (rowsAll b)[q]) ?_ ?_
      · refine .inr (List.mem_append_right (_ :: _ :: _ :: _ :: _ :: _ :: _ :: _ :: _ :: _ :: _ :: [_]) (List.mem_append_left _ hrow))
      have hget : (rowsAll b).getD q [] = (rowsAll b)[q] := by rw [List.getD_eq_getElem?_getD, List.getElem?_eq_getElem hq']; rfl
      refine tv_bool ⟨fun t => ?_, fun t => ?_⟩
      · repeat ktr_rel
        refine (and3i rfl rfl ?_)
        rw [List.range_succ, List.filter_append, List.filter_cons, hget, if_pos t]
        simp
      · refine (and3i rfl rfl ?_)
        rw [List.range_succ, List.filter_append, List.filter_cons, hget, if_neg (by rw [t]; decide)]
        simp
    · rintro L2 ys Z2 H2 ⟨rfl, rfl, rfl⟩ hys
      have hNq : (Sr.rng 0 (((rowsAll b).length : Int) - 0).toNat).N = (rowsAll b).length := by show (((rowsAll b).length : Int) - 0).toNat = _; omega
      rw [hNq] at hys ⊢
      have hks : ((((List.range (rowsAll b).length).filter fun q => decide (x ∈ (rowsAll b).getD q [])).map fun q => ((0 + q : Nat) : Int)).getLastD (-1)) = lastI x (rowsAll b) 0 (-1) := ks_last x (rowsAll b) 0 (-1)
      have hkl : (((List.range (rowsAll b).length).filter fun q => decide (x ∈ (rowsAll b).getD q [])).map fun q => ((0 + q : Nat) : Int)).length ≤ 5 := by
        rw [List.length_map]; exact Nat.le_trans (List.length_filter_le _ _) (by rw [List.length_range, rowsAll_len]; exact hbl)
      generalize (((List.range (rowsAll b).length).filter fun q => decide (x ∈ (rowsAll b).getD q [])).map fun q => ((0 + q : Nat) : Int)) = ks at *
      refine bo_addl (vs := [vI (-1)]) (us := ks.map vI) (by ktr_unf) (by ktr_unf) (by simp; omega) fun D4 => ?_
      have ecat : [vI (-1)] ++ ks.map vI = ([-1] ++ ks).map vI := by simp
      rw [ecat]
      repeat ktr_rel
      refine ⟨1, rfl, ?_⟩
      refine gi_list_neg (v := vI (lastI x (rowsAll b) 0 (-1))) (by ktr_unf) (by decide) (by simp; omega) (by decide) ?_ ?_
      · have e5 : ((-1 : Int) + ((([-1] ++ ks).map vI).length : Nat)).toNat = ks.length := by simp; omega
        rw [e5, List.getElem?_map, ← hks, List.getLastD_eq_getLast?, List.getLast?_eq_getElem?]
        cases ks with
        | nil => rfl
        | cons c r =>
          have e6 : ([-1] ++ (c :: r))[(c :: r).length]? = (c :: r)[r.length]? := by simp
          rw [e6, show (c :: r).length - 1 = r.length by simp, List.getElem?_eq_getElem (by simp : r.length < (c :: r).length)]
          rfl
      repeat ktr_rel
      refine si_dictUI (f := (fun x => if x ∈ ps.take i then some (lastI x (rowsAll b) 0 (-1)) else due0 x)) UU (by omega) (by decide) hxU (fun y hy => s3 y hy) (by ktr_unf) ?_
      rw [u3]
      refine tb_nil ⟨_, Le.trans (Le.facts (m' := (fmW23_2 (.ref D) (.ref la) (.ref du) (.ref dy) (.ref a) (.ref se))) (FactsIn.of rfl)) (Le.sub (.cons _ (.cons _ (.cons _ (.cons _ (List.Sublist.refl _)))))), G, rfl⟩
  · rintro σ ⟨G, rfl⟩
    have e1 : (Sr.lst se (ps.map vS)).N = ps.length := by first | exact List.length_map _ | simp [Sr.N]
    rw [e1, List.take_length]
    refine TB.le (Le.perm perm6) ?_
    refine tb_cons ?_
    repeat ktr_rel
    have hlive := (live_ok (e := e) (U := UU) (N := 500) 10).1
    refine bc_call (CallOk.more (hlive la dx hm pt td ls (homeP ps) (lastP ps) [] [] _ Z "block" "" .none b a _ (by omega) (by decide) hUl (by decide) (supIf hpU fun y hy => by cases hy) (fun x h hx => ?_) hT (blk_ok hok (by omega)) (supIf hpU fun y hy => by cases hy) (by rw [List.nil_append]; exact T.nd) (by rw [List.nil_append]; have := T.len; omega) (fun x hx => if_neg fun hm => hpd x hm hx) ?_) (by decide))
    · dsimp only [homeP] at hx
      split at hx
      · cases hx; decide
      · cases hx
    refine kdn ?_
    have hdue : gB b [] (homeP ps) 0 (lastP ps) = dueF ps b := live_due (d := 2) (T.wf.pl 3) T.nd hpd
    rw [hdue]
    have hdueE : (fun x => if x ∈ ps then some (lastI x (rowsAll b) 0 (-1)) else due0 x) = dueF ps b := by rw [← hdue0]; rfl
    rw [hdueE]
    refine tb_cons ?_
    repeat ktr_rel
    refine co_ne_dict (by ktr_unf) (by ktr_unf) (fun x v hv => by unfold ofI at hv; obtain ⟨i, _, rfl⟩ := Option.map_eq_some_iff.mp hv; exact ⟨i, rfl⟩) ?_
    repeat ktr_rel
    refine ⟨by simp, fun E1 => ?_⟩
    refine co_ne_list_nil (l := pt) (vs := []) (by ktr_unf) (by ktr_unf) ?_
    repeat ktr_rel
    refine ⟨by simp, fun E2 => ?_⟩
    refine co_ne_list_nil (l := td) (vs := []) (by ktr_unf) (by ktr_unf) ?_
    repeat ktr_rel
    refine TB.le ((Le.facts (m' := (fmW23_0 (.ref a) (.ref se) (.ref du) (.ref dy))) (FactsIn.of rfl)).trans (Le.subp (SubP.iff.mpr ⟨(E2, .list []) :: (E1, .list []) :: LL la dx hm pt td ls 500 (homeP ps) [] [] (dueF ps b) ((D, .list (rs.map .ref)) :: (rowsH rs (rowsAll b) ++ G)), ?_⟩))) (h dy du)
    have key : ∀ (e2 e1 a1 a2 a3 a4 a5 a6 u y s d : Addr × AO) (X : HT), (e2 :: e1 :: a1 :: a2 :: a3 :: a4 :: a5 :: a6 :: u :: y :: s :: d :: X).Perm ([y, u, s] ++ (e2 :: e1 :: a1 :: a2 :: a3 :: a4 :: a5 :: a6 :: d :: X)) := fun e2 e1 a1 a2 a3 a4 a5 a6 u y s d X => by
      refine List.Perm.trans ?_ ((List.Perm.swap y u [s]).append_right _)
      exact (List.perm_append_comm (l₁ := [e2, e1, a1, a2, a3, a4, a5, a6]) (l₂ := [u, y, s])).append_right (d :: X)
    exact key _ _ _ _ _ _ _ _ _ _ _ _ _
end auto

-- W24

noncomputable abbrev fmW24_0 (v0 v1 v2 v3 : Value) : List (Str × Value) := [("block", v0), ("params", v1), ("due", v2), ("dying", v3)]
section auto
variable {e : Ev} {Fq : Flow → St → Prop}

theorem law_dying {ps : List Str} {se a dy du : Addr} {Z : ZT} {b : List Nd} (hp3 : ps.length ≤ 2)
    (h : ∀ dyl : Dy, (∀ j, dyAt dyl j = dieF ps b j) → dyl.length ≤ 2 → TB e.c 59 d341.1.2 false (lwB.drop 10) Fq ⟨(fmW24_0 (.ref a) (.ref se) (.ref du) (.ref dy)), Z, DyL dy dyl ((du, .dict 500 (ofI (dueF ps b))) :: (se, .list (ps.map vS)) :: [])⟩) :
    TB e.c 59 d341.1.2 false (lwB.drop 9) Fq ⟨(fmW24_0 (.ref a) (.ref se) (.ref du) (.ref dy)), Z, (dy, .dicti 0 fun _ => none) :: (du, .dict 500 (ofI (dueF ps b))) :: (se, .list (ps.map vS)) :: []⟩ := by
  refine tb_cons (ts_for (xs := ["name"]) (bnd1 (Bnd.cell rfl rfl rfl)) ?_)
  repeat ktr_rel
  refine pi_list (vs := ps.map vS) (by ktr_unf) (forI .lst (fun i σ => ∃ dyl : Dy, (∀ j, dyAt dyl j = (ps.take i).filter fun x => decide (dueF ps b x = some j)) ∧ dyl.length ≤ i ∧
    σ = ⟨(fmW24_0 (.ref a) (.ref se) (.ref du) (.ref dy)), Z, DyL dy dyl ((du, .dict 500 (ofI (dueF ps b))) :: (se, .list (ps.map vS)) :: [])⟩) ?_ ?_ ?_ ?_)
  · rintro i σ ⟨dyl, _, _, rfl⟩; exact .inr (.tail _ (List.mem_append_right _ (.tail _ (.head _))))
  · exact (⟨[], and3i (fun j => by simp [dyAt]) (Nat.le_refl _) rfl⟩)
  · intro i σ hi h9
    refine hide fun G9 hG9 => ?_
    refine ex1e h9 fun dyl h9x => ?_
    refine and3e h9x fun h1 h2 e9d => ?_
    try clear h9x h9
    obtain rfl := e9d
    refine hG9 ?_; clear hG9 G9
    have hi' : i < ps.length := by first | exact Nat.lt_of_lt_of_eq hi (List.length_map _) | exact hi | simpa [Sr.N] using hi
    have e1 : (ps.map vS).getD i .none = vS ps[i] := by first | exact getD_at hi' | simp [List.getD_eq_getElem?_getD, hi']
    have htk : ps.take (i + 1) = ps.take i ++ [ps[i]] := by rw [List.take_add_one, List.getElem?_eq_getElem hi']; rfl
    obtain ⟨r, hr⟩ : ∃ r, dueF ps b ps[i] = some r := ⟨_, by unfold dueF; rw [if_pos (List.getElem_mem hi')]⟩
    have hadd : ∀ j, (ps.take (i + 1)).filter (fun x => decide (dueF ps b x = some j)) = (ps.take i).filter (fun x => decide (dueF ps b x = some j)) ++ (if r = j then [ps[i]] else []) := fun j => by
      rw [htk, List.filter_append]
      congr 1
      rw [List.filter_cons, hr]
      by_cases c : r = j
      · rw [if_pos c, if_pos (by rw [decide_eq_true_iff, c])]; rfl
      · rw [if_neg c, if_neg (by rw [decide_eq_true_iff]; intro h; cases h; exact c rfl)]; rfl
    have hlen2 : ∀ j, (dyAt dyl j).length ≤ 1000 := fun j => by
      rw [h1]
      have := List.length_filter_le (fun x => decide (dueF ps b x = some j)) (ps.take i)
      rw [List.length_take] at this; omega
    generalize ps[i] = x at *
    refine TB.cut ?_
    refine St.at1 e1 ?_
    refine tb_cons ?_
    refine ts_expr ?_
    refine te_method ?_
    refine te_method ?_
    repeat ktr_rel
    refine gi_dict (a := du) (k := 500) (f := ofI (dueF ps b)) ?_ (ofI_some hr) ?_
    · exact .inr (.tail _ (List.mem_append_right _ (.head _)))
    repeat ktr_rel
    refine ksq rfl fun E => ?_
    refine tl_nil ?_
    have fin : ∀ (m : List (Str × Value)) (H : HT) (dyl3 : Dy), FactsIn m (fmW24_0 (.ref a) (.ref se) (.ref du) (.ref dy)) → SubP H (DyL dy dyl3 ((du, .dict 500 (ofI (dueF ps b))) :: (se, .list (ps.map vS)) :: [])) → (∀ j, dyAt dyl3 j = if j = r then dyAt dyl r ++ [x] else dyAt dyl j) → dyl3.length ≤ dyl.length + 1 →
        ∃ σ'', Le e.c ⟨m, Z, H⟩ σ'' ∧ ∃ dyl : Dy, (∀ j, dyAt dyl j = (ps.take (i + 1)).filter fun x => decide (dueF ps b x = some j)) ∧ dyl.length ≤ i + 1 ∧
          σ'' = ⟨(fmW24_0 (.ref a) (.ref se) (.ref du) (.ref dy)), Z, DyL dy dyl ((du, .dict 500 (ofI (dueF ps b))) :: (se, .list (ps.map vS)) :: [])⟩ := by
      intro m H dyl3 f1 f2 f3 f4
      refine (⟨_, ⟨(Le.subp f2).trans (Le.facts f1), ⟨dyl3, and3i (fun j => ?_) (by omega) rfl⟩⟩⟩)
      rw [f3, hadd]
      by_cases c : j = r
      · rw [if_pos c, if_pos c.symm, h1, c]
      · rw [if_neg c, if_neg fun h => c h.symm, h1, List.append_nil]
    cases hdr : dyRef dyl r with
    | none =>
      refine bc_setd_new (l := dy) (k := dyl.length) (f := dyRef dyl) (H' := (E, .list []) :: (dy, .dicti (dyl.length + 1) (updF (dyRef dyl) r (.ref E))) :: (dyH dyl ++ ((du, .dict 500 (ofI (dueF ps b))) :: (se, .list (ps.map vS)) :: []))) ?_ hdr (by omega) ?_
      · exact .tail .head
      refine gm_append (vs := []) ?_ ?_
      · exact .inr (.head _)
      repeat ktr_rel
      refine bc_append (vs := []) (H' := (E, .list [vS x]) :: (dy, .dicti (dyl.length + 1) (updF (dyRef dyl) r (.ref E))) :: (dyH dyl ++ ((du, .dict 500 (ofI (dueF ps b))) :: (se, .list (ps.map vS)) :: []))) ?_ (by simp) ?_
      · exact .head
      refine kdn ?_
      repeat tb_rel
      refine fin _ _ ((r, E, [x]) :: dyl) ?_ ?_ ?_ (Nat.le_refl _)
      · exact (FactsIn.of rfl)
      · have e2 : dyRef ((r, E, [x]) :: dyl) = updF (dyRef dyl) r (.ref E) := dy_new dyl r E
        show SubP _ ((dy, .dicti (dyl.length + 1) (dyRef ((r, E, [x]) :: dyl))) :: (E, .list [vS x]) :: (dyH dyl ++ _))
        rw [e2]
        exact SubP.perm (List.Perm.swap _ _ _)
      · intro j
        show (if r = j then [x] else dyAt dyl j) = _
        by_cases c : j = r
        · rw [if_pos c, if_pos c.symm, dyAt_none hdr]; rfl
        · rw [if_neg c, if_neg fun h => c h.symm]
    | some v =>
      refine hide fun G9 hG9 => ?_
      refine ex1e (dy_add x hdr) fun a' h9x => ?_
      refine and5e h9x fun e9b u g2 g3 g4 => ?_
      try clear h9x
      obtain rfl := e9b
      refine hG9 ?_; clear hG9 G9
      refine bc_setd_there (l := dy) (k := dyl.length) (f := dyRef dyl) ?_ hdr (by omega) ?_
      · exact .inr (.tail _ (.head _))
      refine gm_append (vs := (dyAt dyl r).map vS) (.inr ?_) ?_
      · exact (HUpd.tail (.tail (u.app _))).mem
      repeat ktr_rel
      refine bc_append (vs := (dyAt dyl r).map vS) (H' := (E, .list []) :: (dy, .dicti dyl.length (dyRef dyl)) :: (dyH (dyAdd dyl r x) ++ ((du, .dict 500 (ofI (dueF ps b))) :: (se, .list (ps.map vS)) :: []))) ?_ (by rw [List.length_map]; have := hlen2 r; omega) ?_
      · have := u.app ((du, .dict 500 (ofI (dueF ps b))) :: (se, .list (ps.map vS)) :: [])
        rw [List.map_append] at this
        exact .tail (.tail this)
      refine kdn ?_
      repeat tb_rel
      refine fin _ _ (dyAdd dyl r x) ?_ ?_ g3 (by rw [g4]; omega)
      · exact (FactsIn.of rfl)
      · show SubP _ ((dy, .dicti (dyAdd dyl r x).length (dyRef (dyAdd dyl r x))) :: _)
        rw [g2, g4]
        exact SubP.refl.cons
  · intro σ h9
    refine hide fun G9 hG9 => ?_
    refine ex1e h9 fun dyl h9x => ?_
    refine and3e h9x fun h1 h2 e9d => ?_
    try clear h9x h9
    obtain rfl := e9d
    refine hG9 ?_; clear hG9 G9
    have e1 : (Sr.lst se (ps.map vS)).N = ps.length := by first | exact List.length_map _ | simp [Sr.N]
    rw [e1] at h2
    rw [e1, List.take_length] at h1
    exact h dyl h1 (by omega)
end auto

-- W25

theorem done_all {e : Ev} {U : List Str} {UI : List Int} {N M : Nat} (hU : U.length ≤ N) (hN : N ≤ 1000) (hUI : UI.length ≤ M) (hM : M ≤ 1000) (h64 : ∀ i : Int, 0 ≤ i → i < 64 → i ∈ UI) : ∀ d, DoneOk e U UI N M d (d + 2)
  | 0 => fun tr nm sp hm names home spots R Z kids a V V' Q f => f.elim
  | d + 1 => done_step (lv := d) (done_all hU hN hUI hM h64 d) hU hN hUI hM h64
theorem plan_fun {ya hd hm du : Addr} : funOf ((["layout", "held", "home", "last"] : List Str).zip [.ref ya, .ref hd, .ref hm, .ref du]) = planF ya hd hm du := rfl
theorem trip_fun {nm sp hm : Addr} : funOf ((["names", "spots", "home", "odd"] : List Str).zip [.ref nm, .ref sp, .ref hm, .bool false]) = tripF nm sp hm false := rfl
theorem idxP_get {i j : Nat} : ∀ {l : List Str} {p : Str × Value}, (idxP i l)[j]? = some p → ∃ x, l[j]? = some x ∧ p = (x, vI ((i + j : Nat) : Int)) := by
  intro l
  induction l generalizing i j with
  | nil => intro p h; simp [idxP] at h
  | cons y r ih =>
    intro p h
    cases j with
    | zero => rw [idxP] at h; cases h; exact ⟨y, rfl, rfl⟩
    | succ j =>
      rw [idxP, List.getElem?_cons_succ] at h
      refine ex1e (ih h) fun x h9x => ?_
      refine and2e h9x fun h1 h2 => ?_
      try clear h9x
      exact ⟨x, by first | exact eq_of_beq h1 | exact ne_of_beq_false h1 | exact of_decide_eq_true h1 | exact of_decide_eq_false h1 | simpa using h1, by rw [h2]; congr 3; omega⟩

noncomputable abbrev fmW25_0 (v0 v1 v2 v3 v4 : Value) : List (Str × Value) := [("held", v0), ("block", v1), ("params", v2), ("due", v3), ("dying", v4)]
noncomputable abbrev fmW25_1 (v0 v1 v2 v3 : Value) : List (Str × Value) := [("block", v0), ("params", v1), ("due", v2), ("dying", v3)]
section auto
variable {e : Ev} {Fq : Flow → St → Prop}

theorem law_held {ps : List Str} {se a dy du : Addr} {Z : ZT} {R : HT} (hp3 : ps.length ≤ 2) (hse : (se, AO.list (ps.map vS)) ∈ R)
    (h : ∀ hd, TB e.c 59 d341.1.2 false (lwB.drop 11) Fq ⟨(fmW25_0 (.ref hd) (.ref a) (.ref se) (.ref du) (.ref dy)), Z, (hd, .dict 500 (ofI (idxF 0 ("<back>" :: ps.reverse) fun _ => none))) :: R⟩) :
    TB e.c 59 d341.1.2 false (lwB.drop 10) Fq ⟨(fmW25_1 (.ref a) (.ref se) (.ref du) (.ref dy)), Z, R⟩ := by
  refine tb_cons ?_
  repeat ktr_rel
  refine te_comp (xs := ["at", "name"]) (bnd2 (Bnd.local rfl rfl) (Bnd.local rfl rfl)) ?_
  repeat ktr_rel
  refine ⟨by simp, fun B1 => ?_⟩
  repeat ktr_rel
  refine to_none (to_none (to_some ?_))
  repeat ktr_rel
  refine ⟨1, rfl, ?_⟩
  refine (⟨-1, and3i rfl (by simp) (ex2i se (ps.map vS) (and4i rfl (.inl (.inr (.tail _ hse))) (by simp; omega) (fun P1 => ?_)))⟩)
  rw [pick_rev2 _ (by simp; omega), ← List.map_reverse]
  refine bo_addl (vs := [vS "<back>"]) (us := ps.reverse.map vS) (by ktr_unf) (by ktr_unf) (by simp; omega) fun S1 => ?_
  have hcat : [vS "<back>"] ++ ps.reverse.map vS = (("<back>" : Str) :: ps.reverse).map vS := rfl
  rw [hcat]
  have hLl : (("<back>" : Str) :: ps.reverse).length ≤ 3 := by simp; omega
  generalize (("<back>" : Str) :: ps.reverse) = L at *
  repeat ktr_rel
  refine bc_enum (l := S1) (vs := L.map vS) (by ktr_unf) fun en it => ?_
  refine pi_enum (vs := L.map vS) rfl (cmpI .enm (by first | (refine Nat.le_trans (Nat.le_of_eq (List.length_map _)) ?_; omega) | (show List.length _ ≤ _; omega) | (simp [Sr.N]; omega)) [] (fun i ys Z' H' => Z' = Z ∧ ∃ (ts : List Addr) (G : HT), ts.length = i ∧ ys = ts.map .ref ∧ H' = G ++ ((S1, .list (L.map vS)) :: (P1, .list (ps.reverse.map vS)) :: (B1, .list [vS "<back>"]) :: R) ∧
    (∀ (j : Nat) t p, ts[j]? = some t → (idxP 0 L)[j]? = some p → (t, AO.tup [vS p.1, p.2]) ∈ G)) ?_ ?_ ?_ ?_ ?_)
  · intro p hp; cases hp
  · rintro i ys Z' H' m' ⟨_, ts, G, _, _, rfl, _⟩; exact .inr (List.mem_append_right _ (.head _))
  · exact (⟨rfl, ex2i ([]) ([]) (and4i rfl rfl rfl (fun j t p hj => by simp at hj))⟩)
  · intro i ys Z' H' hi h9
    refine hide fun G9 hG9 => ?_
    refine and2e h9 fun e9a h9x => ?_
    refine ex2e h9x fun ts G h9y => ?_
    refine and4e h9y fun htl e9e e9f hG => ?_
    try clear h9y h9x h9
    obtain rfl := e9a
    obtain rfl := e9e
    obtain rfl := e9f
    refine hG9 ?_; clear hG9 G9
    have hi' : i < L.length := by first | exact Nat.lt_of_lt_of_eq hi (List.length_map _) | exact hi | simpa [Sr.N] using hi
    have e1 : (L.map vS).getD i .none = vS L[i] := by first | exact getD_at hi' | simp [List.getD_eq_getElem?_getD, hi']
    refine ct_nil ?_
    refine St.at2 e1 ?_
    repeat ktr_rel
    refine ⟨by simp, fun t => (⟨rfl, ex2i (ts ++ [t]) ((t, .tup [vS L[i], vI (i : Nat)]) :: G) (and4i (by simp [htl]) (by simp) rfl (fun j t' p hj hp => ?_))⟩)⟩
    by_cases c : j < ts.length
    · rw [List.getElem?_append_left c] at hj
      exact .tail _ (hG j t' p hj hp)
    · have hjl := (List.getElem?_eq_some_iff.mp hj).1
      rw [List.length_append, List.length_singleton] at hjl
      have hji : j = i := by omega
      subst hji
      rw [List.getElem?_append_right (by omega), htl, Nat.sub_self] at hj
      cases hj
      refine ex1e (idxP_get hp) fun x h9x => ?_
      refine and2e h9x fun hx e9c => ?_
      try clear h9x
      obtain rfl := e9c
      rw [List.getElem?_eq_getElem hi'] at hx
      cases hx
      rw [Nat.zero_add]
      exact .head _
  · rintro D ys Z' H' ⟨rfl, ts, G, htl, rfl, rfl, hG⟩ hys
    have e1 : (Sr.enm S1 (L.map vS)).N = L.length := by first | exact List.length_map _ | simp [Sr.N]
    rw [e1] at htl
    repeat ktr_rel
    refine bc_dictpairs (l := D) (ts := ts) (ps := idxP 0 L) ?_ (fun j t p hj hp => ?_) (by rw [idxP_len, htl]) (by rw [idxP_len]; omega) fun hd => ?_
    · exact .inr (.head _)
    · exact .inr (.tail _ (List.mem_append_left _ (hG j t p hj hp)))
    have hf : (idxP 0 L).foldl (fun g p => updF g p.1 p.2) (fun _ => none) = ofI (idxF 0 L fun _ => none) := idxP_fold 0 L fun _ => none
    rw [hf]
    repeat ktr_rel
    refine TB.le ((Le.facts (m' := (fmW25_0 (.ref hd) (.ref a) (.ref se) (.ref du) (.ref dy))) (FactsIn.of rfl)).trans ((Le.dictUp (k' := 500) .head (by rw [idxP_len]; omega)).trans (Le.sub ?_))) (h hd)
    exact .cons_cons _ (.cons _ ((List.Sublist.cons _ (.cons _ (.cons _ (List.Sublist.refl _)))).trans (List.sublist_append_right _ _)))
end auto

-- W26

open Classical in
theorem perm_count {l l' : HT} (h : ∀ x, l.count x = l'.count x) : l.Perm l' := List.perm_iff_count.mpr h
open Classical in
theorem permA (hm a b s w f P B p h d u c : Addr × AO) (X : HT) : (hm :: a :: b :: s :: w :: f :: P :: B :: p :: h :: d :: (X ++ [u, c])).Perm (p :: h :: hm :: u :: a :: b :: s :: w :: f :: d :: (X ++ [c]) ++ [P, B]) := perm_count fun x => by
  simp only [List.count_append, List.count_cons, List.cons_append, List.count_nil]; omega
open Classical in
theorem permB (sp nm tr p h hm u a b s w f c : Addr × AO) : ([sp, nm, tr, p, h, hm, u, a, b, s, w, f, c] : HT).Perm ([tr, nm, sp, hm, c] ++ [p, h, u, a, b, s, w, f]) := perm_count fun x => by
  simp only [List.count_append, List.count_cons, List.cons_append, List.count_nil]; omega
noncomputable def UI64 : List Int := (List.range 64).map fun i => ((i : Nat) : Int)
theorem mem_UI64 (i : Int) (h0 : 0 ≤ i) (h1 : i < 64) : i ∈ UI64 := by
  unfold UI64; rw [List.mem_map]; exact ⟨i.toNat, by rw [List.mem_range]; omega, by omega⟩
noncomputable abbrev fmW26_0 (v0 v1 v2 v3 v4 : Value) : List (Str × Value) := [("held", v0), ("block", v1), ("params", v2), ("due", v3), ("dying", v4)]
noncomputable abbrev fmW26_1 (v0 v1 v2 v3 : Value) : List (Str × Value) := [("plan", v0), ("block", v1), ("params", v2), ("dying", v3)]
noncomputable abbrev fmW26_2 (v0 v1 v2 : Value) : List (Str × Value) := [("trip", v0), ("block", v1), ("params", v2)]
section auto
variable {e : Ev} {Fq : Flow → St → Prop}

theorem law_end {ps : List Str} {se a dy du hd : Addr} {Z : ZT} {b : List Nd} {dyl : Dy} (hp1 : ∀ x ∈ ps, x = "p" ∨ x = "q") (hp2 : ps.Nodup) (hp3 : ps.length ≤ 2) (hT : TreeAt Z (blkN b) (.ref a)) (T : TreeFacts ps b)
    (hdy : ∀ j, dyAt dyl j = dieF ps b j) (hdl : dyl.length ≤ 2) (h : ∀ σ, Fq (.ret (.bool true)) σ) :
    TB e.c 59 d341.1.2 false (lwB.drop 11) Fq ⟨(fmW26_0 (.ref hd) (.ref a) (.ref se) (.ref du) (.ref dy)), Z, (hd, .dict 500 (ofI (idxF 0 ("<back>" :: ps.reverse) fun _ => none))) :: DyL dy dyl ((du, .dict 500 (ofI (dueF ps b))) :: (se, .list (ps.map vS)) :: [])⟩ := by
  have P := pin_top T hp1 hp2 hp3
  have hpU : ∀ x ∈ ps, x ∈ UU := fun x hx => U2_UU x (ps_U2 hp1 x hx)
  have hUl := UU_len
  have hLU : ∀ x ∈ (("<back>" : Str) :: ps.reverse), x ∈ UU := fun x hx => by
    rcases List.mem_cons.mp hx with rfl | hx
    · exact .tail _ (.tail _ (.head _))
    · exact hpU x (List.mem_reverse.mp hx)
  have hheld : ∀ x ∈ ps, (idxF 0 ("<back>" :: ps.reverse) (fun _ => none) x).isSome := fun x hx => by
    cases hc : idxF 0 ("<back>" :: ps.reverse) (fun _ => none) x with
    | some v => rfl
    | none =>
      have hm : x ∈ (("<back>" : Str) :: ps.reverse) := List.mem_cons_of_mem _ (List.mem_reverse.mpr hx)
      obtain ⟨j, hj, ej⟩ := List.getElem_of_mem hm
      have hxne : x ≠ "" := by rcases hp1 x hx with rfl | rfl <;> decide
      have := P.snd.bwd j x (by show (("<back>" : Str) :: ps.reverse)[j]? = some x; rw [List.getElem?_eq_getElem hj, ej]) hxne
      rw [show (⟨"<back>" :: ps.reverse, idxF 0 ("<back>" :: ps.reverse) fun _ => none, []⟩ : Ly).held x = none from hc] at this
      cases this
  have hLl : (("<back>" : Str) :: ps.reverse).length ≤ 3 := by simp; omega
  refine tb_cons ?_
  refine ts_assign (te_dict (ks := ["layout", "held", "home", "last"]) (by decide) (by decide) (by decide) rfl fun pl => ?_)
  refine tp_cons ?_
  repeat ktr_rel
  refine ⟨by simp, fun B1 => ?_⟩
  repeat ktr_rel
  refine to_none (to_none (to_some ?_))
  repeat ktr_rel
  refine ⟨1, rfl, ?_⟩
  refine (⟨-1, and3i rfl (by simp) (ex2i se (ps.map vS) (and4i rfl (.inl (.inr (by simp))) (by simp; omega) (fun P1 => ?_)))⟩)
  rw [pick_rev2 _ (by simp; omega), ← List.map_reverse]
  refine bo_addl (vs := [vS "<back>"]) (us := ps.reverse.map vS) (by ktr_unf) (by ktr_unf) (by simp; omega) fun S1 => ?_
  have hcat : [vS "<back>"] ++ ps.reverse.map vS = (("<back>" : Str) :: ps.reverse).map vS := rfl
  rw [hcat]
  repeat ktr_rel
  refine bc_call (layout_init (n := 57) (N := 500) (U := UU) hUl (by decide) hLU (by omega) fun ya yd wh fr => ?_)
  refine tp_cons ?_
  repeat ktr_rel
  refine tp_cons ?_
  repeat ktr_rel
  refine bc_dictof (l := hd) (k := 500) (f := ofI (idxF 0 ("<back>" :: ps.reverse) fun _ => none)) (.inr (by simp)) (by decide) fun hm => ?_
  refine tp_cons ?_
  repeat ktr_rel
  refine tp_nil ⟨_, .tail (.tail (.tail (.tail (.tail (.tail (.tail (.tail .head))))))), ?_⟩
  rw [plan_fun]
  repeat ktr_rel
  refine TB.le ((Le.facts (m' := (fmW26_1 (.ref pl) (.ref a) (.ref se) (.ref dy))) (FactsIn.of rfl)).trans (Le.subp (C := PL pl ya yd S1 wh fr hd hm du 500 ⟨"<back>" :: ps.reverse, idxF 0 ("<back>" :: ps.reverse) fun _ => none, []⟩ (idxF 0 ("<back>" :: ps.reverse) fun _ => none) (dueF ps b) 0 (("<back>" : Str) :: ps.reverse).length (DyL dy dyl [(se, .list (ps.map vS))])) (SubP.iff.mpr ⟨[(P1, .list (ps.reverse.map vS)), (B1, .list [vS "<back>"])], permA _ _ _ _ _ _ _ _ _ _ _ _ _ _⟩))) ?_
  refine tb_cons ?_
  repeat ktr_rel
  refine tt_value ?_ (by intros; rfl)
  repeat ktr_rel
  refine bc_call (is_sound_ok (n := 54) (by decide) P.snd.sound ?_)
  repeat ktr_rel
  refine tt_value ?_ (by intros; rfl)
  repeat ktr_rel
  refine bc_call (placed_ok (e := e) (n := 51) hUl (by decide) 3 pl ya yd S1 wh fr hd hm du _ _ _ _ [(se, .list (ps.map vS))] Z ps b a dy dyl (dieF ps b) _ hT P hdy (by omega) fun l1 home1 O => ?_)
  repeat ktr_rel
  refine tb_cons ?_
  refine ts_assign (te_dict (ks := ["names", "spots", "home", "odd"]) (by decide) (by decide) (by decide) rfl fun tr => ?_)
  refine tp_cons ?_
  refine te_dict0 fun nm => ?_
  refine tp_cons ?_
  refine te_dict0i fun sp => ?_
  refine tp_cons ?_
  repeat ktr_rel
  refine gi_dict (by ktr_unf) planF_home ?_
  refine tp_cons ?_
  repeat ktr_rel
  refine tp_nil ⟨_, .tail (.tail .head), ?_⟩
  rw [trip_fun]
  repeat ktr_rel
  refine TB.le ((Le.facts (m' := (fmW26_2 (.ref tr) (.ref a) (.ref se))) (FactsIn.of rfl)).trans
    ((Le.dictUp (k' := 500) (.tail .head) (Nat.zero_le _)).trans ((Le.dictiUp (k' := 64) .head (Nat.zero_le _)).trans (Le.subp (C := TR tr nm sp hm 500 64 (fun _ => none) (fun _ => none) home1 false [(se, .list (ps.map vS))]) (SubP.iff.mpr ⟨_, permB _ _ _ _ _ _ _ _ _ _ _ _ _⟩))))) ?_
  have hpd : ∀ x ∈ ps, x ∉ dns b := fun x hx hd => by
    have := T.nm x hd
    rcases hp1 x hx with rfl | rfl
    · exact this.2.1 rfl
    · exact this.2.2.1 rfl
  have hok : HOk home1 (fun x => x ∈ ps) := hok_of P.snd fun x hx => ⟨hheld x hx, O.homeo x (hpd x hx)⟩
  have hUI : ∀ x ∈ ps, ∃ h, home1 x = some h ∧ h ∈ UI64 := fun x hx => by
    refine ex1e (hok.1 x hx) fun i h9x => ?_
    refine and3e h9x fun h1 h2 h3 => ?_
    try clear h9x
    exact ⟨i, h1, mem_UI64 i h2 h3⟩
  have t1 : ∀ x ∈ ps.take 1, x ∈ ps := fun x hx => List.mem_of_mem_take hx
  have t2 : ∀ x ∈ ps.drop 1, x ∈ ps := fun x hx => List.mem_of_mem_drop hx
  have hUIl : UI64.length ≤ 64 := by unfold UI64; simp
  have spot : ∀ {ns : List Str}, (∀ x ∈ ns, x ∈ ps) → ∀ x ∈ ns, ∀ h, home1 x = some h → h ∈ UI64 := fun hns x hx h he => by
    obtain ⟨h', e1, e2⟩ := hUI x (hns x hx); rw [he] at e1; cases e1; exact e2
  have n0 : Sup UU (fun _ => none) := fun y hy => by cases hy
  have s0 : SupI UI64 (fun _ => none) := fun y hy => by cases hy
  have n1 : Sup UU (setNm 11 0 (ps.take 1) fun _ => none) := n0.setNm fun x hx => hpU x (t1 x hx)
  have s1 : SupI UI64 (setSp 11 home1 0 (ps.take 1) fun _ => none) := s0.setSp (spot t1)
  have n2 := n1.setNm (w := 500) (i := 0) (ns := ps.drop 1) fun x hx => hpU x (t2 x hx)
  have s2 := s1.setSp (w := 500) (i := 0) (home := home1) (spot t2)
  have a1 := agree_set (V := fun _ => False) (home := home1) (w := 11) (ps.take 1) 0 (names := fun _ => none) (spots := fun _ => none) (hok.sub fun x hx => hx.elim False.elim (t1 x)) (fun y hy => hy.elim)
  have a2 := agree_set (V := fun x => x ∈ ps.take 1) (home := home1) (w := 500) (ps.drop 1) 0 (hok.sub fun x hx => hx.elim (t1 x) (t2 x)) (fun y hy _ => a1 y (.inr hy))
  have a3 : ∀ x ∈ ps, Agree (setNm 500 0 (ps.drop 1) (setNm 11 0 (ps.take 1) fun _ => none)) (setSp 500 home1 0 (ps.drop 1) (setSp 11 home1 0 (ps.take 1) fun _ => none)) home1 x := fun x hx => a2 x (by
    rw [← List.take_append_drop 1 ps] at hx
    exact List.mem_append.mp hx)
  refine tb_cons ?_
  repeat ktr_rel
  refine to_none ?_
  refine to_some ?_
  repeat ktr_rel
  refine ⟨((1 : Nat) : Int), rfl, to_none (⟨by simp, ex2i se (ps.map vS) (and4i rfl (.inl (by ktr_unf)) (by simp; omega) (fun A1 => ?_))⟩)⟩
  rw [pick_take, ← List.map_take]
  repeat ktr_rel
  refine bc_call (.perm (set_ok (n := 58) (gl := A1) (ns := ps.take 1) (w := 11) (U := UU) (UI := UI64) (.inr (.head _)) hUl (by decide) hUIl (by decide) (fun x hx => hpU x (t1 x hx)) (fun x hx => hUI x (t1 x hx)) n0 s0 ?_) perm_one4)
  refine kdn ?_
  refine TB.le (Le.sub (.cons_cons _ (.cons_cons _ (.cons_cons _ (.cons_cons _ (.cons _ (List.Sublist.refl _))))))) ?_
  refine tb_cons ?_
  repeat ktr_rel
  refine to_some ?_
  repeat ktr_rel
  refine ⟨((1 : Nat) : Int), rfl, to_none (to_none (⟨by simp, ex2i se (ps.map vS) (and4i rfl (.inl (by ktr_unf)) (by simp; omega) (fun A2 => ?_))⟩))⟩
  rw [pick_drop, ← List.map_drop]
  repeat ktr_rel
  refine bc_call (.perm (set_ok (n := 58) (gl := A2) (ns := ps.drop 1) (w := 500) (U := UU) (UI := UI64) (.inr (.head _)) hUl (by decide) hUIl (by decide) (fun x hx => hpU x (t2 x hx)) (fun x hx => hUI x (t2 x hx)) n1 s1 ?_) perm_one4)
  refine kdn ?_
  refine TB.le (Le.sub (.cons_cons _ (.cons_cons _ (.cons_cons _ (.cons_cons _ (.cons _ (List.Sublist.refl _))))))) ?_
  refine tb_cons ?_
  repeat ktr_rel
  have hokU2 : okNs U2 b := T.wf.okNs 3 (ps_U2 hp1) T.inU2
  have hfit := FitB.restrict U2_back 3 (O.fit home1 fun _ _ => rfl) hokU2
  have hV : ∀ x, (((idxF 0 ("<back>" :: ps.reverse) (fun _ => none) x).isSome = true ∧ x ∉ dieF ps b (-1)) ∧ x ≠ "<back>") → x ∈ ps := fun x ⟨⟨h1, _⟩, h2⟩ => by
    by_cases hm : x ∈ (("<back>" : Str) :: ps.reverse)
    · exact List.mem_reverse.mp ((List.mem_cons.mp hm).resolve_left h2)
    · rw [idxF_out x 0 _ _ hm] at h1; cases h1
  refine bc_call (CallOk.more (n := 5) (done_all (e := e) (U := UU) (UI := UI64) (N := 500) (M := 64) hUl (by decide) hUIl (by decide) mem_UI64 3 tr nm sp hm _ home1 _ _ Z b a _ _ _ hfit hT n2 s2 (fun x hx => a3 x (hV x hx)) fun n3 s3 _ _ _ => ?_) (by decide))
  refine kdn ?_
  refine tb_cons ?_
  repeat ktr_rel
  refine gi_dict (by ktr_unf) tripF_odd ?_
  repeat ktr_rel
  exact h _
theorem lawOk {w4 : Addr} {items : List Value} {ns : List Int} (hL : e.h0.IsList w4 items.toArray) (hI : items.map er = ns.map vI) (hn : ns.length ≤ 63) :
    CallOk e.c 60 (.ref 341) [.ref w4] (fun v _ _ => v = .bool true) (fun _ => none) [] := by
  refine call_fn (n := 59) (F_law rfl) rfl ?_
  refine law_gen hL hI hn fun ps se a Z b k' hp1 hp2 hp3 hk hT hW => ?_
  have T := treeFacts hW hk
  refine law_live hp1 hp2 hp3 hT T fun dy du => ?_
  refine law_dying hp3 fun dyl hdy hdl => ?_
  refine law_held (R := DyL dy dyl ((du, .dict 500 (ofI (dueF ps b))) :: (se, .list (ps.map vS)) :: [])) hp3 (by simp) fun hd => ?_
  exact law_end hp1 hp2 hp3 hT T hdy hdl fun _ => rfl
end auto

theorem ints_er : ∀ {vs : List Value} {ns : List Int}, IntsAre vs ns → vs.map er = ns.map vI
  | _, [], h => by rw [IntsAre.nil_inv h]; rfl
  | _, n :: ns, h => by obtain ⟨t, vs', rfl, h'⟩ := IntsAre.cons_inv h; rw [List.map_cons, List.map_cons, ints_er h']; rfl
theorem useK {K : Params → Frag} {P : Params} {h : Heap} (KX : (K P).In h) {G : Prop} (kf : KF K) (k : KF K → G) : G := k kf
theorem top.tw10005945817407372193 : True := trivial
theorem top.tw10008474027749305400 : True := trivial
theorem top.tw10404823597219466188 : True := trivial
theorem top.tw1047907039808853306 : True := trivial
theorem top.tw105208000716104510 : True := trivial
theorem top.tw10567129059001840431 : True := trivial
theorem top.tw10617020205504526918 : True := trivial
theorem top.tw10648311167861321448 : True := trivial
theorem top.tw1088946173253831356 : True := trivial
theorem top.tw10915162052029792233 : True := trivial
theorem top.tw10956490626425055710 : True := trivial
theorem top.tw10996937224433265937 : True := trivial
theorem top.tw11133666699803404755 : True := trivial
theorem top.tw11203750815551599093 : True := trivial
theorem top.tw11247735229740821898 : True := trivial
theorem top.tw11279390925490393535 : True := trivial
theorem top.tw11334350811105764591 : True := trivial
theorem top.tw11334415319851112604 : True := trivial
theorem top.tw1139600151236580504 : True := trivial
theorem top.tw11423202765487971197 : True := trivial
theorem top.tw1142415686869020238 : True := trivial
theorem top.tw11430207588045935325 : True := trivial
theorem top.tw1149218181149386328 : True := trivial
theorem top.tw11546936639936008217 : True := trivial
theorem top.tw11613256710310857696 : True := trivial
theorem top.tw11751278402070008235 : True := trivial
theorem top.tw11762496359356365647 : True := trivial
theorem top.tw11845233108574324481 : True := trivial
theorem top.tw11858546649754279707 : True := trivial
theorem top.tw11922380849998532372 : True := trivial
theorem top.tw1195175773429642966 : True := trivial
theorem top.tw11960245374511038805 : True := trivial
theorem top.tw12012865196380796599 : True := trivial
theorem top.tw12105128591322288922 : True := trivial
theorem top.tw1212798325632107971 : True := trivial
theorem top.tw12166907935582030026 : True := trivial
theorem top.tw12317137736924338119 : True := trivial
theorem top.tw12318557346453588183 : True := trivial
theorem top.tw12342655685612074800 : True := trivial
theorem top.tw12376051458212225564 : True := trivial
theorem top.tw12392516345856041104 : True := trivial
theorem top.tw12425085872883035938 : True := trivial
theorem top.tw1245559373397905713 : True := trivial
theorem top.tw12483720753089274532 : True := trivial
theorem top.tw12535971307161669396 : True := trivial
theorem top.tw12540527436937284434 : True := trivial
theorem top.tw12718909917080609646 : True := trivial
theorem top.tw1275901062530889299 : True := trivial
theorem top.tw12819366960792805191 : True := trivial
theorem top.tw1284575025550258836 : True := trivial
theorem top.tw13044034144603486326 : True := trivial
theorem top.tw13091174067606910046 : True := trivial
theorem top.tw13120753694373217308 : True := trivial
theorem top.tw13160728816969591200 : True := trivial
theorem top.tw13177472732611162249 : True := trivial
theorem top.tw13264354339760550358 : True := trivial
theorem top.tw13272337422414781067 : True := trivial
theorem top.tw13276188738843374129 : True := trivial
theorem top.tw13345470168829271861 : True := trivial
theorem top.tw13359135706311490777 : True := trivial
theorem top.tw13370750898655102155 : True := trivial
theorem top.tw13458395625551291591 : True := trivial
theorem top.tw13822267516522204269 : True := trivial
theorem top.tw13889309363888878346 : True := trivial
theorem top.tw13889484949932952446 : True := trivial
theorem top.tw13896958669275611876 : True := trivial
theorem top.tw13928562000808390012 : True := trivial
theorem top.tw1400011881503588481 : True := trivial
theorem top.tw14142502885225118848 : True := trivial
theorem top.tw14168018189251442112 : True := trivial
theorem top.tw14263998999751124003 : True := trivial
theorem top.tw14282377253939248939 : True := trivial
theorem top.tw14349089067433371257 : True := trivial
theorem top.tw14371913498598963198 : True := trivial
theorem top.tw14390669486469195807 : True := trivial
theorem top.tw14402358008270493973 : True := trivial
theorem top.tw14459580976405569124 : True := trivial
theorem top.tw14502225709538309166 : True := trivial
theorem top.tw14597223018079223185 : True := trivial
theorem top.tw14608685727046917156 : True := trivial
theorem top.tw14611434983143301774 : True := trivial
theorem top.tw1475165856519544709 : True := trivial
theorem top.tw14783522961314548601 : True := trivial
theorem top.tw14789260269991461300 : True := trivial
theorem top.tw14796646475526232899 : True := trivial
theorem top.tw14823308797102314842 : True := trivial
theorem top.tw14826035006057030972 : True := trivial
theorem top.tw1483126911874232274 : True := trivial
theorem top.tw14861896470697024400 : True := trivial
theorem top.tw14901070454687303710 : True := trivial
theorem top.tw14917401599646851644 : True := trivial
theorem top.tw1492452104121835379 : True := trivial
theorem top.tw14987219478266130788 : True := trivial
theorem top.tw15004652626996871669 : True := trivial
theorem top.tw15058813355848621054 : True := trivial
theorem top.tw15092371282622821202 : True := trivial
theorem top.tw15169761463676818070 : True := trivial
theorem top.tw15177526630643400193 : True := trivial
theorem top.tw15240379268576122478 : True := trivial
theorem top.tw15339535825480214425 : True := trivial
theorem top.tw15361541807878343388 : True := trivial
theorem top.tw15362295582089109014 : True := trivial
theorem top.tw15503665604740900718 : True := trivial
theorem top.tw15569959144833144457 : True := trivial
theorem top.tw15646934709686841381 : True := trivial
theorem top.tw1585457916280141200 : True := trivial
theorem top.tw15860264024139754761 : True := trivial
theorem top.tw15976228082101565994 : True := trivial
theorem top.tw15985961358823992270 : True := trivial
theorem top.tw16044733080236030384 : True := trivial
theorem top.tw16082718784150747160 : True := trivial
theorem top.tw16123964013534891561 : True := trivial
theorem top.tw16155163154822807229 : True := trivial
theorem top.tw16174758807025615021 : True := trivial
theorem top.tw16196420915677631385 : True := trivial
theorem top.tw16204670001084760307 : True := trivial
theorem top.tw16273406610938067001 : True := trivial
theorem top.tw16352630495959832749 : True := trivial
theorem top.tw16437368728579532205 : True := trivial
theorem top.tw16439428074185983240 : True := trivial
theorem top.tw16541100652227675460 : True := trivial
theorem top.tw16556043662935691533 : True := trivial
theorem top.tw16580785732701462914 : True := trivial
theorem top.tw16713831800681072344 : True := trivial
theorem top.tw16759092144687519636 : True := trivial
theorem top.tw1676862907878916244 : True := trivial
theorem top.tw16782997733028217545 : True := trivial
theorem top.tw16885616592811714743 : True := trivial
theorem top.tw16900427199656544559 : True := trivial
theorem top.tw17046948494117081484 : True := trivial
theorem top.tw17315540178315561739 : True := trivial
theorem top.tw1732150942055357024 : True := trivial
theorem top.tw17323899518341599180 : True := trivial
theorem top.tw17355269125676882429 : True := trivial
theorem top.tw1736530178072539846 : True := trivial
theorem top.tw17470836177267949868 : True := trivial
theorem top.tw17492772389151264855 : True := trivial
theorem top.tw17532336604752155303 : True := trivial
theorem top.tw17555251805378815213 : True := trivial
theorem top.tw17565814175750979855 : True := trivial
theorem top.tw17620759639134147866 : True := trivial
theorem top.tw17810072253543177317 : True := trivial
theorem top.tw18008055252877512497 : True := trivial
theorem top.tw18034075008235765660 : True := trivial
theorem top.tw18063644159110109576 : True := trivial
theorem top.tw18064794426631996164 : True := trivial
theorem top.tw18085771088847121727 : True := trivial
theorem top.tw18086089286151905521 : True := trivial
theorem top.tw1814787853859245837 : True := trivial
theorem top.tw18164388396756303480 : True := trivial
theorem top.tw18186074749648716422 : True := trivial
theorem top.tw18237780215024852062 : True := trivial
theorem top.tw18245740138792012028 : True := trivial
theorem top.tw18371284783138465269 : True := trivial
theorem top.tw1869187583165140508 : True := trivial
theorem top.tw1886144042066472794 : True := trivial
theorem top.tw2007660962349395123 : True := trivial
theorem top.tw2057334267981633021 : True := trivial
theorem top.tw2126296398998916975 : True := trivial
theorem top.tw2145171640123136144 : True := trivial
theorem top.tw216529984938456764 : True := trivial
theorem top.tw2287823674025257028 : True := trivial
theorem top.tw2443449257678562572 : True := trivial
theorem top.tw2462062305354472974 : True := trivial
theorem top.tw2464713573024523455 : True := trivial
theorem top.tw2514443458684651071 : True := trivial
theorem top.tw2555065506035805374 : True := trivial
theorem top.tw2581206410525282061 : True := trivial
theorem top.tw2617719716777270872 : True := trivial
theorem top.tw262598444858278061 : True := trivial
theorem top.tw2665807947273092163 : True := trivial
theorem top.tw2731995056826638727 : True := trivial
theorem top.tw2732273902793177162 : True := trivial
theorem top.tw2741389259953327712 : True := trivial
theorem top.tw2782073688633401757 : True := trivial
theorem top.tw2812155379371279736 : True := trivial
theorem top.tw2822501910515967889 : True := trivial
theorem top.tw2847958352784047137 : True := trivial
theorem top.tw2867133514656366558 : True := trivial
theorem top.tw2924597203103170677 : True := trivial
theorem top.tw2985252069258134486 : True := trivial
theorem top.tw2988451766255067171 : True := trivial
theorem top.tw3195968871104189447 : True := trivial
theorem top.tw3422688185749166683 : True := trivial
theorem top.tw342308947776675178 : True := trivial
theorem top.tw3474246075231452896 : True := trivial
theorem top.tw352232786441526191 : True := trivial
theorem top.tw3561193834555079511 : True := trivial
theorem top.tw370947364307004932 : True := trivial
theorem top.tw3776753064480771068 : True := trivial
theorem top.tw381845443943030031 : True := trivial
theorem top.tw3969286963782609292 : True := trivial
theorem top.tw4047667213573674445 : True := trivial
theorem top.tw4159251561096739476 : True := trivial
theorem top.tw4166218997396506358 : True := trivial
theorem top.tw4186445540838780016 : True := trivial
theorem top.tw4205137553216949640 : True := trivial
theorem top.tw4213018616267185653 : True := trivial
theorem top.tw427269002284569659 : True := trivial
theorem top.tw4299629679881509495 : True := trivial
theorem top.tw4321519831107876412 : True := trivial
theorem top.tw4498253355057717688 : True := trivial
theorem top.tw453181688931711583 : True := trivial
theorem top.tw4551080515912023512 : True := trivial
theorem top.tw4571971715460732019 : True := trivial
theorem top.tw4656485037274611717 : True := trivial
theorem top.tw4713442408853163898 : True := trivial
theorem top.tw4784893810139332661 : True := trivial
theorem top.tw4859757453598101857 : True := trivial
theorem top.tw501154541418245514 : True := trivial
theorem top.tw5088376156974544275 : True := trivial
theorem top.tw5118827330378232414 : True := trivial
theorem top.tw5155950481276406077 : True := trivial
theorem top.tw517144808224063464 : True := trivial
theorem top.tw5225153198818245361 : True := trivial
theorem top.tw5225916559131626549 : True := trivial
theorem top.tw5244899138074338376 : True := trivial
theorem top.tw5278709424875269971 : True := trivial
theorem top.tw5303079699428457377 : True := trivial
theorem top.tw5476889619067714990 : True := trivial
theorem top.tw5480147950964735628 : True := trivial
theorem top.tw5523086135645875356 : True := trivial
theorem top.tw5581607755468803823 : True := trivial
theorem top.tw5597187220613765494 : True := trivial
theorem top.tw5667650583090716360 : True := trivial
theorem top.tw5703469652483361258 : True := trivial
theorem top.tw5868845118606482295 : True := trivial
theorem top.tw5889316905344633881 : True := trivial
theorem top.tw5915399644114372684 : True := trivial
theorem top.tw5969682004907312646 : True := trivial
theorem top.tw6127594578889010139 : True := trivial
theorem top.tw6187478851450931391 : True := trivial
theorem top.tw6240723676877644813 : True := trivial
theorem top.tw6333448901615975916 : True := trivial
theorem top.tw6370870915552960936 : True := trivial
theorem top.tw6431110157172167083 : True := trivial
theorem top.tw6491118196486620199 : True := trivial
theorem top.tw649594095290182367 : True := trivial
theorem top.tw6505410396798821541 : True := trivial
theorem top.tw6520327441239513222 : True := trivial
theorem top.tw6664487174759623829 : True := trivial
theorem top.tw6694047246710070196 : True := trivial
theorem top.tw6749217079512962374 : True := trivial
theorem top.tw6756868429301003459 : True := trivial
theorem top.tw6761616313442571491 : True := trivial
theorem top.tw6812286434817487243 : True := trivial
theorem top.tw6859976401760118174 : True := trivial
theorem top.tw6883741973766446791 : True := trivial
theorem top.tw6898770573198911631 : True := trivial
theorem top.tw6906291655842520137 : True := trivial
theorem top.tw6919701780365589675 : True := trivial
theorem top.tw7008692893051332821 : True := trivial
theorem top.tw7046679081361425455 : True := trivial
theorem top.tw708234853630380328 : True := trivial
theorem top.tw728428047077509346 : True := trivial
theorem top.tw7297446738713254254 : True := trivial
theorem top.tw7414872774492366064 : True := trivial
theorem top.tw7429413206186439793 : True := trivial
theorem top.tw7444641836354208208 : True := trivial
theorem top.tw7458633546980236471 : True := trivial
theorem top.tw7527032243904285869 : True := trivial
theorem top.tw7673058066778466091 : True := trivial
theorem top.tw7743179893348639699 : True := trivial
theorem top.tw775762912060472103 : True := trivial
theorem top.tw7830913209206220567 : True := trivial
theorem top.tw7847650389618582240 : True := trivial
theorem top.tw788273225186049534 : True := trivial
theorem top.tw795583310449317561 : True := trivial
theorem top.tw7990429038631628895 : True := trivial
theorem top.tw8107780213005350392 : True := trivial
theorem top.tw8139039716903228087 : True := trivial
theorem top.tw814325599930780420 : True := trivial
theorem top.tw8143265674769528471 : True := trivial
theorem top.tw81815255157605957 : True := trivial
theorem top.tw8184561461823581802 : True := trivial
theorem top.tw8204474986945543665 : True := trivial
theorem top.tw8321918168302905379 : True := trivial
theorem top.tw8345894832289464959 : True := trivial
theorem top.tw8363718466572441477 : True := trivial
theorem top.tw8410488445778877200 : True := trivial
theorem top.tw8435561252592420358 : True := trivial
theorem top.tw8443935842833279946 : True := trivial
theorem top.tw8507776931139520737 : True := trivial
theorem top.tw8538268897159353584 : True := trivial
theorem top.tw8598144960395782539 : True := trivial
theorem top.tw860223938195835975 : True := trivial
theorem top.tw8640399195822439974 : True := trivial
theorem top.tw8645369167282567922 : True := trivial
theorem top.tw864819663365544661 : True := trivial
theorem top.tw8679839319945467846 : True := trivial
theorem top.tw8694864300669457046 : True := trivial
theorem top.tw8729362747519067210 : True := trivial
theorem top.tw8735323631387419056 : True := trivial
theorem top.tw877433047237710547 : True := trivial
theorem top.tw8810280945414196856 : True := trivial
theorem top.tw887695700811335699 : True := trivial
theorem top.tw8892184565913893157 : True := trivial
theorem top.tw9059672392935016618 : True := trivial
theorem top.tw9059832203979395877 : True := trivial
theorem top.tw9063741608606530840 : True := trivial
theorem top.tw908825868028484722 : True := trivial
theorem top.tw9108098604805947806 : True := trivial
theorem top.tw9259421805112917234 : True := trivial
theorem top.tw9305691244287143441 : True := trivial
theorem top.tw9378254376102152143 : True := trivial
theorem top.tw9382581127745807760 : True := trivial
theorem top.tw956942650209027819 : True := trivial
theorem top.tw9601329371697537090 : True := trivial
theorem top.tw9614876229902214918 : True := trivial
theorem top.tw9631074621892390191 : True := trivial
theorem top.tw9759319705405543751 : True := trivial
theorem top.tw9768079942903668216 : True := trivial
theorem top.tw9800703332001039478 : True := trivial
theorem top.tw9961057766049560675 : True := trivial
end Mine
set_option Elab.async true
open Mine in
theorem Mine.top : PySem.Challenge.rw_sf0013_01.Holds := by
  w_on; o_law; k_head; (case hw => w_witness2)
  k_fill
  intro w s₀ s₁ mg mb G Y fa o pm cd doc dV kV ho hdd hcd hD hmg hg args vals as hpre hlay hrd hwl hlo
  have KX := kIn_of Y
  refine useK KX ?kfs fun kf => ?_
  case kfs =>
    clear hpre hlay hrd hwl hlo hmg hg hdd hcd hD ho KX Y G
    refine ⟨?k_glob, ?k_meth, ?k_keep, ?k_layout, ?k_lives, ?k_yul, ?k_f_live_block, ?k_f_live_expr, ?k_f_live_statement, ?k_f_number_of, ?k_f_name_of, ?k_f_call_of, ?k_f_let_of, ?k_f_assign_of, ?k_f_expr_of, ?k_f_block_of, ?k_f_if_of, ?k_f_case_of, ?k_f_case_of3, ?k_f_switch_of, ?k_f_for_of, ?k_f_draw, ?k_f_twig, ?k_f_every, ?k_f_let, ?k_f_stat, ?k_f_block, ?k_f_stood, ?k_f_rows, ?k_f_inner, ?k_f_sound, ?k_f_letgo, ?k_f_given, ?k_f_placed, ?k_f_value, ?k_f_set, ?k_f_done, ?k_f_law, ?k_f_Linit, ?k_f_Ldistance, ?k_f_Lrelease, ?k_f_Lroom, ?k_f_Ltake, ?k_f_Lkeep, ?k_f_Vinit, ?k_f_Vmention, ?k_f_Vtell, ?k_f_Vclose, ?k_f_Yinit⟩
    case k_glob => intro P; exact ⟨⟨_, rfl, rfl⟩, ⟨_, rfl, rfl⟩, ⟨_, rfl, rfl⟩, ⟨_, rfl, rfl⟩, ⟨_, rfl, rfl⟩, ⟨_, rfl, rfl⟩, ⟨_, rfl, rfl⟩, ⟨_, rfl, rfl⟩, ⟨_, rfl, rfl⟩, ⟨_, rfl, rfl⟩, ⟨_, rfl, rfl⟩, ⟨_, rfl, rfl⟩, ⟨_, rfl, rfl⟩, ⟨_, rfl, rfl⟩, ⟨_, rfl, rfl⟩, ⟨_, rfl, rfl⟩, ⟨_, rfl, rfl⟩, ⟨_, rfl, rfl⟩, ⟨_, rfl, rfl⟩, ⟨_, rfl, rfl⟩, ⟨_, rfl, rfl⟩, ⟨_, rfl, rfl⟩, ⟨_, rfl, rfl⟩, ⟨_, rfl, rfl⟩, ⟨_, rfl, rfl⟩, ⟨_, rfl, rfl⟩, ⟨_, rfl, rfl⟩, ⟨_, rfl, rfl⟩, ⟨_, rfl, rfl⟩, ⟨_, rfl, rfl⟩, ⟨_, rfl, rfl⟩, ⟨_, rfl, rfl⟩, ⟨_, rfl, rfl⟩, ⟨_, rfl, rfl⟩, ⟨_, rfl, rfl⟩, ⟨_, rfl, rfl⟩, rfl, rfl, rfl, rfl, rfl, rfl, rfl, rfl, rfl, rfl, trivial⟩
    case k_meth => intro P; exact ⟨⟨rfl, rfl, rfl⟩, ⟨rfl, rfl, rfl⟩, ⟨rfl, rfl, rfl⟩, ⟨rfl, rfl, rfl⟩, ⟨rfl, rfl, rfl⟩, ⟨rfl, rfl, rfl⟩, ⟨rfl, rfl, rfl⟩, ⟨rfl, rfl, rfl⟩, ⟨rfl, rfl, rfl⟩, ⟨rfl, rfl, rfl⟩, ⟨rfl, rfl, rfl⟩, trivial⟩
    case k_keep => intro P; exact ⟨rfl, rfl, rfl, rfl, rfl, rfl, rfl, rfl, rfl, rfl, rfl, rfl, rfl, rfl, rfl, rfl, rfl, rfl, rfl, rfl, rfl, rfl, rfl, rfl, rfl, rfl, rfl, rfl, rfl, rfl, rfl, rfl, rfl, rfl, rfl, rfl, rfl, rfl, rfl, rfl, rfl, rfl, rfl, rfl, trivial⟩
    case k_layout => exact COk.of (fun P => rfl) (fun P => rfl) (fun P => rfl) (fun P => rfl) (fun P => rfl) (fun P => ⟨⟨rfl, rfl⟩, ⟨rfl, rfl⟩, ⟨rfl, rfl⟩, ⟨rfl, rfl⟩, ⟨rfl, rfl⟩, trivial⟩)
    case k_lives => exact COk.of (fun P => rfl) (fun P => rfl) (fun P => rfl) (fun P => rfl) (fun P => rfl) (fun P => ⟨⟨rfl, rfl⟩, ⟨rfl, rfl⟩, ⟨rfl, rfl⟩, ⟨rfl, rfl⟩, trivial⟩)
    case k_yul => exact COk.of (fun P => rfl) (fun P => rfl) (fun P => rfl) (fun P => rfl) (fun P => rfl) (fun P => ⟨⟨rfl, rfl⟩, ⟨rfl, rfl⟩, ⟨rfl, rfl⟩, ⟨rfl, rfl⟩, ⟨rfl, rfl⟩, trivial⟩)
    case k_f_live_block => exact FOk.of (fun P => rfl) (fun P => rfl) (fun P s X => len2 (fun v0 v1 => BX.eq rfl rfl)) rfl rfl rfl (by decide) (by decide +kernel) (by decide +kernel)
    case k_f_live_expr => exact FOk.of (fun P => rfl) (fun P => rfl) (fun P s X => len2 (fun v0 v1 => BX.eq rfl rfl)) rfl rfl rfl (by decide) (by decide +kernel) (by decide +kernel)
    case k_f_live_statement => exact FOk.of (fun P => rfl) (fun P => rfl) (fun P s X => len2 (fun v0 v1 => BX.eq rfl rfl)) rfl rfl rfl (by decide) (by decide +kernel) (by decide +kernel)
    case k_f_number_of => exact FOk.of (fun P => rfl) (fun P => rfl) (fun P s X => len1 (fun v0 => BX.K X rfl rfl rfl rfl rfl rfl)) rfl rfl rfl (by decide) (by decide +kernel) (by decide +kernel)
    case k_f_name_of => exact FOk.of (fun P => rfl) (fun P => rfl) (fun P s X => len1 (fun v0 => BX.K X rfl rfl rfl rfl rfl rfl)) rfl rfl rfl (by decide) (by decide +kernel) (by decide +kernel)
    case k_f_call_of => exact FOk.of (fun P => rfl) (fun P => rfl) (fun P s X => len2 (fun v0 v1 => BX.K X rfl rfl rfl rfl rfl rfl)) rfl rfl rfl (by decide) (by decide +kernel) (by decide +kernel)
    case k_f_let_of => exact FOk.of (fun P => rfl) (fun P => rfl) (fun P s X => len2 (fun v0 v1 => BX.K X rfl rfl rfl rfl rfl rfl)) rfl rfl rfl (by decide) (by decide +kernel) (by decide +kernel)
    case k_f_assign_of => exact FOk.of (fun P => rfl) (fun P => rfl) (fun P s X => len2 (fun v0 v1 => BX.K X rfl rfl rfl rfl rfl rfl)) rfl rfl rfl (by decide) (by decide +kernel) (by decide +kernel)
    case k_f_expr_of => exact FOk.of (fun P => rfl) (fun P => rfl) (fun P s X => len1 (fun v0 => BX.K X rfl rfl rfl rfl rfl rfl)) rfl rfl rfl (by decide) (by decide +kernel) (by decide +kernel)
    case k_f_block_of => exact FOk.of (fun P => rfl) (fun P => rfl) (fun P s X => len1 (fun v0 => BX.K X rfl rfl rfl rfl rfl rfl)) rfl rfl rfl (by decide) (by decide +kernel) (by decide +kernel)
    case k_f_if_of => exact FOk.of (fun P => rfl) (fun P => rfl) (fun P s X => len2 (fun v0 v1 => BX.K X rfl rfl rfl rfl rfl rfl)) rfl rfl rfl (by decide) (by decide +kernel) (by decide +kernel)
    case k_f_case_of => exact FOk.of (fun P => rfl) (fun P => rfl) (fun P s X => len2 (fun v0 v1 => BX.K X rfl rfl rfl rfl rfl rfl)) rfl rfl rfl (by decide) (by decide +kernel) (by decide +kernel)
    case k_f_case_of3 => exact FOk.of (fun P => rfl) (fun P => rfl) (fun P s X => len3 (fun v0 v1 v2 => BX.K X rfl rfl rfl rfl rfl rfl)) rfl rfl rfl (by decide) (by decide +kernel) (by decide +kernel)
    case k_f_switch_of => exact FOk.of (fun P => rfl) (fun P => rfl) (fun P s X => len2 (fun v0 v1 => BX.K X rfl rfl rfl rfl rfl rfl)) rfl rfl rfl (by decide) (by decide +kernel) (by decide +kernel)
    case k_f_for_of => exact FOk.of (fun P => rfl) (fun P => rfl) (fun P s X => len4 (fun v0 v1 v2 v3 => BX.K X rfl rfl rfl rfl rfl rfl)) rfl rfl rfl (by decide) (by decide +kernel) (by decide +kernel)
    case k_f_draw => exact FOk.of (fun P => rfl) (fun P => rfl) (fun P s X => len2 (fun v0 v1 => BX.eq rfl rfl)) rfl rfl rfl (by decide) (by decide +kernel) (by decide +kernel)
    case k_f_twig => exact FOk.of (fun P => rfl) (fun P => rfl) (fun P s X => len3 (fun v0 v1 v2 => BX.eq rfl rfl)) rfl rfl rfl (by decide) (by decide +kernel) (by decide +kernel)
    case k_f_every => exact FOk.of (fun P => rfl) (fun P => rfl) (fun P s X => len1 (fun v0 => BX.eq rfl rfl)) rfl rfl rfl (by decide) (by decide +kernel) (by decide +kernel)
    case k_f_let => exact FOk.of (fun P => rfl) (fun P => rfl) (fun P s X => len3 (fun v0 v1 v2 => BX.eq rfl rfl)) rfl rfl rfl (by decide) (by decide +kernel) (by decide +kernel)
    case k_f_stat => exact FOk.of (fun P => rfl) (fun P => rfl) (fun P s X => len4 (fun v0 v1 v2 v3 => BX.eq rfl rfl)) rfl rfl rfl (by decide) (by decide +kernel) (by decide +kernel)
    case k_f_block => exact FOk.of (fun P => rfl) (fun P => rfl) (fun P s X => len4 (fun v0 v1 v2 v3 => BX.eq rfl rfl)) rfl rfl rfl (by decide) (by decide +kernel) (by decide +kernel)
    case k_f_stood => exact FOk.of (fun P => rfl) (fun P => rfl) (fun P s X => len2 (fun v0 v1 => BX.eq rfl rfl)) rfl rfl rfl (by decide) (by decide +kernel) (by decide +kernel)
    case k_f_rows => exact FOk.of (fun P => rfl) (fun P => rfl) (fun P s X => len2 (fun v0 v1 => BX.eq rfl rfl)) rfl rfl rfl (by decide) (by decide +kernel) (by decide +kernel)
    case k_f_inner => exact FOk.of (fun P => rfl) (fun P => rfl) (fun P s X => len1 (fun v0 => BX.eq rfl rfl)) rfl rfl rfl (by decide) (by decide +kernel) (by decide +kernel)
    case k_f_sound => exact FOk.of (fun P => rfl) (fun P => rfl) (fun P s X => len1 (fun v0 => BX.eq rfl rfl)) rfl rfl rfl (by decide) (by decide +kernel) (by decide +kernel)
    case k_f_letgo => exact FOk.of (fun P => rfl) (fun P => rfl) (fun P s X => len2 (fun v0 v1 => BX.eq rfl rfl)) rfl rfl rfl (by decide) (by decide +kernel) (by decide +kernel)
    case k_f_given => exact FOk.of (fun P => rfl) (fun P => rfl) (fun P s X => len2 (fun v0 v1 => BX.eq rfl rfl)) rfl rfl rfl (by decide) (by decide +kernel) (by decide +kernel)
    case k_f_placed => exact FOk.of (fun P => rfl) (fun P => rfl) (fun P s X => len3 (fun v0 v1 v2 => BX.eq rfl rfl)) rfl rfl rfl (by decide) (by decide +kernel) (by decide +kernel)
    case k_f_value => exact FOk.of (fun P => rfl) (fun P => rfl) (fun P s X => len2 (fun v0 v1 => BX.eq rfl rfl)) rfl rfl rfl (by decide) (by decide +kernel) (by decide +kernel)
    case k_f_set => exact FOk.of (fun P => rfl) (fun P => rfl) (fun P s X => len3 (fun v0 v1 v2 => BX.eq rfl rfl)) rfl rfl rfl (by decide) (by decide +kernel) (by decide +kernel)
    case k_f_done => exact FOk.of (fun P => rfl) (fun P => rfl) (fun P s X => len2 (fun v0 v1 => BX.eq rfl rfl)) rfl rfl rfl (by decide) (by decide +kernel) (by decide +kernel)
    case k_f_law => exact FOk.of (fun P => rfl) (fun P => rfl) (fun P s X => len1 (fun v0 => BX.eq rfl rfl)) rfl rfl rfl (by decide) (by decide +kernel) (by decide +kernel)
    case k_f_Linit => exact FOk.of (fun P => rfl) (fun P => rfl) (fun P s X => len2 (fun v0 v1 => BX.eq rfl rfl)) rfl rfl rfl (by decide) (by decide +kernel) (by decide +kernel)
    case k_f_Ldistance => exact FOk.of (fun P => rfl) (fun P => rfl) (fun P s X => len2 (fun v0 v1 => BX.eq rfl rfl)) rfl rfl rfl (by decide) (by decide +kernel) (by decide +kernel)
    case k_f_Lrelease => exact FOk.of (fun P => rfl) (fun P => rfl) (fun P s X => len2 (fun v0 v1 => BX.eq rfl rfl)) rfl rfl rfl (by decide) (by decide +kernel) (by decide +kernel)
    case k_f_Lroom => exact FOk.of (fun P => rfl) (fun P => rfl) (fun P s X => len1 (fun v0 => BX.eq rfl rfl)) rfl rfl rfl (by decide) (by decide +kernel) (by decide +kernel)
    case k_f_Ltake => exact FOk.of (fun P => rfl) (fun P => rfl) (fun P s X => len3 (fun v0 v1 v2 => BX.eq rfl rfl)) rfl rfl rfl (by decide) (by decide +kernel) (by decide +kernel)
    case k_f_Lkeep => exact FOk.of (fun P => rfl) (fun P => rfl) (fun P s X => len2 (fun v0 v1 => BX.eq rfl rfl)) rfl rfl rfl (by decide) (by decide +kernel) (by decide +kernel)
    case k_f_Vinit => exact FOk.of (fun P => rfl) (fun P => rfl) (fun P s X => len1 (fun v0 => BX.eq rfl rfl)) rfl rfl rfl (by decide) (by decide +kernel) (by decide +kernel)
    case k_f_Vmention => exact FOk.of (fun P => rfl) (fun P => rfl) (fun P s X => len2 (fun v0 v1 => BX.eq rfl rfl)) rfl rfl rfl (by decide) (by decide +kernel) (by decide +kernel)
    case k_f_Vtell => exact FOk.of (fun P => rfl) (fun P => rfl) (fun P s X => len2 (fun v0 v1 => BX.eq rfl rfl)) rfl rfl rfl (by decide) (by decide +kernel) (by decide +kernel)
    case k_f_Vclose => exact FOk.of (fun P => rfl) (fun P => rfl) (fun P s X => len2 (fun v0 v1 => BX.eq rfl rfl)) rfl rfl rfl (by decide) (by decide +kernel) (by decide +kernel)
    case k_f_Yinit => exact FOk.of (fun P => rfl) (fun P => rfl) (fun P s X => len6 (fun v0 v1 v2 v3 v4 v5 => BX.eq rfl rfl)) rfl rfl rfl (by decide) (by decide +kernel) (by decide +kernel)
  refine Ground.open G ?_
  intro T B D TE TW
  clear hdd hcd hD
  wrow_args hpre hlay hrd hwl hlo
  all_goals (first | refine callC_kw (enter_call ?_) | refine enter_call ?_)
  rename_i ns _ _ _ _ _ _ _ w4 vs _ hL _ _ _ hI _ hcond _
  have hfa : mg "law" = some (.ref 341) := mg_of KX T.g rfl
  have hfa2 : mg "law" = some (.ref fa) := hmg
  rw [hfa] at hfa2
  cases hfa2
  obtain ⟨q, loose, T'⟩ : ∃ q loose, TopRead q loose mg mb s₁.heap := ⟨_, _, topRead_of T⟩
  have L := lawOk (e := ⟨PySem.Challenge.rw_sf0013_01.row.prog, w, w.params, s₁.heap, q, loose, mg, mb, _, kf⟩) hL (ints_er hI) (by omega)
  refine codeAny_mono (L callerA s₁.heap.get? s₁ s₁ [.ref w4] ⟨KX, T'⟩ ⟨rfl, by decide, by decide⟩ (fun _ _ e => e) ⟨_, _, rfl⟩ ⟨fun _ _ e => e, (fun _ _ e => by cases e), (fun _ h => nomatch h), List.nodup_nil⟩ rfl) ?_
  intro r s' hr
  rcases r with e | (v | _ | _ | v)
  · exact hr.elim
  · exact hr.elim
  · exact hr.elim
  · exact hr.elim
  · obtain ⟨Z', H', hv, rh, h1, tk, rfl⟩ := hr
    have hv := er_bool_inv hv
    subst hv
    refine ⟨.inl ⟨_, .bool true, [], rfl, fun _ => rfl, .bool true, ?_, fun _ => ⟨List.nodup_nil, fun _ h => (nomatch h)⟩⟩, .of_keep rh.keep, rfl, .of_eq hg⟩
    exact postW_of (by wrow_shape) (by wtm_val) (by w_fin)
theorem PySem.Challenge.cw_sf0013_01_holds : PySem.Challenge.rw_sf0013_01.Holds :=
  Mine.top
