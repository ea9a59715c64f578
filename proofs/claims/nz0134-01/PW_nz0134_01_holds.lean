import PyProof.Rows.All
import Wide.All
import OpenK.AllK
import Wide.FinOn
import Lean
import PySem.Challenge.RW_nz0134_01
open PySem PySem.W PyProof.Rows PySem.Calls PySem.Spec
set_option Elab.async false
set_option maxRecDepth 100000
set_option maxHeartbeats 8000000
namespace Mine
open_top hd for PySem.Challenge.rw_nz0134_01
theorem bdO {v k : Int} (h : 0 ≤ v ∧ v < k) : -2 ^ 62 ≤ 1 + v := by omega
theorem bdP {v k : Int} (h : 0 ≤ v ∧ v < k) (e : decide (k ≤ 1000) = true) : 1 + v < 2 ^ 62 := by have := of_decide_eq_true e; omega
theorem bdO0 {v k : Int} (h : 0 ≤ v ∧ v < k) : -2 ^ 62 ≤ v := by omega
theorem bdP0 {v k : Int} (h : 0 ≤ v ∧ v < k) (e : decide (k ≤ 1000) = true) : v < 2 ^ 62 := by have := of_decide_eq_true e; omega
theorem bdV {v k : Int} (h : 0 ≤ v ∧ v < k) : 0 ≤ v := h.1
theorem bdS0 {s : Int} (h : 0 ≤ s ∧ s < 1000) : 0 ≤ s ∧ s < 10000 := by omega
theorem bdS1 {s : Int} (h : 0 ≤ s ∧ s < 1000) : 0 ≤ s + 1 ∧ s + 1 < 10000 := by omega
theorem bdS2 {s : Int} (h : 0 ≤ s ∧ s < 1000) : 0 ≤ s + 1 + 1 ∧ s + 1 + 1 < 10000 := by omega
theorem bdS3 {s : Int} (h : 0 ≤ s ∧ s < 1000) : 0 ≤ s + 1 + 1 + 1 ∧ s + 1 + 1 + 1 < 10000 := by omega
theorem bq {q B : Int} (h0 : 0 < q) (hc : q ≤ B ∨ q ≤ -B) (hB : 0 ≤ B) : q ≤ B := hc.elim id fun h => Int.le_trans h (by omega)
theorem bq1 {v k : Int} (hB : 0 ≤ v ∧ v < k) (e : decide (k ≤ 1000) = true) : 1 + v < 10000 := by have := of_decide_eq_true e; omega
theorem bq2 {q v k : Int} (h0 : 0 < q) (hc : q ≤ 1 + v ∨ q ≤ -(1 + v)) (hB : 0 ≤ v ∧ v < k) (e : decide (k ≤ 1000) = true) : q < 1000000000 := Int.lt_trans (Int.lt_of_le_of_lt (bq h0 hc (Int.add_nonneg (by decide) hB.1)) (bq1 hB e)) (by decide)
theorem bdQ {q B : Int} (h0 : 0 < q) (hc : q ≤ B ∨ q ≤ -B) (hB : 0 < B ∧ B ≤ 81) : -1000000000 < q ∧ q < 1000000000 := ⟨Int.lt_trans (by decide) h0, Int.lt_of_le_of_lt (Int.le_trans (bq h0 hc (Int.le_of_lt hB.1)) hB.2) (by decide)⟩
theorem bdQ2 {q v k : Int} (h0 : 0 < q) (hc : q ≤ 1 + v ∨ q ≤ -(1 + v)) (hB : 0 ≤ v ∧ v < k) (e : decide (k ≤ 1000) = true) : -1000000000 < q ∧ q < 1000000000 := ⟨Int.lt_trans (by decide) h0, bq2 h0 hc hB e⟩
theorem bdQ3 {q r B : Int} (hc : q ≤ r * 1 ∨ q ≤ -(r * 1)) (hc2 : r ≤ B ∨ r ≤ -B) (h0 : 0 < q) (hr : 0 < r) (hB : 0 < B ∧ B ≤ 81) : -1000000000 < q ∧ q < 1000000000 := by
  rw [Int.mul_one] at hc
  exact ⟨Int.lt_trans (by decide) h0, Int.lt_of_le_of_lt (Int.le_trans (bq h0 hc (Int.le_of_lt hr)) (Int.le_trans (bq hr hc2 (Int.le_of_lt hB.1)) hB.2)) (by decide)⟩
theorem bdQ4 {q B : Int} (h0 : 0 < q) (hc : q ≤ B ∨ q ≤ -B) (hB : 0 < B ∧ B ≤ 81) : 0 < q ∧ q < 10000 := ⟨h0, Int.lt_of_le_of_lt (Int.le_trans (bq h0 hc (Int.le_of_lt hB.1)) hB.2) (by decide)⟩
theorem bdQ5 {q v k : Int} (h0 : 0 < q) (hc : q ≤ 1 + v ∨ q ≤ -(1 + v)) (hB : 0 ≤ v ∧ v < k) (e : decide (k ≤ 1000) = true) : 0 < q ∧ q < 1000000000 := ⟨h0, bq2 h0 hc hB e⟩
theorem bdNA {q : Int} (h : -1000000000 < q ∧ q < 1000000000) : q.natAbs < 1073741824 := by omega
theorem bdU {L : Nat} : L ≤ L + 1 + 1 + 1 := by omega
theorem bdU2 {L : Nat} : L ≤ L + 1 + 1 := by omega
theorem rm0 {x k c : Nat} (h : x + k < c) : x < c := Nat.lt_of_le_of_lt (Nat.le_add_right _ _) h
theorem rm1 {x b k c : Nat} (h : x + k < c) (e : Nat.ble b k = true) : x + b < c := Nat.lt_of_le_of_lt (Nat.add_le_add_left (Nat.le_of_ble_eq_true e) _) h
theorem rm2 {x a b k c : Nat} (h : x + k < c) (e : Nat.ble (a + b) k = true) : x + a + b < c := by rw [Nat.add_assoc]; exact rm1 h e
theorem rm3 {x d a b k c : Nat} (h : x + k < c) (e : Nat.ble (d + a + b) k = true) : x + d + a + b < c := by rw [Nat.add_assoc, Nat.add_assoc, ← Nat.add_assoc d]; exact rm1 h e
theorem bdA {v k : Int} (h : 0 ≤ v ∧ v < k) : -2 ^ 64 < 1 + v := by omega
theorem bdB {v k : Int} (h : 0 ≤ v ∧ v < k) (e : decide (k ≤ 1000) = true) : 1 + v < 2 ^ 64 := by have := of_decide_eq_true e; omega
theorem bdC {v k : Int} (h : 0 ≤ v ∧ v < k) : 1 + v ≠ 0 := by omega
theorem bdD {v k : Int} (h : 0 ≤ v ∧ v < k) (e : decide (k ≤ 1000) = true) : -1000000000 < 1 + v ∧ 1 + v < 1000000000 := by have := of_decide_eq_true e; omega
theorem bdE {v k : Int} (h : 0 ≤ v ∧ v < k) : 0 < 1 + v := by omega
theorem bdF {v k : Int} (h : 0 ≤ v ∧ v < k) (e : decide (k ≤ 1000) = true) : 0 < 1 + v ∧ 1 + v < 10000 := by have := of_decide_eq_true e; omega
theorem bdG {v k c : Int} (h : 0 ≤ v ∧ v < k) (e : decide (-1000 ≤ k ∧ c ≤ 1000) = true) : -2 ^ 64 < v - c := by have := of_decide_eq_true e; omega
theorem bdH {v k c : Int} (h : 0 ≤ v ∧ v < k) (e : decide (k ≤ 1000 ∧ 0 ≤ c) = true) : v - c < 2 ^ 64 := by have := of_decide_eq_true e; omega
theorem bdI {v k : Int} (h : 0 ≤ v ∧ v < k) : -2 ^ 64 < v := by omega
theorem bdJ {v k : Int} (h : 0 ≤ v ∧ v < k) (e : decide (k ≤ 1000) = true) : v < 2 ^ 64 := by have := of_decide_eq_true e; omega
theorem bdK {q : Int} (h : 0 < q) : q ≠ 0 := by omega
theorem arm0 {t z : Prop} (h : t ∧ z) : t := h.1
theorem arm1 {t z a9 : Prop} (h : a9 ∧ t ∧ z) : t := h.2.1
theorem arm2 {t z a9 b9 : Prop} (h : a9 ∧ b9 ∧ t ∧ z) : t := h.2.2.1
theorem arm3 {t z a9 b9 c9 : Prop} (h : a9 ∧ b9 ∧ c9 ∧ t ∧ z) : t := h.2.2.2.1
theorem arm4 {t z a9 b9 c9 d9 : Prop} (h : a9 ∧ b9 ∧ c9 ∧ d9 ∧ t ∧ z) : t := h.2.2.2.2.1
theorem arm5 {t z a9 b9 c9 d9 e9 : Prop} (h : a9 ∧ b9 ∧ c9 ∧ d9 ∧ e9 ∧ t ∧ z) : t := h.2.2.2.2.2.1
theorem arm6 {t z a9 b9 c9 d9 e9 f9 : Prop} (h : a9 ∧ b9 ∧ c9 ∧ d9 ∧ e9 ∧ f9 ∧ t ∧ z) : t := h.2.2.2.2.2.2.1
theorem arm7 {t z a9 b9 c9 d9 e9 f9 g9 : Prop} (h : a9 ∧ b9 ∧ c9 ∧ d9 ∧ e9 ∧ f9 ∧ g9 ∧ t ∧ z) : t := h.2.2.2.2.2.2.2.1
theorem arm8 {t z a9 b9 c9 d9 e9 f9 g9 h9 : Prop} (h : a9 ∧ b9 ∧ c9 ∧ d9 ∧ e9 ∧ f9 ∧ g9 ∧ h9 ∧ t ∧ z) : t := h.2.2.2.2.2.2.2.2.1
theorem arm9 {t z a9 b9 c9 d9 e9 f9 g9 h9 i9 : Prop} (h : a9 ∧ b9 ∧ c9 ∧ d9 ∧ e9 ∧ f9 ∧ g9 ∧ h9 ∧ i9 ∧ t ∧ z) : t := h.2.2.2.2.2.2.2.2.2.1
theorem arm10 {t z a9 b9 c9 d9 e9 f9 g9 h9 i9 j9 : Prop} (h : a9 ∧ b9 ∧ c9 ∧ d9 ∧ e9 ∧ f9 ∧ g9 ∧ h9 ∧ i9 ∧ j9 ∧ t ∧ z) : t := h.2.2.2.2.2.2.2.2.2.2.1
theorem arm11 {t z a9 b9 c9 d9 e9 f9 g9 h9 i9 j9 k9 : Prop} (h : a9 ∧ b9 ∧ c9 ∧ d9 ∧ e9 ∧ f9 ∧ g9 ∧ h9 ∧ i9 ∧ j9 ∧ k9 ∧ t ∧ z) : t := h.2.2.2.2.2.2.2.2.2.2.2.1
theorem arm12 {t z a9 b9 c9 d9 e9 f9 g9 h9 i9 j9 k9 l9 : Prop} (h : a9 ∧ b9 ∧ c9 ∧ d9 ∧ e9 ∧ f9 ∧ g9 ∧ h9 ∧ i9 ∧ j9 ∧ k9 ∧ l9 ∧ t ∧ z) : t := h.2.2.2.2.2.2.2.2.2.2.2.2.1
theorem arm13 {t z a9 b9 c9 d9 e9 f9 g9 h9 i9 j9 k9 l9 m9 : Prop} (h : a9 ∧ b9 ∧ c9 ∧ d9 ∧ e9 ∧ f9 ∧ g9 ∧ h9 ∧ i9 ∧ j9 ∧ k9 ∧ l9 ∧ m9 ∧ t ∧ z) : t := h.2.2.2.2.2.2.2.2.2.2.2.2.2.1
theorem bdX2 {a m c k : Nat} (h : a ≤ m) (e : Nat.ble (m + c) k = true) : a + c ≤ k := Nat.le_trans (Nat.add_le_add_right h c) (Nat.le_of_ble_eq_true e)
theorem bdX3 {a m c k : Nat} (h : a ≤ m) (e : Nat.ble (m + m + c) k = true) : a + a + c ≤ k := Nat.le_trans (Nat.add_le_add_right (Nat.add_le_add h h) c) (Nat.le_of_ble_eq_true e)
theorem bdX4 {a m k : Nat} (h : a ≤ m) (e : Nat.ble (m + m) k = true) : a + a ≤ k := Nat.le_trans (Nat.add_le_add h h) (Nat.le_of_ble_eq_true e)
theorem bdX5 {a m k : Nat} (h : a ≤ m) (e : Nat.blt m k = true) : a < k := Nat.lt_of_le_of_lt h (Nat.le_of_ble_eq_true e)
theorem bdT0 {s : Int} (h : 0 ≤ s ∧ s < 2000) : 0 ≤ s ∧ s < 10000 := ⟨h.1, Int.lt_trans h.2 (by decide)⟩
theorem bdT1 {s : Int} (h : 0 ≤ s ∧ s < 2000) : 0 ≤ s + 1 ∧ s + 1 < 10000 := by omega
theorem bdR1 {i n : Nat} (h : i < n) (e : Nat.ble n 1000 = true) : -31 + (i : Int) < 2 ^ 64 := by have := Nat.le_of_ble_eq_true e; omega
theorem bdR2 {i : Nat} : -2 ^ 64 < -31 + (i : Int) := by omega
theorem bdW {a m k : Nat} (h : a ≤ m) (e : Nat.ble m k = true) : a ≤ k := Nat.le_trans h (Nat.le_of_ble_eq_true e)
local macro_rules | `(tactic| k_lt $_:ident) => `(tactic| k_extra "lt")
local macro_rules | `(tactic| ktr_room) => `(tactic| k_extra "room")
local macro_rules | `(tactic| ktr_units) => `(tactic| k_extra "room")
local macro_rules | `(tactic| units_room) => `(tactic| k_extra "room")
local macro_rules | `(tactic| mod_arm) => `(tactic| k_extra "arm")
local macro_rules | `(tactic| k_ne) => `(tactic| k_extra "ne")
local macro_rules | `(tactic| k_all) => `(tactic| k_extra "all")
local macro_rules | `(tactic| omega) => `(tactic| k_extra "om")
local macro_rules | `(tactic| walk_at $s:str) => `(tactic| k_extra $s)
/-- a pair of ints, as the ledger bears it -/
abbrev prO (p : Int) (t : Tok) (q : Int) (u : Tok) : Obj := { cls := .type "tuple", data := .seq #[.int p t, .int q u] }
def Tell (w : World) (dep : Nat) (f : Addr) (vs : List Value) (news : List (Addr × Obj)) (R : Value → List (Addr × Obj) → Prop) : Prop :=
  ∀ (mean : ExcName → Option Value) (mg mb : Str → Option Value) (dp un : Nat) (gd : Option (List Code)) (cn : Str) (cs : Scope) (a : Addr) (ccd : Value) (cl : List (Str × Addr)) (outer : List Env) (A₀ : Around) (base h₀ : Heap) (L : Addr) (m : Str → Option Value) (s : Shared) (Q E : Value → Shared → Prop),
    Below A₀ base outer h₀ → Fr h₀ L s.heap m → (hd.heap_39 w.params).In h₀ → News h₀ L s.heap news → Top hd.view_39 (looseW hd.view_39 []) mean mg mb h₀ → cs.kind = .function → dp + dep < recursionLimit → un + 20 * dep < cLine →
    (∀ r nx h' tk', Fr h₀ L h' m → News h₀ L h' nx → R r nx → Q r { s with heap := h', toks := tk' }) →
    wpAny (model PySem.Challenge.rw_nz0134_01.row.prog w) (ktrTop dp un gd cn cs L a ccd cl outer) (call (.ref f) vs) Q E s

section
variable {w : World} {dep : Nat} {f : Addr} {vs : List Value} {news : List (Addr × Obj)} {mean : ExcName → Option Value} {mg mb : Str → Option Value} {dp un : Nat} {gd : Option (List Code)} {cn : Str} {cs : Scope} {a : Addr} {ccd : Value} {cl : List (Str × Addr)} {outer : List Env} {A₀ : Around} {base h₀ : Heap} {L : Addr} {m : Str → Option Value} {s : Shared} {Q E : Value → Shared → Prop}
/-- what a call hands back: an int -/
theorem useI {x : Int} (h : Tell w dep f vs news (fun r nx => (∃ t, r = .int x t) ∧ nx = news))
    (p1 : Below A₀ base outer h₀) (p2 : Fr h₀ L s.heap m) (p3 : (hd.heap_39 w.params).In h₀) (p4 : News h₀ L s.heap news) (p5 : Top hd.view_39 (looseW hd.view_39 []) mean mg mb h₀) (p6 : cs.kind = .function) (p7 : dp + dep < recursionLimit) (p8 : un + 20 * dep < cLine)
    (ret : ∀ t h' tk', Fr h₀ L h' m → News h₀ L h' news → Q (.int x t) { s with heap := h', toks := tk' }) :
    wpAny (model PySem.Challenge.rw_nz0134_01.row.prog w) (ktrTop dp un gd cn cs L a ccd cl outer) (call (.ref f) vs) Q E s :=
  h mean mg mb dp un gd cn cs a ccd cl outer A₀ base h₀ L m s Q E p1 p2 p3 p4 p5 p6 p7 p8 fun r nx h' tk' F' N' hr => by
    obtain ⟨⟨t, rfl⟩, rfl⟩ := hr
    exact ret t h' tk' F' N'
/-- a bool -/
theorem useB {x : Bool} (h : Tell w dep f vs news (fun r nx => r = .bool x ∧ nx = news))
    (p1 : Below A₀ base outer h₀) (p2 : Fr h₀ L s.heap m) (p3 : (hd.heap_39 w.params).In h₀) (p4 : News h₀ L s.heap news) (p5 : Top hd.view_39 (looseW hd.view_39 []) mean mg mb h₀) (p6 : cs.kind = .function) (p7 : dp + dep < recursionLimit) (p8 : un + 20 * dep < cLine)
    (ret : ∀ h' tk', Fr h₀ L h' m → News h₀ L h' news → Q (.bool x) { s with heap := h', toks := tk' }) :
    wpAny (model PySem.Challenge.rw_nz0134_01.row.prog w) (ktrTop dp un gd cn cs L a ccd cl outer) (call (.ref f) vs) Q E s :=
  h mean mg mb dp un gd cn cs a ccd cl outer A₀ base h₀ L m s Q E p1 p2 p3 p4 p5 p6 p7 p8 fun r nx h' tk' F' N' hr => by
    obtain ⟨rfl, rfl⟩ := hr
    exact ret h' tk' F' N'
/-- a new pair of ints of which P holds -/
theorem useT {P : Int → Int → Prop} (h : Tell w dep f vs news (fun r nx => ∃ (D : Addr) (p q : Int) (t u : Tok), P p q ∧ r = .ref D ∧ nx = (D, (prO p t q u)) :: news ∧ AllLt D news))
    (p1 : Below A₀ base outer h₀) (p2 : Fr h₀ L s.heap m) (p3 : (hd.heap_39 w.params).In h₀) (p4 : News h₀ L s.heap news) (p5 : Top hd.view_39 (looseW hd.view_39 []) mean mg mb h₀) (p6 : cs.kind = .function) (p7 : dp + dep < recursionLimit) (p8 : un + 20 * dep < cLine)
    (ret : ∀ D p q t u h' tk', P p q → Fr h₀ L h' m → News h₀ L h' ((D, (prO p t q u)) :: news) → AllLt D news → Q (.ref D) { s with heap := h', toks := tk' }) :
    wpAny (model PySem.Challenge.rw_nz0134_01.row.prog w) (ktrTop dp un gd cn cs L a ccd cl outer) (call (.ref f) vs) Q E s :=
  h mean mg mb dp un gd cn cs a ccd cl outer A₀ base h₀ L m s Q E p1 p2 p3 p4 p5 p6 p7 p8 fun r nx h' tk' F' N' hr => by
    obtain ⟨D, p, q, t, u, hp, rfl, rfl, hl⟩ := hr
    exact ret D p q t u h' tk' hp F' N' hl
/-- a new pair of these two ints -/
theorem useTE {x y : Int} (h : Tell w dep f vs news (fun r nx => ∃ (D : Addr) (p q : Int) (t u : Tok), (p = x ∧ q = y) ∧ r = .ref D ∧ nx = (D, (prO p t q u)) :: news ∧ AllLt D news))
    (p1 : Below A₀ base outer h₀) (p2 : Fr h₀ L s.heap m) (p3 : (hd.heap_39 w.params).In h₀) (p4 : News h₀ L s.heap news) (p5 : Top hd.view_39 (looseW hd.view_39 []) mean mg mb h₀) (p6 : cs.kind = .function) (p7 : dp + dep < recursionLimit) (p8 : un + 20 * dep < cLine)
    (ret : ∀ D t u h' tk', Fr h₀ L h' m → News h₀ L h' ((D, (prO x t y u)) :: news) → AllLt D news → Q (.ref D) { s with heap := h', toks := tk' }) :
    wpAny (model PySem.Challenge.rw_nz0134_01.row.prog w) (ktrTop dp un gd cn cs L a ccd cl outer) (call (.ref f) vs) Q E s :=
  h mean mg mb dp un gd cn cs a ccd cl outer A₀ base h₀ L m s Q E p1 p2 p3 p4 p5 p6 p7 p8 fun r nx h' tk' F' N' hr => by
    obtain ⟨D, p, q, t, u, ⟨rfl, rfl⟩, rfl, rfl, hl⟩ := hr
    exact ret D t u h' tk' F' N' hl
theorem News.dup {h : Heap} {q : Addr × Obj} (N : News h₀ L h news) (hq : q ∈ news) : News h₀ L h (q :: news) := fun p hp => by
  rcases List.mem_cons.mp hp with rfl | hp
  · exact N _ hq
  · exact N _ hp
theorem endI {news nw : List (Addr × Obj)} {h₀ h' : Heap} {x y : Int} {t : Tok} {tk' : Nat} (hret : ∀ r nx h' tk', Fr h₀ L h' m → News h₀ L h' nx → (fun r nx => (∃ t, r = Value.int x t) ∧ nx = news) r nx → Q r { s with heap := h', toks := tk' })
    (F : Fr h₀ L h' m) (N : News h₀ L h' nw) (sub : ∀ p ∈ news, p ∈ nw) (e : y = x) : Q (.int y t) { s with heap := h', toks := tk' } :=
  hret _ _ _ _ F (fun p hp => N p (sub p hp)) ⟨⟨t, by rw [e]⟩, rfl⟩
theorem endB {news nw : List (Addr × Obj)} {h₀ h' : Heap} {x y : Bool} {tk' : Nat} (hret : ∀ r nx h' tk', Fr h₀ L h' m → News h₀ L h' nx → (fun r nx => r = Value.bool x ∧ nx = news) r nx → Q r { s with heap := h', toks := tk' })
    (F : Fr h₀ L h' m) (N : News h₀ L h' nw) (sub : ∀ p ∈ news, p ∈ nw) (e : y = x) : Q (.bool y) { s with heap := h', toks := tk' } :=
  hret _ _ _ _ F (fun p hp => N p (sub p hp)) ⟨by rw [e], rfl⟩
theorem endT {P : Int → Int → Prop} {news nw : List (Addr × Obj)} {h₀ h' : Heap} {D : Addr} {p q : Int} {t u : Tok} {tk' : Nat} (hret : ∀ r nx h' tk', Fr h₀ L h' m → News h₀ L h' nx → (fun r nx => ∃ (D : Addr) (p q : Int) (t u : Tok), P p q ∧ r = Value.ref D ∧ nx = (D, (prO p t q u)) :: news ∧ AllLt D news) r nx → Q r { s with heap := h', toks := tk' })
    (F : Fr h₀ L h' m) (N : News h₀ L h' nw) (hm : (D, (prO p t q u)) ∈ nw) (sub : ∀ p ∈ news, p ∈ nw) (hl : AllLt D news) (e : P p q) : Q (.ref D) { s with heap := h', toks := tk' } :=
  hret _ _ _ _ F (fun z hz => by
    rcases List.mem_cons.mp hz with rfl | hz
    · exact N _ hm
    · exact N z (sub z hz)) ⟨D, p, q, t, u, e, rfl, rfl, hl⟩
theorem ne_of_allLt {d e : Nat} : ∀ {l : List (Addr × Obj)}, AllLt d l → d ≤ e → ∀ p ∈ l, p.1 ≠ e
  | [], _, _, _, hp => (nomatch hp)
  | q :: r, h, hde, p, hp => by
    rcases List.mem_cons.mp hp with rfl | hp
    · exact Nat.ne_of_lt (Nat.lt_of_lt_of_le h.1 hde)
    · exact ne_of_allLt h.2 hde p hp
/-- a law's end: True, the tape turned on -/
theorem endL {TP : Addr} {o' : Obj} {R : Obj → Int → Prop} {spot' : Int} {news nw : List (Addr × Obj)} {h₀ h' : Heap} {tk' : Nat} (hret : ∀ r nx h' tk', Fr h₀ L h' m → News h₀ L h' nx → (fun r nx => ∃ (o' : Obj) (spot' : Int), r = Value.bool true ∧ nx = (TP, o') :: news ∧ R o' spot') r nx → Q r { s with heap := h', toks := tk' })
    (F : Fr h₀ L h' m) (N : News h₀ L h' nw) (hm : (TP, o') ∈ nw) (sub : ∀ p ∈ news, p ∈ nw) (hR : R o' spot') : Q (.bool true) { s with heap := h', toks := tk' } :=
  hret _ _ _ _ F (fun p hp => by
    rcases List.mem_cons.mp hp with rfl | hp
    · exact N _ hm
    · exact N p (sub p hp)) ⟨o', spot', rfl, rfl, hR⟩
theorem News.tl {h : Heap} {q : Addr × Obj} (N : News h₀ L h (q :: news)) : News h₀ L h news := fun p hp => N p (.tail _ hp)
end
/-- what stands behind a statement, by one name -/
def Then (M : Model) (A : Around) (rest : List Stmt) (env : Env) (Q : Flow → Shared → Prop) (E : Value → Shared → Prop) (Q9 : Flow → Shared → Prop) : Prop :=
  ∀ f s', (match f with | .next => wpAny M A (execs rest env) Q E s' | f => Q f s') → Q9 f s'
section
variable {M : Model} {A : Around} {st : Stmt} {rest : List Stmt} {env : Env} {Q Q9 : Flow → Shared → Prop} {E : Value → Shared → Prop} {s : Shared} {v : Value}
theorem execs_cut (h : ∀ Q9, Then M A rest env Q E Q9 → wpAny M A (exec st env) Q9 E s) : wpAny M A (execs (st :: rest) env) Q E s := wpAny_execs_cons (h _ fun _ _ x => x)
theorem Then.next (h : Then M A rest env Q E Q9) (k : wpAny M A (execs rest env) Q E s) : Q9 .next s := h .next s k
theorem Then.ret (h : Then M A rest env Q E Q9) (k : Q (.ret v) s) : Q9 (.ret v) s := h (.ret v) s k
theorem Then.brk (h : Then M A rest env Q E Q9) (k : Q .brk s) : Q9 .brk s := h .brk s k
theorem Then.cont (h : Then M A rest env Q E Q9) (k : Q .cont s) : Q9 .cont s := h .cont s k
end
section
variable {q : Addr × Obj} {l nw : List (Addr × Obj)} {I : Addr}
theorem subC (h1 : q ∈ nw) (h2 : ∀ p ∈ l, p ∈ nw) : ∀ p ∈ q :: l, p ∈ nw := fun p hp => (List.mem_cons.mp hp).elim (fun e => e ▸ h1) (h2 p)
theorem offM {l0 : List (Addr × Obj)} (hn : ∀ p ∈ l0, p.1 ≠ I) (h1 : q ∈ l0) (h2 : ∀ p ∈ l, p.1 ≠ I) : ∀ p ∈ q :: l, p.1 ≠ I := fun p hp => (List.mem_cons.mp hp).elim (fun e => e ▸ hn q h1) (h2 p)
theorem offCons (h1 : @Ne Nat q.1 I) (h2 : ∀ p ∈ l, p.1 ≠ I) : ∀ p ∈ q :: l, p.1 ≠ I := fun p hp => (List.mem_cons.mp hp).elim (fun e => e ▸ h1) (h2 p)
end
section
variable {h₀ h : Heap} {L : Addr} {a b c d : Addr × Obj} {l : List (Addr × Obj)}
theorem newsSub {l' : List (Addr × Obj)} (N : News h₀ L h l) (hs : ∀ p ∈ l', p ∈ l) : News h₀ L h l' := fun p hp => N p (hs p hp)
theorem News.drop2 (N : News h₀ L h (a :: b :: l)) : News h₀ L h (a :: l) := newsSub N (subC (.head _) fun _ hp => .tail _ (.tail _ hp))
theorem News.drop3 (N : News h₀ L h (a :: b :: c :: l)) : News h₀ L h (a :: b :: l) := newsSub N (subC (.head _) (subC (.tail _ (.head _)) fun _ hp => .tail _ (.tail _ (.tail _ hp))))
end
section
variable {h₀ h : Heap} {L : Addr} {a b c d e f g q : Addr × Obj} {l : List (Addr × Obj)}
/-- the ledger's tail by one name: an entry c that is wanted again, and the rest -/
theorem hide1 (N : News h₀ L h (a :: c :: d :: l)) : ∃ nw, c ∈ nw ∧ (∀ p ∈ l, p ∈ nw) ∧ News h₀ L h (a :: nw) := ⟨c :: d :: l, .head _, fun _ hp => .tail _ (.tail _ hp), N⟩
theorem hide2 (N : News h₀ L h (a :: b :: c :: d :: l)) : ∃ nw, c ∈ nw ∧ (∀ p ∈ l, p ∈ nw) ∧ News h₀ L h (a :: b :: nw) := ⟨c :: d :: l, .head _, fun _ hp => .tail _ (.tail _ hp), N⟩
theorem hide3 (N : News h₀ L h (a :: b :: e :: c :: d :: l)) : ∃ nw, c ∈ nw ∧ (∀ p ∈ l, p ∈ nw) ∧ News h₀ L h (a :: b :: e :: nw) := ⟨c :: d :: l, .head _, fun _ hp => .tail _ (.tail _ hp), N⟩
theorem hide1A {k : Nat} (N : News h₀ L h (a :: c :: d :: l)) (hA : AllLt k (c :: d :: l)) : ∃ nw, c ∈ nw ∧ (∀ p ∈ l, p ∈ nw) ∧ AllLt k nw ∧ News h₀ L h (a :: nw) := ⟨c :: d :: l, .head _, fun _ hp => .tail _ (.tail _ hp), hA, N⟩
theorem hide2A {k : Nat} (N : News h₀ L h (a :: b :: c :: d :: l)) (hA : AllLt k (c :: d :: l)) : ∃ nw, c ∈ nw ∧ (∀ p ∈ l, p ∈ nw) ∧ AllLt k nw ∧ News h₀ L h (a :: b :: nw) := ⟨c :: d :: l, .head _, fun _ hp => .tail _ (.tail _ hp), hA, N⟩
theorem hide5A {k : Nat} (N : News h₀ L h (a :: b :: e :: f :: g :: c :: d :: l)) (hA : AllLt k (c :: d :: l)) : ∃ nw, c ∈ nw ∧ (∀ p ∈ l, p ∈ nw) ∧ AllLt k nw ∧ News h₀ L h (a :: b :: e :: f :: g :: nw) := ⟨c :: d :: l, .head _, fun _ hp => .tail _ (.tail _ hp), hA, N⟩
end
/-- the surroundings by one name -/
theorem letA {α : Type} {M : Model} {A : Around} {t : Sem α} {Q : α → Shared → Prop} {E : Value → Shared → Prop} {s : Shared} (h : let A9 := A; wpAny M A9 t Q E s) : wpAny M A t Q E s := h
theorem letE {M : Model} {A : Around} {body : List Stmt} {env : Env} {Q : Flow → Shared → Prop} {E : Value → Shared → Prop} {s : Shared} (h : let e9 := env; wpAny M A (execs body e9) Q E s) : wpAny M A (execs body env) Q E s := h
theorem lt3' : ∀ i, i < 3 → i = 0 ∨ i = 1 ∨ i = 2 := by decide
theorem lt4' : ∀ i, i < 4 → i = 0 ∨ i = 1 ∨ i = 2 ∨ i = 3 := by decide
theorem lt3 {i : Nat} (h : i < 3) : i = 0 ∨ i = 1 ∨ i = 2 := lt3' i h
theorem lt4 {i : Nat} (h : i < 4) : i = 0 ∨ i = 1 ∨ i = 2 ∨ i = 3 := lt4' i h
theorem ik {i k n : Nat} (e : i + (k + 1) = n) : i + 1 + k = n := by (first | lia | omega)
theorem il {i k n : Nat} (e : i + (k + 1) = n) : i < n := by (first | lia | omega)
theorem pk1 {i k n : Nat} (h : i + k = n + 1) (hk : 0 < k) : i + 1 + (k - 1) = n + 1 := by rw [Nat.add_assoc, Nat.add_sub_cancel' hk]; exact h
theorem pk2 {i k n : Nat} (h : i + k = n + 1) (hin : i < n) : 0 < k - 1 := Nat.sub_pos_of_lt (Nat.lt_of_add_lt_add_left (show i + 1 < i + k from h ▸ Nat.succ_lt_succ hin))
theorem pk3 {i k n : Nat} (h : i + k = n + 1) (hk : 0 < k) (hn : ¬ i < n) : i = n := by (first | lia | omega)
/-- what a test leaves: the frame and the ledger as they were, and R of its value -/
def KeptFN {α : Type} (h₀ : Heap) (L : Addr) (m : Str → Option Value) (news : List (Addr × Obj)) (s : Shared) (R : α → Prop) (b : α) (s₂ : Shared) : Prop :=
  ∃ h' tk', s₂ = { s with heap := h', toks := tk' } ∧ Fr h₀ L h' m ∧ News h₀ L h' news ∧ R b
theorem KeptFN.intro {α : Type} {h₀ h' : Heap} {L : Addr} {m : Str → Option Value} {news : List (Addr × Obj)} {s : Shared} {R : α → Prop} {b : α} {tk' : Nat} (F : Fr h₀ L h' m) (N : News h₀ L h' news) (hr : R b) : KeptFN h₀ L m news s R b { s with heap := h', toks := tk' } := ⟨h', tk', rfl, F, N, hr⟩
theorem mono_FN {α : Type} {M : Model} {A : Around} {t : Sem α} {Q : α → Shared → Prop} {E : Value → Shared → Prop} {s : Shared} {h₀ : Heap} {L : Addr} {m : Str → Option Value} {news : List (Addr × Obj)} (R : α → Prop) (_F : Fr h₀ L s.heap m) (_N : News h₀ L s.heap news)
    (h : wpAny M A t (KeptFN h₀ L m news s R) E s)
    (k : ∀ b h' tk', R b → Fr h₀ L h' m → News h₀ L h' news → Q b { s with heap := h', toks := tk' }) : wpAny M A t Q E s :=
  wpAny_mono h (fun b s₂ q => q.elim fun h' q => q.elim fun tk' q => q.1.symm ▸ k b h' tk' q.2.2.2 q.2.1 q.2.2.1) (fun _ _ e => e)
theorem toN {M l : Int} (h : l + 1 ≤ M) : (M - (l + 1)).toNat < (M - l).toNat := (Int.toNat_lt_toNat (by (first | lia | omega))).mpr (by (first | lia | omega))
theorem le_abs {q b : Int} (h : q ≤ b.natAbs) : q ≤ b ∨ q ≤ -b := by
  rcases Int.natAbs_eq b with e | e
  · exact .inl (by rw [e]; exact h)
  · exact .inr (by (first | lia | omega))
theorem frAs {h₀ h : Heap} {L : Addr} {m : Str → Option Value} (m' : Str → Option Value) (F : Fr h₀ L h m) (e : m = m') : Fr h₀ L h m' := e ▸ F
section
open LCg LCt
variable {prog : Program} {w : World} {A : Around} {E : Value → Shared → Prop} {s : Shared} {h₀ : Heap} {L : Addr} {m : Str → Option Value} {env : Env}
theorem compEnd_mono {s₁ s₂ : Shared} {I C D : Addr} {oI oC oD : Obj} {S : List (Addr × Obj) → Prop} {rest rest' : Value → List (Addr × Obj) → Prop} {y : Value}
    (h : CompEnd h₀ L m s₁ I oI C oC D oD S rest y s₂) (k : ∀ y nx, rest y nx → rest' y nx) : CompEnd h₀ L m s₁ I oI C oC D oD S rest' y s₂ := by
  obtain ⟨h', tk, nx, e, F, N, o, hS, r⟩ := h
  exact ⟨h', tk, nx, e, F, N, o, hS, k y nx r⟩
theorem rest_ind {elt : Expr} {x : Str} {scope : Scope} {cl : List (Str × Addr)} {S : List (Addr × Obj) → Prop} {P : Nat → Value → Prop} {Fin : List Value → List (Addr × Obj) → Prop} {n : Nat} (J : Nat → List Value → List (Addr × Obj) → Prop)
    (step : ∀ i ys news v I oI C oC D m₂ h tk (E' : Value → Shared → Prop), i < n → J i ys news → P i v → NsObj oC m₂ → m₂ x = some v → Fr h₀ L h m → News h₀ L h ((I, oI) :: (C, oC) :: (D, lst ys) :: news) → Off3 I C D news → ((@Ne Nat I C) ∧ (@Ne Nat I D) ∧ (@Ne Nat C D)) →
      wpAny (model prog w) A (eval elt (compEnvC scope cl C env)) (CompEnd h₀ L m { s with heap := h, toks := tk } I oI C oC D (lst ys) S (fun y news' => J (i + 1) (ys ++ [y]) news')) E' { s with heap := h, toks := tk })
    (fin : ∀ ys news, J n ys news → Fin ys news) : ∀ k i ys news, i + k = n → J i ys news → CompRest prog w A h₀ L m env elt x scope cl s S P Fin k i ys news
  | 0, i, ys, news, e, hJ => fin ys news (by rw [← e]; exact hJ)
  | k + 1, i, ys, news, e, hJ => by
    refine CompRest.succ fun v I oI C oC D m₂ h tk E' hP hC hx F N off ne => ?_
    refine wpAny_mono (step i ys news v I oI C oC D m₂ h tk E' (il e) hJ hP hC hx F N off ne) (fun y s₂ hE => compEnd_mono hE fun y nx hJ' => ?_) fun _ _ z => z
    exact rest_ind J step fin k (i + 1) _ nx (ik e) hJ'
theorem restT_ind {ct elt : Expr} {x : Str} {scope : Scope} {cl : List (Str × Addr)} {S : List (Addr × Obj) → Prop} {P : Nat → Value → Prop} {Fin : List Value → List (Addr × Obj) → Prop} {n : Nat} (J : Nat → List Value → List (Addr × Obj) → Prop)
    (step : ∀ i ys news v I oI C oC D m₂ h tk (E' : Value → Shared → Prop), i < n → J i ys news → P i v → NsObj oC m₂ → m₂ x = some v → Fr h₀ L h m → News h₀ L h ((I, oI) :: (C, oC) :: (D, lst ys) :: news) → Off3 I C D news → ((@Ne Nat I C) ∧ (@Ne Nat I D) ∧ (@Ne Nat C D)) →
      wpAny (model prog w) A (isTrue ct (compEnvC scope cl C env) (eval ct (compEnvC scope cl C env))) (fun ok s' => if ok = true then
        wpAny (model prog w) A (eval elt (compEnvC scope cl C env)) (CompEnd h₀ L m { s with heap := h, toks := tk } I oI C oC D (lst ys) S (fun y news' => J (i + 1) (ys ++ [y]) news')) E' s'
        else CompEnd h₀ L m { s with heap := h, toks := tk } I oI C oC D (lst ys) S (fun _ news' => J (i + 1) ys news') Value.none s') E' { s with heap := h, toks := tk })
    (fin : ∀ ys news, J n ys news → Fin ys news) : ∀ k i ys news, i + k = n → J i ys news → CompRestT prog w A h₀ L m env ct elt x scope cl s S P Fin k i ys news
  | 0, i, ys, news, e, hJ => fin ys news (by rw [← e]; exact hJ)
  | k + 1, i, ys, news, e, hJ => by
    refine CompRestT.succ fun v I oI C oC D m₂ h tk E' hP hC hx F N off ne => ?_
    refine wpAny_mono (step i ys news v I oI C oC D m₂ h tk E' (il e) hJ hP hC hx F N off ne) (fun ok s₂ hE => ?_) fun _ _ z => z
    cases ok with
    | true =>
      simp only [if_true] at hE ⊢
      exact wpAny_mono hE (fun y s₃ hE => compEnd_mono hE fun y nx hJ' => restT_ind J step fin k (i + 1) _ nx (ik e) hJ') fun _ _ z => z
    | false =>
      simp only [Bool.false_eq_true, if_false] at hE ⊢
      exact compEnd_mono hE fun y nx hJ' => restT_ind J step fin k (i + 1) _ nx (ik e) hJ'
theorem restP_ind {elt : Expr} {x x₂ : Str} {scope : Scope} {cl : List (Str × Addr)} {S : List (Addr × Obj) → Prop} {P : Nat → Value → Prop} {Fin : List Value → List (Addr × Obj) → Prop} {n : Nat} (J : Nat → List Value → List (Addr × Obj) → Prop)
    (step : ∀ i ys news v, i < n → J i ys news → P i v → ∃ (t : Addr) (ot : Obj) (v₁ v₂ : Value) (nt : Nat), v = .ref t ∧ (t, ot) ∈ news ∧ ot.cls = .type "tuple" ∧ ot.data = .seq #[v₁, v₂] nt ∧
      ∀ I oI C oC D m₂ h tk (E' : Value → Shared → Prop), NsObj oC m₂ → m₂ x = some v₁ → m₂ x₂ = some v₂ → Fr h₀ L h m → News h₀ L h ((I, oI) :: (C, oC) :: (D, lst ys) :: news) → Off3 I C D news → ((@Ne Nat I C) ∧ (@Ne Nat I D) ∧ (@Ne Nat C D)) →
      wpAny (model prog w) A (eval elt (compEnvC scope cl C env)) (CompEnd h₀ L m { s with heap := h, toks := tk } I oI C oC D (lst ys) S (fun y news' => J (i + 1) (ys ++ [y]) news')) E' { s with heap := h, toks := tk })
    (fin : ∀ ys news, J n ys news → Fin ys news) : ∀ k i ys news, i + k = n → J i ys news → LCp.CompRestP prog w A h₀ L m env elt x x₂ scope cl s S P Fin k i ys news
  | 0, i, ys, news, e, hJ => fin ys news (by rw [← e]; exact hJ)
  | k + 1, i, ys, news, e, hJ => by
    intro v hP
    obtain ⟨t, ot, v₁, v₂, nt, e1, e2, e3, e4, hw⟩ := step i ys news v (il e) hJ hP
    refine ⟨t, ot, v₁, v₂, nt, e1, e2, e3, e4, fun I oI C oC D m₂ h tk E' hC hx hx₂ F N off ne => ?_⟩
    refine wpAny_mono (hw I oI C oC D m₂ h tk E' hC hx hx₂ F N off ne) (fun y s₂ hE => compEnd_mono hE fun y nx hJ' => ?_) fun _ _ z => z
    exact restP_ind J step fin k (i + 1) _ nx (ik e) hJ'
end
section
variable {prog : Program} {w : World} {A : Around} {E : Value → Shared → Prop} {s : Shared} {env : Env} {h₀ : Heap} {x : Str} {body : List Stmt} {Q : Flow → Shared → Prop}
/-- what a turn leaves -/
def TurnG (h₀ : Heap) (L I : Addr) (oI : Obj) (J : (Str → Option Value) → List (Addr × Obj) → Prop) (s₁ : Shared) (Q : Flow → Shared → Prop) (f : Flow) (s₂ : Shared) : Prop :=
  match f with
  | .ret v => Q (.ret v) s₂
  | .brk => Q .next s₂
  | _ => ∃ h' tk m' nx, s₂ = { s₁ with heap := h', toks := tk } ∧ Fr h₀ L h' m' ∧ News h₀ L h' ((I, oI) :: nx) ∧ (∀ p ∈ nx, p.1 ≠ I) ∧ J m' nx
theorem loop_gen {I : Addr} {fp : List Addr} {n : Nat} {P : Nat → Value → Prop} {St : Nat → Heap → Prop} {m₀ : Str → Option Value} {news : List (Addr × Obj)} (J : Nat → (Str → Option Value) → List (Addr × Obj) → Prop)
    (W : Walks prog w A I fp [I] n P St) (hLf : env.locals ∉ fp) (hI₀ : h₀.get? I = none) (hIo : ∀ i h, St i h → ∃ o, h.get? I = some o)
    (hfp : ∀ b ∈ fp, b = I ∨ ∃ o, ∀ i m nx, J i m nx → (b, o) ∈ nx) (hst : St 0 s.heap) (F : Fr h₀ env.locals s.heap m₀) (N : News h₀ env.locals s.heap news) (hnI : ∀ p ∈ news, p.1 ≠ I) (hj : J 0 m₀ news)
    (turn : ∀ i v m₁ nx h tk oI, i < n → P i v → J i m₁ nx → Fr h₀ env.locals h (fun y => if y = x then some v else m₁ y) → News h₀ env.locals h ((I, oI) :: nx) → (∀ p ∈ nx, p.1 ≠ I) →
      wpAny (model prog w) A (execs body env) (TurnG h₀ env.locals I oI (J (i + 1)) { s with heap := h, toks := tk } Q) E { s with heap := h, toks := tk })
    (done : ∀ m₁ nx h tk, J n m₁ nx → Fr h₀ env.locals h m₁ → News h₀ env.locals h nx → Q .next { s with heap := h, toks := tk }) :
    LoopAtV prog w A h₀ env x body Q E (.ref I) s := by
  have hIf : I ∈ fp := W.sub I (List.mem_singleton.mpr rfl)
  refine ⟨I, fp, [I], n, P, St, m₀, news, J, rfl, W, hLf, ?_, ?_, hst, F, N, hj, ?_, ?_⟩
  · intro b hb
    rw [List.mem_singleton.mp hb]
    exact hI₀
  · intro p hp hb
    exact hnI p hp (List.mem_singleton.mp hb)
  · rintro i v m₁ nx s₁ own ⟨hh', tk', rfl⟩ hin hP hJ hoff hown hget hfr hst' F₁ N₁
    obtain ⟨oI, heI⟩ := hIo _ _ hst'
    have hIown := hfr I hIf hI₀ oI heI
    have N₂ : News h₀ env.locals hh' ((I, oI) :: nx) := fun p hp => by
      rcases List.mem_cons.mp hp with rfl | hp
      · exact N₁ _ (List.mem_append_left _ hIown)
      · exact N₁ _ (List.mem_append_right _ hp)
    refine wpAny_mono (turn i v m₁ nx hh' tk' oI hin hP hJ F₁ N₂ (fun p hp e => hoff p hp (List.mem_singleton.mpr e))) (fun f s₂ p => ?_) fun _ _ e => e
    have fin : (∃ h' tk m' nx', s₂ = { ({ s with heap := hh', toks := tk' } : Shared) with heap := h', toks := tk } ∧ Fr h₀ env.locals h' m' ∧ News h₀ env.locals h' ((I, oI) :: nx') ∧ (∀ p ∈ nx', p.1 ≠ I) ∧ J (i + 1) m' nx') →
        LoopStepU h₀ env.locals [I] own (J (i + 1)) { s with heap := hh', toks := tk' } .next s₂ := by
      rintro ⟨h', tk, m', nx', e, F', N', ho, hm⟩
      refine ⟨rfl, h', tk, m', nx', e, F', fun p hp => ?_, fun p hp hb => ho p hp (List.mem_singleton.mp hb), hm⟩
      rcases List.mem_append.mp hp with hp | hp
      · have hg := hget p hp
        rcases hfp p.1 (hown p hp) with h1 | ⟨o, h1⟩
        · have h2 : p = (I, oI) := by
            rw [h1] at hg
            exact Prod.ext h1 (Option.some.inj (hg.symm.trans heI))
          rw [h2]
          exact N' _ (.head _)
        · have h2 := (N₂ _ (.tail _ (h1 _ _ _ hJ))).1
          have h3 : p = (p.1, o) := Prod.ext rfl (Option.some.inj (hg.symm.trans h2))
          rw [h3]
          exact N' _ (.tail _ (h1 _ _ _ hm))
      · exact N' _ (.tail _ hp)
    cases f with
    | ret v => exact .ret p
    | brk => exact .brk p
    | next => exact .next (fin p)
    | cont => exact .cont (fin p)
  · rintro h' tk m' nx F' N' _ hJ
    exact done m' nx h' tk hJ F' N'
/-- a for over a list of the ledger -/
theorem iter_led {l : Addr} {its : Array Value} {nn : Nat} {m₀ : Str → Option Value} {news : List (Addr × Obj)} (J : Nat → (Str → Option Value) → List (Addr × Obj) → Prop)
    (hh : A.handled = none) (hl : ∀ i m nx, J i m nx → (l, listOf its nn) ∈ nx) (F : Fr h₀ env.locals s.heap m₀) (N : News h₀ env.locals s.heap news) (hj : J 0 m₀ news)
    (turn : ∀ I i v m₁ nx h tk oI, its[i]? = some v → J i m₁ nx → Fr h₀ env.locals h (fun y => if y = x then some v else m₁ y) → News h₀ env.locals h ((I, oI) :: nx) → (∀ p ∈ nx, p.1 ≠ I) →
      wpAny (model prog w) A (execs body env) (TurnG h₀ env.locals I oI (J (i + 1)) { s with heap := h, toks := tk } Q) E { s with heap := h, toks := tk })
    (done : ∀ m₁ nx h tk, J its.size m₁ nx → Fr h₀ env.locals h m₁ → News h₀ env.locals h nx → Q .next { s with heap := h, toks := tk }) :
    wpAny (model prog w) A (pyIter (.ref l)) (fun it s₂ => LoopAtV prog w A h₀ env x body Q E it s₂) E s := by
  have hol : s.heap.get? l = some (listOf its nn) := (N _ (hl _ _ _ hj)).1
  have hls : s.heap.IsList l its := ⟨_, hol, rfl, nn, rfl⟩
  have hne : l ≠ s.heap.objs.size := Nat.ne_of_lt (Heap.lt_size hol)
  refine wpAny_pyIter_list hls ?_
  refine loop_gen J (Walks.list hh s.heap.objs.size l hne its) ?_ (next_is_new F) (fun i h st => by obtain ⟨o, e, _⟩ := st.1; exact ⟨o, e⟩) ?_ ⟨⟨_, Heap.get?_push_size _ rfl, rfl, rfl⟩, hls.at fun o e => Heap.get?_push_of_some _ e⟩ (F.push _)
    (fun p hp => ⟨Heap.get?_push_of_some _ (N p hp).1, (N p hp).2⟩) (fun p hp => Nat.ne_of_lt (Heap.lt_size (N p hp).1)) hj
    (fun i v m₁ nx h tk oI _ hP hJ F₁ N₁ hn => turn _ i v m₁ nx h tk oI hP hJ F₁ N₁ hn) done
  · intro hm
    rcases List.mem_cons.mp hm with e | hm
    · exact absurd F.ns.lt (e ▸ Nat.lt_irrefl _)
    · exact (N _ (hl _ _ _ hj)).2.1 (List.mem_singleton.mp hm).symm
  · intro b hb
    rcases List.mem_cons.mp hb with e | hb
    · exact .inl e
    · rw [List.mem_singleton.mp hb]
      exact .inr ⟨_, hl⟩
/-- a for over a range by ones -/
theorem iter_rng {r : Addr} {a b : Int} {t u v : Tok} {n : Nat} {m₀ : Str → Option Value} {news : List (Addr × Obj)} (J : Nat → (Str → Option Value) → List (Addr × Obj) → Prop)
    (hh : A.handled = none) (hr : IsRange s.heap r a b 1 t u v) (hsmall : Builtin.Range.small a b 1 = true) (hn : Builtin.Range.rangeSize a b 1 = (n : Int)) (F : Fr h₀ env.locals s.heap m₀) (N : News h₀ env.locals s.heap news) (hj : J 0 m₀ news)
    (turn : ∀ I i t m₁ nx h tk oI, i < n → J i m₁ nx → Fr h₀ env.locals h (fun y => if y = x then some (.int (a + (i : Int)) t) else m₁ y) → News h₀ env.locals h ((I, oI) :: nx) → (∀ p ∈ nx, p.1 ≠ I) →
      wpAny (model prog w) A (execs body env) (TurnG h₀ env.locals I oI (J (i + 1)) { s with heap := h, toks := tk } Q) E { s with heap := h, toks := tk })
    (done : ∀ m₁ nx h tk, J n m₁ nx → Fr h₀ env.locals h m₁ → News h₀ env.locals h nx → Q .next { s with heap := h, toks := tk }) :
    wpAny (model prog w) A (pyIter (.ref r)) (fun it s₂ => LoopAtV prog w A h₀ env x body Q E it s₂) E s := by
  refine wpAny_pyIter_range hr hsmall ?_
  refine loop_gen J (LCg.range_walks hh a n) ?_ (next_is_new F) (fun i h st => ⟨_, st⟩) ?_ (by show IsRangeIter _ _ _ _ _; rw [hn]; simpa using Heap.get?_push_size _ rfl) (F.push _)
    (fun p hp => ⟨Heap.get?_push_of_some _ (N p hp).1, (N p hp).2⟩) (fun p hp => Nat.ne_of_lt (Heap.lt_size (N p hp).1)) hj
    (fun i v m₁ nx h tk oI hi hP hJ F₁ N₁ hn => by
      obtain ⟨t, rfl⟩ := hP
      exact turn _ i t m₁ nx h tk oI hi hJ F₁ N₁ hn) done
  · intro hm
    exact absurd F.ns.lt ((List.mem_singleton.mp hm) ▸ Nat.lt_irrefl _)
  · intro b hb
    exact .inl (List.mem_singleton.mp hb)
theorem rest_of (u m₀ : Str → Option Value) (stored : List Str) : ∀ z, stored.contains z = false → (fun z => if stored.contains z then u z else m₀ z) z = m₀ z := fun z h => by
  show (if stored.contains z = true then u z else m₀ z) = m₀ z
  rw [h]; rfl
def Names (m : Str → Option Value) (ps : List (Str × Value)) : Prop := ∀ p ∈ ps, m p.1 = some p.2
def Rests (ps : List (Str × Value)) (x : Str) (stored : List Str) (m₀ m : Str → Option Value) : Prop := ∀ z, z ≠ x → (∀ p ∈ ps, z ≠ p.1) → stored.contains z = false → m z = m₀ z
/-- what a loop's names hold: those named, the others as ahead, those stored but not named left open -/
def FrS (ps : List (Str × Value)) (x : Str) (stored : List Str) (m₀ m : Str → Option Value) : Prop :=
  Names m ps ∧ Rests ps x stored m₀ m
def JS {σ : Type} (Led : σ → List (Addr × Obj)) (ps : σ → List (Str × Value)) (x : Str) (stored : List Str) (m₀ : Str → Option Value) (R : Nat → σ → Prop) (i : Nat) (m : Str → Option Value) (nx : List (Addr × Obj)) : Prop :=
  ∃ c : σ, nx = Led c ∧ FrS (ps c) x stored m₀ m ∧ R i c
theorem turn_end {σ : Type} {Led : σ → List (Addr × Obj)} {ps : σ → List (Str × Value)} {stored : List Str} {m₀ : Str → Option Value} {R : Nat → σ → Prop} {i : Nat} (c : σ) {L I : Addr} {oI : Obj} {m' : Str → Option Value} {nw : List (Addr × Obj)} {s₁ : Shared} {h' : Heap} {tk : Nat}
    (F : Fr h₀ L h' m') (N : News h₀ L h' nw) (sub : ∀ p ∈ (I, oI) :: Led c, p ∈ nw) (off : ∀ p ∈ Led c, p.1 ≠ I) (hk : Names m' (ps c))
    (hr : Rests (ps c) x stored m₀ m') (hR : R i c) :
    TurnG h₀ L I oI (JS Led ps x stored m₀ R i) s₁ Q .next { s₁ with heap := h', toks := tk } :=
  ⟨h', tk, m', Led c, rfl, F, fun p hp => N p (sub p hp), off, c, rfl, ⟨hk, hr⟩, hR⟩
theorem iter_ledS {σ : Type} {l : Addr} {its : Array Value} {nn : Nat} {m₀ : Str → Option Value} (Led : σ → List (Addr × Obj)) (ps : σ → List (Str × Value)) (stored : List Str) (R : Nat → σ → Prop) (c₀ : σ)
    (hh : A.handled = none) (hl : ∀ c, (l, listOf its nn) ∈ Led c) (F : Fr h₀ env.locals s.heap m₀) (N : News h₀ env.locals s.heap (Led c₀)) (hk : Names m₀ (ps c₀)) (hR : R 0 c₀)
    (turn : ∀ I i v (c : σ) (r9 : Str → Option Value) h tk oI, (∀ z, stored.contains z = false → r9 z = m₀ z) → its[i]? = some v → R i c → Fr h₀ env.locals h (fun y => if y = x then some v else kstB r9 (ps c) y) → News h₀ env.locals h ((I, oI) :: Led c) → (∀ p ∈ Led c, p.1 ≠ I) →
      wpAny (model prog w) A (execs body env) (TurnG h₀ env.locals I oI (JS Led ps x stored m₀ R (i + 1)) { s with heap := h, toks := tk } Q) E { s with heap := h, toks := tk })
    (done : ∀ (c : σ) (u r9 : Str → Option Value) h tk, (∀ z, stored.contains z = false → r9 z = m₀ z) → R its.size c → Fr h₀ env.locals h (fun y => if y = x then u y else kstB r9 (ps c) y) → News h₀ env.locals h (Led c) → Q .next { s with heap := h, toks := tk }) :
    wpAny (model prog w) A (pyIter (.ref l)) (fun it s₂ => LoopAtV prog w A h₀ env x body Q E it s₂) E s := by
  refine iter_led (JS Led ps x stored m₀ R) hh (fun i m nx ⟨c, e, _⟩ => e ▸ hl c) F N ⟨c₀, rfl, ⟨hk, fun _ _ _ _ => rfl⟩, hR⟩ ?_ ?_
  · rintro I i v m₁ nx h tk oI hv ⟨c, rfl, hf, hR'⟩ F₁ N₁ hn
    exact turn I i v c _ h tk oI (rest_of _ _ _) hv hR' (kst_fr hf.1 hf.2 F₁) N₁ hn
  · rintro m₁ nx h tk ⟨c, rfl, hf, hR'⟩ F₁ N₁
    exact done c m₁ _ h tk (rest_of _ _ _) hR' (kst_frOut hf.1 hf.2 F₁) N₁
theorem iter_rngS {σ : Type} {r : Addr} {a b : Int} {t u v : Tok} {n : Nat} {m₀ : Str → Option Value} (Led : σ → List (Addr × Obj)) (ps : σ → List (Str × Value)) (stored : List Str) (R : Nat → σ → Prop) (c₀ : σ)
    (hh : A.handled = none) (hr : IsRange s.heap r a b 1 t u v) (hsmall : Builtin.Range.small a b 1 = true) (hn : Builtin.Range.rangeSize a b 1 = (n : Int)) (F : Fr h₀ env.locals s.heap m₀) (N : News h₀ env.locals s.heap (Led c₀)) (hk : Names m₀ (ps c₀)) (hR : R 0 c₀)
    (turn : ∀ I i t (c : σ) (r9 : Str → Option Value) h tk oI, (∀ z, stored.contains z = false → r9 z = m₀ z) → i < n → R i c → Fr h₀ env.locals h (fun y => if y = x then some (.int (a + (i : Int)) t) else kstB r9 (ps c) y) → News h₀ env.locals h ((I, oI) :: Led c) → (∀ p ∈ Led c, p.1 ≠ I) →
      wpAny (model prog w) A (execs body env) (TurnG h₀ env.locals I oI (JS Led ps x stored m₀ R (i + 1)) { s with heap := h, toks := tk } Q) E { s with heap := h, toks := tk })
    (done : ∀ (c : σ) (u r9 : Str → Option Value) h tk, (∀ z, stored.contains z = false → r9 z = m₀ z) → R n c → Fr h₀ env.locals h (fun y => if y = x then u y else kstB r9 (ps c) y) → News h₀ env.locals h (Led c) → Q .next { s with heap := h, toks := tk }) :
    wpAny (model prog w) A (pyIter (.ref r)) (fun it s₂ => LoopAtV prog w A h₀ env x body Q E it s₂) E s := by
  refine iter_rng (JS Led ps x stored m₀ R) hh hr hsmall hn F N ⟨c₀, rfl, ⟨hk, fun _ _ _ _ => rfl⟩, hR⟩ ?_ ?_
  · rintro I i t m₁ nx h tk oI hi ⟨c, rfl, hf, hR'⟩ F₁ N₁ hn
    exact turn I i t c _ h tk oI (rest_of _ _ _) hi hR' (kst_fr hf.1 hf.2 F₁) N₁ hn
  · rintro m₁ nx h tk ⟨c, rfl, hf, hR'⟩ F₁ N₁
    exact done c m₁ _ h tk (rest_of _ _ _) hR' (kst_frOut hf.1 hf.2 F₁) N₁
section
variable {ps : List (Str × Value)} {x n : Str} {stored : List Str} {m₀ m' u : Str → Option Value} {v : Option Value}
theorem Rests.step (hn : (n == x || stored.contains n || (ps.map Prod.fst).contains n) = true) (h : Rests ps x stored m₀ m') : Rests ps x stored m₀ (fun y => if y = n then v else m' y) := by
  intro z h1 h2 h3
  have hz : z ≠ n := by
    rintro rfl
    simp only [Bool.or_eq_true, beq_iff_eq, h1, false_or, h3, Bool.false_eq_true, List.contains_iff_mem, List.mem_map] at hn
    obtain ⟨p, hp, e⟩ := hn
    exact h2 p hp e.symm
  show (if z = n then v else m' z) = m₀ z
  rw [if_neg hz]
  exact h z h1 h2 h3
theorem Rests.stepU {w : Str → Option Value} (hn : (n == x || stored.contains n || (ps.map Prod.fst).contains n) = true) (h : Rests ps x stored m₀ m') : Rests ps x stored m₀ (fun y => if y = n then w y else m' y) := by
  intro z h1 h2 h3
  have := Rests.step (v := w z) hn h z h1 h2 h3
  exact this
theorem Rests.of (hr : ∀ z, stored.contains z = false → u z = m₀ z) : Rests ps x stored m₀ u := fun z _ _ h => hr z h
theorem Rests.via (hr : ∀ z, ([] : List Str).contains z = false → u z = m' z) (h : Rests ps x stored m₀ m') : Rests ps x stored m₀ u := fun z a b c => (hr z rfl).trans (h z a b c)
theorem Rests.viaS {st2 : List Str} (hs : st2.all (fun n => stored.contains n || (ps.map Prod.fst).contains n) = true) (hr : ∀ z, st2.contains z = false → u z = m' z) (h : Rests ps x stored m₀ m') : Rests ps x stored m₀ u := fun z a b c => (hr z (by
  cases e : st2.contains z with
  | false => rfl
  | true =>
    have h9 := List.all_eq_true.mp hs z (List.contains_iff_mem.mp e)
    simp only [Bool.or_eq_true, c, Bool.false_eq_true, false_or, List.contains_iff_mem, List.mem_map] at h9
    obtain ⟨p, hp, e2⟩ := h9
    exact absurd e2.symm (b p hp))).trans (h z a b c)
theorem Rests.last : Rests ps x stored m₀ (fun z => if stored.contains z then u z else m₀ z) := by
  intro z h1 h2 h3
  show (if stored.contains z = true then u z else m₀ z) = m₀ z
  rw [h3]; rfl
theorem Rests.same : Rests ps x stored m₀ m₀ := fun _ _ _ _ => rfl
end
theorem Names.nil {m : Str → Option Value} : Names m [] := fun _ hp => (nomatch hp)
theorem Names.cons {n : Str} {v : Value} {r : List (Str × Value)} {m : Str → Option Value} (h : m n = some v) (h2 : Names m r) : Names m ((n, v) :: r) := by
  intro p hp
  rcases List.mem_cons.mp hp with rfl | hp
  · exact h
  · exact h2 p hp
def RestsW (ps : List (Str × Value)) (stored : List Str) (m₀ m : Str → Option Value) : Prop := ∀ z, (∀ p ∈ ps, z ≠ p.1) → stored.contains z = false → m z = m₀ z
section
variable {ps : List (Str × Value)} {n : Str} {stored : List Str} {m₀ m' u : Str → Option Value} {v : Option Value}
theorem RestsW.step (hn : (stored.contains n || (ps.map Prod.fst).contains n) = true) (h : RestsW ps stored m₀ m') : RestsW ps stored m₀ (fun y => if y = n then v else m' y) := by
  intro z h2 h3
  have hz : z ≠ n := by
    rintro rfl
    simp only [Bool.or_eq_true, h3, Bool.false_eq_true, false_or, List.contains_iff_mem, List.mem_map] at hn
    obtain ⟨p, hp, e⟩ := hn
    exact h2 p hp e.symm
  show (if z = n then v else m' z) = m₀ z
  rw [if_neg hz]
  exact h z h2 h3
theorem RestsW.stepU {w : Str → Option Value} (hn : (stored.contains n || (ps.map Prod.fst).contains n) = true) (h : RestsW ps stored m₀ m') : RestsW ps stored m₀ (fun y => if y = n then w y else m' y) := by
  intro z h2 h3
  have := RestsW.step (v := w z) hn h z h2 h3
  exact this
theorem RestsW.of (hr : ∀ z, stored.contains z = false → u z = m₀ z) : RestsW ps stored m₀ u := fun z _ h => hr z h
theorem RestsW.via (hr : ∀ z, ([] : List Str).contains z = false → u z = m' z) (h : RestsW ps stored m₀ m') : RestsW ps stored m₀ u := fun z b c => (hr z rfl).trans (h z b c)
theorem RestsW.viaS {st2 : List Str} (hs : st2.all (fun n => stored.contains n || (ps.map Prod.fst).contains n) = true) (hr : ∀ z, st2.contains z = false → u z = m' z) (h : RestsW ps stored m₀ m') : RestsW ps stored m₀ u := fun z b c => (hr z (by
  cases e : st2.contains z with
  | false => rfl
  | true =>
    have h9 := List.all_eq_true.mp hs z (List.contains_iff_mem.mp e)
    simp only [Bool.or_eq_true, c, Bool.false_eq_true, false_or, List.contains_iff_mem, List.mem_map] at h9
    obtain ⟨p, hp, e2⟩ := h9
    exact absurd e2.symm (b p hp))).trans (h z b c)
theorem RestsW.last : RestsW ps stored m₀ (fun z => if stored.contains z then u z else m₀ z) := by
  intro z h2 h3
  show (if stored.contains z = true then u z else m₀ z) = m₀ z
  rw [h3]; rfl
theorem RestsW.same : RestsW ps stored m₀ m₀ := fun _ _ _ => rfl
end
def WPost {σ : Type} (h₀ : Heap) (L : Addr) (s : Shared) (Led : σ → List (Addr × Obj)) (ps : σ → List (Str × Value)) (stored : List Str) (m₀ : Str → Option Value) (R : σ → Prop) (μ : σ → Nat) (Q : Flow → Shared → Prop) (c : σ) (f : Flow) (s₂ : Shared) : Prop :=
  KswPost h₀ L s Led ps R stored m₀ (fun _ => True) μ Q c f s₂
theorem while_end {σ : Type} {L : Addr} {Led : σ → List (Addr × Obj)} {ps : σ → List (Str × Value)} {stored : List Str} {m₀ : Str → Option Value} {R : σ → Prop} {μ : σ → Nat} {c : σ} (c' : σ) {m' : Str → Option Value} {nw : List (Addr × Obj)} {h' : Heap} {tk : Nat}
    (F : Fr h₀ L h' m') (N : News h₀ L h' nw) (sub : ∀ p ∈ Led c', p ∈ nw) (hk : Names m' (ps c')) (hr : RestsW (ps c') stored m₀ m') (hR : R c') (hm : μ c' < μ c) :
    WPost h₀ L s Led ps stored m₀ R μ Q c .next { s with heap := h', toks := tk } :=
  ksw_end c' F N sub hR hk hr trivial hm
/-- a while by its names, its ledger and a measure -/
theorem while_S {σ : Type} {L : Addr} {test : Expr} {pos : Pos} {m₀ : Str → Option Value} (Led : σ → List (Addr × Obj)) (ps : σ → List (Str × Value)) (stored : List Str) (R : σ → Prop) (μ : σ → Nat) (c₀ : σ)
    (F : Fr h₀ L s.heap m₀) (N : News h₀ L s.heap (Led c₀)) (hk : Names m₀ (ps c₀)) (hR : R c₀)
    (turn : ∀ (c : σ) (r9 : Str → Option Value) h tk, (∀ z, stored.contains z = false → r9 z = m₀ z) → R c → Fr h₀ L h (kstB r9 (ps c)) → News h₀ L h (Led c) →
      wpAny (model prog w) A (isTrue test env (eval test env)) (fun b s₂ =>
        if b = true then wpAny (model prog w) A (execs body env) (WPost h₀ L s Led ps stored m₀ R μ Q c) E s₂ else Q .next s₂) E { s with heap := h, toks := tk })
    (hE : PassesOwn (model prog w) A env E := by passes_own) :
    wpAny (model prog w) A (exec (.While test body [] pos) env) Q E s :=
  ksw_while Led ps R stored (fun _ => True) μ c₀ F N hR hk trivial (fun c u h tk hf _ F₁ N₁ => turn c _ h tk (rest_of u m₀ stored) hf F₁ N₁) hE
end
section
open LCg
/-- a tuple of two, as the ledger bears it -/
abbrev two (v₁ v₂ : Value) : Obj := { cls := .type "tuple", data := .seq #[v₁, v₂] }
/-- the source of a comprehension over pairs with a test, its turns by a word J -/
def SrcPT (prog : Program) (w : World) (A : Around) (h₀ : Heap) (L : Addr) (m : Str → Option Value) (env : Env) (ct elt : Expr) (x x₂ : Str) (scope : Scope) (cl : List (Str × Addr)) (Q : Value → Shared → Prop) (xv : Value) (s₁ : Shared) : Prop :=
  ∃ (J : Nat → List Value → List (Addr × Obj) → Prop) (ax : Addr) (its : Array Value) (nn : Nat) (news : List (Addr × Obj)), xv = .ref ax ∧ A.handled = none ∧ Fr h₀ L s₁.heap m ∧ News h₀ L s₁.heap news ∧ its.size ≤ sizeLine ∧ J 0 [] news ∧
    (∀ i ys nx, J i ys nx → (ax, listOf its nn) ∈ nx) ∧
    (∀ i ys nx v, its[i]? = some v → J i ys nx → ∃ (t : Addr) (v₁ v₂ : Value), v = .ref t ∧ (t, two v₁ v₂) ∈ nx ∧
      ∀ I oI C oC D m₂ h tk (E' : Value → Shared → Prop), NsObj oC m₂ → m₂ x = some v₁ → m₂ x₂ = some v₂ → Fr h₀ L h m → News h₀ L h ((I, oI) :: (C, oC) :: (D, lst ys) :: nx) → Off3 I C D nx → ((@Ne Nat I C) ∧ (@Ne Nat I D) ∧ (@Ne Nat C D)) →
        wpAny (model prog w) A (isTrue ct (compEnvC scope cl C env) (eval ct (compEnvC scope cl C env))) (fun ok s' => if ok = true then
          wpAny (model prog w) A (eval elt (compEnvC scope cl C env)) (CompEnd h₀ L m { s₁ with heap := h, toks := tk } I oI C oC D (lst ys) (fun _ => True) (fun y nx' => J (i + 1) (ys ++ [y]) nx')) E' s'
          else CompEnd h₀ L m { s₁ with heap := h, toks := tk } I oI C oC D (lst ys) (fun _ => True) (fun _ nx' => J (i + 1) ys nx') Value.none s') E' { s₁ with heap := h, toks := tk }) ∧
    ∀ ys nx, J its.size ys nx → FinE h₀ L m s₁ Q ys nx
/-- what stands between two turns -/
def PTInv (s₁ : Shared) (h₀ : Heap) (L : Addr) (m : Str → Option Value) (I C D ax : Addr) (its : Array Value) (J : Nat → List Value → List (Addr × Obj) → Prop) (k : Nat) (s' : Shared) : Prop :=
  ∃ h' tk' i ys nx m', s' = { s₁ with heap := h', toks := tk' } ∧ i + k = its.size + 1 ∧ 0 < k ∧ ys.length ≤ i ∧ h'.IsListIter I ax i ∧ Fr h₀ L h' m ∧ h'.Ns C m' ∧ News h₀ L h' ((D, lst ys) :: nx) ∧ Off3 I C D nx ∧ J i ys nx
section
variable {s₁ s₂ s' : Shared} {h₀ : Heap} {L : Addr} {m : Str → Option Value} {I C D ax : Addr} {its : Array Value} {J : Nat → List Value → List (Addr × Obj) → Prop} {k : Nat}
theorem PTInv.mk {h' : Heap} {tk' i : Nat} {ys : List Value} {nx : List (Addr × Obj)} {m' : Str → Option Value} (e1 : i + k = its.size + 1) (e2 : 0 < k) (e3 : ys.length ≤ i) (e4 : h'.IsListIter I ax i) (e5 : Fr h₀ L h' m) (e6 : h'.Ns C m') (e7 : News h₀ L h' ((D, lst ys) :: nx)) (e8 : Off3 I C D nx) (e9 : J i ys nx) :
    PTInv s₁ h₀ L m I C D ax its J k { s₁ with heap := h', toks := tk' } := ⟨h', tk', i, ys, nx, m', rfl, e1, e2, e3, e4, e5, e6, e7, e8, e9⟩
theorem PTInv.elim {R : Shared → Prop} (h : PTInv s₁ h₀ L m I C D ax its J k s')
    (f : ∀ h' tk' i ys nx m', i + k = its.size + 1 → 0 < k → ys.length ≤ i → h'.IsListIter I ax i → Fr h₀ L h' m → h'.Ns C m' → News h₀ L h' ((D, lst ys) :: nx) → Off3 I C D nx → J i ys nx → R { s₁ with heap := h', toks := tk' }) : R s' := by
  obtain ⟨h', tk', i, ys, nx, m', rfl, e1, e2, e3, e4, e5, e6, e7, e8, e9⟩ := h
  exact f h' tk' i ys nx m' e1 e2 e3 e4 e5 e6 e7 e8 e9
theorem compEnd_elim {oI oC oD : Obj} {S : List (Addr × Obj) → Prop} {rest : Value → List (Addr × Obj) → Prop} {y : Value} {R : Shared → Prop} (h : CompEnd h₀ L m s₁ I oI C oC D oD S rest y s₂)
    (f : ∀ h' tk nx, Fr h₀ L h' m → News h₀ L h' ((I, oI) :: (C, oC) :: (D, oD) :: nx) → Off3 I C D nx → rest y nx → R { s₁ with heap := h', toks := tk }) : R s₂ := by
  obtain ⟨h', tk, nx, rfl, F, N, o, _, r⟩ := h
  exact f h' tk nx F N o r
end
variable {prog : Program} {w : World} {A : Around} {E : Value → Shared → Prop} {s : Shared} {h₀ : Heap} {L : Addr} {m : Str → Option Value} {env : Env}
theorem SrcPT.elim {ct elt : Expr} {x x₂ : Str} {scope : Scope} {cl : List (Str × Addr)} {Q : Value → Shared → Prop} {xv : Value} {s₁ : Shared} {R : Value → Prop} (h : SrcPT prog w A h₀ L m env ct elt x x₂ scope cl Q xv s₁)
    (f : ∀ (J : Nat → List Value → List (Addr × Obj) → Prop) (ax : Addr) (its : Array Value) (nn : Nat) (news : List (Addr × Obj)), A.handled = none → Fr h₀ L s₁.heap m → News h₀ L s₁.heap news → its.size ≤ sizeLine → J 0 [] news →
      (∀ i ys nx, J i ys nx → (ax, listOf its nn) ∈ nx) →
      (∀ i ys nx v, its[i]? = some v → J i ys nx → ∃ (t : Addr) (v₁ v₂ : Value), v = .ref t ∧ (t, two v₁ v₂) ∈ nx ∧
        ∀ I oI C oC D m₂ h tk (E' : Value → Shared → Prop), NsObj oC m₂ → m₂ x = some v₁ → m₂ x₂ = some v₂ → Fr h₀ L h m → News h₀ L h ((I, oI) :: (C, oC) :: (D, lst ys) :: nx) → Off3 I C D nx → ((@Ne Nat I C) ∧ (@Ne Nat I D) ∧ (@Ne Nat C D)) →
          wpAny (model prog w) A (isTrue ct (compEnvC scope cl C env) (eval ct (compEnvC scope cl C env))) (fun ok s' => if ok = true then
            wpAny (model prog w) A (eval elt (compEnvC scope cl C env)) (CompEnd h₀ L m { s₁ with heap := h, toks := tk } I oI C oC D (lst ys) (fun _ => True) (fun y nx' => J (i + 1) (ys ++ [y]) nx')) E' s'
            else CompEnd h₀ L m { s₁ with heap := h, toks := tk } I oI C oC D (lst ys) (fun _ => True) (fun _ nx' => J (i + 1) ys nx') Value.none s') E' { s₁ with heap := h, toks := tk }) →
      (∀ ys nx, J its.size ys nx → FinE h₀ L m s₁ Q ys nx) → R (.ref ax)) : R xv := by
  obtain ⟨J, ax, its, nn, news, rfl, a1, a2, a3, a4, a5, a6, a7, a8⟩ := h
  exact f J ax its nn news a1 a2 a3 a4 a5 a6 a7 a8
theorem comp_PT {ct elt iter : Expr} {x x₂ : Str} {px px₂ tp : Pos} {tk : Nat} {scope : Scope} {cl : List (Str × Addr)} {pos : Pos} {Q : Value → Shared → Prop} (_F₀ : Fr h₀ L s.heap m)
    (hclos : closureFor scope env = pure cl) (hcell : ∀ y ∈ scope.names, y.2 ≠ .cell) (hkind : scope.kind = .function)
    (hnames : ∀ y ∈ scope.names, y.2 = .local → scope.names.lookup y.1 = some .local) (hx : scope.names.lookup x = some .local) (hx₂ : scope.names.lookup x₂ = some .local) (hxx : x ≠ x₂)
    (h : wpAny (model prog w) A (eval iter env) (SrcPT prog w A h₀ L m env ct elt x x₂ scope cl Q) E s)
    (hs : ∀ x, foldedSetIterable iter env x = pure x := by intro _; rfl) :
    wpAny (model prog w) A (eval (.ListComp elt [⟨.Tuple [.Name x px, .Name x₂ px₂] tk tp, iter, [ct], 0⟩] scope pos) env) Q E s := by
  rw [eval_ListComp]
  refine wpAny_comprehension_free (use := none) rfl hs hclos hkind hnames (wpAny_mono h (fun xv s₁ hsrc => ?_) fun _ _ e => e)
  refine SrcPT.elim (R := fun v => wpAny _ _ (pyIter v) _ _ _) hsrc ?_
  intro J ax its nn news hh F N hsz hJ hax hturn hfin
  have hl : s₁.heap.IsList ax its := ⟨_, (N _ (hax _ _ _ hJ)).1, rfl, nn, rfl⟩
  have hxI : ax ≠ s₁.heap.objs.size := Nat.ne_of_lt (Heap.lt_size (N _ (hax _ _ _ hJ)).1)
  have W := Walks.list (prog := prog) (w := w) hh s₁.heap.objs.size ax hxI its
  have hI₀ := next_is_new F
  have hLlt : L < s₁.heap.objs.size := F.ns.lt
  have hlt : ∀ p ∈ news, p.1 < s₁.heap.objs.size := fun p hp => Heap.lt_size (N p hp).1
  have fresh₀ : ∀ b, s₁.heap.objs.size ≤ b → h₀.get? b = none := fun b hb => by
    cases e : h₀.get? b with
    | none => rfl
    | some o => exact absurd (Heap.lt_size (F.keep b o e)) (Nat.not_lt.mpr hb)
  refine wpAny_pyIter_list hl ?_
  refine wpAny_newObj_type (wpAny_newFunctionEnv hcell (by intro y hy; simp at hy) (fun h₁ hns₁ hsb₁ => ?_) hkind)
  dsimp only at hns₁ hsb₁ ⊢
  generalize hH1 : s₁.heap.push { cls := .type "list_iterator", data := .fields #[.ref ax, .int 0 0] } = H1 at hns₁ hsb₁ ⊢
  have z1 : H1.objs.size = s₁.heap.objs.size + 1 := by rw [← hH1, Heap.size_push]
  have g1 : ∀ b o, s₁.heap.get? b = some o → H1.get? b = some o := fun b o e => hH1 ▸ Heap.get?_push_of_some _ e
  have gI : H1.IsListIter s₁.heap.objs.size ax 0 := by rw [← hH1]; exact ⟨_, Heap.get?_push_size _ rfl, rfl, rfl⟩
  generalize hD : H1.objs.size = D at hns₁ hsb₁ ⊢
  generalize hH2 : H1.push { cls := .type "list", dict := none, data := .seq ([] : List Value).toArray } = H2 at hns₁ hsb₁ ⊢
  have z2 : H2.objs.size = D + 1 := by rw [← hH2, Heap.size_push, hD]
  have g2 : ∀ b o, H1.get? b = some o → H2.get? b = some o := fun b o e => hH2 ▸ Heap.get?_push_of_some _ e
  have gD : H2.get? D = some (lst []) := by rw [← hH2, ← hD]; exact Heap.get?_push_size _ rfl
  generalize hC : H2.objs.size = C at hns₁ hsb₁ z2 ⊢
  generalize hI : s₁.heap.objs.size = I at *
  have nIC : I ≠ C := by omega
  have nID : I ≠ D := by omega
  have nCD : C ≠ D := by omega
  have hLI : L ≠ I := Nat.ne_of_lt hLlt
  have hCL : C ≠ L := by have : @LT.lt Nat _ L I := hLlt; omega
  have hDL : D ≠ L := by have : @LT.lt Nat _ L I := hLlt; omega
  have hC₀ : h₀.get? C = none := fresh₀ C (by omega)
  have hD₀ : h₀.get? D = none := fresh₀ D (by omega)
  have g3 : ∀ b o, b ≠ C → H2.get? b = some o → h₁.get? b = some o := fun b o hb e => hsb₁.extBut b o hb (Heap.get?_push_of_some _ e)
  have gA : ∀ b o, s₁.heap.get? b = some o → h₁.get? b = some o := fun b o e => g3 b o (by have : @LT.lt Nat _ b s₁.heap.objs.size := Heap.lt_size e; omega) (g2 b o (g1 b o e))
  have hst₁ : h₁.IsListIter I ax 0 := gI.at fun o e => g3 _ _ nIC (g2 _ _ e)
  have F₁ : Fr h₀ L h₁ m := F.keeps gA
  have N₁ : News h₀ L h₁ ((D, lst []) :: news) := fun p hp => by
    rcases List.mem_cons.mp hp with rfl | hp
    · exact ⟨g3 _ _ (Ne.symm nCD) gD, hDL, hD₀⟩
    · exact ⟨gA _ _ (N p hp).1, (N p hp).2⟩
  have off₁ : Off3 I C D news := Off3.of fun p hp => by
    have : @LT.lt Nat _ p.1 I := hlt p hp
    refine ⟨?_, ?_, ?_⟩ <;> (show @Ne Nat _ _; omega)
  have loop : ∀ s₃ : Shared, s₃ = { s₁ with heap := h₁, toks := s₁.toks + ([] : List (Str × Value)).length } →
      codeAny (model prog w) A (.compLoop (.ListComp elt [⟨.Tuple [.Name x px, .Name x₂ px₂] tk tp, iter, [ct], 0⟩] scope pos) 0 (.ref I) (.ref D) (compEnvC scope cl C env)) (compPost (model prog w) A E none Q (.ref D) C) s₃ := by
    rintro s₃ rfl
    refine kct_loop (PTInv s₁ h₀ L m I C D ax its J) ?_ (its.size + 1)
      (PTInv.mk (Nat.zero_add _) (Nat.succ_pos _) (Nat.le_refl _) hst₁ F₁ hns₁ N₁ off₁ hJ)
    intro k s' hinv
    refine hinv.elim fun h' tk' i ys nx m' hik hk hyl hit F' hn' N' off' hJ' => ?_
    have off3 := off'.mem
    have hl' : h'.IsList ax its := ⟨_, (N' _ (.tail _ (hax _ _ _ hJ'))).1, rfl, nn, rfl⟩
    have offI : ∀ p ∈ (D, lst ys) :: nx, p.1 ≠ I := fun p hp => by
      rcases List.mem_cons.mp hp with rfl | hp
      · exact Ne.symm nID
      · exact (off3 p hp).1
    by_cases hin : i < its.size
    · refine W.item i _ _ _ hin ⟨hit, hl'⟩ fun v h₂ tk₂ hv hst₂ hk₂ => ?_
      obtain ⟨t, v₁, v₂, rfl, hmt, hgo⟩ := hturn i ys nx v hv hJ'
      have N₂ := news_but N' hk₂ offI
      have F₂ := fr_but F' hk₂ hLI hI₀
      have hn₂ : h₂.Ns C m' := hn'.at' fun o e => hk₂ _ o (by simpa using Ne.symm nIC) e
      have ht : IsTup h₂ t #[v₁, v₂] := ⟨_, (N₂ _ (.tail _ hmt)).1, rfl, 0, rfl⟩
      refine wpAny_letOwnedTupleGo_listiter hst₂.1 ?_
      refine assign_Tuple_tuple hh ht rfl rfl fun h₅ he => ?_
      have e5 : ∀ b o, h₂.get? b = some o → h₅.get? b = some o := fun b o e => he b o (Nat.ne_of_lt (Heap.lt_size e)) e
      refine assignInOrder_cons (wpAny_assign_Name (wpAny_storeName_local (lookup_relabel_local hx) (hn₂.at' fun o e => e5 _ o e) (fun h₆ hn₆ hs₆ => ?_) (by simp [compEnvC, relabel, hkind])))
      refine assignInOrder_cons (wpAny_assign_Name (wpAny_storeName_local (lookup_relabel_local hx₂) hn₆ (fun h₃ hn₃ hs₃ => ?_) (by simp [compEnvC, relabel, hkind])))
      refine assignInOrder_nil ?_
      have e3 : ∀ b o, b ≠ C → h₂.get? b = some o → h₃.get? b = some o := fun b o hb e => hs₃.extBut b o hb (hs₆.extBut b o hb (e5 b o e))
      have F₃ : Fr h₀ L h₃ m := ((F₂.keeps e5).change hs₆ hCL hC₀).change hs₃ hCL hC₀
      obtain ⟨oC, heC, hoC⟩ := ns_obj hn₃
      obtain ⟨oI, heI, hcI, hdI⟩ := hst₂.1
      have hI3 := e3 _ _ nIC heI
      have N₃ : News h₀ L h₃ ((I, oI) :: (C, oC) :: (D, lst ys) :: nx) := fun p hp => by
        rcases List.mem_cons.mp hp with rfl | hp
        · exact ⟨hI3, Ne.symm hLI, hI₀⟩
        rcases List.mem_cons.mp hp with rfl | hp
        · exact ⟨heC, hCL, hC₀⟩
        refine ⟨e3 _ _ ?_ (N₂ p hp).1, (N₂ p hp).2⟩
        rcases List.mem_cons.mp hp with rfl | hp
        · exact Ne.symm nCD
        · exact (off3 p hp).2.1
      -- what both ways leave
      have back : ∀ (h₄ : Heap) (nx₄ : List (Addr × Obj)), News h₀ L h₄ ((I, oI) :: (C, oC) :: (D, lst ys) :: nx₄) →
          h₄.IsListIter I ax (i + 1) ∧ h₄.Ns C (fun z => if z = x₂ then some v₂ else if z = x then some v₁ else m' z) ∧ News h₀ L h₄ ((D, lst ys) :: nx₄) := fun h₄ nx₄ N₄ =>
        ⟨⟨_, (N₄ _ (.head _)).1, hcI, hdI⟩, hoC.ns (N₄ _ (.tail _ (.head _))).1, fun p hp => N₄ p (.tail _ (.tail _ hp))⟩
      refine wpAny_mono (hgo I oI C oC D _ h₃ _ _ hoC (by simp [hxx]) (by simp) F₃ N₃ off' ⟨nIC, nID, nCD⟩) (fun ok s₄ h₄ => ?_) fun _ _ e => e
      cases ok with
      | true =>
        simp only [if_true] at h₄ ⊢
        refine wpAny_mono h₄ (fun y s₅ h₅ => ?_) fun _ _ e => e
        refine compEnd_elim h₅ fun h₄ tk₄ nx₄ F₄ N₄ off₄ J₄ => ?_
        obtain ⟨b1, b2, b3⟩ := back h₄ nx₄ N₄
        refine append_at (hsz := by show ys.toArray.size ≤ sizeLine; rw [List.size_toArray]; exact Nat.le_trans hyl (Nat.le_trans (Nat.le_of_lt hin) hsz)) (b3 _ (.head _)).1 fun h₅ hs₅ hD₅ => ?_
        refine ⟨k - 1, Nat.sub_lt hk Nat.one_pos, PTInv.mk (i := i + 1) (pk1 hik hk) (pk2 hik hin) (by rw [List.length_append, List.length_singleton]; exact Nat.succ_le_succ hyl) (b1.at fun o e => hs₅.extBut _ o nID e) (F₄.change hs₅ hDL hD₀) (b2.sameBut hs₅ nCD) (fun p hp => ?_) off₄ J₄⟩
        rcases List.mem_cons.mp hp with rfl | hp
        · exact ⟨hD₅.trans (congrArg some (lst_snoc ys y)), hDL, hD₀⟩
        · exact ⟨hs₅.extBut _ _ (off₄.mem p hp).2.2 (b3 p (.tail _ hp)).1, (b3 p (.tail _ hp)).2⟩
      | false =>
        simp only [Bool.false_eq_true, if_false] at h₄ ⊢
        refine compEnd_elim (R := fun s => ∃ n, n < k ∧ PTInv s₁ h₀ L m I C D ax its J n s) h₄ fun h₄ tk₄ nx₄ F₄ N₄ off₄ J₄ => ?_
        obtain ⟨b1, b2, b3⟩ := back h₄ nx₄ N₄
        exact ⟨k - 1, Nat.sub_lt hk Nat.one_pos, PTInv.mk (i := i + 1) (pk1 hik hk) (pk2 hik hin) (Nat.le_succ_of_le hyl) b1 F₄ b2 b3 off₄ J₄⟩
    · have hi : i = its.size := pk3 hik hk hin
      subst hi
      refine W.done _ _ _ ⟨hit, hl'⟩ fun h₂ tk₂ hk₂ => ?_
      have N₂ := news_but N' hk₂ offI
      have hn₂ : h₂.Ns C m' := hn'.at' fun o e => hk₂ _ o (by simpa using Ne.symm nIC) e
      refine ⟨m', hn₂, fun h₃ hs₃ => hfin ys nx hJ' D h₃ tk₂ ((fr_but F' hk₂ hLI hI₀).change hs₃ hCL hC₀) (fun p hp => ⟨hs₃.extBut _ _ ?_ (N₂ p hp).1, (N₂ p hp).2⟩) off'.one⟩
      rcases List.mem_cons.mp hp with rfl | hp
      · exact Ne.symm nCD
      · exact (off3 p hp).2.1
  exact codeAny_compStart_list (loop _ rfl) (W.self 0 _ _ _ ⟨hst₁, ⟨_, (N₁ _ (.tail _ (hax _ _ _ hJ))).1, rfl, nn, rfl⟩⟩ (loop _ rfl))
end
section
variable {prog : Program} {w : World} {A : Around} {E : Value → Shared → Prop} {s : Shared} {env : Env} {h₀ : Heap} {target : Expr} {body : List Stmt} {Q : Flow → Shared → Prop}
/-- a loop with any target, by a word on its names and its ledger -/
theorem loop_genT {I : Addr} {fp : List Addr} {n : Nat} {P : Nat → Value → Prop} {St : Nat → Heap → Prop} {m₀ : Str → Option Value} {news : List (Addr × Obj)} (J : Nat → (Str → Option Value) → List (Addr × Obj) → Prop)
    (W : Walks prog w A I fp [I] n P St) (hgo : ∀ i v (s : Shared) (Q : Unit → Shared → Prop) (E : Value → Shared → Prop), St i s.heap → Q () s → wpAny (model prog w) A (letOwnedTupleGo target (.ref I) v) Q E s)
    (hLf : env.locals ∉ fp) (hI₀ : h₀.get? I = none) (hIo : ∀ i h, St i h → ∃ o, h.get? I = some o)
    (hfp : ∀ b ∈ fp, b = I ∨ ∃ o, ∀ i m nx, J i m nx → (b, o) ∈ nx) (hst : St 0 s.heap) (F : Fr h₀ env.locals s.heap m₀) (N : News h₀ env.locals s.heap news) (hnI : ∀ p ∈ news, p.1 ≠ I) (hj : J 0 m₀ news)
    (turn : ∀ i v m₁ nx h tk oI, i < n → P i v → J i m₁ nx → Fr h₀ env.locals h m₁ → News h₀ env.locals h ((I, oI) :: nx) → (∀ p ∈ nx, p.1 ≠ I) →
      wpAny (model prog w) A (assign target env v) (fun _ s₃ => wpAny (model prog w) A (execs body env) (TurnG h₀ env.locals I oI (J (i + 1)) { s with heap := h, toks := tk } Q) E s₃) E { s with heap := h, toks := tk })
    (done : ∀ m₁ nx h tk, J n m₁ nx → Fr h₀ env.locals h m₁ → News h₀ env.locals h nx → Q .next { s with heap := h, toks := tk }) :
    TurnsAt prog w A h₀ env target body Q E (.ref I) s := by
  have single : ∀ b, b ∈ [I] → b = I := fun b hb => List.mem_singleton.mp hb
  refine ⟨I, fp, [I], n, _, _, St, m₀, news, J, rfl, KTurns.ofWalks W hgo, hLf, fun b hb => by rw [single b hb]; exact hI₀, fun p hp hb => hnI p hp (single _ hb), hst, F, N, hj, ?_, fun h' tk m' nx F' N' _ hJ => done m' nx h' tk hJ F' N'⟩
  rintro i v m₁ nx hh' tk' own hin hP hJ hoff hown hget hfr hst' F₁ N₁
  obtain ⟨oI, heI⟩ := hIo _ _ hst'
  have mine : (I, oI) ∈ own := hfr I (W.sub I (List.mem_singleton.mpr rfl)) hI₀ oI heI
  have N₂ : News h₀ env.locals hh' ((I, oI) :: nx) := fun p hp => by
    rcases List.mem_cons.mp hp with rfl | hp
    · exact N₁ _ (List.mem_append_left _ mine)
    · exact N₁ _ (List.mem_append_right _ hp)
  refine wpAny_mono (turn i v m₁ nx hh' tk' oI hin hP hJ F₁ N₂ (fun p hp e => hoff p hp (List.mem_singleton.mpr e))) (fun _ s₂ p => wpAny_mono p (fun f s₃ p => ?_) fun _ _ e => e) fun _ _ e => e
  have fin : (∃ h' tk m' nx', s₃ = { ({ s with heap := hh', toks := tk' } : Shared) with heap := h', toks := tk } ∧ Fr h₀ env.locals h' m' ∧ News h₀ env.locals h' ((I, oI) :: nx') ∧ (∀ p ∈ nx', p.1 ≠ I) ∧ J (i + 1) m' nx') →
      LoopStepU h₀ env.locals [I] own (J (i + 1)) { s with heap := hh', toks := tk' } .next s₃ := by
    rintro ⟨h', tk, m', nx', e, F', N', ho, hm⟩
    refine ⟨rfl, h', tk, m', nx', e, F', fun p hp => ?_, fun p hp hb => ho p hp (single _ hb), hm⟩
    rcases List.mem_append.mp hp with hp | hp
    · rcases hfp p.1 (hown p hp) with h1 | ⟨o, h1⟩
      · have h2 : p = (I, oI) := Prod.ext h1 (Option.some.inj ((hget p hp).symm.trans (h1 ▸ heI)))
        rw [h2]
        exact N' _ (.head _)
      · have h2 : p = (p.1, o) := Prod.ext rfl (Option.some.inj ((hget p hp).symm.trans (N₂ _ (.tail _ (h1 _ _ _ hJ))).1))
        rw [h2]
        exact N' _ (.tail _ (h1 _ _ _ hm))
    · exact N' _ (.tail _ hp)
  cases f with
  | ret v => exact .ret p
  | brk => exact .brk p
  | next => exact .next (fin p)
  | cont => exact .cont (fin p)
/-- a for over a tuple of the ledger, its target any -/
theorem iter_tupT {l : Addr} {its : Array Value} {m₀ : Str → Option Value} {news : List (Addr × Obj)} (J : Nat → (Str → Option Value) → List (Addr × Obj) → Prop)
    (hh : A.handled = none) (hl : ∀ i m nx, J i m nx → (l, ({ cls := .type "tuple", data := .seq its } : Obj)) ∈ nx) (F : Fr h₀ env.locals s.heap m₀) (N : News h₀ env.locals s.heap news) (hj : J 0 m₀ news)
    (turn : ∀ I i v m₁ nx h tk oI, its[i]? = some v → J i m₁ nx → Fr h₀ env.locals h m₁ → News h₀ env.locals h ((I, oI) :: nx) → (∀ p ∈ nx, p.1 ≠ I) →
      wpAny (model prog w) A (assign target env v) (fun _ s₃ => wpAny (model prog w) A (execs body env) (TurnG h₀ env.locals I oI (J (i + 1)) { s with heap := h, toks := tk } Q) E s₃) E { s with heap := h, toks := tk })
    (done : ∀ m₁ nx h tk, J its.size m₁ nx → Fr h₀ env.locals h m₁ → News h₀ env.locals h nx → Q .next { s with heap := h, toks := tk }) :
    wpAny (model prog w) A (pyIter (.ref l)) (fun it s₂ => TurnsAt prog w A h₀ env target body Q E it s₂) E s := by
  have hol : s.heap.get? l = some { cls := .type "tuple", data := .seq its } := (N _ (hl _ _ _ hj)).1
  have hls : s.heap.IsTuple l its := ⟨_, hol, rfl, 0, rfl⟩
  have hne : l ≠ s.heap.objs.size := Nat.ne_of_lt (Heap.lt_size hol)
  refine wpAny_pyIter_tuple hls ?_
  refine loop_genT J (Walks.tuple hh s.heap.objs.size l hne its) (fun i v s' Q' E' st h => letGo_tupleiter st.1 h) ?_ (next_is_new F) (fun i h st => by obtain ⟨o, e, _⟩ := st.1; exact ⟨o, e⟩) ?_ ⟨⟨_, Heap.get?_push_size _ rfl, rfl, rfl⟩, hls.at fun o e => Heap.get?_push_of_some _ e⟩ (F.push _)
    (fun p hp => ⟨Heap.get?_push_of_some _ (N p hp).1, (N p hp).2⟩) (fun p hp => Nat.ne_of_lt (Heap.lt_size (N p hp).1)) hj (fun i v m₁ nx h tk oI _ hv => turn _ i v m₁ nx h tk oI hv) done
  · intro hm
    rcases List.mem_cons.mp hm with e | hm
    · exact absurd F.ns.lt (e ▸ Nat.lt_irrefl _)
    · exact (N _ (hl _ _ _ hj)).2.1 (List.mem_singleton.mp hm).symm
  · intro b hb
    rcases List.mem_cons.mp hb with e | hb
    · exact .inl e
    · rw [List.mem_singleton.mp hb]
      exact .inr ⟨_, hl⟩
def JSW {σ : Type} (Led : σ → List (Addr × Obj)) (ps : σ → List (Str × Value)) (stored : List Str) (m₀ : Str → Option Value) (R : Nat → σ → Prop) (i : Nat) (m : Str → Option Value) (nx : List (Addr × Obj)) : Prop :=
  ∃ c : σ, nx = Led c ∧ Names m (ps c) ∧ RestsW (ps c) stored m₀ m ∧ R i c
theorem turn_endW {σ : Type} {Led : σ → List (Addr × Obj)} {ps : σ → List (Str × Value)} {stored : List Str} {m₀ : Str → Option Value} {R : Nat → σ → Prop} {i : Nat} (c : σ) {L I : Addr} {oI : Obj} {m' : Str → Option Value} {nw : List (Addr × Obj)} {s₁ : Shared} {h' : Heap} {tk : Nat}
    (F : Fr h₀ L h' m') (N : News h₀ L h' nw) (sub : ∀ p ∈ (I, oI) :: Led c, p ∈ nw) (off : ∀ p ∈ Led c, p.1 ≠ I) (hk : Names m' (ps c)) (hr : RestsW (ps c) stored m₀ m') (hR : R i c) :
    TurnG h₀ L I oI (JSW Led ps stored m₀ R i) s₁ Q .next { s₁ with heap := h', toks := tk } :=
  ⟨h', tk, m', Led c, rfl, F, fun p hp => N p (sub p hp), off, c, rfl, hk, hr, hR⟩
theorem iter_tupTS {σ : Type} {l : Addr} {its : Array Value} {m₀ : Str → Option Value} (Led : σ → List (Addr × Obj)) (ps : σ → List (Str × Value)) (stored : List Str) (R : Nat → σ → Prop) (c₀ : σ)
    (hh : A.handled = none) (hl : ∀ c, (l, ({ cls := .type "tuple", data := .seq its } : Obj)) ∈ Led c) (F : Fr h₀ env.locals s.heap m₀) (N : News h₀ env.locals s.heap (Led c₀)) (hk : Names m₀ (ps c₀)) (hR : R 0 c₀)
    (turn : ∀ I i v (c : σ) (r9 : Str → Option Value) h tk oI, (∀ z, stored.contains z = false → r9 z = m₀ z) → its[i]? = some v → R i c → Fr h₀ env.locals h (kstB r9 (ps c)) → News h₀ env.locals h ((I, oI) :: Led c) → (∀ p ∈ Led c, p.1 ≠ I) →
      wpAny (model prog w) A (assign target env v) (fun _ s₃ => wpAny (model prog w) A (execs body env) (TurnG h₀ env.locals I oI (JSW Led ps stored m₀ R (i + 1)) { s with heap := h, toks := tk } Q) E s₃) E { s with heap := h, toks := tk })
    (done : ∀ (c : σ) (u r9 : Str → Option Value) h tk, (∀ z, stored.contains z = false → r9 z = m₀ z) → R its.size c → Fr h₀ env.locals h (kstB r9 (ps c)) → News h₀ env.locals h (Led c) → Q .next { s with heap := h, toks := tk }) :
    wpAny (model prog w) A (pyIter (.ref l)) (fun it s₂ => TurnsAt prog w A h₀ env target body Q E it s₂) E s := by
  refine iter_tupT (JSW Led ps stored m₀ R) hh (fun i m nx ⟨c, e, _⟩ => e ▸ hl c) F N ⟨c₀, rfl, hk, fun _ _ _ => rfl, hR⟩ ?_ ?_
  · rintro I i v m₁ nx h tk oI hv ⟨c, rfl, h1, h2, hR'⟩ F₁ N₁ hn
    exact turn I i v c _ h tk oI (rest_of _ _ _) hv hR' (ksw_fr h1 h2 F₁) N₁ hn
  · rintro m₁ nx h tk ⟨c, rfl, h1, h2, hR'⟩ F₁ N₁
    exact done c m₁ _ h tk (rest_of _ _ _) hR' (ksw_fr h1 h2 F₁) N₁
end
section
open LCg
/-- the source of a comprehension over a range by ones, however far off -/
def SrcLR (prog : Program) (w : World) (A : Around) (h₀ : Heap) (L : Addr) (m : Str → Option Value) (env : Env) (elt : Expr) (x : Str) (scope : Scope) (cl : List (Str × Addr)) (Fin : Shared → List Value → List (Addr × Obj) → Prop) (xv : Value) (s₁ : Shared) : Prop :=
  ∃ r a b t u v n news, xv = .ref r ∧ A.handled = none ∧ Fr h₀ L s₁.heap m ∧ News h₀ L s₁.heap news ∧ IsRange s₁.heap r a b 1 t u v ∧ Builtin.Range.rangeSize a b 1 = ((n : Nat) : Int) ∧ n ≤ sizeLine ∧
    ∀ g : Heap, CompRest prog w A h₀ L m env elt x scope cl { s₁ with heap := g } (fun _ => True) (fun i v => ∃ t, v = .int (a + (i : Int)) t) (Fin { s₁ with heap := g }) n 0 [] news
variable {prog : Program} {w : World} {A : Around} {E : Value → Shared → Prop} {s : Shared} {h₀ : Heap} {L : Addr} {m : Str → Option Value} {env : Env}
theorem comp_R {elt iter : Expr} {x : Str} {px : Pos} {scope : Scope} {cl : List (Str × Addr)} {pos : Pos} {Q : Value → Shared → Prop} (_F₀ : Fr h₀ L s.heap m)
    (hclos : closureFor scope env = pure cl) (hcell : ∀ y ∈ scope.names, y.2 ≠ .cell) (hkind : scope.kind = .function)
    (hnames : ∀ y ∈ scope.names, y.2 = .local → scope.names.lookup y.1 = some .local) (hx : scope.names.lookup x = some .local)
    (h : wpAny (model prog w) A (eval iter env) (SrcLR prog w A h₀ L m env elt x scope cl (fun s₂ => FinE h₀ L m s₂ Q)) E s)
    (hs : ∀ x, foldedSetIterable iter env x = pure x := by intro _; rfl) :
    wpAny (model prog w) A (eval (.ListComp elt [⟨.Name x px, iter, [], 0⟩] scope pos) env) Q E s := by
  rw [eval_ListComp]
  refine wpAny_comprehension_free (use := none) rfl hs hclos hkind hnames (wpAny_mono h (fun xv s₁ h₁ => ?_) fun _ _ e => e)
  obtain ⟨r, a, b, t, u, v, n, news, rfl, hh, F, N, hr, hn, hsz, R⟩ := h₁
  have end_ : ∀ (g : Heap) D C h tk m' ys news', Fr h₀ L h m → News h₀ L h ((D, lst ys) :: news') → Off1 D news' → h.Ns C m' → h₀.get? C = none → h₀.get? D = none → C ≠ L → D ≠ L → C ≠ D → (∀ p ∈ news', p.1 ≠ C) → FinE h₀ L m { s₁ with heap := g } Q ys news' →
      compPost (model prog w) A E none Q (.ref D) C (.ok .next) { s₁ with heap := h, toks := tk } := by
    intro g D C h tk m' ys news' F' N' o1 hn hC₀ hD₀ hCL hDL hCD offC fin
    refine ⟨m', hn, fun h'' hs'' => fin D h'' tk (F'.change hs'' hCL hC₀) (fun p hp => ⟨hs''.extBut _ _ ?_ (N' p hp).1, (N' p hp).2⟩) o1⟩
    rcases List.mem_cons.mp hp with rfl | hp
    · exact Ne.symm hCD
    · exact offC p hp
  have up : ∀ (ob : Obj) b o, s₁.heap.get? b = some o → (s₁.heap.push ob).get? b = some o := fun ob b o e => Heap.get?_push_of_some _ e
  have hfp : ∀ (ob : Obj), ∀ b ∈ [s₁.heap.objs.size], b < (s₁.heap.push ob).objs.size := fun ob b hb => by
    rw [List.mem_singleton.mp hb, Heap.size_push]; exact Nat.lt_succ_self _
  have offI : ∀ p ∈ news, p.1 ≠ s₁.heap.objs.size := fun p hp => Nat.ne_of_lt (Heap.lt_size (N p hp).1)
  by_cases hsm : Builtin.Range.small a b 1 = true
  · refine wpAny_pyIter_range hr hsm ?_
    exact block_U (range_walks hh a n) hsz (fun i h st => ⟨_, st⟩) range_st hcell hkind hx (by show IsRangeIter _ _ _ _ _; rw [hn]; simpa using Heap.get?_push_size _ rfl) (hfp _)
      (F.keeps (up _)) (N.grown (up _)) (Nat.ne_of_lt F.ns.lt) (next_is_new F) offI trivial (R _) (end_ _)
  · refine wpAny_pyIter_longrange hr (by simpa using hsm) ?_
    have W0 := (Walks.longrange (prog := prog) (w := w) hh s₁.heap.objs.size a 1 n)
    have W : Walks prog w A s₁.heap.objs.size [s₁.heap.objs.size] [s₁.heap.objs.size] n (fun i v => ∃ t, v = .int (a + (i : Int)) t) (fun i h => IsLongIter h s₁.heap.objs.size (a + (i : Nat) * 1) ((n : Int) - (i : Nat)) 1) :=
      { sub := W0.sub, frame := W0.frame, done := W0.done, self := W0.self,
        item := fun i s Q E hi st hQ => W0.item i s Q E hi st fun v h' tk hP => hQ v h' tk (by obtain ⟨t, rfl⟩ := hP; exact ⟨t, by rw [Int.mul_one]⟩) }
    exact block_U W hsz (fun i h st => ⟨_, st⟩) (fun i h h' o nw st e e' _ _ _ => by
        have st' : h.get? _ = some _ := st
        show h'.get? _ = some _
        rw [e', ← e]; exact st') hcell hkind hx (by show IsLongIter _ _ _ _ _; rw [hn]; simpa using Heap.get?_push_size _ rfl) (hfp _)
      (F.keeps (up _)) (N.grown (up _)) (Nat.ne_of_lt F.ns.lt) (next_is_new F) offI trivial (R _) (end_ _)
end
theorem gcd_emod {x y : Int} (hx : 0 ≤ x) (hy : 0 ≤ y) : Int.gcd y (x % y) = Int.gcd x y := by
  obtain ⟨n, rfl⟩ := Int.eq_ofNat_of_zero_le hx
  obtain ⟨m, rfl⟩ := Int.eq_ofNat_of_zero_le hy
  show Nat.gcd m (n % m) = Nat.gcd n m
  rw [Nat.gcd_comm m, ← Nat.gcd_rec, Nat.gcd_comm]
theorem gcd_step {a b x y : Int} (h : 0 ≤ x ∧ 0 ≤ y ∧ Int.gcd x y = Int.gcd a b) (hy : y ≠ 0) : 0 ≤ y ∧ 0 ≤ x.fmod y ∧ Int.gcd y (x.fmod y) = Int.gcd a b := by
  obtain ⟨h1, h2, h3⟩ := h
  rw [Int.fmod_eq_emod_of_nonneg _ h2]
  refine ⟨h2, Int.emod_nonneg _ hy, ?_⟩
  rw [← h3]
  exact gcd_emod h1 h2
theorem gcd_start {a b : Int} : 0 ≤ (if a < 0 then -a else a) ∧ 0 ≤ (if b < 0 then -b else b) ∧ Int.gcd (if a < 0 then -a else a) (if b < 0 then -b else b) = Int.gcd (if a < 0 then -a else a) (if b < 0 then -b else b) := by
  refine ⟨?_, ?_, rfl⟩ <;> (split <;> (first | lia | omega))
theorem gcd_abs {a b x y : Int} (h : 0 ≤ x ∧ 0 ≤ y ∧ Int.gcd x y = Int.gcd (if a < 0 then -a else a) (if b < 0 then -b else b)) (hy : y = 0) : x = (Int.gcd a b : Nat) := by
  obtain ⟨h1, h2, h3⟩ := h
  subst hy
  have e : ∀ c : Int, (if c < 0 then -c else c).natAbs = c.natAbs := fun c => by split <;> (first | lia | omega)
  rw [Int.gcd_zero_right] at h3
  have h4 : Int.gcd (if a < 0 then -a else a) (if b < 0 then -b else b) = Int.gcd a b := by
    unfold Int.gcd; rw [e, e]
  (first | lia | omega)
theorem gcd_meas {x y : Int} (h : 0 ≤ y) (hy : y ≠ 0) : (x.fmod y).toNat < y.toNat := by
  rw [Int.fmod_eq_emod_of_nonneg _ h]
  have := Int.emod_nonneg x hy
  have := Int.emod_lt_of_pos x (show 0 < y by (first | lia | omega))
  (first | lia | omega)
theorem gcd_tell (w : World) (a b : Int) (ta tb : Tok) (news : List (Addr × Obj)) : Tell w 3 60 [.int a ta, .int b tb] news (fun r nx => (∃ t, r = .int ((Int.gcd a b : Nat) : Int) t) ∧ nx = news) := by
  w_top off
  unfold Tell
  k_fill
  intro mean mg mb dp un gd cn cs ad ccd cl outer A₀ base h₀ L m s Q E B F X N T hk hd hu hret
  k_with_none
  k_with "lt" => ((with_reducible rename ∀ p ∈ (_ : List (Addr × Obj)), p.1 < (_ : Addr) => hlt); replace hlt := allLt_of hlt; (dsimp only [AllLt] at hlt); revert hlt; intros)
  k_with "room" => (k_dflt (first | exact rm2 (by assumption) (by rfl) | exact rm1 (by assumption) (by rfl) | exact rm3 (by assumption) (by rfl) | exact rm0 (by assumption) | fail "no"))
  k_with "arm" => (first | assumption | (with_reducible first | exact arm0 (by assumption) | exact arm1 (by assumption) | exact arm2 (by assumption) | exact arm3 (by assumption) | exact arm4 (by assumption) | exact arm5 (by assumption) | exact arm6 (by assumption) | exact arm7 (by assumption) | exact arm8 (by assumption) | exact arm9 (by assumption) | exact arm10 (by assumption) | exact arm11 (by assumption) | exact arm12 (by assumption) | exact arm13 (by assumption) | exact And.left (arm0 (by assumption)) | exact And.left (And.right (arm0 (by assumption))) | exact And.right (And.right (arm0 (by assumption))) | exact And.left (arm1 (by assumption)) | exact And.left (And.right (arm1 (by assumption))) | exact And.right (And.right (arm1 (by assumption))) | exact And.left (arm2 (by assumption)) | exact And.left (And.right (arm2 (by assumption))) | exact And.right (And.right (arm2 (by assumption))) | exact And.left (arm3 (by assumption)) | exact And.left (And.right (arm3 (by assumption))) | exact And.right (And.right (arm3 (by assumption))) | exact And.left (arm4 (by assumption)) | exact And.left (And.right (arm4 (by assumption))) | exact And.right (And.right (arm4 (by assumption))) | exact And.left (arm5 (by assumption)) | exact And.left (And.right (arm5 (by assumption))) | exact And.right (And.right (arm5 (by assumption))) | exact And.left (arm6 (by assumption)) | exact And.left (And.right (arm6 (by assumption))) | exact And.right (And.right (arm6 (by assumption))) | exact And.left (arm7 (by assumption)) | exact And.left (And.right (arm7 (by assumption))) | exact And.right (And.right (arm7 (by assumption))) | exact Nat.lt_add_one _ | fail "no") | (with_reducible refine Nat.lt_add_right _ ?_; mod_arm) | fail "no")
  k_with "ne" => (k_dflt (first | assumption | exact Ne.symm (by assumption) | (refine neN ?_; (try dsimp only); first | assumption | exact Ne.symm (by assumption) | exact Nat.ne_of_lt (by mod_arm) | exact Nat.ne_of_gt (by mod_arm) | mod_arm | exact Ne.symm (by mod_arm) | fail "no") | fail "no"))
  k_with "om" => (first | (with_reducible first | assumption | exact Ne.symm (by assumption) | exact bdA (by assumption) | exact bdB (by assumption) (by k_dflt rfl) | exact bdC (by assumption) | exact bdD (by assumption) (by k_dflt rfl) | exact bdE (by assumption) | exact bdF (by assumption) (by k_dflt rfl) | exact bdG (by assumption) (by k_dflt rfl) | exact bdH (by assumption) (by k_dflt rfl) | exact bdI (by assumption) | exact bdJ (by assumption) (by k_dflt rfl) | exact bdK (by assumption) | exact bdO (by assumption) | exact bdP (by assumption) (by k_dflt rfl) | exact bdO0 (by assumption) | exact bdP0 (by assumption) (by k_dflt rfl) | exact bdV (by assumption) | exact bdS0 (by assumption) | exact bdS1 (by assumption) | exact bdS2 (by assumption) | exact bdS3 (by assumption) | exact bdQ (by assumption) (by assumption) (by assumption) | exact bdQ2 (by assumption) (by assumption) (by assumption) (by k_dflt rfl) | exact bdQ3 (by assumption) (by assumption) (by assumption) (by assumption) (by assumption) | exact bdQ4 (by assumption) (by assumption) (by assumption) | exact bdQ5 (by assumption) (by assumption) (by assumption) (by k_dflt rfl) | exact bdNA (by assumption) | exact bdW (by assumption) (by k_dflt rfl) | exact bdX2 (by assumption) (by k_dflt rfl) | exact bdX3 (by assumption) (by k_dflt rfl) | exact bdX4 (by assumption) (by k_dflt rfl) | exact bdX5 (by assumption) (by k_dflt rfl) | exact bdT0 (by assumption) | exact bdT1 (by assumption) | exact bdR2 | exact bdR1 (by assumption) (by k_dflt rfl) | exact Nat.ne_of_lt (by mod_arm) | exact Nat.ne_of_gt (by mod_arm) | exact Ne.symm (by mod_arm) | mod_arm | fail "no") | ((with_reducible refine And.intro ?_ ?_) <;> omega) | ((with_reducible (first | (rename @Ne _ _ _ => hz9; clear hz9) | (rename And (@Ne _ _ _) _ => hz9; clear hz9) | (rename And (And (@Ne _ _ _) _) _ => hz9; clear hz9)); (repeat (with_reducible first | (rename @Ne _ _ _ => hz9; clear hz9) | (rename And (@Ne _ _ _) _ => hz9; clear hz9) | (rename And (And (@Ne _ _ _) _) _ => hz9; clear hz9))); omega)) | fail "no")
  k_with "eval Call" => (refine Call_ ?_)
  k_with "eval Name" => (k_here; k_dflt (refine' nameX_L ?F ?v ?_ ?a ?b; (case F => k_asm); (case a => rfl); (case b => rfl); (case v => first | rfl | exact hr9 _ rfl | exact hr8 _ rfl | exact (hr9 _ rfl).trans (hr8 _ rfl)); k_whole))
  k_with "storeName" => (k_here; dsimp only)
  k_with "newTuple" => (k_here; dsimp only)
  k_with "newList" => (k_here; dsimp only)
  k_with "LeaveK" => (k_here; dsimp only)
  k_with "ite" => (k_here; dsimp only)
  k_with "execs cons" => (k_here; first | k_gentoks | ((try dsimp only); refine execs_cut ?_; intro Q9 hQ9))
  k_with "exec While Compare cons nil" => k_while_given ["a!", "b!"] (fun a₀ b₀ _ x y => 0 ≤ x ∧ 0 ≤ y ∧ Int.gcd x y = Int.gcd a₀ b₀) (fun _ _ _ _ y => y.toNat) "a" "b"
  k_with "state" => first | exact gcd_start | exact gcd_step ⟨by assumption, by assumption, by assumption⟩ (by assumption)
  k_with "measure" => exact gcd_meas (by assumption) (by assumption)
  refine wpAny_call ?_
  k_dflt ktr_enter
  (rename Fr _ _ _ _ => F0); replace F0 := frAs (fun y => List.lookup y [(Str.ofString "b", Value.int b tb), (Str.ofString "a", Value.int a ta)]) F0 (by with_unfolding_all rfl)
  (repeat' (first | (k_unfold; (try dsimp only)) | walk1 | (dsimp only; walk1) | (leave1; (try dsimp only)) | (refine Then.next hQ9 ?_; clear hQ9; (try clear Q9)) | (refine Then.ret hQ9 ?_; clear hQ9; (try clear Q9)) | (refine Then.brk hQ9 ?_; clear hQ9; (try clear Q9)) | (refine Then.cont hQ9 ?_; clear hQ9; (try clear Q9)) | fail "no step"))
  exact endI hret (by assumption) (by assumption) (fun p hp => .tail _ hp) (gcd_abs ⟨by assumption, by assumption, by assumption⟩ (by assumption))
def gl (ns : List Int) : Int := ns.foldl (fun g n => ((Int.gcd g n : Nat) : Int)) 0
theorem gl_snoc (pre : List Int) (n : Int) : gl (pre ++ [n]) = ((Int.gcd (gl pre) n : Nat) : Int) := by simp [gl]
theorem gl_from_one (post : List Int) : post.foldl (fun g n => ((Int.gcd g n : Nat) : Int)) 1 = 1 := by
  induction post with
  | nil => rfl
  | cons n r ih => rw [List.foldl_cons, Int.one_gcd]; exact ih
theorem gl_one {ns pre post : List Int} {n g : Int} (e : ns = pre ++ n :: post) (hg : g = gl pre) (h : ((Int.gcd g n : Nat) : Int) = 1) : 1 = gl ns := by
  subst e hg
  have e2 : pre ++ n :: post = (pre ++ [n]) ++ post := by simp
  rw [e2]
  unfold gl
  rw [List.foldl_append]
  have h2 := gl_snoc pre n
  unfold gl at h2
  rw [h2]
  unfold gl at h
  rw [h, gl_from_one]
theorem gl_start : (0 : Int) = gl [] ∧ (0 : Int) ≠ 1 := ⟨rfl, by decide⟩
theorem gl_step {pre : List Int} {n g : Int} (hg : g = gl pre) (h : ((Int.gcd g n : Nat) : Int) ≠ 1) : ((Int.gcd g n : Nat) : Int) = gl (pre ++ [n]) ∧ ((Int.gcd g n : Nat) : Int) ≠ 1 := by
  refine ⟨?_, h⟩
  rw [gl_snoc, hg]
theorem gcd_all_tell (w : World) (l : Addr) (vs : List Value) (ns : List Int) (n : Nat) (news : List (Addr × Obj)) (hl : (l, listOf vs.toArray n) ∈ news) (hi : IntsAre vs ns) : Tell w 5 67 [.ref l] news (fun r nx => (∃ t, r = .int (gl ns) t) ∧ nx = news) := by
  w_top off
  unfold Tell
  k_fill
  intro mean mg mb dp un gd cn cs ad ccd cl outer A₀ base h₀ L m s Q E B F X N T hk hd hu hret
  k_with_none
  k_with "lt" => ((with_reducible rename ∀ p ∈ (_ : List (Addr × Obj)), p.1 < (_ : Addr) => hlt); replace hlt := allLt_of hlt; (dsimp only [AllLt] at hlt); revert hlt; intros)
  k_with "room" => (k_dflt (first | exact rm2 (by assumption) (by rfl) | exact rm1 (by assumption) (by rfl) | exact rm3 (by assumption) (by rfl) | exact rm0 (by assumption) | fail "no"))
  k_with "arm" => (first | assumption | (with_reducible first | exact arm0 (by assumption) | exact arm1 (by assumption) | exact arm2 (by assumption) | exact arm3 (by assumption) | exact arm4 (by assumption) | exact arm5 (by assumption) | exact arm6 (by assumption) | exact arm7 (by assumption) | exact arm8 (by assumption) | exact arm9 (by assumption) | exact arm10 (by assumption) | exact arm11 (by assumption) | exact arm12 (by assumption) | exact arm13 (by assumption) | exact And.left (arm0 (by assumption)) | exact And.left (And.right (arm0 (by assumption))) | exact And.right (And.right (arm0 (by assumption))) | exact And.left (arm1 (by assumption)) | exact And.left (And.right (arm1 (by assumption))) | exact And.right (And.right (arm1 (by assumption))) | exact And.left (arm2 (by assumption)) | exact And.left (And.right (arm2 (by assumption))) | exact And.right (And.right (arm2 (by assumption))) | exact And.left (arm3 (by assumption)) | exact And.left (And.right (arm3 (by assumption))) | exact And.right (And.right (arm3 (by assumption))) | exact And.left (arm4 (by assumption)) | exact And.left (And.right (arm4 (by assumption))) | exact And.right (And.right (arm4 (by assumption))) | exact And.left (arm5 (by assumption)) | exact And.left (And.right (arm5 (by assumption))) | exact And.right (And.right (arm5 (by assumption))) | exact And.left (arm6 (by assumption)) | exact And.left (And.right (arm6 (by assumption))) | exact And.right (And.right (arm6 (by assumption))) | exact And.left (arm7 (by assumption)) | exact And.left (And.right (arm7 (by assumption))) | exact And.right (And.right (arm7 (by assumption))) | exact Nat.lt_add_one _ | fail "no") | (with_reducible refine Nat.lt_add_right _ ?_; mod_arm) | fail "no")
  k_with "ne" => (k_dflt (first | assumption | exact Ne.symm (by assumption) | (refine neN ?_; (try dsimp only); first | assumption | exact Ne.symm (by assumption) | exact Nat.ne_of_lt (by mod_arm) | exact Nat.ne_of_gt (by mod_arm) | mod_arm | exact Ne.symm (by mod_arm) | fail "no") | fail "no"))
  k_with "om" => (first | (with_reducible first | assumption | exact Ne.symm (by assumption) | exact bdA (by assumption) | exact bdB (by assumption) (by k_dflt rfl) | exact bdC (by assumption) | exact bdD (by assumption) (by k_dflt rfl) | exact bdE (by assumption) | exact bdF (by assumption) (by k_dflt rfl) | exact bdG (by assumption) (by k_dflt rfl) | exact bdH (by assumption) (by k_dflt rfl) | exact bdI (by assumption) | exact bdJ (by assumption) (by k_dflt rfl) | exact bdK (by assumption) | exact bdO (by assumption) | exact bdP (by assumption) (by k_dflt rfl) | exact bdO0 (by assumption) | exact bdP0 (by assumption) (by k_dflt rfl) | exact bdV (by assumption) | exact bdS0 (by assumption) | exact bdS1 (by assumption) | exact bdS2 (by assumption) | exact bdS3 (by assumption) | exact bdQ (by assumption) (by assumption) (by assumption) | exact bdQ2 (by assumption) (by assumption) (by assumption) (by k_dflt rfl) | exact bdQ3 (by assumption) (by assumption) (by assumption) (by assumption) (by assumption) | exact bdQ4 (by assumption) (by assumption) (by assumption) | exact bdQ5 (by assumption) (by assumption) (by assumption) (by k_dflt rfl) | exact bdNA (by assumption) | exact bdW (by assumption) (by k_dflt rfl) | exact bdX2 (by assumption) (by k_dflt rfl) | exact bdX3 (by assumption) (by k_dflt rfl) | exact bdX4 (by assumption) (by k_dflt rfl) | exact bdX5 (by assumption) (by k_dflt rfl) | exact bdT0 (by assumption) | exact bdT1 (by assumption) | exact bdR2 | exact bdR1 (by assumption) (by k_dflt rfl) | exact Nat.ne_of_lt (by mod_arm) | exact Nat.ne_of_gt (by mod_arm) | exact Ne.symm (by mod_arm) | mod_arm | fail "no") | ((with_reducible refine And.intro ?_ ?_) <;> omega) | ((with_reducible (first | (rename @Ne _ _ _ => hz9; clear hz9) | (rename And (@Ne _ _ _) _ => hz9; clear hz9) | (rename And (And (@Ne _ _ _) _) _ => hz9; clear hz9)); (repeat (with_reducible first | (rename @Ne _ _ _ => hz9; clear hz9) | (rename And (@Ne _ _ _) _ => hz9; clear hz9) | (rename And (And (@Ne _ _ _) _) _ => hz9; clear hz9))); omega)) | fail "no")
  k_with "eval Call" => (refine Call_ ?_)
  k_with "eval Name" => (k_here; k_dflt (refine' nameX_L ?F ?v ?_ ?a ?b; (case F => k_asm); (case a => rfl); (case b => rfl); (case v => first | rfl | exact hr9 _ rfl | exact hr8 _ rfl | exact (hr9 _ rfl).trans (hr8 _ rfl)); k_whole))
  k_with "storeName" => (k_here; dsimp only)
  k_with "newTuple" => (k_here; dsimp only)
  k_with "newList" => (k_here; dsimp only)
  k_with "LeaveK" => (k_here; dsimp only)
  k_with "ite" => (k_here; dsimp only)
  k_with "execs cons" => (k_here; first | k_gentoks | ((try dsimp only); refine execs_cut ?_; intro Q9 hQ9))
  k_with "call ref" => (first | (k_here; k_dflt (refine' useI (gcd_tell _ _ _ _ _ _) ?q1 ?q2 ?q3 ?q4 ?q5 ?q6 ?q7 ?q8 ?_; (case q1 | q2 | q3 | q4 | q5 => k_asm); (case q6 => first | exact rfl | assumption); (case q7 => ktr_room); (case q8 => ktr_units); intro t9 h9 tk9 F9 N9; revert t9 h9 tk9 F9 N9; intros; ((try dsimp only); (try k_sweep)))) | fail "no")
  replace N := News.dup N hl
  k_with "pyIter ref" => k_state (fun pre found => found = gl pre ∧ found ≠ 1) "found"
  k_with "state" => first | exact gl_start | exact gl_step (by assumption) (by assumption)
  refine wpAny_call ?_
  k_dflt ktr_enter
  (rename Fr _ _ _ _ => F0); replace F0 := frAs (fun y => List.lookup y [(Str.ofString "numbers", Value.ref l)]) F0 (by with_unfolding_all rfl)
  (repeat' (first | (k_unfold; (try dsimp only)) | walk1 | (dsimp only; walk1) | (leave1; (try dsimp only)) | (refine Then.next hQ9 ?_; clear hQ9; (try clear Q9)) | (refine Then.ret hQ9 ?_; clear hQ9; (try clear Q9)) | (refine Then.brk hQ9 ?_; clear hQ9; (try clear Q9)) | (refine Then.cont hQ9 ?_; clear hQ9; (try clear Q9)) | fail "no step"))
  · exact endI hret (by assumption) (by assumption) (fun p hp => by simp [hp]) (gl_one (by assumption) (by assumption) (by assumption))
  · exact endI hret (by assumption) (by assumption) (fun p hp => by simp [hp]) (by assumption)
theorem gcd_ne {a b : Int} (h : a ≠ 0 ∨ b ≠ 0) : ((Int.gcd a b : Nat) : Int) ≠ 0 := by
  intro e
  have e2 : Int.gcd a b = 0 := by (first | lia | omega)
  rw [Int.gcd_eq_zero_iff] at e2
  (first | lia | omega)
theorem gcd_pos {a b : Int} (h : a ≠ 0 ∨ b ≠ 0) : (0 : Int) < ((Int.gcd a b : Nat) : Int) := by
  have := gcd_ne h
  (first | lia | omega)
theorem gcd_small {a b : Int} (h : b ≠ 0) (hb : -1000000000 < b ∧ b < 1000000000) : Int.gcd a b < 1000000000 := by
  have h1 : Nat.gcd a.natAbs b.natAbs ≤ b.natAbs := Nat.gcd_le_right _ (by (first | lia | omega))
  have h2 : Int.gcd a b = Nat.gcd a.natAbs b.natAbs := rfl
  (first | lia | omega)
theorem abs_eq (a : Int) : (if a < 0 then -a else a) = (a.natAbs : Int) := by split <;> (first | lia | omega)
theorem lcm_val (a b : Int) : (if a < 0 then -a else a).fdiv ((Int.gcd a b : Nat) : Int) * (if b < 0 then -b else b) = ((Int.lcm a b : Nat) : Int) := by
  rw [abs_eq, abs_eq, Int.fdiv_eq_ediv_of_nonneg _ (Int.natCast_nonneg _)]
  have e : ((a.natAbs : Int) / ((Int.gcd a b : Nat) : Int)) = ((a.natAbs / Int.gcd a b : Nat) : Int) := by norm_cast
  rw [e, ← Int.natCast_mul]
  congr 1
  show a.natAbs / Nat.gcd a.natAbs b.natAbs * b.natAbs = Nat.lcm a.natAbs b.natAbs
  unfold Nat.lcm
  rw [Nat.mul_comm a.natAbs, Nat.mul_div_assoc _ (Nat.gcd_dvd_left _ _), Nat.mul_comm]
theorem lcm_tell (w : World) (a b : Int) (ta tb : Tok) (news : List (Addr × Obj)) (ha : b ≠ 0) (hb : -1000000000 < b ∧ b < 1000000000) : Tell w 5 74 [.int a ta, .int b tb] news (fun r nx => (∃ t, r = .int ((Int.lcm a b : Nat) : Int) t) ∧ nx = news) := by
  w_top off
  unfold Tell
  k_fill
  intro mean mg mb dp un gd cn cs ad ccd cl outer A₀ base h₀ L m s Q E B F X N T hk hd hu hret
  k_with_none
  k_with "lt" => ((with_reducible rename ∀ p ∈ (_ : List (Addr × Obj)), p.1 < (_ : Addr) => hlt); replace hlt := allLt_of hlt; (dsimp only [AllLt] at hlt); revert hlt; intros)
  k_with "room" => (k_dflt (first | exact rm2 (by assumption) (by rfl) | exact rm1 (by assumption) (by rfl) | exact rm3 (by assumption) (by rfl) | exact rm0 (by assumption) | fail "no"))
  k_with "arm" => (first | assumption | (with_reducible first | exact arm0 (by assumption) | exact arm1 (by assumption) | exact arm2 (by assumption) | exact arm3 (by assumption) | exact arm4 (by assumption) | exact arm5 (by assumption) | exact arm6 (by assumption) | exact arm7 (by assumption) | exact arm8 (by assumption) | exact arm9 (by assumption) | exact arm10 (by assumption) | exact arm11 (by assumption) | exact arm12 (by assumption) | exact arm13 (by assumption) | exact And.left (arm0 (by assumption)) | exact And.left (And.right (arm0 (by assumption))) | exact And.right (And.right (arm0 (by assumption))) | exact And.left (arm1 (by assumption)) | exact And.left (And.right (arm1 (by assumption))) | exact And.right (And.right (arm1 (by assumption))) | exact And.left (arm2 (by assumption)) | exact And.left (And.right (arm2 (by assumption))) | exact And.right (And.right (arm2 (by assumption))) | exact And.left (arm3 (by assumption)) | exact And.left (And.right (arm3 (by assumption))) | exact And.right (And.right (arm3 (by assumption))) | exact And.left (arm4 (by assumption)) | exact And.left (And.right (arm4 (by assumption))) | exact And.right (And.right (arm4 (by assumption))) | exact And.left (arm5 (by assumption)) | exact And.left (And.right (arm5 (by assumption))) | exact And.right (And.right (arm5 (by assumption))) | exact And.left (arm6 (by assumption)) | exact And.left (And.right (arm6 (by assumption))) | exact And.right (And.right (arm6 (by assumption))) | exact And.left (arm7 (by assumption)) | exact And.left (And.right (arm7 (by assumption))) | exact And.right (And.right (arm7 (by assumption))) | exact Nat.lt_add_one _ | fail "no") | (with_reducible refine Nat.lt_add_right _ ?_; mod_arm) | fail "no")
  k_with "ne" => (k_dflt (first | assumption | exact Ne.symm (by assumption) | (refine neN ?_; (try dsimp only); first | assumption | exact Ne.symm (by assumption) | exact Nat.ne_of_lt (by mod_arm) | exact Nat.ne_of_gt (by mod_arm) | mod_arm | exact Ne.symm (by mod_arm) | fail "no") | fail "no"))
  k_with "om" => (first | (with_reducible first | assumption | exact Ne.symm (by assumption) | exact bdA (by assumption) | exact bdB (by assumption) (by k_dflt rfl) | exact bdC (by assumption) | exact bdD (by assumption) (by k_dflt rfl) | exact bdE (by assumption) | exact bdF (by assumption) (by k_dflt rfl) | exact bdG (by assumption) (by k_dflt rfl) | exact bdH (by assumption) (by k_dflt rfl) | exact bdI (by assumption) | exact bdJ (by assumption) (by k_dflt rfl) | exact bdK (by assumption) | exact bdO (by assumption) | exact bdP (by assumption) (by k_dflt rfl) | exact bdO0 (by assumption) | exact bdP0 (by assumption) (by k_dflt rfl) | exact bdV (by assumption) | exact bdS0 (by assumption) | exact bdS1 (by assumption) | exact bdS2 (by assumption) | exact bdS3 (by assumption) | exact bdQ (by assumption) (by assumption) (by assumption) | exact bdQ2 (by assumption) (by assumption) (by assumption) (by k_dflt rfl) | exact bdQ3 (by assumption) (by assumption) (by assumption) (by assumption) (by assumption) | exact bdQ4 (by assumption) (by assumption) (by assumption) | exact bdQ5 (by assumption) (by assumption) (by assumption) (by k_dflt rfl) | exact bdNA (by assumption) | exact bdW (by assumption) (by k_dflt rfl) | exact bdX2 (by assumption) (by k_dflt rfl) | exact bdX3 (by assumption) (by k_dflt rfl) | exact bdX4 (by assumption) (by k_dflt rfl) | exact bdX5 (by assumption) (by k_dflt rfl) | exact bdT0 (by assumption) | exact bdT1 (by assumption) | exact bdR2 | exact bdR1 (by assumption) (by k_dflt rfl) | exact Nat.ne_of_lt (by mod_arm) | exact Nat.ne_of_gt (by mod_arm) | exact Ne.symm (by mod_arm) | mod_arm | fail "no") | ((with_reducible refine And.intro ?_ ?_) <;> omega) | ((with_reducible (first | (rename @Ne _ _ _ => hz9; clear hz9) | (rename And (@Ne _ _ _) _ => hz9; clear hz9) | (rename And (And (@Ne _ _ _) _) _ => hz9; clear hz9)); (repeat (with_reducible first | (rename @Ne _ _ _ => hz9; clear hz9) | (rename And (@Ne _ _ _) _ => hz9; clear hz9) | (rename And (And (@Ne _ _ _) _) _ => hz9; clear hz9))); omega)) | fail "no")
  k_with "eval Call" => (refine Call_ ?_)
  k_with "eval Name" => (k_here; k_dflt (refine' nameX_L ?F ?v ?_ ?a ?b; (case F => k_asm); (case a => rfl); (case b => rfl); (case v => first | rfl | exact hr9 _ rfl | exact hr8 _ rfl | exact (hr9 _ rfl).trans (hr8 _ rfl)); k_whole))
  k_with "storeName" => (k_here; dsimp only)
  k_with "newTuple" => (k_here; dsimp only)
  k_with "newList" => (k_here; dsimp only)
  k_with "LeaveK" => (k_here; dsimp only)
  k_with "ite" => (k_here; dsimp only)
  k_with "execs cons" => (k_here; first | k_gentoks | ((try dsimp only); refine execs_cut ?_; intro Q9 hQ9))
  k_with "call ref" => (first | (k_here; k_dflt (refine' useI (gcd_tell _ _ _ _ _ _) ?q1 ?q2 ?q3 ?q4 ?q5 ?q6 ?q7 ?q8 ?_; (case q1 | q2 | q3 | q4 | q5 => k_asm); (case q6 => first | exact rfl | assumption); (case q7 => ktr_room); (case q8 => ktr_units); intro t9 h9 tk9 F9 N9; revert t9 h9 tk9 F9 N9; intros; ((try dsimp only); (try k_sweep)))) | fail "no")
  k_with "call ref" => (first | (k_here; k_dflt (refine' useI (gcd_all_tell _ _ _ _ _ _ ?hl ?hi) ?q1 ?q2 ?q3 ?q4 ?q5 ?q6 ?q7 ?q8 ?_; (case q1 | q2 | q3 | q4 | q5 => k_asm); (case q6 => first | exact rfl | assumption); (case q7 => ktr_room); (case q8 => ktr_units); (case hl => k_mem); (case hi => l_ints); intro t9 h9 tk9 F9 N9; revert t9 h9 tk9 F9 N9; intros; ((try dsimp only); (try k_sweep)))) | fail "no")
  have hg : ((Int.gcd a b : Nat) : Int) ≠ 0 := gcd_ne (.inr ha)
  have hgs : Int.gcd a b < 1000000000 := gcd_small ha hb
  refine wpAny_call ?_
  k_dflt ktr_enter
  (rename Fr _ _ _ _ => F0); replace F0 := frAs (fun y => List.lookup y [(Str.ofString "b", Value.int b tb), (Str.ofString "a", Value.int a ta)]) F0 (by with_unfolding_all rfl)
  (repeat' (first | (k_unfold; (try dsimp only)) | walk1 | (dsimp only; walk1) | (leave1; (try dsimp only)) | (refine Then.next hQ9 ?_; clear hQ9; (try clear Q9)) | (refine Then.ret hQ9 ?_; clear hQ9; (try clear Q9)) | (refine Then.brk hQ9 ?_; clear hQ9; (try clear Q9)) | (refine Then.cont hQ9 ?_; clear hQ9; (try clear Q9)) | fail "no step"))
  exact endI hret (by assumption) (by assumption) (fun p hp => hp) (lcm_val a b)
/-- p / q is a / b in lowest terms -/
structure IsR (a b p q : Int) : Prop where
  pos : 0 < q
  eq : p * b = a * q
  co : Int.gcd p q = 1
theorem gcd_parts {a b : Int} (h : b ≠ 0) : ∃ a' b', a = ((Int.gcd a b : Nat) : Int) * a' ∧ b = ((Int.gcd a b : Nat) : Int) * b' ∧ Int.gcd a' b' = 1 := by
  obtain ⟨a', ha⟩ := Int.gcd_dvd_left (a := a) (b := b)
  obtain ⟨b', hb⟩ := Int.gcd_dvd_right (a := a) (b := b)
  have hg : Int.gcd a b ≠ 0 := fun e => by rw [Int.gcd_eq_zero_iff] at e; exact h e.2
  refine ⟨a', b', ha, hb, ?_⟩
  have e : Int.gcd (((Int.gcd a b : Nat) : Int) * a') (((Int.gcd a b : Nat) : Int) * b') = Int.gcd a b := by rw [← ha, ← hb]
  rw [Int.gcd_mul_left] at e
  have e2 : Int.gcd a b * Int.gcd a' b' = Int.gcd a b * 1 := by simpa using e
  exact Nat.eq_of_mul_eq_mul_left (by (first | lia | omega)) e2
theorem isR_of {g a' b' : Int} (hb0 : 0 < g * b') (hg : g ≠ 0) (hc : Int.gcd a' b' = 1) (hg0 : 0 < g) : IsR (g * a') (g * b') ((g * a').fdiv g) ((g * b').fdiv g) := by
  rw [Int.mul_fdiv_cancel_left _ hg, Int.mul_fdiv_cancel_left _ hg]
  exact ⟨Int.pos_of_mul_pos_left (by rw [Int.mul_comm]; exact hb0) (by (first | lia | omega)), by grind, hc⟩
theorem isR_ofN {g a' b' : Int} (hb0 : g * b' < 0) (hc : Int.gcd a' b' = 1) (hg0 : 0 < g) : IsR (g * a') (g * b') ((g * a').fdiv (-g)) ((g * b').fdiv (-g)) := by
  have e1 : g * a' = (-g) * (-a') := by grind
  have e2 : g * b' = (-g) * (-b') := by grind
  rw [e1, e2, Int.mul_fdiv_cancel_left _ (by (first | lia | omega)), Int.mul_fdiv_cancel_left _ (by (first | lia | omega)), ← e1, ← e2]
  refine ⟨?_, by grind, by rw [Int.gcd_neg, Int.neg_gcd]; exact hc⟩
  rw [e2] at hb0
  by_cases h : 0 < -b'
  · exact h
  · exfalso
    have h2 : 0 ≤ g * b' := Int.mul_nonneg (by (first | lia | omega)) (by (first | lia | omega))
    grind
theorem isR_pos {a b : Int} (h : 0 < b) : IsR a b (a.fdiv ((Int.gcd a b : Nat) : Int)) (b.fdiv ((Int.gcd a b : Nat) : Int)) := by
  obtain ⟨a', b', ha, hb, hc⟩ := gcd_parts (a := a) (b := b) (by (first | lia | omega))
  have hg0 := gcd_pos (a := a) (b := b) (.inr (by (first | lia | omega)))
  generalize ((Int.gcd a b : Nat) : Int) = g at ha hb hg0
  subst ha hb
  exact isR_of h (by (first | lia | omega)) hc hg0
theorem isR_neg {a b : Int} (h : b < 0) : IsR a b (a.fdiv (-((Int.gcd a b : Nat) : Int))) (b.fdiv (-((Int.gcd a b : Nat) : Int))) := by
  obtain ⟨a', b', ha, hb, hc⟩ := gcd_parts (a := a) (b := b) (by (first | lia | omega))
  have hg0 := gcd_pos (a := a) (b := b) (.inr (by (first | lia | omega)))
  generalize ((Int.gcd a b : Nat) : Int) = g at ha hb hg0
  subst ha hb
  exact isR_ofN h hc hg0
/-- q is no more than the bottom was -/
theorem IsR.dvd {a b p q : Int} (h : IsR a b p q) : q ∣ b := by
  have h1 : q ∣ p * b := ⟨a, by rw [h.eq, Int.mul_comm]⟩
  have h2 : Int.gcd q p = 1 := by rw [Int.gcd_comm]; exact h.co
  rw [← Int.natAbs_dvd_natAbs] at h1 ⊢
  rw [Int.natAbs_mul] at h1
  exact Nat.Coprime.dvd_of_dvd_mul_left h2 h1
theorem IsR.le {a b p q : Int} (h : IsR a b p q) (hb : 0 < b) : q ≤ b := Int.le_of_dvd hb h.dvd
theorem IsR.bd {a b p q : Int} (h : IsR a b p q) (hb : b ≠ 0) : q ≤ b ∨ q ≤ -b := by
  have h1 := Int.natAbs_dvd_natAbs.mpr h.dvd
  have h2 := Nat.le_of_dvd (Int.natAbs_pos.mpr hb) h1
  exact le_abs (by rw [← Int.natAbs_of_nonneg (Int.le_of_lt h.pos)]; exact Int.ofNat_le.mpr h2)
theorem ratio_tell (w : World) (a b : Int) (ta tb : Tok) (news : List (Addr × Obj)) (ha : b ≠ 0) (hb : -1000000000 < b ∧ b < 1000000000) :
    Tell w 7 81 [.int a ta, .int b tb] news (fun r nx => ∃ (D : Addr) (p q : Int) (t u : Tok), IsR a b p q ∧ r = .ref D ∧ nx = (D, (prO p t q u)) :: news ∧ AllLt D news) := by
  w_top off
  unfold Tell
  k_fill
  intro mean mg mb dp un gd cn cs ad ccd cl outer A₀ base h₀ L m s Q E B F X N T hk hd hu hret
  k_with_none
  k_with "lt" => ((with_reducible rename ∀ p ∈ (_ : List (Addr × Obj)), p.1 < (_ : Addr) => hlt); replace hlt := allLt_of hlt; (dsimp only [AllLt] at hlt); revert hlt; intros)
  k_with "room" => (k_dflt (first | exact rm2 (by assumption) (by rfl) | exact rm1 (by assumption) (by rfl) | exact rm3 (by assumption) (by rfl) | exact rm0 (by assumption) | fail "no"))
  k_with "arm" => (first | assumption | (with_reducible first | exact arm0 (by assumption) | exact arm1 (by assumption) | exact arm2 (by assumption) | exact arm3 (by assumption) | exact arm4 (by assumption) | exact arm5 (by assumption) | exact arm6 (by assumption) | exact arm7 (by assumption) | exact arm8 (by assumption) | exact arm9 (by assumption) | exact arm10 (by assumption) | exact arm11 (by assumption) | exact arm12 (by assumption) | exact arm13 (by assumption) | exact And.left (arm0 (by assumption)) | exact And.left (And.right (arm0 (by assumption))) | exact And.right (And.right (arm0 (by assumption))) | exact And.left (arm1 (by assumption)) | exact And.left (And.right (arm1 (by assumption))) | exact And.right (And.right (arm1 (by assumption))) | exact And.left (arm2 (by assumption)) | exact And.left (And.right (arm2 (by assumption))) | exact And.right (And.right (arm2 (by assumption))) | exact And.left (arm3 (by assumption)) | exact And.left (And.right (arm3 (by assumption))) | exact And.right (And.right (arm3 (by assumption))) | exact And.left (arm4 (by assumption)) | exact And.left (And.right (arm4 (by assumption))) | exact And.right (And.right (arm4 (by assumption))) | exact And.left (arm5 (by assumption)) | exact And.left (And.right (arm5 (by assumption))) | exact And.right (And.right (arm5 (by assumption))) | exact And.left (arm6 (by assumption)) | exact And.left (And.right (arm6 (by assumption))) | exact And.right (And.right (arm6 (by assumption))) | exact And.left (arm7 (by assumption)) | exact And.left (And.right (arm7 (by assumption))) | exact And.right (And.right (arm7 (by assumption))) | exact Nat.lt_add_one _ | fail "no") | (with_reducible refine Nat.lt_add_right _ ?_; mod_arm) | fail "no")
  k_with "ne" => (k_dflt (first | assumption | exact Ne.symm (by assumption) | (refine neN ?_; (try dsimp only); first | assumption | exact Ne.symm (by assumption) | exact Nat.ne_of_lt (by mod_arm) | exact Nat.ne_of_gt (by mod_arm) | mod_arm | exact Ne.symm (by mod_arm) | fail "no") | fail "no"))
  k_with "om" => (first | (with_reducible first | assumption | exact Ne.symm (by assumption) | exact bdA (by assumption) | exact bdB (by assumption) (by k_dflt rfl) | exact bdC (by assumption) | exact bdD (by assumption) (by k_dflt rfl) | exact bdE (by assumption) | exact bdF (by assumption) (by k_dflt rfl) | exact bdG (by assumption) (by k_dflt rfl) | exact bdH (by assumption) (by k_dflt rfl) | exact bdI (by assumption) | exact bdJ (by assumption) (by k_dflt rfl) | exact bdK (by assumption) | exact bdO (by assumption) | exact bdP (by assumption) (by k_dflt rfl) | exact bdO0 (by assumption) | exact bdP0 (by assumption) (by k_dflt rfl) | exact bdV (by assumption) | exact bdS0 (by assumption) | exact bdS1 (by assumption) | exact bdS2 (by assumption) | exact bdS3 (by assumption) | exact bdQ (by assumption) (by assumption) (by assumption) | exact bdQ2 (by assumption) (by assumption) (by assumption) (by k_dflt rfl) | exact bdQ3 (by assumption) (by assumption) (by assumption) (by assumption) (by assumption) | exact bdQ4 (by assumption) (by assumption) (by assumption) | exact bdQ5 (by assumption) (by assumption) (by assumption) (by k_dflt rfl) | exact bdNA (by assumption) | exact bdW (by assumption) (by k_dflt rfl) | exact bdX2 (by assumption) (by k_dflt rfl) | exact bdX3 (by assumption) (by k_dflt rfl) | exact bdX4 (by assumption) (by k_dflt rfl) | exact bdX5 (by assumption) (by k_dflt rfl) | exact bdT0 (by assumption) | exact bdT1 (by assumption) | exact bdR2 | exact bdR1 (by assumption) (by k_dflt rfl) | exact Nat.ne_of_lt (by mod_arm) | exact Nat.ne_of_gt (by mod_arm) | exact Ne.symm (by mod_arm) | mod_arm | fail "no") | ((with_reducible refine And.intro ?_ ?_) <;> omega) | ((with_reducible (first | (rename @Ne _ _ _ => hz9; clear hz9) | (rename And (@Ne _ _ _) _ => hz9; clear hz9) | (rename And (And (@Ne _ _ _) _) _ => hz9; clear hz9)); (repeat (with_reducible first | (rename @Ne _ _ _ => hz9; clear hz9) | (rename And (@Ne _ _ _) _ => hz9; clear hz9) | (rename And (And (@Ne _ _ _) _) _ => hz9; clear hz9))); omega)) | fail "no")
  k_with "eval Call" => (refine Call_ ?_)
  k_with "eval Name" => (k_here; k_dflt (refine' nameX_L ?F ?v ?_ ?a ?b; (case F => k_asm); (case a => rfl); (case b => rfl); (case v => first | rfl | exact hr9 _ rfl | exact hr8 _ rfl | exact (hr9 _ rfl).trans (hr8 _ rfl)); k_whole))
  k_with "storeName" => (k_here; dsimp only)
  k_with "newTuple" => (k_here; dsimp only)
  k_with "newList" => (k_here; dsimp only)
  k_with "LeaveK" => (k_here; dsimp only)
  k_with "ite" => (k_here; dsimp only)
  k_with "execs cons" => (k_here; first | k_gentoks | ((try dsimp only); refine execs_cut ?_; intro Q9 hQ9))
  k_with "call ref" => (first | (k_here; k_dflt (refine' useI (gcd_tell _ _ _ _ _ _) ?q1 ?q2 ?q3 ?q4 ?q5 ?q6 ?q7 ?q8 ?_; (case q1 | q2 | q3 | q4 | q5 => k_asm); (case q6 => first | exact rfl | assumption); (case q7 => ktr_room); (case q8 => ktr_units); intro t9 h9 tk9 F9 N9; revert t9 h9 tk9 F9 N9; intros; ((try dsimp only); (try k_sweep)))) | fail "no")
  k_with "call ref" => (first | (k_here; k_dflt (refine' useI (gcd_all_tell _ _ _ _ _ _ ?hl ?hi) ?q1 ?q2 ?q3 ?q4 ?q5 ?q6 ?q7 ?q8 ?_; (case q1 | q2 | q3 | q4 | q5 => k_asm); (case q6 => first | exact rfl | assumption); (case q7 => ktr_room); (case q8 => ktr_units); (case hl => k_mem); (case hi => l_ints); intro t9 h9 tk9 F9 N9; revert t9 h9 tk9 F9 N9; intros; ((try dsimp only); (try k_sweep)))) | fail "no")
  k_with "call ref" => (first | (k_here; k_dflt (refine' useI (lcm_tell _ _ _ _ _ _ ?ha ?hb) ?q1 ?q2 ?q3 ?q4 ?q5 ?q6 ?q7 ?q8 ?_; (case q1 | q2 | q3 | q4 | q5 => k_asm); (case q6 => first | exact rfl | assumption); (case q7 => ktr_room); (case q8 => ktr_units); (case ha | hb => omega); intro t9 h9 tk9 F9 N9; (try simp only [Int.zero_sub, Int.neg_lcm, Int.lcm_neg]); revert t9 h9 tk9 F9 N9; intros; ((try dsimp only); (try k_sweep)))) | fail "no")
  have hg : ((Int.gcd a b : Nat) : Int) ≠ 0 := gcd_ne (.inr ha)
  have hgs : Int.gcd a b < 1000000000 := gcd_small ha hb
  refine wpAny_call ?_
  k_dflt ktr_enter
  (rename Fr _ _ _ _ => F0); replace F0 := frAs (fun y => List.lookup y [(Str.ofString "bottom", Value.int b tb), (Str.ofString "top", Value.int a ta)]) F0 (by with_unfolding_all rfl)
  (repeat' (first | (k_unfold; (try dsimp only)) | walk1 | (dsimp only; walk1) | (leave1; (try dsimp only)) | (refine Then.next hQ9 ?_; clear hQ9; (try clear Q9)) | (refine Then.ret hQ9 ?_; clear hQ9; (try clear Q9)) | (refine Then.brk hQ9 ?_; clear hQ9; (try clear Q9)) | (refine Then.cont hQ9 ?_; clear hQ9; (try clear Q9)) | fail "no step"))
  · exfalso; omega
  · exact endT hret (by assumption) (by assumption) (List.Mem.head _) (fun p hp => .tail _ hp) (allLt_of (by assumption)) (isR_neg (by assumption))
  · exact endT hret (by assumption) (by assumption) (List.Mem.head _) (fun p hp => .tail _ hp) (allLt_of (by assumption)) (isR_pos (by omega))
theorem whole_tell (w : World) (a : Int) (ta : Tok) (news : List (Addr × Obj)) : Tell w 3 88 [.int a ta] news (fun r nx => ∃ (D : Addr) (p q : Int) (t u : Tok), (p = a ∧ q = 1) ∧ r = .ref D ∧ nx = (D, prO p t q u) :: news ∧ AllLt D news) := by
  w_top off
  unfold Tell
  k_fill
  intro mean mg mb dp un gd cn cs ad ccd cl outer A₀ base h₀ L m s Q E B F X N T hk hd hu hret
  k_with_none
  k_with "lt" => ((with_reducible rename ∀ p ∈ (_ : List (Addr × Obj)), p.1 < (_ : Addr) => hlt); replace hlt := allLt_of hlt; (dsimp only [AllLt] at hlt); revert hlt; intros)
  k_with "room" => (k_dflt (first | exact rm2 (by assumption) (by rfl) | exact rm1 (by assumption) (by rfl) | exact rm3 (by assumption) (by rfl) | exact rm0 (by assumption) | fail "no"))
  k_with "arm" => (first | assumption | (with_reducible first | exact arm0 (by assumption) | exact arm1 (by assumption) | exact arm2 (by assumption) | exact arm3 (by assumption) | exact arm4 (by assumption) | exact arm5 (by assumption) | exact arm6 (by assumption) | exact arm7 (by assumption) | exact arm8 (by assumption) | exact arm9 (by assumption) | exact arm10 (by assumption) | exact arm11 (by assumption) | exact arm12 (by assumption) | exact arm13 (by assumption) | exact And.left (arm0 (by assumption)) | exact And.left (And.right (arm0 (by assumption))) | exact And.right (And.right (arm0 (by assumption))) | exact And.left (arm1 (by assumption)) | exact And.left (And.right (arm1 (by assumption))) | exact And.right (And.right (arm1 (by assumption))) | exact And.left (arm2 (by assumption)) | exact And.left (And.right (arm2 (by assumption))) | exact And.right (And.right (arm2 (by assumption))) | exact And.left (arm3 (by assumption)) | exact And.left (And.right (arm3 (by assumption))) | exact And.right (And.right (arm3 (by assumption))) | exact And.left (arm4 (by assumption)) | exact And.left (And.right (arm4 (by assumption))) | exact And.right (And.right (arm4 (by assumption))) | exact And.left (arm5 (by assumption)) | exact And.left (And.right (arm5 (by assumption))) | exact And.right (And.right (arm5 (by assumption))) | exact And.left (arm6 (by assumption)) | exact And.left (And.right (arm6 (by assumption))) | exact And.right (And.right (arm6 (by assumption))) | exact And.left (arm7 (by assumption)) | exact And.left (And.right (arm7 (by assumption))) | exact And.right (And.right (arm7 (by assumption))) | exact Nat.lt_add_one _ | fail "no") | (with_reducible refine Nat.lt_add_right _ ?_; mod_arm) | fail "no")
  k_with "ne" => (k_dflt (first | assumption | exact Ne.symm (by assumption) | (refine neN ?_; (try dsimp only); first | assumption | exact Ne.symm (by assumption) | exact Nat.ne_of_lt (by mod_arm) | exact Nat.ne_of_gt (by mod_arm) | mod_arm | exact Ne.symm (by mod_arm) | fail "no") | fail "no"))
  k_with "om" => (first | (with_reducible first | assumption | exact Ne.symm (by assumption) | exact bdA (by assumption) | exact bdB (by assumption) (by k_dflt rfl) | exact bdC (by assumption) | exact bdD (by assumption) (by k_dflt rfl) | exact bdE (by assumption) | exact bdF (by assumption) (by k_dflt rfl) | exact bdG (by assumption) (by k_dflt rfl) | exact bdH (by assumption) (by k_dflt rfl) | exact bdI (by assumption) | exact bdJ (by assumption) (by k_dflt rfl) | exact bdK (by assumption) | exact bdO (by assumption) | exact bdP (by assumption) (by k_dflt rfl) | exact bdO0 (by assumption) | exact bdP0 (by assumption) (by k_dflt rfl) | exact bdV (by assumption) | exact bdS0 (by assumption) | exact bdS1 (by assumption) | exact bdS2 (by assumption) | exact bdS3 (by assumption) | exact bdQ (by assumption) (by assumption) (by assumption) | exact bdQ2 (by assumption) (by assumption) (by assumption) (by k_dflt rfl) | exact bdQ3 (by assumption) (by assumption) (by assumption) (by assumption) (by assumption) | exact bdQ4 (by assumption) (by assumption) (by assumption) | exact bdQ5 (by assumption) (by assumption) (by assumption) (by k_dflt rfl) | exact bdNA (by assumption) | exact bdW (by assumption) (by k_dflt rfl) | exact bdX2 (by assumption) (by k_dflt rfl) | exact bdX3 (by assumption) (by k_dflt rfl) | exact bdX4 (by assumption) (by k_dflt rfl) | exact bdX5 (by assumption) (by k_dflt rfl) | exact bdT0 (by assumption) | exact bdT1 (by assumption) | exact bdR2 | exact bdR1 (by assumption) (by k_dflt rfl) | exact Nat.ne_of_lt (by mod_arm) | exact Nat.ne_of_gt (by mod_arm) | exact Ne.symm (by mod_arm) | mod_arm | fail "no") | ((with_reducible refine And.intro ?_ ?_) <;> omega) | ((with_reducible (first | (rename @Ne _ _ _ => hz9; clear hz9) | (rename And (@Ne _ _ _) _ => hz9; clear hz9) | (rename And (And (@Ne _ _ _) _) _ => hz9; clear hz9)); (repeat (with_reducible first | (rename @Ne _ _ _ => hz9; clear hz9) | (rename And (@Ne _ _ _) _ => hz9; clear hz9) | (rename And (And (@Ne _ _ _) _) _ => hz9; clear hz9))); omega)) | fail "no")
  k_with "eval Call" => (refine Call_ ?_)
  k_with "eval Name" => (k_here; k_dflt (refine' nameX_L ?F ?v ?_ ?a ?b; (case F => k_asm); (case a => rfl); (case b => rfl); (case v => first | rfl | exact hr9 _ rfl | exact hr8 _ rfl | exact (hr9 _ rfl).trans (hr8 _ rfl)); k_whole))
  k_with "storeName" => (k_here; dsimp only)
  k_with "newTuple" => (k_here; dsimp only)
  k_with "newList" => (k_here; dsimp only)
  k_with "LeaveK" => (k_here; dsimp only)
  k_with "ite" => (k_here; dsimp only)
  k_with "execs cons" => (k_here; first | k_gentoks | ((try dsimp only); refine execs_cut ?_; intro Q9 hQ9))
  k_with "call ref" => (first | (k_here; k_dflt (refine' useI (gcd_tell _ _ _ _ _ _) ?q1 ?q2 ?q3 ?q4 ?q5 ?q6 ?q7 ?q8 ?_; (case q1 | q2 | q3 | q4 | q5 => k_asm); (case q6 => first | exact rfl | assumption); (case q7 => ktr_room); (case q8 => ktr_units); intro t9 h9 tk9 F9 N9; revert t9 h9 tk9 F9 N9; intros; ((try dsimp only); (try k_sweep)))) | fail "no")
  k_with "call ref" => (first | (k_here; k_dflt (refine' useI (gcd_all_tell _ _ _ _ _ _ ?hl ?hi) ?q1 ?q2 ?q3 ?q4 ?q5 ?q6 ?q7 ?q8 ?_; (case q1 | q2 | q3 | q4 | q5 => k_asm); (case q6 => first | exact rfl | assumption); (case q7 => ktr_room); (case q8 => ktr_units); (case hl => k_mem); (case hi => l_ints); intro t9 h9 tk9 F9 N9; revert t9 h9 tk9 F9 N9; intros; ((try dsimp only); (try k_sweep)))) | fail "no")
  k_with "call ref" => (first | (k_here; k_dflt (refine' useI (lcm_tell _ _ _ _ _ _ ?ha ?hb) ?q1 ?q2 ?q3 ?q4 ?q5 ?q6 ?q7 ?q8 ?_; (case q1 | q2 | q3 | q4 | q5 => k_asm); (case q6 => first | exact rfl | assumption); (case q7 => ktr_room); (case q8 => ktr_units); (case ha | hb => omega); intro t9 h9 tk9 F9 N9; (try simp only [Int.zero_sub, Int.neg_lcm, Int.lcm_neg]); revert t9 h9 tk9 F9 N9; intros; ((try dsimp only); (try k_sweep)))) | fail "no")
  k_with "call ref" => (first | (k_here; k_dflt (refine' useT (ratio_tell _ _ _ _ _ _ ?ha ?hb) ?q1 ?q2 ?q3 ?q4 ?q5 ?q6 ?q7 ?q8 ?_; (case q1 | q2 | q3 | q4 | q5 => k_asm); (case q6 => first | exact rfl | assumption); (case q7 => ktr_room); (case q8 => ktr_units); (case ha | hb => omega); intro D9 p9 q9 t9 u9 h9 tk9 hP9 F9 N9 l9; (have hq9 := hP9.pos); (have hb9 := hP9.dvd); (have hc9 := hP9.bd (by omega)); (try dsimp only [AllLt] at l9); (try revert hc9); (try revert hb9); (try revert hq9); revert D9 p9 q9 t9 u9 h9 tk9 hP9 F9 N9 l9; intros; ((try dsimp only); (try k_sweep)))) | fail "no")
  refine wpAny_call ?_
  k_dflt ktr_enter
  (rename Fr _ _ _ _ => F0); replace F0 := frAs (fun y => List.lookup y [(Str.ofString "number", Value.int a ta)]) F0 (by with_unfolding_all exact Eq.refl (fun y => List.lookup y [(Str.ofString "number", Value.int a ta)]))
  (refine letA ?_); intro A9
  (repeat' (first | (k_unfold; (try dsimp only)) | walk1 | (dsimp only; walk1) | (leave1; (try dsimp only)) | (refine Then.next hQ9 ?_; clear hQ9; (try clear Q9)) | (refine Then.ret hQ9 ?_; clear hQ9; (try clear Q9)) | (refine Then.brk hQ9 ?_; clear hQ9; (try clear Q9)) | (refine Then.cont hQ9 ?_; clear hQ9; (try clear Q9)) | fail "no step"))
  exact endT (P := fun p q => p = a ∧ q = 1) hret (by assumption) (by assumption) (List.Mem.head _) (fun p hp => .tail _ hp) (allLt_of (by assumption)) ⟨rfl, rfl⟩
theorem floor_tell (w : World) (A : Addr) (p q : Int) (tp tq : Tok) (news : List (Addr × Obj)) (hA : (A, (prO p tp q tq)) ∈ news) (hq : q ≠ 0) (hs : -1000000000 < q ∧ q < 1000000000) : Tell w 3 123 [.ref A] news (fun r nx => (∃ t, r = .int (p.fdiv q) t) ∧ nx = news) := by
  w_top off
  unfold Tell
  k_fill
  intro mean mg mb dp un gd cn cs ad ccd cl outer A₀ base h₀ L m s Q E B F X N T hk hd hu hret
  k_with_none
  k_with "lt" => ((with_reducible rename ∀ p ∈ (_ : List (Addr × Obj)), p.1 < (_ : Addr) => hlt); replace hlt := allLt_of hlt; (dsimp only [AllLt] at hlt); revert hlt; intros)
  k_with "room" => (k_dflt (first | exact rm2 (by assumption) (by rfl) | exact rm1 (by assumption) (by rfl) | exact rm3 (by assumption) (by rfl) | exact rm0 (by assumption) | fail "no"))
  k_with "arm" => (first | assumption | (with_reducible first | exact arm0 (by assumption) | exact arm1 (by assumption) | exact arm2 (by assumption) | exact arm3 (by assumption) | exact arm4 (by assumption) | exact arm5 (by assumption) | exact arm6 (by assumption) | exact arm7 (by assumption) | exact arm8 (by assumption) | exact arm9 (by assumption) | exact arm10 (by assumption) | exact arm11 (by assumption) | exact arm12 (by assumption) | exact arm13 (by assumption) | exact And.left (arm0 (by assumption)) | exact And.left (And.right (arm0 (by assumption))) | exact And.right (And.right (arm0 (by assumption))) | exact And.left (arm1 (by assumption)) | exact And.left (And.right (arm1 (by assumption))) | exact And.right (And.right (arm1 (by assumption))) | exact And.left (arm2 (by assumption)) | exact And.left (And.right (arm2 (by assumption))) | exact And.right (And.right (arm2 (by assumption))) | exact And.left (arm3 (by assumption)) | exact And.left (And.right (arm3 (by assumption))) | exact And.right (And.right (arm3 (by assumption))) | exact And.left (arm4 (by assumption)) | exact And.left (And.right (arm4 (by assumption))) | exact And.right (And.right (arm4 (by assumption))) | exact And.left (arm5 (by assumption)) | exact And.left (And.right (arm5 (by assumption))) | exact And.right (And.right (arm5 (by assumption))) | exact And.left (arm6 (by assumption)) | exact And.left (And.right (arm6 (by assumption))) | exact And.right (And.right (arm6 (by assumption))) | exact And.left (arm7 (by assumption)) | exact And.left (And.right (arm7 (by assumption))) | exact And.right (And.right (arm7 (by assumption))) | exact Nat.lt_add_one _ | fail "no") | (with_reducible refine Nat.lt_add_right _ ?_; mod_arm) | fail "no")
  k_with "ne" => (k_dflt (first | assumption | exact Ne.symm (by assumption) | (refine neN ?_; (try dsimp only); first | assumption | exact Ne.symm (by assumption) | exact Nat.ne_of_lt (by mod_arm) | exact Nat.ne_of_gt (by mod_arm) | mod_arm | exact Ne.symm (by mod_arm) | fail "no") | fail "no"))
  k_with "om" => (first | (with_reducible first | assumption | exact Ne.symm (by assumption) | exact bdA (by assumption) | exact bdB (by assumption) (by k_dflt rfl) | exact bdC (by assumption) | exact bdD (by assumption) (by k_dflt rfl) | exact bdE (by assumption) | exact bdF (by assumption) (by k_dflt rfl) | exact bdG (by assumption) (by k_dflt rfl) | exact bdH (by assumption) (by k_dflt rfl) | exact bdI (by assumption) | exact bdJ (by assumption) (by k_dflt rfl) | exact bdK (by assumption) | exact bdO (by assumption) | exact bdP (by assumption) (by k_dflt rfl) | exact bdO0 (by assumption) | exact bdP0 (by assumption) (by k_dflt rfl) | exact bdV (by assumption) | exact bdS0 (by assumption) | exact bdS1 (by assumption) | exact bdS2 (by assumption) | exact bdS3 (by assumption) | exact bdQ (by assumption) (by assumption) (by assumption) | exact bdQ2 (by assumption) (by assumption) (by assumption) (by k_dflt rfl) | exact bdQ3 (by assumption) (by assumption) (by assumption) (by assumption) (by assumption) | exact bdQ4 (by assumption) (by assumption) (by assumption) | exact bdQ5 (by assumption) (by assumption) (by assumption) (by k_dflt rfl) | exact bdNA (by assumption) | exact bdW (by assumption) (by k_dflt rfl) | exact bdX2 (by assumption) (by k_dflt rfl) | exact bdX3 (by assumption) (by k_dflt rfl) | exact bdX4 (by assumption) (by k_dflt rfl) | exact bdX5 (by assumption) (by k_dflt rfl) | exact bdT0 (by assumption) | exact bdT1 (by assumption) | exact bdR2 | exact bdR1 (by assumption) (by k_dflt rfl) | exact Nat.ne_of_lt (by mod_arm) | exact Nat.ne_of_gt (by mod_arm) | exact Ne.symm (by mod_arm) | mod_arm | fail "no") | ((with_reducible refine And.intro ?_ ?_) <;> omega) | ((with_reducible (first | (rename @Ne _ _ _ => hz9; clear hz9) | (rename And (@Ne _ _ _) _ => hz9; clear hz9) | (rename And (And (@Ne _ _ _) _) _ => hz9; clear hz9)); (repeat (with_reducible first | (rename @Ne _ _ _ => hz9; clear hz9) | (rename And (@Ne _ _ _) _ => hz9; clear hz9) | (rename And (And (@Ne _ _ _) _) _ => hz9; clear hz9))); omega)) | fail "no")
  k_with "eval Call" => (refine Call_ ?_)
  k_with "eval Name" => (k_here; k_dflt (refine' nameX_L ?F ?v ?_ ?a ?b; (case F => k_asm); (case a => rfl); (case b => rfl); (case v => first | rfl | exact hr9 _ rfl | exact hr8 _ rfl | exact (hr9 _ rfl).trans (hr8 _ rfl)); k_whole))
  k_with "storeName" => (k_here; dsimp only)
  k_with "newTuple" => (k_here; dsimp only)
  k_with "newList" => (k_here; dsimp only)
  k_with "LeaveK" => (k_here; dsimp only)
  k_with "ite" => (k_here; dsimp only)
  k_with "execs cons" => (k_here; first | k_gentoks | ((try dsimp only); refine execs_cut ?_; intro Q9 hQ9))
  k_with "call ref" => (first | (k_here; k_dflt (refine' useI (gcd_tell _ _ _ _ _ _) ?q1 ?q2 ?q3 ?q4 ?q5 ?q6 ?q7 ?q8 ?_; (case q1 | q2 | q3 | q4 | q5 => k_asm); (case q6 => first | exact rfl | assumption); (case q7 => ktr_room); (case q8 => ktr_units); intro t9 h9 tk9 F9 N9; revert t9 h9 tk9 F9 N9; intros; ((try dsimp only); (try k_sweep)))) | fail "no")
  k_with "call ref" => (first | (k_here; k_dflt (refine' useI (gcd_all_tell _ _ _ _ _ _ ?hl ?hi) ?q1 ?q2 ?q3 ?q4 ?q5 ?q6 ?q7 ?q8 ?_; (case q1 | q2 | q3 | q4 | q5 => k_asm); (case q6 => first | exact rfl | assumption); (case q7 => ktr_room); (case q8 => ktr_units); (case hl => k_mem); (case hi => l_ints); intro t9 h9 tk9 F9 N9; revert t9 h9 tk9 F9 N9; intros; ((try dsimp only); (try k_sweep)))) | fail "no")
  k_with "call ref" => (first | (k_here; k_dflt (refine' useI (lcm_tell _ _ _ _ _ _ ?ha ?hb) ?q1 ?q2 ?q3 ?q4 ?q5 ?q6 ?q7 ?q8 ?_; (case q1 | q2 | q3 | q4 | q5 => k_asm); (case q6 => first | exact rfl | assumption); (case q7 => ktr_room); (case q8 => ktr_units); (case ha | hb => omega); intro t9 h9 tk9 F9 N9; (try simp only [Int.zero_sub, Int.neg_lcm, Int.lcm_neg]); revert t9 h9 tk9 F9 N9; intros; ((try dsimp only); (try k_sweep)))) | fail "no")
  k_with "call ref" => (first | (k_here; k_dflt (refine' useT (ratio_tell _ _ _ _ _ _ ?ha ?hb) ?q1 ?q2 ?q3 ?q4 ?q5 ?q6 ?q7 ?q8 ?_; (case q1 | q2 | q3 | q4 | q5 => k_asm); (case q6 => first | exact rfl | assumption); (case q7 => ktr_room); (case q8 => ktr_units); (case ha | hb => omega); intro D9 p9 q9 t9 u9 h9 tk9 hP9 F9 N9 l9; (have hq9 := hP9.pos); (have hb9 := hP9.dvd); (have hc9 := hP9.bd (by omega)); (try dsimp only [AllLt] at l9); (try revert hc9); (try revert hb9); (try revert hq9); revert D9 p9 q9 t9 u9 h9 tk9 hP9 F9 N9 l9; intros; ((try dsimp only); (try k_sweep)))) | fail "no")
  replace N := News.dup N hA
  refine wpAny_call ?_
  k_dflt ktr_enter
  (rename Fr _ _ _ _ => F0); replace F0 := frAs (fun y => List.lookup y [(Str.ofString "a", Value.ref A)]) F0 (by with_unfolding_all exact Eq.refl (fun y => List.lookup y [(Str.ofString "a", Value.ref A)]))
  (refine letA ?_); intro A9
  (repeat' (first | (k_unfold; (try dsimp only)) | walk1 | (dsimp only; walk1) | (leave1; (try dsimp only)) | (refine Then.next hQ9 ?_; clear hQ9; (try clear Q9)) | (refine Then.ret hQ9 ?_; clear hQ9; (try clear Q9)) | (refine Then.brk hQ9 ?_; clear hQ9; (try clear Q9)) | (refine Then.cont hQ9 ?_; clear hQ9; (try clear Q9)) | fail "no step"))
  exact endI hret (by assumption) (by assumption) (fun p hp => .tail _ hp) rfl
theorem ceil_tell (w : World) (A : Addr) (p q : Int) (tp tq : Tok) (news : List (Addr × Obj)) (hA : (A, (prO p tp q tq)) ∈ news) (hq : q ≠ 0) (hs : -1000000000 < q ∧ q < 1000000000) : Tell w 3 130 [.ref A] news (fun r nx => (∃ t, r = .int (-((-p).fdiv q)) t) ∧ nx = news) := by
  w_top off
  unfold Tell
  k_fill
  intro mean mg mb dp un gd cn cs ad ccd cl outer A₀ base h₀ L m s Q E B F X N T hk hd hu hret
  k_with_none
  k_with "lt" => ((with_reducible rename ∀ p ∈ (_ : List (Addr × Obj)), p.1 < (_ : Addr) => hlt); replace hlt := allLt_of hlt; (dsimp only [AllLt] at hlt); revert hlt; intros)
  k_with "room" => (k_dflt (first | exact rm2 (by assumption) (by rfl) | exact rm1 (by assumption) (by rfl) | exact rm3 (by assumption) (by rfl) | exact rm0 (by assumption) | fail "no"))
  k_with "arm" => (first | assumption | (with_reducible first | exact arm0 (by assumption) | exact arm1 (by assumption) | exact arm2 (by assumption) | exact arm3 (by assumption) | exact arm4 (by assumption) | exact arm5 (by assumption) | exact arm6 (by assumption) | exact arm7 (by assumption) | exact arm8 (by assumption) | exact arm9 (by assumption) | exact arm10 (by assumption) | exact arm11 (by assumption) | exact arm12 (by assumption) | exact arm13 (by assumption) | exact And.left (arm0 (by assumption)) | exact And.left (And.right (arm0 (by assumption))) | exact And.right (And.right (arm0 (by assumption))) | exact And.left (arm1 (by assumption)) | exact And.left (And.right (arm1 (by assumption))) | exact And.right (And.right (arm1 (by assumption))) | exact And.left (arm2 (by assumption)) | exact And.left (And.right (arm2 (by assumption))) | exact And.right (And.right (arm2 (by assumption))) | exact And.left (arm3 (by assumption)) | exact And.left (And.right (arm3 (by assumption))) | exact And.right (And.right (arm3 (by assumption))) | exact And.left (arm4 (by assumption)) | exact And.left (And.right (arm4 (by assumption))) | exact And.right (And.right (arm4 (by assumption))) | exact And.left (arm5 (by assumption)) | exact And.left (And.right (arm5 (by assumption))) | exact And.right (And.right (arm5 (by assumption))) | exact And.left (arm6 (by assumption)) | exact And.left (And.right (arm6 (by assumption))) | exact And.right (And.right (arm6 (by assumption))) | exact And.left (arm7 (by assumption)) | exact And.left (And.right (arm7 (by assumption))) | exact And.right (And.right (arm7 (by assumption))) | exact Nat.lt_add_one _ | fail "no") | (with_reducible refine Nat.lt_add_right _ ?_; mod_arm) | fail "no")
  k_with "ne" => (k_dflt (first | assumption | exact Ne.symm (by assumption) | (refine neN ?_; (try dsimp only); first | assumption | exact Ne.symm (by assumption) | exact Nat.ne_of_lt (by mod_arm) | exact Nat.ne_of_gt (by mod_arm) | mod_arm | exact Ne.symm (by mod_arm) | fail "no") | fail "no"))
  k_with "om" => (first | (with_reducible first | assumption | exact Ne.symm (by assumption) | exact bdA (by assumption) | exact bdB (by assumption) (by k_dflt rfl) | exact bdC (by assumption) | exact bdD (by assumption) (by k_dflt rfl) | exact bdE (by assumption) | exact bdF (by assumption) (by k_dflt rfl) | exact bdG (by assumption) (by k_dflt rfl) | exact bdH (by assumption) (by k_dflt rfl) | exact bdI (by assumption) | exact bdJ (by assumption) (by k_dflt rfl) | exact bdK (by assumption) | exact bdO (by assumption) | exact bdP (by assumption) (by k_dflt rfl) | exact bdO0 (by assumption) | exact bdP0 (by assumption) (by k_dflt rfl) | exact bdV (by assumption) | exact bdS0 (by assumption) | exact bdS1 (by assumption) | exact bdS2 (by assumption) | exact bdS3 (by assumption) | exact bdQ (by assumption) (by assumption) (by assumption) | exact bdQ2 (by assumption) (by assumption) (by assumption) (by k_dflt rfl) | exact bdQ3 (by assumption) (by assumption) (by assumption) (by assumption) (by assumption) | exact bdQ4 (by assumption) (by assumption) (by assumption) | exact bdQ5 (by assumption) (by assumption) (by assumption) (by k_dflt rfl) | exact bdNA (by assumption) | exact bdW (by assumption) (by k_dflt rfl) | exact bdX2 (by assumption) (by k_dflt rfl) | exact bdX3 (by assumption) (by k_dflt rfl) | exact bdX4 (by assumption) (by k_dflt rfl) | exact bdX5 (by assumption) (by k_dflt rfl) | exact bdT0 (by assumption) | exact bdT1 (by assumption) | exact bdR2 | exact bdR1 (by assumption) (by k_dflt rfl) | exact Nat.ne_of_lt (by mod_arm) | exact Nat.ne_of_gt (by mod_arm) | exact Ne.symm (by mod_arm) | mod_arm | fail "no") | ((with_reducible refine And.intro ?_ ?_) <;> omega) | ((with_reducible (first | (rename @Ne _ _ _ => hz9; clear hz9) | (rename And (@Ne _ _ _) _ => hz9; clear hz9) | (rename And (And (@Ne _ _ _) _) _ => hz9; clear hz9)); (repeat (with_reducible first | (rename @Ne _ _ _ => hz9; clear hz9) | (rename And (@Ne _ _ _) _ => hz9; clear hz9) | (rename And (And (@Ne _ _ _) _) _ => hz9; clear hz9))); omega)) | fail "no")
  k_with "eval Call" => (refine Call_ ?_)
  k_with "eval Name" => (k_here; k_dflt (refine' nameX_L ?F ?v ?_ ?a ?b; (case F => k_asm); (case a => rfl); (case b => rfl); (case v => first | rfl | exact hr9 _ rfl | exact hr8 _ rfl | exact (hr9 _ rfl).trans (hr8 _ rfl)); k_whole))
  k_with "storeName" => (k_here; dsimp only)
  k_with "newTuple" => (k_here; dsimp only)
  k_with "newList" => (k_here; dsimp only)
  k_with "LeaveK" => (k_here; dsimp only)
  k_with "ite" => (k_here; dsimp only)
  k_with "execs cons" => (k_here; first | k_gentoks | ((try dsimp only); refine execs_cut ?_; intro Q9 hQ9))
  k_with "call ref" => (first | (k_here; k_dflt (refine' useI (gcd_tell _ _ _ _ _ _) ?q1 ?q2 ?q3 ?q4 ?q5 ?q6 ?q7 ?q8 ?_; (case q1 | q2 | q3 | q4 | q5 => k_asm); (case q6 => first | exact rfl | assumption); (case q7 => ktr_room); (case q8 => ktr_units); intro t9 h9 tk9 F9 N9; revert t9 h9 tk9 F9 N9; intros; ((try dsimp only); (try k_sweep)))) | fail "no")
  k_with "call ref" => (first | (k_here; k_dflt (refine' useI (gcd_all_tell _ _ _ _ _ _ ?hl ?hi) ?q1 ?q2 ?q3 ?q4 ?q5 ?q6 ?q7 ?q8 ?_; (case q1 | q2 | q3 | q4 | q5 => k_asm); (case q6 => first | exact rfl | assumption); (case q7 => ktr_room); (case q8 => ktr_units); (case hl => k_mem); (case hi => l_ints); intro t9 h9 tk9 F9 N9; revert t9 h9 tk9 F9 N9; intros; ((try dsimp only); (try k_sweep)))) | fail "no")
  k_with "call ref" => (first | (k_here; k_dflt (refine' useI (lcm_tell _ _ _ _ _ _ ?ha ?hb) ?q1 ?q2 ?q3 ?q4 ?q5 ?q6 ?q7 ?q8 ?_; (case q1 | q2 | q3 | q4 | q5 => k_asm); (case q6 => first | exact rfl | assumption); (case q7 => ktr_room); (case q8 => ktr_units); (case ha | hb => omega); intro t9 h9 tk9 F9 N9; (try simp only [Int.zero_sub, Int.neg_lcm, Int.lcm_neg]); revert t9 h9 tk9 F9 N9; intros; ((try dsimp only); (try k_sweep)))) | fail "no")
  k_with "call ref" => (first | (k_here; k_dflt (refine' useT (ratio_tell _ _ _ _ _ _ ?ha ?hb) ?q1 ?q2 ?q3 ?q4 ?q5 ?q6 ?q7 ?q8 ?_; (case q1 | q2 | q3 | q4 | q5 => k_asm); (case q6 => first | exact rfl | assumption); (case q7 => ktr_room); (case q8 => ktr_units); (case ha | hb => omega); intro D9 p9 q9 t9 u9 h9 tk9 hP9 F9 N9 l9; (have hq9 := hP9.pos); (have hb9 := hP9.dvd); (have hc9 := hP9.bd (by omega)); (try dsimp only [AllLt] at l9); (try revert hc9); (try revert hb9); (try revert hq9); revert D9 p9 q9 t9 u9 h9 tk9 hP9 F9 N9 l9; intros; ((try dsimp only); (try k_sweep)))) | fail "no")
  replace N := News.dup N hA
  refine wpAny_call ?_
  k_dflt ktr_enter
  (rename Fr _ _ _ _ => F0); replace F0 := frAs (fun y => List.lookup y [(Str.ofString "a", Value.ref A)]) F0 (by with_unfolding_all exact Eq.refl (fun y => List.lookup y [(Str.ofString "a", Value.ref A)]))
  (refine letA ?_); intro A9
  (repeat' (first | (k_unfold; (try dsimp only)) | walk1 | (dsimp only; walk1) | (leave1; (try dsimp only)) | (refine Then.next hQ9 ?_; clear hQ9; (try clear Q9)) | (refine Then.ret hQ9 ?_; clear hQ9; (try clear Q9)) | (refine Then.brk hQ9 ?_; clear hQ9; (try clear Q9)) | (refine Then.cont hQ9 ?_; clear hQ9; (try clear Q9)) | fail "no step"))
  exact endI hret (by assumption) (by assumption) (fun p hp => .tail _ hp) rfl
theorem iswhole_tell (w : World) (A : Addr) (p q : Int) (tp tq : Tok) (news : List (Addr × Obj)) (hA : (A, (prO p tp q tq)) ∈ news) : Tell w 3 137 [.ref A] news (fun r nx => r = .bool (q == 1) ∧ nx = news) := by
  w_top off
  unfold Tell
  k_fill
  intro mean mg mb dp un gd cn cs ad ccd cl outer A₀ base h₀ L m s Q E B F X N T hk hd hu hret
  k_with_none
  k_with "lt" => ((with_reducible rename ∀ p ∈ (_ : List (Addr × Obj)), p.1 < (_ : Addr) => hlt); replace hlt := allLt_of hlt; (dsimp only [AllLt] at hlt); revert hlt; intros)
  k_with "room" => (k_dflt (first | exact rm2 (by assumption) (by rfl) | exact rm1 (by assumption) (by rfl) | exact rm3 (by assumption) (by rfl) | exact rm0 (by assumption) | fail "no"))
  k_with "arm" => (first | assumption | (with_reducible first | exact arm0 (by assumption) | exact arm1 (by assumption) | exact arm2 (by assumption) | exact arm3 (by assumption) | exact arm4 (by assumption) | exact arm5 (by assumption) | exact arm6 (by assumption) | exact arm7 (by assumption) | exact arm8 (by assumption) | exact arm9 (by assumption) | exact arm10 (by assumption) | exact arm11 (by assumption) | exact arm12 (by assumption) | exact arm13 (by assumption) | exact And.left (arm0 (by assumption)) | exact And.left (And.right (arm0 (by assumption))) | exact And.right (And.right (arm0 (by assumption))) | exact And.left (arm1 (by assumption)) | exact And.left (And.right (arm1 (by assumption))) | exact And.right (And.right (arm1 (by assumption))) | exact And.left (arm2 (by assumption)) | exact And.left (And.right (arm2 (by assumption))) | exact And.right (And.right (arm2 (by assumption))) | exact And.left (arm3 (by assumption)) | exact And.left (And.right (arm3 (by assumption))) | exact And.right (And.right (arm3 (by assumption))) | exact And.left (arm4 (by assumption)) | exact And.left (And.right (arm4 (by assumption))) | exact And.right (And.right (arm4 (by assumption))) | exact And.left (arm5 (by assumption)) | exact And.left (And.right (arm5 (by assumption))) | exact And.right (And.right (arm5 (by assumption))) | exact And.left (arm6 (by assumption)) | exact And.left (And.right (arm6 (by assumption))) | exact And.right (And.right (arm6 (by assumption))) | exact And.left (arm7 (by assumption)) | exact And.left (And.right (arm7 (by assumption))) | exact And.right (And.right (arm7 (by assumption))) | exact Nat.lt_add_one _ | fail "no") | (with_reducible refine Nat.lt_add_right _ ?_; mod_arm) | fail "no")
  k_with "ne" => (k_dflt (first | assumption | exact Ne.symm (by assumption) | (refine neN ?_; (try dsimp only); first | assumption | exact Ne.symm (by assumption) | exact Nat.ne_of_lt (by mod_arm) | exact Nat.ne_of_gt (by mod_arm) | mod_arm | exact Ne.symm (by mod_arm) | fail "no") | fail "no"))
  k_with "om" => (first | (with_reducible first | assumption | exact Ne.symm (by assumption) | exact bdA (by assumption) | exact bdB (by assumption) (by k_dflt rfl) | exact bdC (by assumption) | exact bdD (by assumption) (by k_dflt rfl) | exact bdE (by assumption) | exact bdF (by assumption) (by k_dflt rfl) | exact bdG (by assumption) (by k_dflt rfl) | exact bdH (by assumption) (by k_dflt rfl) | exact bdI (by assumption) | exact bdJ (by assumption) (by k_dflt rfl) | exact bdK (by assumption) | exact bdO (by assumption) | exact bdP (by assumption) (by k_dflt rfl) | exact bdO0 (by assumption) | exact bdP0 (by assumption) (by k_dflt rfl) | exact bdV (by assumption) | exact bdS0 (by assumption) | exact bdS1 (by assumption) | exact bdS2 (by assumption) | exact bdS3 (by assumption) | exact bdQ (by assumption) (by assumption) (by assumption) | exact bdQ2 (by assumption) (by assumption) (by assumption) (by k_dflt rfl) | exact bdQ3 (by assumption) (by assumption) (by assumption) (by assumption) (by assumption) | exact bdQ4 (by assumption) (by assumption) (by assumption) | exact bdQ5 (by assumption) (by assumption) (by assumption) (by k_dflt rfl) | exact bdNA (by assumption) | exact bdW (by assumption) (by k_dflt rfl) | exact bdX2 (by assumption) (by k_dflt rfl) | exact bdX3 (by assumption) (by k_dflt rfl) | exact bdX4 (by assumption) (by k_dflt rfl) | exact bdX5 (by assumption) (by k_dflt rfl) | exact bdT0 (by assumption) | exact bdT1 (by assumption) | exact bdR2 | exact bdR1 (by assumption) (by k_dflt rfl) | exact Nat.ne_of_lt (by mod_arm) | exact Nat.ne_of_gt (by mod_arm) | exact Ne.symm (by mod_arm) | mod_arm | fail "no") | ((with_reducible refine And.intro ?_ ?_) <;> omega) | ((with_reducible (first | (rename @Ne _ _ _ => hz9; clear hz9) | (rename And (@Ne _ _ _) _ => hz9; clear hz9) | (rename And (And (@Ne _ _ _) _) _ => hz9; clear hz9)); (repeat (with_reducible first | (rename @Ne _ _ _ => hz9; clear hz9) | (rename And (@Ne _ _ _) _ => hz9; clear hz9) | (rename And (And (@Ne _ _ _) _) _ => hz9; clear hz9))); omega)) | fail "no")
  k_with "eval Call" => (refine Call_ ?_)
  k_with "eval Name" => (k_here; k_dflt (refine' nameX_L ?F ?v ?_ ?a ?b; (case F => k_asm); (case a => rfl); (case b => rfl); (case v => first | rfl | exact hr9 _ rfl | exact hr8 _ rfl | exact (hr9 _ rfl).trans (hr8 _ rfl)); k_whole))
  k_with "storeName" => (k_here; dsimp only)
  k_with "newTuple" => (k_here; dsimp only)
  k_with "newList" => (k_here; dsimp only)
  k_with "LeaveK" => (k_here; dsimp only)
  k_with "ite" => (k_here; dsimp only)
  k_with "execs cons" => (k_here; first | k_gentoks | ((try dsimp only); refine execs_cut ?_; intro Q9 hQ9))
  k_with "call ref" => (first | (k_here; k_dflt (refine' useI (gcd_tell _ _ _ _ _ _) ?q1 ?q2 ?q3 ?q4 ?q5 ?q6 ?q7 ?q8 ?_; (case q1 | q2 | q3 | q4 | q5 => k_asm); (case q6 => first | exact rfl | assumption); (case q7 => ktr_room); (case q8 => ktr_units); intro t9 h9 tk9 F9 N9; revert t9 h9 tk9 F9 N9; intros; ((try dsimp only); (try k_sweep)))) | fail "no")
  k_with "call ref" => (first | (k_here; k_dflt (refine' useI (gcd_all_tell _ _ _ _ _ _ ?hl ?hi) ?q1 ?q2 ?q3 ?q4 ?q5 ?q6 ?q7 ?q8 ?_; (case q1 | q2 | q3 | q4 | q5 => k_asm); (case q6 => first | exact rfl | assumption); (case q7 => ktr_room); (case q8 => ktr_units); (case hl => k_mem); (case hi => l_ints); intro t9 h9 tk9 F9 N9; revert t9 h9 tk9 F9 N9; intros; ((try dsimp only); (try k_sweep)))) | fail "no")
  k_with "call ref" => (first | (k_here; k_dflt (refine' useI (lcm_tell _ _ _ _ _ _ ?ha ?hb) ?q1 ?q2 ?q3 ?q4 ?q5 ?q6 ?q7 ?q8 ?_; (case q1 | q2 | q3 | q4 | q5 => k_asm); (case q6 => first | exact rfl | assumption); (case q7 => ktr_room); (case q8 => ktr_units); (case ha | hb => omega); intro t9 h9 tk9 F9 N9; (try simp only [Int.zero_sub, Int.neg_lcm, Int.lcm_neg]); revert t9 h9 tk9 F9 N9; intros; ((try dsimp only); (try k_sweep)))) | fail "no")
  k_with "call ref" => (first | (k_here; k_dflt (refine' useT (ratio_tell _ _ _ _ _ _ ?ha ?hb) ?q1 ?q2 ?q3 ?q4 ?q5 ?q6 ?q7 ?q8 ?_; (case q1 | q2 | q3 | q4 | q5 => k_asm); (case q6 => first | exact rfl | assumption); (case q7 => ktr_room); (case q8 => ktr_units); (case ha | hb => omega); intro D9 p9 q9 t9 u9 h9 tk9 hP9 F9 N9 l9; (have hq9 := hP9.pos); (have hb9 := hP9.dvd); (have hc9 := hP9.bd (by omega)); (try dsimp only [AllLt] at l9); (try revert hc9); (try revert hb9); (try revert hq9); revert D9 p9 q9 t9 u9 h9 tk9 hP9 F9 N9 l9; intros; ((try dsimp only); (try k_sweep)))) | fail "no")
  replace N := News.dup N hA
  refine wpAny_call ?_
  k_dflt ktr_enter
  (rename Fr _ _ _ _ => F0); replace F0 := frAs (fun y => List.lookup y [(Str.ofString "a", Value.ref A)]) F0 (by with_unfolding_all exact Eq.refl (fun y => List.lookup y [(Str.ofString "a", Value.ref A)]))
  (refine letA ?_); intro A9
  (repeat' (first | (k_unfold; (try dsimp only)) | walk1 | (dsimp only; walk1) | (leave1; (try dsimp only)) | (refine Then.next hQ9 ?_; clear hQ9; (try clear Q9)) | (refine Then.ret hQ9 ?_; clear hQ9; (try clear Q9)) | (refine Then.brk hQ9 ?_; clear hQ9; (try clear Q9)) | (refine Then.cont hQ9 ?_; clear hQ9; (try clear Q9)) | fail "no step"))
  exact endB hret (by assumption) (by assumption) (fun p hp => .tail _ hp) rfl
def cmpv (x y : Int) : Int := if y < x then 1 else if x < y then -1 else 0
theorem cmp_val (x y : Int) : b2i (decide (y < x)) - b2i (decide (x < y)) = cmpv x y := by
  unfold cmpv b2i
  by_cases h1 : y < x <;> by_cases h2 : x < y <;> simp [h1, h2] <;> (first | lia | omega)
theorem compare_tell (w : World) (A C : Addr) (p q r v : Int) (tp tq tr tv : Tok) (news : List (Addr × Obj)) (hA : (A, (prO p tp q tq)) ∈ news) (hC : (C, (prO r tr v tv)) ∈ news) (hq : -1000000000 < q ∧ q < 1000000000) (hv : -1000000000 < v ∧ v < 1000000000) : Tell w 3 116 [.ref A, .ref C] news (fun r' nx => (∃ t, r' = .int (cmpv (p * v) (r * q)) t) ∧ nx = news) := by
  w_top off
  unfold Tell
  k_fill
  intro mean mg mb dp un gd cn cs ad ccd cl outer A₀ base h₀ L m s Q E B F X N T hk hd hu hret
  k_with_none
  k_with "lt" => ((with_reducible rename ∀ p ∈ (_ : List (Addr × Obj)), p.1 < (_ : Addr) => hlt); replace hlt := allLt_of hlt; (dsimp only [AllLt] at hlt); revert hlt; intros)
  k_with "room" => (k_dflt (first | exact rm2 (by assumption) (by rfl) | exact rm1 (by assumption) (by rfl) | exact rm3 (by assumption) (by rfl) | exact rm0 (by assumption) | fail "no"))
  k_with "arm" => (first | assumption | (with_reducible first | exact arm0 (by assumption) | exact arm1 (by assumption) | exact arm2 (by assumption) | exact arm3 (by assumption) | exact arm4 (by assumption) | exact arm5 (by assumption) | exact arm6 (by assumption) | exact arm7 (by assumption) | exact arm8 (by assumption) | exact arm9 (by assumption) | exact arm10 (by assumption) | exact arm11 (by assumption) | exact arm12 (by assumption) | exact arm13 (by assumption) | exact And.left (arm0 (by assumption)) | exact And.left (And.right (arm0 (by assumption))) | exact And.right (And.right (arm0 (by assumption))) | exact And.left (arm1 (by assumption)) | exact And.left (And.right (arm1 (by assumption))) | exact And.right (And.right (arm1 (by assumption))) | exact And.left (arm2 (by assumption)) | exact And.left (And.right (arm2 (by assumption))) | exact And.right (And.right (arm2 (by assumption))) | exact And.left (arm3 (by assumption)) | exact And.left (And.right (arm3 (by assumption))) | exact And.right (And.right (arm3 (by assumption))) | exact And.left (arm4 (by assumption)) | exact And.left (And.right (arm4 (by assumption))) | exact And.right (And.right (arm4 (by assumption))) | exact And.left (arm5 (by assumption)) | exact And.left (And.right (arm5 (by assumption))) | exact And.right (And.right (arm5 (by assumption))) | exact And.left (arm6 (by assumption)) | exact And.left (And.right (arm6 (by assumption))) | exact And.right (And.right (arm6 (by assumption))) | exact And.left (arm7 (by assumption)) | exact And.left (And.right (arm7 (by assumption))) | exact And.right (And.right (arm7 (by assumption))) | exact Nat.lt_add_one _ | fail "no") | (with_reducible refine Nat.lt_add_right _ ?_; mod_arm) | fail "no")
  k_with "ne" => (k_dflt (first | assumption | exact Ne.symm (by assumption) | (refine neN ?_; (try dsimp only); first | assumption | exact Ne.symm (by assumption) | exact Nat.ne_of_lt (by mod_arm) | exact Nat.ne_of_gt (by mod_arm) | mod_arm | exact Ne.symm (by mod_arm) | fail "no") | fail "no"))
  k_with "om" => (first | (with_reducible first | assumption | exact Ne.symm (by assumption) | exact bdA (by assumption) | exact bdB (by assumption) (by k_dflt rfl) | exact bdC (by assumption) | exact bdD (by assumption) (by k_dflt rfl) | exact bdE (by assumption) | exact bdF (by assumption) (by k_dflt rfl) | exact bdG (by assumption) (by k_dflt rfl) | exact bdH (by assumption) (by k_dflt rfl) | exact bdI (by assumption) | exact bdJ (by assumption) (by k_dflt rfl) | exact bdK (by assumption) | exact bdO (by assumption) | exact bdP (by assumption) (by k_dflt rfl) | exact bdO0 (by assumption) | exact bdP0 (by assumption) (by k_dflt rfl) | exact bdV (by assumption) | exact bdS0 (by assumption) | exact bdS1 (by assumption) | exact bdS2 (by assumption) | exact bdS3 (by assumption) | exact bdQ (by assumption) (by assumption) (by assumption) | exact bdQ2 (by assumption) (by assumption) (by assumption) (by k_dflt rfl) | exact bdQ3 (by assumption) (by assumption) (by assumption) (by assumption) (by assumption) | exact bdQ4 (by assumption) (by assumption) (by assumption) | exact bdQ5 (by assumption) (by assumption) (by assumption) (by k_dflt rfl) | exact bdNA (by assumption) | exact bdW (by assumption) (by k_dflt rfl) | exact bdX2 (by assumption) (by k_dflt rfl) | exact bdX3 (by assumption) (by k_dflt rfl) | exact bdX4 (by assumption) (by k_dflt rfl) | exact bdX5 (by assumption) (by k_dflt rfl) | exact bdT0 (by assumption) | exact bdT1 (by assumption) | exact bdR2 | exact bdR1 (by assumption) (by k_dflt rfl) | exact Nat.ne_of_lt (by mod_arm) | exact Nat.ne_of_gt (by mod_arm) | exact Ne.symm (by mod_arm) | mod_arm | fail "no") | ((with_reducible refine And.intro ?_ ?_) <;> omega) | ((with_reducible (first | (rename @Ne _ _ _ => hz9; clear hz9) | (rename And (@Ne _ _ _) _ => hz9; clear hz9) | (rename And (And (@Ne _ _ _) _) _ => hz9; clear hz9)); (repeat (with_reducible first | (rename @Ne _ _ _ => hz9; clear hz9) | (rename And (@Ne _ _ _) _ => hz9; clear hz9) | (rename And (And (@Ne _ _ _) _) _ => hz9; clear hz9))); omega)) | fail "no")
  k_with "eval Call" => (refine Call_ ?_)
  k_with "eval Name" => (k_here; k_dflt (refine' nameX_L ?F ?v ?_ ?a ?b; (case F => k_asm); (case a => rfl); (case b => rfl); (case v => first | rfl | exact hr9 _ rfl | exact hr8 _ rfl | exact (hr9 _ rfl).trans (hr8 _ rfl)); k_whole))
  k_with "storeName" => (k_here; dsimp only)
  k_with "newTuple" => (k_here; dsimp only)
  k_with "newList" => (k_here; dsimp only)
  k_with "LeaveK" => (k_here; dsimp only)
  k_with "ite" => (k_here; dsimp only)
  k_with "execs cons" => (k_here; first | k_gentoks | ((try dsimp only); refine execs_cut ?_; intro Q9 hQ9))
  k_with "call ref" => (first | (k_here; k_dflt (refine' useI (gcd_tell _ _ _ _ _ _) ?q1 ?q2 ?q3 ?q4 ?q5 ?q6 ?q7 ?q8 ?_; (case q1 | q2 | q3 | q4 | q5 => k_asm); (case q6 => first | exact rfl | assumption); (case q7 => ktr_room); (case q8 => ktr_units); intro t9 h9 tk9 F9 N9; revert t9 h9 tk9 F9 N9; intros; ((try dsimp only); (try k_sweep)))) | fail "no")
  k_with "call ref" => (first | (k_here; k_dflt (refine' useI (gcd_all_tell _ _ _ _ _ _ ?hl ?hi) ?q1 ?q2 ?q3 ?q4 ?q5 ?q6 ?q7 ?q8 ?_; (case q1 | q2 | q3 | q4 | q5 => k_asm); (case q6 => first | exact rfl | assumption); (case q7 => ktr_room); (case q8 => ktr_units); (case hl => k_mem); (case hi => l_ints); intro t9 h9 tk9 F9 N9; revert t9 h9 tk9 F9 N9; intros; ((try dsimp only); (try k_sweep)))) | fail "no")
  k_with "call ref" => (first | (k_here; k_dflt (refine' useI (lcm_tell _ _ _ _ _ _ ?ha ?hb) ?q1 ?q2 ?q3 ?q4 ?q5 ?q6 ?q7 ?q8 ?_; (case q1 | q2 | q3 | q4 | q5 => k_asm); (case q6 => first | exact rfl | assumption); (case q7 => ktr_room); (case q8 => ktr_units); (case ha | hb => omega); intro t9 h9 tk9 F9 N9; (try simp only [Int.zero_sub, Int.neg_lcm, Int.lcm_neg]); revert t9 h9 tk9 F9 N9; intros; ((try dsimp only); (try k_sweep)))) | fail "no")
  k_with "call ref" => (first | (k_here; k_dflt (refine' useT (ratio_tell _ _ _ _ _ _ ?ha ?hb) ?q1 ?q2 ?q3 ?q4 ?q5 ?q6 ?q7 ?q8 ?_; (case q1 | q2 | q3 | q4 | q5 => k_asm); (case q6 => first | exact rfl | assumption); (case q7 => ktr_room); (case q8 => ktr_units); (case ha | hb => omega); intro D9 p9 q9 t9 u9 h9 tk9 hP9 F9 N9 l9; (have hq9 := hP9.pos); (have hb9 := hP9.dvd); (have hc9 := hP9.bd (by omega)); (try dsimp only [AllLt] at l9); (try revert hc9); (try revert hb9); (try revert hq9); revert D9 p9 q9 t9 u9 h9 tk9 hP9 F9 N9 l9; intros; ((try dsimp only); (try k_sweep)))) | fail "no")
  replace N := News.dup (News.dup N hC) (.tail _ hA)
  refine wpAny_call ?_
  k_dflt ktr_enter
  (rename Fr _ _ _ _ => F0); replace F0 := frAs (fun y => List.lookup y [(Str.ofString "b", Value.ref C), (Str.ofString "a", Value.ref A)]) F0 (by with_unfolding_all exact Eq.refl (fun y => List.lookup y [(Str.ofString "b", Value.ref C), (Str.ofString "a", Value.ref A)]))
  (refine letA ?_); intro A9
  (repeat' (first | (k_unfold; (try dsimp only)) | walk1 | (dsimp only; walk1) | (leave1; (try dsimp only)) | (refine Then.next hQ9 ?_; clear hQ9; (try clear Q9)) | (refine Then.ret hQ9 ?_; clear hQ9; (try clear Q9)) | (refine Then.brk hQ9 ?_; clear hQ9; (try clear Q9)) | (refine Then.cont hQ9 ?_; clear hQ9; (try clear Q9)) | fail "no step"))
  exact endI hret (by assumption) (by assumption) (fun p hp => by repeat (first | exact hp | refine List.Mem.tail _ ?_)) (cmp_val _ _)
theorem neg_tell (w : World) (A : Addr) (a b : Int) (ta tb : Tok) (news : List (Addr × Obj)) (hA : (A, (prO a ta b tb)) ∈ news) : Tell w 3 102 [.ref A] news (fun r nx => ∃ (D : Addr) (p q : Int) (t u : Tok), (p = -a ∧ q = b) ∧ r = .ref D ∧ nx = (D, prO p t q u) :: news ∧ AllLt D news) := by
  w_top off
  unfold Tell
  k_fill
  intro mean mg mb dp un gd cn cs ad ccd cl outer A₀ base h₀ L m s Q E B F X N T hk hd hu hret
  k_with_none
  k_with "lt" => ((with_reducible rename ∀ p ∈ (_ : List (Addr × Obj)), p.1 < (_ : Addr) => hlt); replace hlt := allLt_of hlt; (dsimp only [AllLt] at hlt); revert hlt; intros)
  k_with "room" => (k_dflt (first | exact rm2 (by assumption) (by rfl) | exact rm1 (by assumption) (by rfl) | exact rm3 (by assumption) (by rfl) | exact rm0 (by assumption) | fail "no"))
  k_with "arm" => (first | assumption | (with_reducible first | exact arm0 (by assumption) | exact arm1 (by assumption) | exact arm2 (by assumption) | exact arm3 (by assumption) | exact arm4 (by assumption) | exact arm5 (by assumption) | exact arm6 (by assumption) | exact arm7 (by assumption) | exact arm8 (by assumption) | exact arm9 (by assumption) | exact arm10 (by assumption) | exact arm11 (by assumption) | exact arm12 (by assumption) | exact arm13 (by assumption) | exact And.left (arm0 (by assumption)) | exact And.left (And.right (arm0 (by assumption))) | exact And.right (And.right (arm0 (by assumption))) | exact And.left (arm1 (by assumption)) | exact And.left (And.right (arm1 (by assumption))) | exact And.right (And.right (arm1 (by assumption))) | exact And.left (arm2 (by assumption)) | exact And.left (And.right (arm2 (by assumption))) | exact And.right (And.right (arm2 (by assumption))) | exact And.left (arm3 (by assumption)) | exact And.left (And.right (arm3 (by assumption))) | exact And.right (And.right (arm3 (by assumption))) | exact And.left (arm4 (by assumption)) | exact And.left (And.right (arm4 (by assumption))) | exact And.right (And.right (arm4 (by assumption))) | exact And.left (arm5 (by assumption)) | exact And.left (And.right (arm5 (by assumption))) | exact And.right (And.right (arm5 (by assumption))) | exact And.left (arm6 (by assumption)) | exact And.left (And.right (arm6 (by assumption))) | exact And.right (And.right (arm6 (by assumption))) | exact And.left (arm7 (by assumption)) | exact And.left (And.right (arm7 (by assumption))) | exact And.right (And.right (arm7 (by assumption))) | exact Nat.lt_add_one _ | fail "no") | (with_reducible refine Nat.lt_add_right _ ?_; mod_arm) | fail "no")
  k_with "ne" => (k_dflt (first | assumption | exact Ne.symm (by assumption) | (refine neN ?_; (try dsimp only); first | assumption | exact Ne.symm (by assumption) | exact Nat.ne_of_lt (by mod_arm) | exact Nat.ne_of_gt (by mod_arm) | mod_arm | exact Ne.symm (by mod_arm) | fail "no") | fail "no"))
  k_with "om" => (first | (with_reducible first | assumption | exact Ne.symm (by assumption) | exact bdA (by assumption) | exact bdB (by assumption) (by k_dflt rfl) | exact bdC (by assumption) | exact bdD (by assumption) (by k_dflt rfl) | exact bdE (by assumption) | exact bdF (by assumption) (by k_dflt rfl) | exact bdG (by assumption) (by k_dflt rfl) | exact bdH (by assumption) (by k_dflt rfl) | exact bdI (by assumption) | exact bdJ (by assumption) (by k_dflt rfl) | exact bdK (by assumption) | exact bdO (by assumption) | exact bdP (by assumption) (by k_dflt rfl) | exact bdO0 (by assumption) | exact bdP0 (by assumption) (by k_dflt rfl) | exact bdV (by assumption) | exact bdS0 (by assumption) | exact bdS1 (by assumption) | exact bdS2 (by assumption) | exact bdS3 (by assumption) | exact bdQ (by assumption) (by assumption) (by assumption) | exact bdQ2 (by assumption) (by assumption) (by assumption) (by k_dflt rfl) | exact bdQ3 (by assumption) (by assumption) (by assumption) (by assumption) (by assumption) | exact bdQ4 (by assumption) (by assumption) (by assumption) | exact bdQ5 (by assumption) (by assumption) (by assumption) (by k_dflt rfl) | exact bdNA (by assumption) | exact bdW (by assumption) (by k_dflt rfl) | exact bdX2 (by assumption) (by k_dflt rfl) | exact bdX3 (by assumption) (by k_dflt rfl) | exact bdX4 (by assumption) (by k_dflt rfl) | exact bdX5 (by assumption) (by k_dflt rfl) | exact bdT0 (by assumption) | exact bdT1 (by assumption) | exact bdR2 | exact bdR1 (by assumption) (by k_dflt rfl) | exact Nat.ne_of_lt (by mod_arm) | exact Nat.ne_of_gt (by mod_arm) | exact Ne.symm (by mod_arm) | mod_arm | fail "no") | ((with_reducible refine And.intro ?_ ?_) <;> omega) | ((with_reducible (first | (rename @Ne _ _ _ => hz9; clear hz9) | (rename And (@Ne _ _ _) _ => hz9; clear hz9) | (rename And (And (@Ne _ _ _) _) _ => hz9; clear hz9)); (repeat (with_reducible first | (rename @Ne _ _ _ => hz9; clear hz9) | (rename And (@Ne _ _ _) _ => hz9; clear hz9) | (rename And (And (@Ne _ _ _) _) _ => hz9; clear hz9))); omega)) | fail "no")
  k_with "eval Call" => (refine Call_ ?_)
  k_with "eval Name" => (k_here; k_dflt (refine' nameX_L ?F ?v ?_ ?a ?b; (case F => k_asm); (case a => rfl); (case b => rfl); (case v => first | rfl | exact hr9 _ rfl | exact hr8 _ rfl | exact (hr9 _ rfl).trans (hr8 _ rfl)); k_whole))
  k_with "storeName" => (k_here; dsimp only)
  k_with "newTuple" => (k_here; dsimp only)
  k_with "newList" => (k_here; dsimp only)
  k_with "LeaveK" => (k_here; dsimp only)
  k_with "ite" => (k_here; dsimp only)
  k_with "execs cons" => (k_here; first | k_gentoks | ((try dsimp only); refine execs_cut ?_; intro Q9 hQ9))
  k_with "call ref" => (first | (k_here; k_dflt (refine' useI (gcd_tell _ _ _ _ _ _) ?q1 ?q2 ?q3 ?q4 ?q5 ?q6 ?q7 ?q8 ?_; (case q1 | q2 | q3 | q4 | q5 => k_asm); (case q6 => first | exact rfl | assumption); (case q7 => ktr_room); (case q8 => ktr_units); intro t9 h9 tk9 F9 N9; revert t9 h9 tk9 F9 N9; intros; ((try dsimp only); (try k_sweep)))) | fail "no")
  k_with "call ref" => (first | (k_here; k_dflt (refine' useI (gcd_all_tell _ _ _ _ _ _ ?hl ?hi) ?q1 ?q2 ?q3 ?q4 ?q5 ?q6 ?q7 ?q8 ?_; (case q1 | q2 | q3 | q4 | q5 => k_asm); (case q6 => first | exact rfl | assumption); (case q7 => ktr_room); (case q8 => ktr_units); (case hl => k_mem); (case hi => l_ints); intro t9 h9 tk9 F9 N9; revert t9 h9 tk9 F9 N9; intros; ((try dsimp only); (try k_sweep)))) | fail "no")
  k_with "call ref" => (first | (k_here; k_dflt (refine' useI (lcm_tell _ _ _ _ _ _ ?ha ?hb) ?q1 ?q2 ?q3 ?q4 ?q5 ?q6 ?q7 ?q8 ?_; (case q1 | q2 | q3 | q4 | q5 => k_asm); (case q6 => first | exact rfl | assumption); (case q7 => ktr_room); (case q8 => ktr_units); (case ha | hb => omega); intro t9 h9 tk9 F9 N9; (try simp only [Int.zero_sub, Int.neg_lcm, Int.lcm_neg]); revert t9 h9 tk9 F9 N9; intros; ((try dsimp only); (try k_sweep)))) | fail "no")
  k_with "call ref" => (first | (k_here; k_dflt (refine' useT (ratio_tell _ _ _ _ _ _ ?ha ?hb) ?q1 ?q2 ?q3 ?q4 ?q5 ?q6 ?q7 ?q8 ?_; (case q1 | q2 | q3 | q4 | q5 => k_asm); (case q6 => first | exact rfl | assumption); (case q7 => ktr_room); (case q8 => ktr_units); (case ha | hb => omega); intro D9 p9 q9 t9 u9 h9 tk9 hP9 F9 N9 l9; (have hq9 := hP9.pos); (have hb9 := hP9.dvd); (have hc9 := hP9.bd (by omega)); (try dsimp only [AllLt] at l9); (try revert hc9); (try revert hb9); (try revert hq9); revert D9 p9 q9 t9 u9 h9 tk9 hP9 F9 N9 l9; intros; ((try dsimp only); (try k_sweep)))) | fail "no")
  replace N := News.dup N hA
  refine wpAny_call ?_
  k_dflt ktr_enter
  (rename Fr _ _ _ _ => F0); replace F0 := frAs (fun y => List.lookup y [(Str.ofString "a", Value.ref A)]) F0 (by with_unfolding_all exact Eq.refl (fun y => List.lookup y [(Str.ofString "a", Value.ref A)]))
  (refine letA ?_); intro A9
  (repeat' (first | (k_unfold; (try dsimp only)) | walk1 | (dsimp only; walk1) | (leave1; (try dsimp only)) | (refine Then.next hQ9 ?_; clear hQ9; (try clear Q9)) | (refine Then.ret hQ9 ?_; clear hQ9; (try clear Q9)) | (refine Then.brk hQ9 ?_; clear hQ9; (try clear Q9)) | (refine Then.cont hQ9 ?_; clear hQ9; (try clear Q9)) | fail "no step"))
  exact endT (P := fun p q => p = -a ∧ q = b) hret (by assumption) (by assumption) (List.Mem.head _) (fun p hp => .tail _ (.tail _ hp)) (And.right (by assumption)) ⟨rfl, rfl⟩
theorem isR_one (a b : Int) : IsR (a * 1 + b * 1) (1 * 1) (a + b) 1 := ⟨by decide, by (first | lia | omega), Int.gcd_one⟩
theorem isR_add1 {a b c d : Int} (hb : b = d) (hd : d = 1) : IsR (a * d + c * b) (b * d) (a + c) 1 := by
  subst hb hd
  exact isR_one a c
theorem add_val {b d : Int} (h : b = d) : ((d == 1) = true ∧ b = d ∧ d = 1) ∨ (d == 1) = false := by
  cases e : d == 1 with
  | true => exact .inl ⟨rfl, h, by simpa using e⟩
  | false => exact .inr rfl
theorem add_tell (w : World) (A C : Addr) (a b c d : Int) (ta tb tc td : Tok) (news : List (Addr × Obj)) (hA : (A, (prO a ta b tb)) ∈ news) (hC : (C, (prO c tc d td)) ∈ news) (hb : 0 < b ∧ b < 10000) (hdd : 0 < d ∧ d < 10000) :
    Tell w 9 95 [.ref A, .ref C] news (fun r nx => ∃ (D : Addr) (p q : Int) (t u : Tok), IsR (a * d + c * b) (b * d) p q ∧ r = .ref D ∧ nx = (D, prO p t q u) :: news ∧ AllLt D news) := by
  w_top off
  unfold Tell
  k_fill
  intro mean mg mb dp un gd cn cs ad ccd cl outer A₀ base h₀ L m s Q E B F X N T hk hd hu hret
  k_with_none
  k_with "lt" => ((with_reducible rename ∀ p ∈ (_ : List (Addr × Obj)), p.1 < (_ : Addr) => hlt); replace hlt := allLt_of hlt; (dsimp only [AllLt] at hlt); revert hlt; intros)
  k_with "room" => (k_dflt (first | exact rm2 (by assumption) (by rfl) | exact rm1 (by assumption) (by rfl) | exact rm3 (by assumption) (by rfl) | exact rm0 (by assumption) | fail "no"))
  k_with "arm" => (first | assumption | (with_reducible first | exact arm0 (by assumption) | exact arm1 (by assumption) | exact arm2 (by assumption) | exact arm3 (by assumption) | exact arm4 (by assumption) | exact arm5 (by assumption) | exact arm6 (by assumption) | exact arm7 (by assumption) | exact arm8 (by assumption) | exact arm9 (by assumption) | exact arm10 (by assumption) | exact arm11 (by assumption) | exact arm12 (by assumption) | exact arm13 (by assumption) | exact And.left (arm0 (by assumption)) | exact And.left (And.right (arm0 (by assumption))) | exact And.right (And.right (arm0 (by assumption))) | exact And.left (arm1 (by assumption)) | exact And.left (And.right (arm1 (by assumption))) | exact And.right (And.right (arm1 (by assumption))) | exact And.left (arm2 (by assumption)) | exact And.left (And.right (arm2 (by assumption))) | exact And.right (And.right (arm2 (by assumption))) | exact And.left (arm3 (by assumption)) | exact And.left (And.right (arm3 (by assumption))) | exact And.right (And.right (arm3 (by assumption))) | exact And.left (arm4 (by assumption)) | exact And.left (And.right (arm4 (by assumption))) | exact And.right (And.right (arm4 (by assumption))) | exact And.left (arm5 (by assumption)) | exact And.left (And.right (arm5 (by assumption))) | exact And.right (And.right (arm5 (by assumption))) | exact And.left (arm6 (by assumption)) | exact And.left (And.right (arm6 (by assumption))) | exact And.right (And.right (arm6 (by assumption))) | exact And.left (arm7 (by assumption)) | exact And.left (And.right (arm7 (by assumption))) | exact And.right (And.right (arm7 (by assumption))) | exact Nat.lt_add_one _ | fail "no") | (with_reducible refine Nat.lt_add_right _ ?_; mod_arm) | fail "no")
  k_with "ne" => (k_dflt (first | assumption | exact Ne.symm (by assumption) | (refine neN ?_; (try dsimp only); first | assumption | exact Ne.symm (by assumption) | exact Nat.ne_of_lt (by mod_arm) | exact Nat.ne_of_gt (by mod_arm) | mod_arm | exact Ne.symm (by mod_arm) | fail "no") | fail "no"))
  k_with "om" => (first | (with_reducible first | assumption | exact Ne.symm (by assumption) | exact bdA (by assumption) | exact bdB (by assumption) (by k_dflt rfl) | exact bdC (by assumption) | exact bdD (by assumption) (by k_dflt rfl) | exact bdE (by assumption) | exact bdF (by assumption) (by k_dflt rfl) | exact bdG (by assumption) (by k_dflt rfl) | exact bdH (by assumption) (by k_dflt rfl) | exact bdI (by assumption) | exact bdJ (by assumption) (by k_dflt rfl) | exact bdK (by assumption) | exact bdO (by assumption) | exact bdP (by assumption) (by k_dflt rfl) | exact bdO0 (by assumption) | exact bdP0 (by assumption) (by k_dflt rfl) | exact bdV (by assumption) | exact bdS0 (by assumption) | exact bdS1 (by assumption) | exact bdS2 (by assumption) | exact bdS3 (by assumption) | exact bdQ (by assumption) (by assumption) (by assumption) | exact bdQ2 (by assumption) (by assumption) (by assumption) (by k_dflt rfl) | exact bdQ3 (by assumption) (by assumption) (by assumption) (by assumption) (by assumption) | exact bdQ4 (by assumption) (by assumption) (by assumption) | exact bdQ5 (by assumption) (by assumption) (by assumption) (by k_dflt rfl) | exact bdNA (by assumption) | exact bdW (by assumption) (by k_dflt rfl) | exact bdX2 (by assumption) (by k_dflt rfl) | exact bdX3 (by assumption) (by k_dflt rfl) | exact bdX4 (by assumption) (by k_dflt rfl) | exact bdX5 (by assumption) (by k_dflt rfl) | exact bdT0 (by assumption) | exact bdT1 (by assumption) | exact bdR2 | exact bdR1 (by assumption) (by k_dflt rfl) | exact Nat.ne_of_lt (by mod_arm) | exact Nat.ne_of_gt (by mod_arm) | exact Ne.symm (by mod_arm) | mod_arm | fail "no") | ((with_reducible refine And.intro ?_ ?_) <;> omega) | ((with_reducible (first | (rename @Ne _ _ _ => hz9; clear hz9) | (rename And (@Ne _ _ _) _ => hz9; clear hz9) | (rename And (And (@Ne _ _ _) _) _ => hz9; clear hz9)); (repeat (with_reducible first | (rename @Ne _ _ _ => hz9; clear hz9) | (rename And (@Ne _ _ _) _ => hz9; clear hz9) | (rename And (And (@Ne _ _ _) _) _ => hz9; clear hz9))); omega)) | fail "no")
  k_with "eval Call" => (refine Call_ ?_)
  k_with "eval Name" => (k_here; k_dflt (refine' nameX_L ?F ?v ?_ ?a ?b; (case F => k_asm); (case a => rfl); (case b => rfl); (case v => first | rfl | exact hr9 _ rfl | exact hr8 _ rfl | exact (hr9 _ rfl).trans (hr8 _ rfl)); k_whole))
  k_with "storeName" => (k_here; dsimp only)
  k_with "newTuple" => (k_here; dsimp only)
  k_with "newList" => (k_here; dsimp only)
  k_with "LeaveK" => (k_here; dsimp only)
  k_with "ite" => (k_here; dsimp only)
  k_with "execs cons" => (k_here; first | k_gentoks | ((try dsimp only); refine execs_cut ?_; intro Q9 hQ9))
  k_with "call ref" => (first | (k_here; k_dflt (refine' useI (gcd_tell _ _ _ _ _ _) ?q1 ?q2 ?q3 ?q4 ?q5 ?q6 ?q7 ?q8 ?_; (case q1 | q2 | q3 | q4 | q5 => k_asm); (case q6 => first | exact rfl | assumption); (case q7 => ktr_room); (case q8 => ktr_units); intro t9 h9 tk9 F9 N9; revert t9 h9 tk9 F9 N9; intros; ((try dsimp only); (try k_sweep)))) | fail "no")
  k_with "call ref" => (first | (k_here; k_dflt (refine' useI (gcd_all_tell _ _ _ _ _ _ ?hl ?hi) ?q1 ?q2 ?q3 ?q4 ?q5 ?q6 ?q7 ?q8 ?_; (case q1 | q2 | q3 | q4 | q5 => k_asm); (case q6 => first | exact rfl | assumption); (case q7 => ktr_room); (case q8 => ktr_units); (case hl => k_mem); (case hi => l_ints); intro t9 h9 tk9 F9 N9; revert t9 h9 tk9 F9 N9; intros; ((try dsimp only); (try k_sweep)))) | fail "no")
  k_with "call ref" => (first | (k_here; k_dflt (refine' useI (lcm_tell _ _ _ _ _ _ ?ha ?hb) ?q1 ?q2 ?q3 ?q4 ?q5 ?q6 ?q7 ?q8 ?_; (case q1 | q2 | q3 | q4 | q5 => k_asm); (case q6 => first | exact rfl | assumption); (case q7 => ktr_room); (case q8 => ktr_units); (case ha | hb => omega); intro t9 h9 tk9 F9 N9; (try simp only [Int.zero_sub, Int.neg_lcm, Int.lcm_neg]); revert t9 h9 tk9 F9 N9; intros; ((try dsimp only); (try k_sweep)))) | fail "no")
  k_with "call ref" => (first | (k_here; k_dflt (refine' useT (ratio_tell _ _ _ _ _ _ ?ha ?hb) ?q1 ?q2 ?q3 ?q4 ?q5 ?q6 ?q7 ?q8 ?_; (case q1 | q2 | q3 | q4 | q5 => k_asm); (case q6 => first | exact rfl | assumption); (case q7 => ktr_room); (case q8 => ktr_units); (case ha | hb => omega); intro D9 p9 q9 t9 u9 h9 tk9 hP9 F9 N9 l9; (have hq9 := hP9.pos); (have hb9 := hP9.dvd); (have hc9 := hP9.bd (by omega)); (try dsimp only [AllLt] at l9); (try revert hc9); (try revert hb9); (try revert hq9); revert D9 p9 q9 t9 u9 h9 tk9 hP9 F9 N9 l9; intros; ((try dsimp only); (try k_sweep)))) | fail "no")
  k_with "call ref" => (first | (k_here; k_dflt (refine' useTE (whole_tell _ _ _ _) ?q1 ?q2 ?q3 ?q4 ?q5 ?q6 ?q7 ?q8 ?_; (case q1 | q2 | q3 | q4 | q5 => k_asm); (case q6 => first | exact rfl | assumption); (case q7 => ktr_room); (case q8 => ktr_units); intro D9 t9 u9 h9 tk9 F9 N9 l9; (try dsimp only [AllLt] at l9); revert D9 t9 u9 h9 tk9 F9 N9 l9; intros; ((try dsimp only); (try k_sweep)))) | fail "no")
  k_with "call ref" => (first | (k_here; k_dflt (refine' useI (floor_tell _ _ _ _ _ _ _ ?hA ?ha ?hb) ?q1 ?q2 ?q3 ?q4 ?q5 ?q6 ?q7 ?q8 ?_; (case q1 | q2 | q3 | q4 | q5 => k_asm); (case q6 => first | exact rfl | assumption); (case q7 => ktr_room); (case q8 => ktr_units); (case hA => k_mem); (case ha | hb => omega); intro t9 h9 tk9 F9 N9; revert t9 h9 tk9 F9 N9; intros; ((try dsimp only); (try k_sweep)))) | fail "no")
  k_with "call ref" => (first | (k_here; k_dflt (refine' useI (ceil_tell _ _ _ _ _ _ _ ?hA ?ha ?hb) ?q1 ?q2 ?q3 ?q4 ?q5 ?q6 ?q7 ?q8 ?_; (case q1 | q2 | q3 | q4 | q5 => k_asm); (case q6 => first | exact rfl | assumption); (case q7 => ktr_room); (case q8 => ktr_units); (case hA => k_mem); (case ha | hb => omega); intro t9 h9 tk9 F9 N9; revert t9 h9 tk9 F9 N9; intros; ((try dsimp only); (try k_sweep)))) | fail "no")
  k_with "call ref" => (first | (k_here; k_dflt (refine' useB (iswhole_tell _ _ _ _ _ _ _ ?hA) ?q1 ?q2 ?q3 ?q4 ?q5 ?q6 ?q7 ?q8 ?_; (case q1 | q2 | q3 | q4 | q5 => k_asm); (case q6 => first | exact rfl | assumption); (case q7 => ktr_room); (case q8 => ktr_units); (case hA => k_mem); intro h9 tk9 F9 N9; revert h9 tk9 F9 N9; intros; ((try dsimp only); (try k_sweep)))) | fail "no")
  k_with "call ref" => (first | (k_here; k_dflt (refine' useI (compare_tell _ _ _ _ _ _ _ _ _ _ _ _ ?hA ?hC ?ha ?hb) ?q1 ?q2 ?q3 ?q4 ?q5 ?q6 ?q7 ?q8 ?_; (case q1 | q2 | q3 | q4 | q5 => k_asm); (case q6 => first | exact rfl | assumption); (case q7 => ktr_room); (case q8 => ktr_units); (case hA | hC => k_mem); (case ha | hb => omega); intro t9 h9 tk9 F9 N9; revert t9 h9 tk9 F9 N9; intros; ((try dsimp only); (try k_sweep)))) | fail "no")
  k_with "call ref" => (first | (k_here; k_dflt (refine' useTE (neg_tell _ _ _ _ _ _ _ ?hA) ?q1 ?q2 ?q3 ?q4 ?q5 ?q6 ?q7 ?q8 ?_; (case q1 | q2 | q3 | q4 | q5 => k_asm); (case q6 => first | exact rfl | assumption); (case q7 => ktr_room); (case q8 => ktr_units); (case hA => k_mem); intro D9 t9 u9 h9 tk9 F9 N9 l9; (try dsimp only [AllLt] at l9); revert D9 t9 u9 h9 tk9 F9 N9 l9; intros; ((try dsimp only); (try k_sweep)))) | fail "no")
  replace N := News.dup (News.dup N hC) (.tail _ hA)
  have hbd : 0 < b * d ∧ b * d < 1000000000 := by
    refine ⟨Int.mul_pos hb.1 hdd.1, ?_⟩
    have h1 : b * d ≤ 10000 * d := Int.mul_le_mul_of_nonneg_right (by omega) (by omega)
    omega
  refine wpAny_call ?_
  k_dflt ktr_enter
  (rename Fr _ _ _ _ => F0); replace F0 := frAs (fun y => List.lookup y [(Str.ofString "b", Value.ref C), (Str.ofString "a", Value.ref A)]) F0 (by with_unfolding_all exact Eq.refl (fun y => List.lookup y [(Str.ofString "b", Value.ref C), (Str.ofString "a", Value.ref A)]))
  (refine letA ?_); intro A9
  repeat' ((fail_if_success (with_reducible show wpAny _ _ (isTrue _ _ _) _ _ _)); first | (k_unfold; (try dsimp only)) | walk1 | (dsimp only; walk1) | (leave1; (try dsimp only)) | (refine Then.next hQ9 ?_; clear hQ9; (try clear Q9)) | (refine Then.ret hQ9 ?_; clear hQ9; (try clear Q9)) | (refine Then.brk hQ9 ?_; clear hQ9; (try clear Q9)) | (refine Then.cont hQ9 ?_; clear hQ9; (try clear Q9)) | fail "no step")
  (rename Fr _ _ _ _ => FI); (rename News _ _ _ _ => NI)
  refine mono_FN (R := fun t => (t = true ∧ b = d ∧ d = 1) ∨ t = false) FI NI ?h ?_
  case h =>
    (repeat' (first | (k_unfold; (try dsimp only)) | walk1 | (dsimp only; walk1) | (leave1; (try dsimp only)) | (refine Then.next hQ9 ?_; clear hQ9; (try clear Q9)) | (refine Then.ret hQ9 ?_; clear hQ9; (try clear Q9)) | (refine Then.brk hQ9 ?_; clear hQ9; (try clear Q9)) | (refine Then.cont hQ9 ?_; clear hQ9; (try clear Q9)) | fail "no step"))
    all_goals refine KeptFN.intro (by assumption) (by assumption) ?_
    all_goals first
      | exact .inl ⟨rfl, by assumption, by assumption⟩
      | exact .inr rfl
      | exact add_val (by assumption)
  rintro t h8 tk8 (⟨rfl, hc1, hc2⟩ | rfl) F8 N8
  · simp only [if_true]
    (repeat' (first | (k_unfold; (try dsimp only)) | walk1 | (dsimp only; walk1) | (leave1; (try dsimp only)) | (refine Then.next hQ9 ?_; clear hQ9; (try clear Q9)) | (refine Then.ret hQ9 ?_; clear hQ9; (try clear Q9)) | (refine Then.brk hQ9 ?_; clear hQ9; (try clear Q9)) | (refine Then.cont hQ9 ?_; clear hQ9; (try clear Q9)) | fail "no step"))
    exact endT (P := fun p q => IsR (a * d + c * b) (b * d) p q) hret (by assumption) (by assumption) (List.Mem.head _) (fun p hp => by repeat (first | exact hp | refine List.Mem.tail _ ?_)) (And.right (And.right (by assumption))) (isR_add1 hc1 hc2)
  · simp only [Bool.false_eq_true, if_false]
    (repeat' (first | (k_unfold; (try dsimp only)) | walk1 | (dsimp only; walk1) | (leave1; (try dsimp only)) | (refine Then.next hQ9 ?_; clear hQ9; (try clear Q9)) | (refine Then.ret hQ9 ?_; clear hQ9; (try clear Q9)) | (refine Then.brk hQ9 ?_; clear hQ9; (try clear Q9)) | (refine Then.cont hQ9 ?_; clear hQ9; (try clear Q9)) | fail "no step"))
    exact endT (P := fun p q => IsR (a * d + c * b) (b * d) p q) hret (by assumption) (by assumption) (List.Mem.head _) (fun p hp => by repeat (first | exact hp | refine List.Mem.tail _ ?_)) (And.right (And.right (by assumption))) (by assumption)
theorem isR_sub {a b c d p q : Int} (h : IsR (a * d + -c * b) (b * d) p q) : IsR (a * d - c * b) (b * d) p q := by
  rw [show a * d - c * b = a * d + -c * b from by rw [Int.neg_mul]; (first | lia | omega)]
  exact h
theorem sub_tell (w : World) (A C : Addr) (a b c d : Int) (ta tb tc td : Tok) (news : List (Addr × Obj)) (hA : (A, (prO a ta b tb)) ∈ news) (hC : (C, (prO c tc d td)) ∈ news) (hb : 0 < b ∧ b < 10000) (hdd : 0 < d ∧ d < 10000) :
    Tell w 11 109 [.ref A, .ref C] news (fun r nx => ∃ (D : Addr) (p q : Int) (t u : Tok), IsR (a * d - c * b) (b * d) p q ∧ r = .ref D ∧ nx = (D, prO p t q u) :: news ∧ AllLt D news) := by
  w_top off
  unfold Tell
  k_fill
  intro mean mg mb dp un gd cn cs ad ccd cl outer A₀ base h₀ L m s Q E B F X N T hk hd hu hret
  k_with_none
  k_with "lt" => ((with_reducible rename ∀ p ∈ (_ : List (Addr × Obj)), p.1 < (_ : Addr) => hlt); replace hlt := allLt_of hlt; (dsimp only [AllLt] at hlt); revert hlt; intros)
  k_with "room" => (k_dflt (first | exact rm2 (by assumption) (by rfl) | exact rm1 (by assumption) (by rfl) | exact rm3 (by assumption) (by rfl) | exact rm0 (by assumption) | fail "no"))
  k_with "arm" => (first | assumption | (with_reducible first | exact arm0 (by assumption) | exact arm1 (by assumption) | exact arm2 (by assumption) | exact arm3 (by assumption) | exact arm4 (by assumption) | exact arm5 (by assumption) | exact arm6 (by assumption) | exact arm7 (by assumption) | exact arm8 (by assumption) | exact arm9 (by assumption) | exact arm10 (by assumption) | exact arm11 (by assumption) | exact arm12 (by assumption) | exact arm13 (by assumption) | exact And.left (arm0 (by assumption)) | exact And.left (And.right (arm0 (by assumption))) | exact And.right (And.right (arm0 (by assumption))) | exact And.left (arm1 (by assumption)) | exact And.left (And.right (arm1 (by assumption))) | exact And.right (And.right (arm1 (by assumption))) | exact And.left (arm2 (by assumption)) | exact And.left (And.right (arm2 (by assumption))) | exact And.right (And.right (arm2 (by assumption))) | exact And.left (arm3 (by assumption)) | exact And.left (And.right (arm3 (by assumption))) | exact And.right (And.right (arm3 (by assumption))) | exact And.left (arm4 (by assumption)) | exact And.left (And.right (arm4 (by assumption))) | exact And.right (And.right (arm4 (by assumption))) | exact And.left (arm5 (by assumption)) | exact And.left (And.right (arm5 (by assumption))) | exact And.right (And.right (arm5 (by assumption))) | exact And.left (arm6 (by assumption)) | exact And.left (And.right (arm6 (by assumption))) | exact And.right (And.right (arm6 (by assumption))) | exact And.left (arm7 (by assumption)) | exact And.left (And.right (arm7 (by assumption))) | exact And.right (And.right (arm7 (by assumption))) | exact Nat.lt_add_one _ | fail "no") | (with_reducible refine Nat.lt_add_right _ ?_; mod_arm) | fail "no")
  k_with "ne" => (k_dflt (first | assumption | exact Ne.symm (by assumption) | (refine neN ?_; (try dsimp only); first | assumption | exact Ne.symm (by assumption) | exact Nat.ne_of_lt (by mod_arm) | exact Nat.ne_of_gt (by mod_arm) | mod_arm | exact Ne.symm (by mod_arm) | fail "no") | fail "no"))
  k_with "om" => (first | (with_reducible first | assumption | exact Ne.symm (by assumption) | exact bdA (by assumption) | exact bdB (by assumption) (by k_dflt rfl) | exact bdC (by assumption) | exact bdD (by assumption) (by k_dflt rfl) | exact bdE (by assumption) | exact bdF (by assumption) (by k_dflt rfl) | exact bdG (by assumption) (by k_dflt rfl) | exact bdH (by assumption) (by k_dflt rfl) | exact bdI (by assumption) | exact bdJ (by assumption) (by k_dflt rfl) | exact bdK (by assumption) | exact bdO (by assumption) | exact bdP (by assumption) (by k_dflt rfl) | exact bdO0 (by assumption) | exact bdP0 (by assumption) (by k_dflt rfl) | exact bdV (by assumption) | exact bdS0 (by assumption) | exact bdS1 (by assumption) | exact bdS2 (by assumption) | exact bdS3 (by assumption) | exact bdQ (by assumption) (by assumption) (by assumption) | exact bdQ2 (by assumption) (by assumption) (by assumption) (by k_dflt rfl) | exact bdQ3 (by assumption) (by assumption) (by assumption) (by assumption) (by assumption) | exact bdQ4 (by assumption) (by assumption) (by assumption) | exact bdQ5 (by assumption) (by assumption) (by assumption) (by k_dflt rfl) | exact bdNA (by assumption) | exact bdW (by assumption) (by k_dflt rfl) | exact bdX2 (by assumption) (by k_dflt rfl) | exact bdX3 (by assumption) (by k_dflt rfl) | exact bdX4 (by assumption) (by k_dflt rfl) | exact bdX5 (by assumption) (by k_dflt rfl) | exact bdT0 (by assumption) | exact bdT1 (by assumption) | exact bdR2 | exact bdR1 (by assumption) (by k_dflt rfl) | exact Nat.ne_of_lt (by mod_arm) | exact Nat.ne_of_gt (by mod_arm) | exact Ne.symm (by mod_arm) | mod_arm | fail "no") | ((with_reducible refine And.intro ?_ ?_) <;> omega) | ((with_reducible (first | (rename @Ne _ _ _ => hz9; clear hz9) | (rename And (@Ne _ _ _) _ => hz9; clear hz9) | (rename And (And (@Ne _ _ _) _) _ => hz9; clear hz9)); (repeat (with_reducible first | (rename @Ne _ _ _ => hz9; clear hz9) | (rename And (@Ne _ _ _) _ => hz9; clear hz9) | (rename And (And (@Ne _ _ _) _) _ => hz9; clear hz9))); omega)) | fail "no")
  k_with "eval Call" => (refine Call_ ?_)
  k_with "eval Name" => (k_here; k_dflt (refine' nameX_L ?F ?v ?_ ?a ?b; (case F => k_asm); (case a => rfl); (case b => rfl); (case v => first | rfl | exact hr9 _ rfl | exact hr8 _ rfl | exact (hr9 _ rfl).trans (hr8 _ rfl)); k_whole))
  k_with "storeName" => (k_here; dsimp only)
  k_with "newTuple" => (k_here; dsimp only)
  k_with "newList" => (k_here; dsimp only)
  k_with "LeaveK" => (k_here; dsimp only)
  k_with "ite" => (k_here; dsimp only)
  k_with "execs cons" => (k_here; first | k_gentoks | ((try dsimp only); refine execs_cut ?_; intro Q9 hQ9))
  k_with "call ref" => (first | (k_here; k_dflt (refine' useI (gcd_tell _ _ _ _ _ _) ?q1 ?q2 ?q3 ?q4 ?q5 ?q6 ?q7 ?q8 ?_; (case q1 | q2 | q3 | q4 | q5 => k_asm); (case q6 => first | exact rfl | assumption); (case q7 => ktr_room); (case q8 => ktr_units); intro t9 h9 tk9 F9 N9; revert t9 h9 tk9 F9 N9; intros; ((try dsimp only); (try k_sweep)))) | fail "no")
  k_with "call ref" => (first | (k_here; k_dflt (refine' useI (gcd_all_tell _ _ _ _ _ _ ?hl ?hi) ?q1 ?q2 ?q3 ?q4 ?q5 ?q6 ?q7 ?q8 ?_; (case q1 | q2 | q3 | q4 | q5 => k_asm); (case q6 => first | exact rfl | assumption); (case q7 => ktr_room); (case q8 => ktr_units); (case hl => k_mem); (case hi => l_ints); intro t9 h9 tk9 F9 N9; revert t9 h9 tk9 F9 N9; intros; ((try dsimp only); (try k_sweep)))) | fail "no")
  k_with "call ref" => (first | (k_here; k_dflt (refine' useI (lcm_tell _ _ _ _ _ _ ?ha ?hb) ?q1 ?q2 ?q3 ?q4 ?q5 ?q6 ?q7 ?q8 ?_; (case q1 | q2 | q3 | q4 | q5 => k_asm); (case q6 => first | exact rfl | assumption); (case q7 => ktr_room); (case q8 => ktr_units); (case ha | hb => omega); intro t9 h9 tk9 F9 N9; (try simp only [Int.zero_sub, Int.neg_lcm, Int.lcm_neg]); revert t9 h9 tk9 F9 N9; intros; ((try dsimp only); (try k_sweep)))) | fail "no")
  k_with "call ref" => (first | (k_here; k_dflt (refine' useT (ratio_tell _ _ _ _ _ _ ?ha ?hb) ?q1 ?q2 ?q3 ?q4 ?q5 ?q6 ?q7 ?q8 ?_; (case q1 | q2 | q3 | q4 | q5 => k_asm); (case q6 => first | exact rfl | assumption); (case q7 => ktr_room); (case q8 => ktr_units); (case ha | hb => omega); intro D9 p9 q9 t9 u9 h9 tk9 hP9 F9 N9 l9; (have hq9 := hP9.pos); (have hb9 := hP9.dvd); (have hc9 := hP9.bd (by omega)); (try dsimp only [AllLt] at l9); (try revert hc9); (try revert hb9); (try revert hq9); revert D9 p9 q9 t9 u9 h9 tk9 hP9 F9 N9 l9; intros; ((try dsimp only); (try k_sweep)))) | fail "no")
  k_with "call ref" => (first | (k_here; k_dflt (refine' useTE (whole_tell _ _ _ _) ?q1 ?q2 ?q3 ?q4 ?q5 ?q6 ?q7 ?q8 ?_; (case q1 | q2 | q3 | q4 | q5 => k_asm); (case q6 => first | exact rfl | assumption); (case q7 => ktr_room); (case q8 => ktr_units); intro D9 t9 u9 h9 tk9 F9 N9 l9; (try dsimp only [AllLt] at l9); revert D9 t9 u9 h9 tk9 F9 N9 l9; intros; ((try dsimp only); (try k_sweep)))) | fail "no")
  k_with "call ref" => (first | (k_here; k_dflt (refine' useI (floor_tell _ _ _ _ _ _ _ ?hA ?ha ?hb) ?q1 ?q2 ?q3 ?q4 ?q5 ?q6 ?q7 ?q8 ?_; (case q1 | q2 | q3 | q4 | q5 => k_asm); (case q6 => first | exact rfl | assumption); (case q7 => ktr_room); (case q8 => ktr_units); (case hA => k_mem); (case ha | hb => omega); intro t9 h9 tk9 F9 N9; revert t9 h9 tk9 F9 N9; intros; ((try dsimp only); (try k_sweep)))) | fail "no")
  k_with "call ref" => (first | (k_here; k_dflt (refine' useI (ceil_tell _ _ _ _ _ _ _ ?hA ?ha ?hb) ?q1 ?q2 ?q3 ?q4 ?q5 ?q6 ?q7 ?q8 ?_; (case q1 | q2 | q3 | q4 | q5 => k_asm); (case q6 => first | exact rfl | assumption); (case q7 => ktr_room); (case q8 => ktr_units); (case hA => k_mem); (case ha | hb => omega); intro t9 h9 tk9 F9 N9; revert t9 h9 tk9 F9 N9; intros; ((try dsimp only); (try k_sweep)))) | fail "no")
  k_with "call ref" => (first | (k_here; k_dflt (refine' useB (iswhole_tell _ _ _ _ _ _ _ ?hA) ?q1 ?q2 ?q3 ?q4 ?q5 ?q6 ?q7 ?q8 ?_; (case q1 | q2 | q3 | q4 | q5 => k_asm); (case q6 => first | exact rfl | assumption); (case q7 => ktr_room); (case q8 => ktr_units); (case hA => k_mem); intro h9 tk9 F9 N9; revert h9 tk9 F9 N9; intros; ((try dsimp only); (try k_sweep)))) | fail "no")
  k_with "call ref" => (first | (k_here; k_dflt (refine' useI (compare_tell _ _ _ _ _ _ _ _ _ _ _ _ ?hA ?hC ?ha ?hb) ?q1 ?q2 ?q3 ?q4 ?q5 ?q6 ?q7 ?q8 ?_; (case q1 | q2 | q3 | q4 | q5 => k_asm); (case q6 => first | exact rfl | assumption); (case q7 => ktr_room); (case q8 => ktr_units); (case hA | hC => k_mem); (case ha | hb => omega); intro t9 h9 tk9 F9 N9; revert t9 h9 tk9 F9 N9; intros; ((try dsimp only); (try k_sweep)))) | fail "no")
  k_with "call ref" => (first | (k_here; k_dflt (refine' useTE (neg_tell _ _ _ _ _ _ _ ?hA) ?q1 ?q2 ?q3 ?q4 ?q5 ?q6 ?q7 ?q8 ?_; (case q1 | q2 | q3 | q4 | q5 => k_asm); (case q6 => first | exact rfl | assumption); (case q7 => ktr_room); (case q8 => ktr_units); (case hA => k_mem); intro D9 t9 u9 h9 tk9 F9 N9 l9; (try dsimp only [AllLt] at l9); revert D9 t9 u9 h9 tk9 F9 N9 l9; intros; ((try dsimp only); (try k_sweep)))) | fail "no")
  k_with "call ref" => (first | (k_here; k_dflt (refine' useT (add_tell _ _ _ _ _ _ _ _ _ _ _ _ ?hA ?hC ?ha ?hb) ?q1 ?q2 ?q3 ?q4 ?q5 ?q6 ?q7 ?q8 ?_; (case q1 | q2 | q3 | q4 | q5 => k_asm); (case q6 => first | exact rfl | assumption); (case q7 => ktr_room); (case q8 => ktr_units); (case hA | hC => k_mem); (case ha | hb => omega); intro D9 p9 q9 t9 u9 h9 tk9 hP9 F9 N9 l9; (have hq9 := hP9.pos); (have hb9 := hP9.dvd); (try (have hc9 := hP9.bd (by omega))); (try dsimp only [AllLt] at l9); (try revert hc9); (try revert hb9); (try revert hq9); revert D9 p9 q9 t9 u9 h9 tk9 hP9 F9 N9 l9; intros; ((try dsimp only); (try k_sweep)))) | fail "no")
  replace N := News.dup (News.dup N hC) (.tail _ hA)
  refine wpAny_call ?_
  k_dflt ktr_enter
  (rename Fr _ _ _ _ => F0); replace F0 := frAs (fun y => List.lookup y [(Str.ofString "b", Value.ref C), (Str.ofString "a", Value.ref A)]) F0 (by with_unfolding_all exact Eq.refl (fun y => List.lookup y [(Str.ofString "b", Value.ref C), (Str.ofString "a", Value.ref A)]))
  (refine letA ?_); intro A9
  (repeat' (first | (k_unfold; (try dsimp only)) | walk1 | (dsimp only; walk1) | (leave1; (try dsimp only)) | (refine Then.next hQ9 ?_; clear hQ9; (try clear Q9)) | (refine Then.ret hQ9 ?_; clear hQ9; (try clear Q9)) | (refine Then.brk hQ9 ?_; clear hQ9; (try clear Q9)) | (refine Then.cont hQ9 ?_; clear hQ9; (try clear Q9)) | fail "no step"))
  exact endT (P := fun p q => IsR (a * d - c * b) (b * d) p q) hret (by assumption) (by assumption) (List.Mem.head _) (fun p hp => by repeat (first | exact hp | refine List.Mem.tail _ ?_)) (And.right (And.right (And.right (by assumption)))) (isR_sub (by assumption))
/-- the tape's dict: its cells' list, its spot -/
def Tape (w : World) (o : Obj) (CL : Addr) (spot : Int) : Prop :=
  ∃ t : Tok, o.IsDictOf (strKind PySem.Challenge.rw_nz0134_01.row.prog w) [(Str.ofString "cells", Value.ref CL), (Str.ofString "spot", Value.int spot t)]
theorem fmod_in (x : Int) {m : Int} (h : 0 < m) : 0 ≤ x.fmod m ∧ x.fmod m < m := by
  rw [Int.fmod_eq_emod_of_nonneg _ (by (first | lia | omega))]
  exact ⟨Int.emod_nonneg _ (by (first | lia | omega)), Int.emod_lt_of_pos _ h⟩
theorem next_tell (w : World) (TP CL : Addr) (o : Obj) (spot many : Int) (tm : Tok) (vs : List Value) (ns : List Int) (n : Nat) (news : List (Addr × Obj)) (ho : Tape w o CL spot) (hl : (CL, listOf vs.toArray n) ∈ news) (hi : IntsAre vs ns) (hlen : ns.length ≤ 100) (hoff : ∀ p ∈ news, p.1 ≠ TP) (h0 : 0 ≤ spot ∧ spot < 10000) (hm : 0 < many) :
    Tell w 3 179 [.ref TP, .int many tm] ((TP, o) :: news) (fun r nx => ∃ (v : Int) (t : Tok) (o' : Obj), (0 ≤ v ∧ v < many) ∧ r = .int v t ∧ nx = (TP, o') :: news ∧ Tape w o' CL (spot + 1)) := by
  w_top off
  unfold Tell
  k_fill
  intro mean mg mb dp un gd cn cs ad ccd cl outer A₀ base h₀ L m s Q E B F X N T hk hd hu hret
  k_with_none
  k_with "lt" => ((with_reducible rename ∀ p ∈ (_ : List (Addr × Obj)), p.1 < (_ : Addr) => hlt); replace hlt := allLt_of hlt; (dsimp only [AllLt] at hlt); revert hlt; intros)
  k_with "room" => (k_dflt (first | exact rm2 (by assumption) (by rfl) | exact rm1 (by assumption) (by rfl) | exact rm3 (by assumption) (by rfl) | exact rm0 (by assumption) | fail "no"))
  k_with "arm" => (first | assumption | (with_reducible first | exact arm0 (by assumption) | exact arm1 (by assumption) | exact arm2 (by assumption) | exact arm3 (by assumption) | exact arm4 (by assumption) | exact arm5 (by assumption) | exact arm6 (by assumption) | exact arm7 (by assumption) | exact arm8 (by assumption) | exact arm9 (by assumption) | exact arm10 (by assumption) | exact arm11 (by assumption) | exact arm12 (by assumption) | exact arm13 (by assumption) | exact And.left (arm0 (by assumption)) | exact And.left (And.right (arm0 (by assumption))) | exact And.right (And.right (arm0 (by assumption))) | exact And.left (arm1 (by assumption)) | exact And.left (And.right (arm1 (by assumption))) | exact And.right (And.right (arm1 (by assumption))) | exact And.left (arm2 (by assumption)) | exact And.left (And.right (arm2 (by assumption))) | exact And.right (And.right (arm2 (by assumption))) | exact And.left (arm3 (by assumption)) | exact And.left (And.right (arm3 (by assumption))) | exact And.right (And.right (arm3 (by assumption))) | exact And.left (arm4 (by assumption)) | exact And.left (And.right (arm4 (by assumption))) | exact And.right (And.right (arm4 (by assumption))) | exact And.left (arm5 (by assumption)) | exact And.left (And.right (arm5 (by assumption))) | exact And.right (And.right (arm5 (by assumption))) | exact And.left (arm6 (by assumption)) | exact And.left (And.right (arm6 (by assumption))) | exact And.right (And.right (arm6 (by assumption))) | exact And.left (arm7 (by assumption)) | exact And.left (And.right (arm7 (by assumption))) | exact And.right (And.right (arm7 (by assumption))) | exact Nat.lt_add_one _ | fail "no") | (with_reducible refine Nat.lt_add_right _ ?_; mod_arm) | fail "no")
  k_with "ne" => (k_dflt (first | assumption | exact Ne.symm (by assumption) | (refine neN ?_; (try dsimp only); first | assumption | exact Ne.symm (by assumption) | exact Nat.ne_of_lt (by mod_arm) | exact Nat.ne_of_gt (by mod_arm) | mod_arm | exact Ne.symm (by mod_arm) | fail "no") | fail "no"))
  k_with "om" => (first | (with_reducible first | assumption | exact Ne.symm (by assumption) | exact bdA (by assumption) | exact bdB (by assumption) (by k_dflt rfl) | exact bdC (by assumption) | exact bdD (by assumption) (by k_dflt rfl) | exact bdE (by assumption) | exact bdF (by assumption) (by k_dflt rfl) | exact bdG (by assumption) (by k_dflt rfl) | exact bdH (by assumption) (by k_dflt rfl) | exact bdI (by assumption) | exact bdJ (by assumption) (by k_dflt rfl) | exact bdK (by assumption) | exact bdO (by assumption) | exact bdP (by assumption) (by k_dflt rfl) | exact bdO0 (by assumption) | exact bdP0 (by assumption) (by k_dflt rfl) | exact bdV (by assumption) | exact bdS0 (by assumption) | exact bdS1 (by assumption) | exact bdS2 (by assumption) | exact bdS3 (by assumption) | exact bdQ (by assumption) (by assumption) (by assumption) | exact bdQ2 (by assumption) (by assumption) (by assumption) (by k_dflt rfl) | exact bdQ3 (by assumption) (by assumption) (by assumption) (by assumption) (by assumption) | exact bdQ4 (by assumption) (by assumption) (by assumption) | exact bdQ5 (by assumption) (by assumption) (by assumption) (by k_dflt rfl) | exact bdNA (by assumption) | exact bdW (by assumption) (by k_dflt rfl) | exact bdX2 (by assumption) (by k_dflt rfl) | exact bdX3 (by assumption) (by k_dflt rfl) | exact bdX4 (by assumption) (by k_dflt rfl) | exact bdX5 (by assumption) (by k_dflt rfl) | exact bdT0 (by assumption) | exact bdT1 (by assumption) | exact bdR2 | exact bdR1 (by assumption) (by k_dflt rfl) | exact Nat.ne_of_lt (by mod_arm) | exact Nat.ne_of_gt (by mod_arm) | exact Ne.symm (by mod_arm) | mod_arm | fail "no") | ((with_reducible refine And.intro ?_ ?_) <;> omega) | ((with_reducible (first | (rename @Ne _ _ _ => hz9; clear hz9) | (rename And (@Ne _ _ _) _ => hz9; clear hz9) | (rename And (And (@Ne _ _ _) _) _ => hz9; clear hz9)); (repeat (with_reducible first | (rename @Ne _ _ _ => hz9; clear hz9) | (rename And (@Ne _ _ _) _ => hz9; clear hz9) | (rename And (And (@Ne _ _ _) _) _ => hz9; clear hz9))); omega)) | fail "no")
  k_with "eval Call" => (refine Call_ ?_)
  k_with "eval Name" => (k_here; k_dflt (refine' nameX_L ?F ?v ?_ ?a ?b; (case F => k_asm); (case a => rfl); (case b => rfl); (case v => first | rfl | exact hr9 _ rfl | exact hr8 _ rfl | exact (hr9 _ rfl).trans (hr8 _ rfl)); k_whole))
  k_with "storeName" => (k_here; dsimp only)
  k_with "newTuple" => (k_here; dsimp only)
  k_with "newList" => (k_here; dsimp only)
  k_with "LeaveK" => (k_here; dsimp only)
  k_with "ite" => (k_here; dsimp only)
  k_with "execs cons" => (k_here; first | k_gentoks | ((try dsimp only); refine execs_cut ?_; intro Q9 hQ9))
  k_with "call ref" => (first | (k_here; k_dflt (refine' useI (gcd_tell _ _ _ _ _ _) ?q1 ?q2 ?q3 ?q4 ?q5 ?q6 ?q7 ?q8 ?_; (case q1 | q2 | q3 | q4 | q5 => k_asm); (case q6 => first | exact rfl | assumption); (case q7 => ktr_room); (case q8 => ktr_units); intro t9 h9 tk9 F9 N9; revert t9 h9 tk9 F9 N9; intros; ((try dsimp only); (try k_sweep)))) | fail "no")
  k_with "call ref" => (first | (k_here; k_dflt (refine' useI (gcd_all_tell _ _ _ _ _ _ ?hl ?hi) ?q1 ?q2 ?q3 ?q4 ?q5 ?q6 ?q7 ?q8 ?_; (case q1 | q2 | q3 | q4 | q5 => k_asm); (case q6 => first | exact rfl | assumption); (case q7 => ktr_room); (case q8 => ktr_units); (case hl => k_mem); (case hi => l_ints); intro t9 h9 tk9 F9 N9; revert t9 h9 tk9 F9 N9; intros; ((try dsimp only); (try k_sweep)))) | fail "no")
  k_with "call ref" => (first | (k_here; k_dflt (refine' useI (lcm_tell _ _ _ _ _ _ ?ha ?hb) ?q1 ?q2 ?q3 ?q4 ?q5 ?q6 ?q7 ?q8 ?_; (case q1 | q2 | q3 | q4 | q5 => k_asm); (case q6 => first | exact rfl | assumption); (case q7 => ktr_room); (case q8 => ktr_units); (case ha | hb => omega); intro t9 h9 tk9 F9 N9; (try simp only [Int.zero_sub, Int.neg_lcm, Int.lcm_neg]); revert t9 h9 tk9 F9 N9; intros; ((try dsimp only); (try k_sweep)))) | fail "no")
  k_with "call ref" => (first | (k_here; k_dflt (refine' useT (ratio_tell _ _ _ _ _ _ ?ha ?hb) ?q1 ?q2 ?q3 ?q4 ?q5 ?q6 ?q7 ?q8 ?_; (case q1 | q2 | q3 | q4 | q5 => k_asm); (case q6 => first | exact rfl | assumption); (case q7 => ktr_room); (case q8 => ktr_units); (case ha | hb => omega); intro D9 p9 q9 t9 u9 h9 tk9 hP9 F9 N9 l9; (have hq9 := hP9.pos); (have hb9 := hP9.dvd); (have hc9 := hP9.bd (by omega)); (try dsimp only [AllLt] at l9); (try revert hc9); (try revert hb9); (try revert hq9); revert D9 p9 q9 t9 u9 h9 tk9 hP9 F9 N9 l9; intros; ((try dsimp only); (try k_sweep)))) | fail "no")
  k_with "call ref" => (first | (k_here; k_dflt (refine' useTE (whole_tell _ _ _ _) ?q1 ?q2 ?q3 ?q4 ?q5 ?q6 ?q7 ?q8 ?_; (case q1 | q2 | q3 | q4 | q5 => k_asm); (case q6 => first | exact rfl | assumption); (case q7 => ktr_room); (case q8 => ktr_units); intro D9 t9 u9 h9 tk9 F9 N9 l9; (try dsimp only [AllLt] at l9); revert D9 t9 u9 h9 tk9 F9 N9 l9; intros; ((try dsimp only); (try k_sweep)))) | fail "no")
  k_with "call ref" => (first | (k_here; k_dflt (refine' useI (floor_tell _ _ _ _ _ _ _ ?hA ?ha ?hb) ?q1 ?q2 ?q3 ?q4 ?q5 ?q6 ?q7 ?q8 ?_; (case q1 | q2 | q3 | q4 | q5 => k_asm); (case q6 => first | exact rfl | assumption); (case q7 => ktr_room); (case q8 => ktr_units); (case hA => k_mem); (case ha | hb => omega); intro t9 h9 tk9 F9 N9; revert t9 h9 tk9 F9 N9; intros; ((try dsimp only); (try k_sweep)))) | fail "no")
  k_with "call ref" => (first | (k_here; k_dflt (refine' useI (ceil_tell _ _ _ _ _ _ _ ?hA ?ha ?hb) ?q1 ?q2 ?q3 ?q4 ?q5 ?q6 ?q7 ?q8 ?_; (case q1 | q2 | q3 | q4 | q5 => k_asm); (case q6 => first | exact rfl | assumption); (case q7 => ktr_room); (case q8 => ktr_units); (case hA => k_mem); (case ha | hb => omega); intro t9 h9 tk9 F9 N9; revert t9 h9 tk9 F9 N9; intros; ((try dsimp only); (try k_sweep)))) | fail "no")
  k_with "call ref" => (first | (k_here; k_dflt (refine' useB (iswhole_tell _ _ _ _ _ _ _ ?hA) ?q1 ?q2 ?q3 ?q4 ?q5 ?q6 ?q7 ?q8 ?_; (case q1 | q2 | q3 | q4 | q5 => k_asm); (case q6 => first | exact rfl | assumption); (case q7 => ktr_room); (case q8 => ktr_units); (case hA => k_mem); intro h9 tk9 F9 N9; revert h9 tk9 F9 N9; intros; ((try dsimp only); (try k_sweep)))) | fail "no")
  k_with "call ref" => (first | (k_here; k_dflt (refine' useI (compare_tell _ _ _ _ _ _ _ _ _ _ _ _ ?hA ?hC ?ha ?hb) ?q1 ?q2 ?q3 ?q4 ?q5 ?q6 ?q7 ?q8 ?_; (case q1 | q2 | q3 | q4 | q5 => k_asm); (case q6 => first | exact rfl | assumption); (case q7 => ktr_room); (case q8 => ktr_units); (case hA | hC => k_mem); (case ha | hb => omega); intro t9 h9 tk9 F9 N9; revert t9 h9 tk9 F9 N9; intros; ((try dsimp only); (try k_sweep)))) | fail "no")
  k_with "call ref" => (first | (k_here; k_dflt (refine' useTE (neg_tell _ _ _ _ _ _ _ ?hA) ?q1 ?q2 ?q3 ?q4 ?q5 ?q6 ?q7 ?q8 ?_; (case q1 | q2 | q3 | q4 | q5 => k_asm); (case q6 => first | exact rfl | assumption); (case q7 => ktr_room); (case q8 => ktr_units); (case hA => k_mem); intro D9 t9 u9 h9 tk9 F9 N9 l9; (try dsimp only [AllLt] at l9); revert D9 t9 u9 h9 tk9 F9 N9 l9; intros; ((try dsimp only); (try k_sweep)))) | fail "no")
  k_with "call ref" => (first | (k_here; k_dflt (refine' useT (add_tell _ _ _ _ _ _ _ _ _ _ _ _ ?hA ?hC ?ha ?hb) ?q1 ?q2 ?q3 ?q4 ?q5 ?q6 ?q7 ?q8 ?_; (case q1 | q2 | q3 | q4 | q5 => k_asm); (case q6 => first | exact rfl | assumption); (case q7 => ktr_room); (case q8 => ktr_units); (case hA | hC => k_mem); (case ha | hb => omega); intro D9 p9 q9 t9 u9 h9 tk9 hP9 F9 N9 l9; (have hq9 := hP9.pos); (have hb9 := hP9.dvd); (try (have hc9 := hP9.bd (by omega))); (try dsimp only [AllLt] at l9); (try revert hc9); (try revert hb9); (try revert hq9); revert D9 p9 q9 t9 u9 h9 tk9 hP9 F9 N9 l9; intros; ((try dsimp only); (try k_sweep)))) | fail "no")
  k_with "call ref" => (first | (k_here; k_dflt (refine' useT (sub_tell _ _ _ _ _ _ _ _ _ _ _ _ ?hA ?hC ?ha ?hb) ?q1 ?q2 ?q3 ?q4 ?q5 ?q6 ?q7 ?q8 ?_; (case q1 | q2 | q3 | q4 | q5 => k_asm); (case q6 => first | exact rfl | assumption); (case q7 => ktr_room); (case q8 => ktr_units); (case hA | hC => k_mem); (case ha | hb => omega); intro D9 p9 q9 t9 u9 h9 tk9 hP9 F9 N9 l9; (have hq9 := hP9.pos); (have hb9 := hP9.dvd); (try (have hc9 := hP9.bd (by omega))); (try dsimp only [AllLt] at l9); (try revert hc9); (try revert hb9); (try revert hq9); revert D9 p9 q9 t9 u9 h9 tk9 hP9 F9 N9 l9; intros; ((try dsimp only); (try k_sweep)))) | fail "no")
  obtain ⟨ts, ho⟩ := ho
  replace N := News.dup N (.tail _ hl)
  have hne : CL ≠ TP := hoff _ hl
  refine wpAny_call ?_
  k_dflt ktr_enter
  (rename Fr _ _ _ _ => F0); replace F0 := frAs (fun y => List.lookup y [(Str.ofString "many", Value.int many tm), (Str.ofString "tape", Value.ref TP)]) F0 (by with_unfolding_all exact Eq.refl (fun y => List.lookup y [(Str.ofString "many", Value.int many tm), (Str.ofString "tape", Value.ref TP)]))
  (refine letA ?_); intro A9
  (repeat' (first | (k_unfold; (try dsimp only)) | walk1 | (dsimp only; walk1) | (leave1; (try dsimp only)) | (refine Then.next hQ9 ?_; clear hQ9; (try clear Q9)) | (refine Then.ret hQ9 ?_; clear hQ9; (try clear Q9)) | (refine Then.brk hQ9 ?_; clear hQ9; (try clear Q9)) | (refine Then.cont hQ9 ?_; clear hQ9; (try clear Q9)) | fail "no step"))
  k_dflt (refine kda_set (knd := strKind _ _) (by k_asm) (by k_asm) (UpdF.tail hne (UpdF.head hoff)) ho (strKind_is _ _ _ _) (by kob_size) ?_; intro hX oX FX NX dX; kob_lit)
  clear ho
  (repeat' (first | (k_unfold; (try dsimp only)) | walk1 | (dsimp only; walk1) | (leave1; (try dsimp only)) | (refine Then.next hQ9 ?_; clear hQ9; (try clear Q9)) | (refine Then.ret hQ9 ?_; clear hQ9; (try clear Q9)) | (refine Then.brk hQ9 ?_; clear hQ9; (try clear Q9)) | (refine Then.cont hQ9 ?_; clear hQ9; (try clear Q9)) | fail "no step"))
  · exact hret _ _ _ _ (by assumption) (News.tl (by assumption)) ⟨_, _, _, fmod_in _ hm, rfl, rfl, ⟨_, dX⟩⟩
  · exact hret _ _ _ _ (by assumption) (News.tl (by assumption)) ⟨_, _, _, fmod_in _ hm, rfl, rfl, ⟨_, dX⟩⟩
section
variable {w : World} {mean : ExcName → Option Value} {mg mb : Str → Option Value} {dp un : Nat} {gd : Option (List Code)} {cn : Str} {cs : Scope} {a : Addr} {ccd : Value} {cl : List (Str × Addr)} {outer : List Env} {A₀ : Around} {base h₀ : Heap} {L : Addr} {m : Str → Option Value} {s : Shared} {Q E : Value → Shared → Prop}
theorem useN {TP CL : Addr} {o : Obj} {spot many : Int} {tm : Tok} {vs : List Value} {ns : List Int} {n : Nat} {led : List (Addr × Obj)} {g : Obj → List (Addr × Obj)} (ho : Tape w o CL spot) (hi : IntsAre vs ns) (hlen : ns.length ≤ 100) (h0 : 0 ≤ spot ∧ spot < 10000) (hm : 0 < many)
    (p1 : Below A₀ base outer h₀) (p2 : Fr h₀ L s.heap m) (p3 : (hd.heap_39 w.params).In h₀) (p4 : News h₀ L s.heap led) (p5 : Top hd.view_39 (looseW hd.view_39 []) mean mg mb h₀) (p6 : cs.kind = .function) (p7 : dp + 3 < recursionLimit) (p8 : un + 20 * 3 < cLine)
    (U : UpdF TP o led g) (hne : CL ≠ TP) (hl : (CL, listOf vs.toArray n) ∈ led)
    (ret : ∀ v t o' h' tk', (0 ≤ v ∧ v < many) → Tape w o' CL (spot + 1) → Fr h₀ L h' m → News h₀ L h' (g o') → Q (.int v t) { s with heap := h', toks := tk' }) :
    wpAny (model PySem.Challenge.rw_nz0134_01.row.prog w) (ktrTop dp un gd cn cs L a ccd cl outer) (call (.ref 179) [.ref TP, .int many tm]) Q E s := by
  have B := p1
  have F := p2
  have X := p3
  have N := p4
  have T := p5
  have hk := p6
  have hd := p7
  have hu := p8
  obtain ⟨pre, post, rfl, hg, h1, h2⟩ := U.split
  have hl2 : (CL, listOf vs.toArray n) ∈ pre ++ post := by
    rcases List.mem_append.mp hl with h | h
    · exact List.mem_append_left _ h
    · rcases List.mem_cons.mp h with h | h
      · exact absurd (congrArg Prod.fst h) hne
      · exact List.mem_append_right _ h
  have N2 : News h₀ L s.heap ((TP, o) :: (pre ++ post)) := fun p hp => N p (by
    simp only [List.mem_cons, List.mem_append] at hp ⊢
    rcases hp with h | h | h <;> simp [h])
  refine next_tell w TP CL o spot many tm vs ns n (pre ++ post) ho hl2 hi hlen (fun p hp => (List.mem_append.mp hp).elim (h1 p) (h2 p)) h0 hm mean mg mb dp un gd cn cs a ccd cl outer A₀ base h₀ L m s Q E B F X N2 T hk hd hu ?_
  rintro r nx h' tk' F' N' ⟨v, t, o', hv, rfl, rfl, hT⟩
  refine ret v t o' h' tk' hv hT F' ?_
  rw [hg]
  exact fun p hp => N' p (by
    simp only [List.mem_cons, List.mem_append] at hp ⊢
    rcases hp with h | h | h <;> simp [h])
end
/-- pairs of ints, as the ledger bears them -/
inductive PairsAre (news : List (Addr × Obj)) : List Value → List (Int × Int) → Prop where
  | nil : PairsAre news [] []
  | cons {D : Addr} {p q : Int} {t u : Tok} {vs : List Value} {ps : List (Int × Int)} : (D, (prO p t q u)) ∈ news → PairsAre news vs ps → PairsAre news (.ref D :: vs) ((p, q) :: ps)
theorem PairsAre.get {news : List (Addr × Obj)} {vs : List Value} {ps : List (Int × Int)} (h : PairsAre news vs ps) : ∀ {i : Nat} {v : Value}, vs[i]? = some v → ∃ (D : Addr) (p q : Int) (t u : Tok), v = .ref D ∧ ps[i]? = some (p, q) ∧ (D, (prO p t q u)) ∈ news := by
  induction h with
  | nil => intro i v h; simp at h
  | cons hm _ ih =>
    intro i v h
    cases i with
    | zero => exact ⟨_, _, _, _, _, (Option.some.inj h).symm, rfl, hm⟩
    | succ i =>
      obtain ⟨D, p, q, t, u, e, e2, hm2⟩ := ih (i := i) (v := v) (by simpa using h)
      exact ⟨D, p, q, t, u, e, by simpa using e2, hm2⟩
theorem PairsAre.length {news : List (Addr × Obj)} {vs : List Value} {ps : List (Int × Int)} (h : PairsAre news vs ps) : vs.length = ps.length := by
  induction h with
  | nil => rfl
  | cons _ _ ih => simp [ih]
theorem PairsAre.mono {news news' : List (Addr × Obj)} {vs : List Value} {ps : List (Int × Int)} (h : PairsAre news vs ps) (hs : ∀ p ∈ news, p ∈ news') : PairsAre news' vs ps := by
  induction h with
  | nil => exact .nil
  | cons hm _ ih => exact .cons (hs _ hm) ih
theorem PairsAre.snoc {news : List (Addr × Obj)} {vs : List Value} {ps : List (Int × Int)} (h : PairsAre news vs ps) {D : Addr} {p q : Int} {t u : Tok} (hm : (D, (prO p t q u)) ∈ news) : PairsAre news (vs ++ [.ref D]) (ps ++ [(p, q)]) := by
  induction h with
  | nil => exact .cons hm .nil
  | cons hm' _ ih => exact .cons hm' ih
def lcms (ps : List (Int × Int)) : Int := ps.foldl (fun f p => ((Int.lcm f p.2 : Nat) : Int)) 1
theorem lcms_take {ps : List (Int × Int)} {i : Nat} {p q : Int} (h : ps[i]? = some (p, q)) {f : Int} (hf : f = lcms (ps.take i)) : ((Int.lcm f q : Nat) : Int) = lcms (ps.take (i + 1)) := by
  rw [List.take_add_one, h, hf]
  simp [lcms]
theorem bottom_tell (w : World) (l : Addr) (its : List Value) (rs : List (Int × Int)) (nn : Nat) (news : List (Addr × Obj)) (hl : (l, listOf its.toArray nn) ∈ news) (hp : PairsAre news its rs) (hq : ∀ r ∈ rs, 0 < r.2 ∧ r.2 ≤ 1000) :
    Tell w 7 144 [.ref l] news (fun r nx => (∃ t, r = .int (lcms rs) t) ∧ nx = news) := by
  w_top off
  unfold Tell
  k_fill
  intro mean mg mb dp un gd cn cs ad ccd cl outer A₀ base h₀ L m s Q E B F X N T hk hd hu hret
  k_with_none
  k_with "lt" => ((with_reducible rename ∀ p ∈ (_ : List (Addr × Obj)), p.1 < (_ : Addr) => hlt); replace hlt := allLt_of hlt; (dsimp only [AllLt] at hlt); revert hlt; intros)
  k_with "room" => (k_dflt (first | exact rm2 (by assumption) (by rfl) | exact rm1 (by assumption) (by rfl) | exact rm3 (by assumption) (by rfl) | exact rm0 (by assumption) | fail "no"))
  k_with "arm" => (first | assumption | (with_reducible first | exact arm0 (by assumption) | exact arm1 (by assumption) | exact arm2 (by assumption) | exact arm3 (by assumption) | exact arm4 (by assumption) | exact arm5 (by assumption) | exact arm6 (by assumption) | exact arm7 (by assumption) | exact arm8 (by assumption) | exact arm9 (by assumption) | exact arm10 (by assumption) | exact arm11 (by assumption) | exact arm12 (by assumption) | exact arm13 (by assumption) | exact And.left (arm0 (by assumption)) | exact And.left (And.right (arm0 (by assumption))) | exact And.right (And.right (arm0 (by assumption))) | exact And.left (arm1 (by assumption)) | exact And.left (And.right (arm1 (by assumption))) | exact And.right (And.right (arm1 (by assumption))) | exact And.left (arm2 (by assumption)) | exact And.left (And.right (arm2 (by assumption))) | exact And.right (And.right (arm2 (by assumption))) | exact And.left (arm3 (by assumption)) | exact And.left (And.right (arm3 (by assumption))) | exact And.right (And.right (arm3 (by assumption))) | exact And.left (arm4 (by assumption)) | exact And.left (And.right (arm4 (by assumption))) | exact And.right (And.right (arm4 (by assumption))) | exact And.left (arm5 (by assumption)) | exact And.left (And.right (arm5 (by assumption))) | exact And.right (And.right (arm5 (by assumption))) | exact And.left (arm6 (by assumption)) | exact And.left (And.right (arm6 (by assumption))) | exact And.right (And.right (arm6 (by assumption))) | exact And.left (arm7 (by assumption)) | exact And.left (And.right (arm7 (by assumption))) | exact And.right (And.right (arm7 (by assumption))) | exact Nat.lt_add_one _ | fail "no") | (with_reducible refine Nat.lt_add_right _ ?_; mod_arm) | fail "no")
  k_with "ne" => (k_dflt (first | assumption | exact Ne.symm (by assumption) | (refine neN ?_; (try dsimp only); first | assumption | exact Ne.symm (by assumption) | exact Nat.ne_of_lt (by mod_arm) | exact Nat.ne_of_gt (by mod_arm) | mod_arm | exact Ne.symm (by mod_arm) | fail "no") | fail "no"))
  k_with "om" => (first | (with_reducible first | assumption | exact Ne.symm (by assumption) | exact bdA (by assumption) | exact bdB (by assumption) (by k_dflt rfl) | exact bdC (by assumption) | exact bdD (by assumption) (by k_dflt rfl) | exact bdE (by assumption) | exact bdF (by assumption) (by k_dflt rfl) | exact bdG (by assumption) (by k_dflt rfl) | exact bdH (by assumption) (by k_dflt rfl) | exact bdI (by assumption) | exact bdJ (by assumption) (by k_dflt rfl) | exact bdK (by assumption) | exact bdO (by assumption) | exact bdP (by assumption) (by k_dflt rfl) | exact bdO0 (by assumption) | exact bdP0 (by assumption) (by k_dflt rfl) | exact bdV (by assumption) | exact bdS0 (by assumption) | exact bdS1 (by assumption) | exact bdS2 (by assumption) | exact bdS3 (by assumption) | exact bdQ (by assumption) (by assumption) (by assumption) | exact bdQ2 (by assumption) (by assumption) (by assumption) (by k_dflt rfl) | exact bdQ3 (by assumption) (by assumption) (by assumption) (by assumption) (by assumption) | exact bdQ4 (by assumption) (by assumption) (by assumption) | exact bdQ5 (by assumption) (by assumption) (by assumption) (by k_dflt rfl) | exact bdNA (by assumption) | exact bdW (by assumption) (by k_dflt rfl) | exact bdX2 (by assumption) (by k_dflt rfl) | exact bdX3 (by assumption) (by k_dflt rfl) | exact bdX4 (by assumption) (by k_dflt rfl) | exact bdX5 (by assumption) (by k_dflt rfl) | exact bdT0 (by assumption) | exact bdT1 (by assumption) | exact bdR2 | exact bdR1 (by assumption) (by k_dflt rfl) | exact Nat.ne_of_lt (by mod_arm) | exact Nat.ne_of_gt (by mod_arm) | exact Ne.symm (by mod_arm) | mod_arm | fail "no") | ((with_reducible refine And.intro ?_ ?_) <;> omega) | ((with_reducible (first | (rename @Ne _ _ _ => hz9; clear hz9) | (rename And (@Ne _ _ _) _ => hz9; clear hz9) | (rename And (And (@Ne _ _ _) _) _ => hz9; clear hz9)); (repeat (with_reducible first | (rename @Ne _ _ _ => hz9; clear hz9) | (rename And (@Ne _ _ _) _ => hz9; clear hz9) | (rename And (And (@Ne _ _ _) _) _ => hz9; clear hz9))); omega)) | fail "no")
  k_with "eval Call" => (refine Call_ ?_)
  k_with "eval Name" => (k_here; k_dflt (refine' nameX_L ?F ?v ?_ ?a ?b; (case F => k_asm); (case a => rfl); (case b => rfl); (case v => first | rfl | exact hr9 _ rfl | exact hr8 _ rfl | exact (hr9 _ rfl).trans (hr8 _ rfl)); k_whole))
  k_with "storeName" => (k_here; dsimp only)
  k_with "newTuple" => (k_here; dsimp only)
  k_with "newList" => (k_here; dsimp only)
  k_with "LeaveK" => (k_here; dsimp only)
  k_with "ite" => (k_here; dsimp only)
  k_with "execs cons" => (k_here; first | k_gentoks | ((try dsimp only); refine execs_cut ?_; intro Q9 hQ9))
  k_with "call ref" => (first | (k_here; k_dflt (refine' useI (gcd_tell _ _ _ _ _ _) ?q1 ?q2 ?q3 ?q4 ?q5 ?q6 ?q7 ?q8 ?_; (case q1 | q2 | q3 | q4 | q5 => k_asm); (case q6 => first | exact rfl | assumption); (case q7 => ktr_room); (case q8 => ktr_units); intro t9 h9 tk9 F9 N9; revert t9 h9 tk9 F9 N9; intros; ((try dsimp only); (try k_sweep)))) | fail "no")
  k_with "call ref" => (first | (k_here; k_dflt (refine' useI (gcd_all_tell _ _ _ _ _ _ ?hl ?hi) ?q1 ?q2 ?q3 ?q4 ?q5 ?q6 ?q7 ?q8 ?_; (case q1 | q2 | q3 | q4 | q5 => k_asm); (case q6 => first | exact rfl | assumption); (case q7 => ktr_room); (case q8 => ktr_units); (case hl => k_mem); (case hi => l_ints); intro t9 h9 tk9 F9 N9; revert t9 h9 tk9 F9 N9; intros; ((try dsimp only); (try k_sweep)))) | fail "no")
  k_with "call ref" => (first | (k_here; k_dflt (refine' useI (lcm_tell _ _ _ _ _ _ ?ha ?hb) ?q1 ?q2 ?q3 ?q4 ?q5 ?q6 ?q7 ?q8 ?_; (case q1 | q2 | q3 | q4 | q5 => k_asm); (case q6 => first | exact rfl | assumption); (case q7 => ktr_room); (case q8 => ktr_units); (case ha | hb => omega); intro t9 h9 tk9 F9 N9; (try simp only [Int.zero_sub, Int.neg_lcm, Int.lcm_neg]); revert t9 h9 tk9 F9 N9; intros; ((try dsimp only); (try k_sweep)))) | fail "no")
  k_with "call ref" => (first | (k_here; k_dflt (refine' useT (ratio_tell _ _ _ _ _ _ ?ha ?hb) ?q1 ?q2 ?q3 ?q4 ?q5 ?q6 ?q7 ?q8 ?_; (case q1 | q2 | q3 | q4 | q5 => k_asm); (case q6 => first | exact rfl | assumption); (case q7 => ktr_room); (case q8 => ktr_units); (case ha | hb => omega); intro D9 p9 q9 t9 u9 h9 tk9 hP9 F9 N9 l9; (have hq9 := hP9.pos); (have hb9 := hP9.dvd); (have hc9 := hP9.bd (by omega)); (try dsimp only [AllLt] at l9); (try revert hc9); (try revert hb9); (try revert hq9); revert D9 p9 q9 t9 u9 h9 tk9 hP9 F9 N9 l9; intros; ((try dsimp only); (try k_sweep)))) | fail "no")
  k_with "call ref" => (first | (k_here; k_dflt (refine' useTE (whole_tell _ _ _ _) ?q1 ?q2 ?q3 ?q4 ?q5 ?q6 ?q7 ?q8 ?_; (case q1 | q2 | q3 | q4 | q5 => k_asm); (case q6 => first | exact rfl | assumption); (case q7 => ktr_room); (case q8 => ktr_units); intro D9 t9 u9 h9 tk9 F9 N9 l9; (try dsimp only [AllLt] at l9); revert D9 t9 u9 h9 tk9 F9 N9 l9; intros; ((try dsimp only); (try k_sweep)))) | fail "no")
  k_with "call ref" => (first | (k_here; k_dflt (refine' useI (floor_tell _ _ _ _ _ _ _ ?hA ?ha ?hb) ?q1 ?q2 ?q3 ?q4 ?q5 ?q6 ?q7 ?q8 ?_; (case q1 | q2 | q3 | q4 | q5 => k_asm); (case q6 => first | exact rfl | assumption); (case q7 => ktr_room); (case q8 => ktr_units); (case hA => k_mem); (case ha | hb => omega); intro t9 h9 tk9 F9 N9; revert t9 h9 tk9 F9 N9; intros; ((try dsimp only); (try k_sweep)))) | fail "no")
  k_with "call ref" => (first | (k_here; k_dflt (refine' useI (ceil_tell _ _ _ _ _ _ _ ?hA ?ha ?hb) ?q1 ?q2 ?q3 ?q4 ?q5 ?q6 ?q7 ?q8 ?_; (case q1 | q2 | q3 | q4 | q5 => k_asm); (case q6 => first | exact rfl | assumption); (case q7 => ktr_room); (case q8 => ktr_units); (case hA => k_mem); (case ha | hb => omega); intro t9 h9 tk9 F9 N9; revert t9 h9 tk9 F9 N9; intros; ((try dsimp only); (try k_sweep)))) | fail "no")
  k_with "call ref" => (first | (k_here; k_dflt (refine' useB (iswhole_tell _ _ _ _ _ _ _ ?hA) ?q1 ?q2 ?q3 ?q4 ?q5 ?q6 ?q7 ?q8 ?_; (case q1 | q2 | q3 | q4 | q5 => k_asm); (case q6 => first | exact rfl | assumption); (case q7 => ktr_room); (case q8 => ktr_units); (case hA => k_mem); intro h9 tk9 F9 N9; revert h9 tk9 F9 N9; intros; ((try dsimp only); (try k_sweep)))) | fail "no")
  k_with "call ref" => (first | (k_here; k_dflt (refine' useI (compare_tell _ _ _ _ _ _ _ _ _ _ _ _ ?hA ?hC ?ha ?hb) ?q1 ?q2 ?q3 ?q4 ?q5 ?q6 ?q7 ?q8 ?_; (case q1 | q2 | q3 | q4 | q5 => k_asm); (case q6 => first | exact rfl | assumption); (case q7 => ktr_room); (case q8 => ktr_units); (case hA | hC => k_mem); (case ha | hb => omega); intro t9 h9 tk9 F9 N9; revert t9 h9 tk9 F9 N9; intros; ((try dsimp only); (try k_sweep)))) | fail "no")
  k_with "call ref" => (first | (k_here; k_dflt (refine' useTE (neg_tell _ _ _ _ _ _ _ ?hA) ?q1 ?q2 ?q3 ?q4 ?q5 ?q6 ?q7 ?q8 ?_; (case q1 | q2 | q3 | q4 | q5 => k_asm); (case q6 => first | exact rfl | assumption); (case q7 => ktr_room); (case q8 => ktr_units); (case hA => k_mem); intro D9 t9 u9 h9 tk9 F9 N9 l9; (try dsimp only [AllLt] at l9); revert D9 t9 u9 h9 tk9 F9 N9 l9; intros; ((try dsimp only); (try k_sweep)))) | fail "no")
  k_with "call ref" => (first | (k_here; k_dflt (refine' useT (add_tell _ _ _ _ _ _ _ _ _ _ _ _ ?hA ?hC ?ha ?hb) ?q1 ?q2 ?q3 ?q4 ?q5 ?q6 ?q7 ?q8 ?_; (case q1 | q2 | q3 | q4 | q5 => k_asm); (case q6 => first | exact rfl | assumption); (case q7 => ktr_room); (case q8 => ktr_units); (case hA | hC => k_mem); (case ha | hb => omega); intro D9 p9 q9 t9 u9 h9 tk9 hP9 F9 N9 l9; (have hq9 := hP9.pos); (have hb9 := hP9.dvd); (try (have hc9 := hP9.bd (by omega))); (try dsimp only [AllLt] at l9); (try revert hc9); (try revert hb9); (try revert hq9); revert D9 p9 q9 t9 u9 h9 tk9 hP9 F9 N9 l9; intros; ((try dsimp only); (try k_sweep)))) | fail "no")
  k_with "call ref" => (first | (k_here; k_dflt (refine' useT (sub_tell _ _ _ _ _ _ _ _ _ _ _ _ ?hA ?hC ?ha ?hb) ?q1 ?q2 ?q3 ?q4 ?q5 ?q6 ?q7 ?q8 ?_; (case q1 | q2 | q3 | q4 | q5 => k_asm); (case q6 => first | exact rfl | assumption); (case q7 => ktr_room); (case q8 => ktr_units); (case hA | hC => k_mem); (case ha | hb => omega); intro D9 p9 q9 t9 u9 h9 tk9 hP9 F9 N9 l9; (have hq9 := hP9.pos); (have hb9 := hP9.dvd); (try (have hc9 := hP9.bd (by omega))); (try dsimp only [AllLt] at l9); (try revert hc9); (try revert hb9); (try revert hq9); revert D9 p9 q9 t9 u9 h9 tk9 hP9 F9 N9 l9; intros; ((try dsimp only); (try k_sweep)))) | fail "no")
  k_with "all" => (first | (first | assumption | exact ne_of_allLt (by assumption) (by first | exact Nat.le_refl _ | exact Nat.le_succ _ | exact bdU2 | exact bdU | omega)) | fail "no")
  k_with "call ref" => (first | (k_here; k_dflt (refine' useN ?ho ?hi ?hlen ?h0 ?hm ?q1 ?q2 ?q3 ?q4 ?q5 ?q6 ?q7 ?q8 ?U ?hne ?hl ?_; (case q1 | q2 | q3 | q4 | q5 => k_asm); (case q6 => first | exact rfl | assumption); (case q7 => ktr_room); (case q8 => ktr_units); (case U => k_updF); (case ho => assumption); (case hne => k_ne); (case hl => k_mem); (case hi => assumption); (case hlen => assumption); (case h0 => omega); (case hm => omega); intro v9 t9 o9 h9 tk9 hv9 hT9 F9 N9; revert v9 t9 o9 h9 tk9 hv9 hT9 F9 N9; intros; ((try dsimp only); (try k_sweep)))) | fail "no")
  replace N := News.dup N hl
  refine wpAny_call ?_
  k_dflt ktr_enter
  (rename Fr _ _ _ _ => F0); replace F0 := frAs (fun y => List.lookup y [(Str.ofString "ratios", Value.ref l)]) F0 (by with_unfolding_all exact Eq.refl (fun y => List.lookup y [(Str.ofString "ratios", Value.ref l)]))
  (refine letA ?_); intro A9
  (repeat' ((fail_if_success (with_reducible first | (show wpAny _ _ (exec (PySem.Stmt.While _ _ _ _) _) _ _ _) | (show wpAny _ _ (exec (PySem.Stmt.For _ _ _ _ _) _) _ _ _) | (show wpAny _ _ (eval (PySem.Expr.ListComp _ _ _ _) _) _ _ _) | (show wpAny _ _ (pyIter (Value.ref _)) _ _ _) | (show LCg.CompSrc _ _ _ _ _ _ _ _ _ _ _ _ _ _) | (show LCt.CompSrcT _ _ _ _ _ _ _ _ _ _ _ _ _ _ _) | (show LCp.SrcLP _ _ _ _ _ _ _ _ _ _ _ _ _ _ _) | (show wpAny _ _ (exec (PySem.Stmt.Assign _ (PySem.Expr.ListComp _ _ _ _) _) _) _ _ _))); first | (k_unfold; (try dsimp only)) | walk1 | (dsimp only; walk1) | (leave1; (try dsimp only)) | (refine Then.next hQ9 ?_; clear hQ9; (try clear Q9)) | (refine Then.ret hQ9 ?_; clear hQ9; (try clear Q9)) | (refine Then.brk hQ9 ?_; clear hQ9; (try clear Q9)) | (refine Then.cont hQ9 ?_; clear hQ9; (try clear Q9)) | fail "no step"))
  (rename Fr _ _ _ _ => lF)
  (with_unfolding_all refine' For_invVF lF ?k1 ?k2 ?_; (case k1 => exact rfl); (case k2 => exact rfl))
  (repeat' ((fail_if_success (with_reducible first | (show wpAny _ _ (exec (PySem.Stmt.While _ _ _ _) _) _ _ _) | (show wpAny _ _ (exec (PySem.Stmt.For _ _ _ _ _) _) _ _ _) | (show wpAny _ _ (eval (PySem.Expr.ListComp _ _ _ _) _) _ _ _) | (show wpAny _ _ (pyIter (Value.ref _)) _ _ _) | (show LCg.CompSrc _ _ _ _ _ _ _ _ _ _ _ _ _ _) | (show LCt.CompSrcT _ _ _ _ _ _ _ _ _ _ _ _ _ _ _) | (show LCp.SrcLP _ _ _ _ _ _ _ _ _ _ _ _ _ _ _) | (show wpAny _ _ (exec (PySem.Stmt.Assign _ (PySem.Expr.ListComp _ _ _ _) _) _) _ _ _))); first | (k_unfold; (try dsimp only)) | walk1 | (dsimp only; walk1) | (leave1; (try dsimp only)) | (refine Then.next hQ9 ?_; clear hQ9; (try clear Q9)) | (refine Then.ret hQ9 ?_; clear hQ9; (try clear Q9)) | (refine Then.brk hQ9 ?_; clear hQ9; (try clear Q9)) | (refine Then.cont hQ9 ?_; clear hQ9; (try clear Q9)) | fail "no step"))
  (rename Fr _ _ _ _ => lF9); (rename News _ _ _ _ => lN9)
  with_unfolding_all refine' iter_ledS (σ := Int × Tok) (its := its.toArray) (fun c => (l, listOf its.toArray nn) :: news) (fun c => [(Str.ofString "found", Value.int c.1 c.2)]) [] (fun i c => c.1 = lcms (rs.take i)) (1, _) rfl (fun c => List.Mem.head _) lF9 lN9 ?kk ?kr ?kt ?kd
  case kk => (repeat (first | exact Names.nil | refine Names.cons (by with_unfolding_all rfl) ?_))
  case kr => rfl
  case kt =>
    rintro I i v ⟨f, tf⟩ u h tk oI hr8 hv hR F1 N1 hn
    obtain ⟨D, p, q, t, u', rfl, hpi, hD⟩ := hp.get (i := i) (by simpa using hv)
    have hqq := hq _ (List.mem_of_getElem? hpi)
    replace N1 := News.dup N1 (List.mem_cons_of_mem _ (List.mem_cons_of_mem _ hD))
    (repeat' ((fail_if_success (with_reducible first | (show wpAny _ _ (exec (PySem.Stmt.While _ _ _ _) _) _ _ _) | (show wpAny _ _ (exec (PySem.Stmt.For _ _ _ _ _) _) _ _ _) | (show wpAny _ _ (eval (PySem.Expr.ListComp _ _ _ _) _) _ _ _) | (show wpAny _ _ (pyIter (Value.ref _)) _ _ _) | (show LCg.CompSrc _ _ _ _ _ _ _ _ _ _ _ _ _ _) | (show LCt.CompSrcT _ _ _ _ _ _ _ _ _ _ _ _ _ _ _) | (show LCp.SrcLP _ _ _ _ _ _ _ _ _ _ _ _ _ _ _) | (show wpAny _ _ (exec (PySem.Stmt.Assign _ (PySem.Expr.ListComp _ _ _ _) _) _) _ _ _))); first | (k_unfold; (try dsimp only)) | walk1 | (dsimp only; walk1) | (leave1; (try dsimp only)) | (refine Then.next hQ9 ?_; clear hQ9; (try clear Q9)) | (refine Then.ret hQ9 ?_; clear hQ9; (try clear Q9)) | (refine Then.brk hQ9 ?_; clear hQ9; (try clear Q9)) | (refine Then.cont hQ9 ?_; clear hQ9; (try clear Q9)) | fail "no step"))
    refine' turn_end (_, _) (by assumption) (by assumption) (fun p hp => .tail _ hp) hn ?hk ?hr (lcms_take hpi hR)
    case hk => (repeat (first | exact Names.nil | refine Names.cons (by with_unfolding_all rfl) ?_))
    case hr => (first | (((repeat (first | refine Rests.step (by with_unfolding_all rfl) ?_ | refine Rests.stepU (by with_unfolding_all rfl) ?_))); first | exact Rests.of hr9 | exact Rests.of hr8 | exact Rests.last | exact Rests.same | (refine Rests.via hr9 ?_; ((repeat (first | refine Rests.step (by with_unfolding_all rfl) ?_ | refine Rests.stepU (by with_unfolding_all rfl) ?_))); exact Rests.of hr8) | (refine Rests.viaS (by with_unfolding_all rfl) hr9 ?_; ((repeat (first | refine Rests.step (by with_unfolding_all rfl) ?_ | refine Rests.stepU (by with_unfolding_all rfl) ?_))); exact Rests.of hr8)) | (intro z9 hz1 hz2 hz3; (have hz4 := hz3); (try simp only [List.mem_cons, forall_eq_or_imp, List.not_mem_nil, false_implies, implies_true, and_true, List.mem_singleton, forall_eq, ne_eq] at hz1 hz2); (try simp only [List.contains_cons, List.contains_nil, Bool.or_false, Bool.or_eq_false_iff, beq_eq_false_iff_ne, ne_eq] at hz4); simp only [hz1, hz2, hz3, hz4, kstB, if_false, Bool.false_eq_true, List.contains_nil]))
  case kd =>
    rintro ⟨f, tf⟩ u0 u h tk hr8 hR F1 N1
    (repeat' ((fail_if_success (with_reducible first | (show wpAny _ _ (exec (PySem.Stmt.While _ _ _ _) _) _ _ _) | (show wpAny _ _ (exec (PySem.Stmt.For _ _ _ _ _) _) _ _ _) | (show wpAny _ _ (eval (PySem.Expr.ListComp _ _ _ _) _) _ _ _) | (show wpAny _ _ (pyIter (Value.ref _)) _ _ _) | (show LCg.CompSrc _ _ _ _ _ _ _ _ _ _ _ _ _ _) | (show LCt.CompSrcT _ _ _ _ _ _ _ _ _ _ _ _ _ _ _) | (show LCp.SrcLP _ _ _ _ _ _ _ _ _ _ _ _ _ _ _) | (show wpAny _ _ (exec (PySem.Stmt.Assign _ (PySem.Expr.ListComp _ _ _ _) _) _) _ _ _))); first | (k_unfold; (try dsimp only)) | walk1 | (dsimp only; walk1) | (leave1; (try dsimp only)) | (refine Then.next hQ9 ?_; clear hQ9; (try clear Q9)) | (refine Then.ret hQ9 ?_; clear hQ9; (try clear Q9)) | (refine Then.brk hQ9 ?_; clear hQ9; (try clear Q9)) | (refine Then.cont hQ9 ?_; clear hQ9; (try clear Q9)) | fail "no step"))
    refine endI hret (by assumption) (by assumption) (fun p hp => .tail _ hp) ?_
    rw [show f = _ from hR]
    exact congrArg lcms (List.take_of_length_le (by simp [hp.length]))
structure ClkP (one other mo : Int) : Prop where
  o1 : 0 < one
  o2 : 0 < other
  dv : one ∣ mo
  ps : 0 < mo
  le : mo ≤ ((Int.lcm one other : Nat) : Int)
theorem clk_start {one other : Int} (h1 : 0 < one) (h2 : 0 < other) : ClkP one other one := ⟨h1, h2, Int.dvd_refl _, h1, Int.le_lcm_left _ (by (first | lia | omega))⟩
theorem clk_step {one other mo : Int} (h : ClkP one other mo) (hm : ¬ mo.fmod other = 0) : ClkP one other (mo + one) := by
  refine ⟨h.o1, h.o2, Int.dvd_add h.dv (Int.dvd_refl _), by have := h.ps; have := h.o1; (first | lia | omega), ?_⟩
  have e : mo ≠ ((Int.lcm one other : Nat) : Int) := by
    intro e
    apply hm
    rw [Int.fmod_eq_emod_of_nonneg _ (by have := h.o2; (first | lia | omega)), e]
    exact Int.emod_eq_zero_of_dvd (Int.dvd_lcm_right _ _)
  obtain ⟨i, hi⟩ := h.dv
  obtain ⟨j, hj⟩ := Int.dvd_lcm_left one other
  have h1 := h.o1
  have h2 := h.le
  rw [hj] at h2 e ⊢
  rw [hi] at h2 e ⊢
  have h3 : i < j := by
    by_cases hh : i < j
    · exact hh
    · exfalso
      have h4 : one * j ≤ one * i := Int.mul_le_mul_of_nonneg_left (by (first | lia | omega)) (by (first | lia | omega))
      exact e (by (first | lia | omega))
  have h5 : one * (i + 1) ≤ one * j := Int.mul_le_mul_of_nonneg_left (by (first | lia | omega)) (by (first | lia | omega))
  rw [Int.mul_add, Int.mul_one] at h5
  exact h5
theorem clk_meas {one other mo : Int} (h : ClkP one other mo) (hm : ¬ mo.fmod other = 0) : (((Int.lcm one other : Nat) : Int) - (mo + one)).toNat < (((Int.lcm one other : Nat) : Int) - mo).toNat := by
  have h1 := (clk_step h hm).le
  have h2 := h.o1
  exact (Int.toNat_lt_toNat (by (first | lia | omega))).mpr (by (first | lia | omega))
theorem clk_end {one other mo : Int} (h : ClkP one other mo) (hm : mo.fmod other = 0) : ((Int.lcm one other : Nat) : Int) = mo := by
  rw [Int.fmod_eq_emod_of_nonneg _ (by have := h.o2; (first | lia | omega))] at hm
  have h1 := Int.dvd_of_emod_eq_zero hm
  have h2 := Int.coe_lcm_dvd h.dv h1
  have h3 := Int.le_of_dvd h.ps h2
  have h4 := h.le
  (first | lia | omega)
theorem clocks_tell (w : World) (TP CL : Addr) (o : Obj) (spot : Int) (vs : List Value) (ns : List Int) (n : Nat) (news : List (Addr × Obj)) (ho : Tape w o CL spot) (hl : (CL, listOf vs.toArray n) ∈ news) (hi : IntsAre vs ns) (hlen : ns.length ≤ 100) (hoff : ∀ p ∈ news, p.1 ≠ TP) (hCL : @Ne Nat CL TP) (h0 : 0 ≤ spot ∧ spot < 1000) :
    Tell w 9 196 [.ref TP] ((TP, o) :: news) (fun r nx => ∃ (o' : Obj) (spot' : Int), r = .bool true ∧ nx = (TP, o') :: news ∧ Tape w o' CL spot' ∧ spot ≤ spot' ∧ spot' ≤ spot + 2) := by
  w_top off
  unfold Tell
  k_fill
  intro mean mg mb dp un gd cn cs ad ccd cl outer A₀ base h₀ L m s Q E B F X N T hk hd hu hret
  k_with_none
  k_with "lt" => ((with_reducible rename ∀ p ∈ (_ : List (Addr × Obj)), p.1 < (_ : Addr) => hlt); replace hlt := allLt_of hlt; (dsimp only [AllLt] at hlt); revert hlt; intros)
  k_with "room" => (k_dflt (first | exact rm2 (by assumption) (by rfl) | exact rm1 (by assumption) (by rfl) | exact rm3 (by assumption) (by rfl) | exact rm0 (by assumption) | fail "no"))
  k_with "arm" => (first | assumption | (with_reducible first | exact arm0 (by assumption) | exact arm1 (by assumption) | exact arm2 (by assumption) | exact arm3 (by assumption) | exact arm4 (by assumption) | exact arm5 (by assumption) | exact arm6 (by assumption) | exact arm7 (by assumption) | exact arm8 (by assumption) | exact arm9 (by assumption) | exact arm10 (by assumption) | exact arm11 (by assumption) | exact arm12 (by assumption) | exact arm13 (by assumption) | exact And.left (arm0 (by assumption)) | exact And.left (And.right (arm0 (by assumption))) | exact And.right (And.right (arm0 (by assumption))) | exact And.left (arm1 (by assumption)) | exact And.left (And.right (arm1 (by assumption))) | exact And.right (And.right (arm1 (by assumption))) | exact And.left (arm2 (by assumption)) | exact And.left (And.right (arm2 (by assumption))) | exact And.right (And.right (arm2 (by assumption))) | exact And.left (arm3 (by assumption)) | exact And.left (And.right (arm3 (by assumption))) | exact And.right (And.right (arm3 (by assumption))) | exact And.left (arm4 (by assumption)) | exact And.left (And.right (arm4 (by assumption))) | exact And.right (And.right (arm4 (by assumption))) | exact And.left (arm5 (by assumption)) | exact And.left (And.right (arm5 (by assumption))) | exact And.right (And.right (arm5 (by assumption))) | exact And.left (arm6 (by assumption)) | exact And.left (And.right (arm6 (by assumption))) | exact And.right (And.right (arm6 (by assumption))) | exact And.left (arm7 (by assumption)) | exact And.left (And.right (arm7 (by assumption))) | exact And.right (And.right (arm7 (by assumption))) | exact Nat.lt_add_one _ | fail "no") | (with_reducible refine Nat.lt_add_right _ ?_; mod_arm) | fail "no")
  k_with "ne" => (k_dflt (first | assumption | exact Ne.symm (by assumption) | (refine neN ?_; (try dsimp only); first | assumption | exact Ne.symm (by assumption) | exact Nat.ne_of_lt (by mod_arm) | exact Nat.ne_of_gt (by mod_arm) | mod_arm | exact Ne.symm (by mod_arm) | fail "no") | fail "no"))
  k_with "om" => (first | (with_reducible first | assumption | exact Ne.symm (by assumption) | exact bdA (by assumption) | exact bdB (by assumption) (by k_dflt rfl) | exact bdC (by assumption) | exact bdD (by assumption) (by k_dflt rfl) | exact bdE (by assumption) | exact bdF (by assumption) (by k_dflt rfl) | exact bdG (by assumption) (by k_dflt rfl) | exact bdH (by assumption) (by k_dflt rfl) | exact bdI (by assumption) | exact bdJ (by assumption) (by k_dflt rfl) | exact bdK (by assumption) | exact bdO (by assumption) | exact bdP (by assumption) (by k_dflt rfl) | exact bdO0 (by assumption) | exact bdP0 (by assumption) (by k_dflt rfl) | exact bdV (by assumption) | exact bdS0 (by assumption) | exact bdS1 (by assumption) | exact bdS2 (by assumption) | exact bdS3 (by assumption) | exact bdQ (by assumption) (by assumption) (by assumption) | exact bdQ2 (by assumption) (by assumption) (by assumption) (by k_dflt rfl) | exact bdQ3 (by assumption) (by assumption) (by assumption) (by assumption) (by assumption) | exact bdQ4 (by assumption) (by assumption) (by assumption) | exact bdQ5 (by assumption) (by assumption) (by assumption) (by k_dflt rfl) | exact bdNA (by assumption) | exact bdW (by assumption) (by k_dflt rfl) | exact bdX2 (by assumption) (by k_dflt rfl) | exact bdX3 (by assumption) (by k_dflt rfl) | exact bdX4 (by assumption) (by k_dflt rfl) | exact bdX5 (by assumption) (by k_dflt rfl) | exact bdT0 (by assumption) | exact bdT1 (by assumption) | exact bdR2 | exact bdR1 (by assumption) (by k_dflt rfl) | exact Nat.ne_of_lt (by mod_arm) | exact Nat.ne_of_gt (by mod_arm) | exact Ne.symm (by mod_arm) | mod_arm | fail "no") | ((with_reducible refine And.intro ?_ ?_) <;> omega) | ((with_reducible (first | (rename @Ne _ _ _ => hz9; clear hz9) | (rename And (@Ne _ _ _) _ => hz9; clear hz9) | (rename And (And (@Ne _ _ _) _) _ => hz9; clear hz9)); (repeat (with_reducible first | (rename @Ne _ _ _ => hz9; clear hz9) | (rename And (@Ne _ _ _) _ => hz9; clear hz9) | (rename And (And (@Ne _ _ _) _) _ => hz9; clear hz9))); omega)) | fail "no")
  k_with "eval Call" => (refine Call_ ?_)
  k_with "eval Name" => (k_here; k_dflt (refine' nameX_L ?F ?v ?_ ?a ?b; (case F => k_asm); (case a => rfl); (case b => rfl); (case v => first | rfl | exact hr9 _ rfl | exact hr8 _ rfl | exact (hr9 _ rfl).trans (hr8 _ rfl)); k_whole))
  k_with "storeName" => (k_here; dsimp only)
  k_with "newTuple" => (k_here; dsimp only)
  k_with "newList" => (k_here; dsimp only)
  k_with "LeaveK" => (k_here; dsimp only)
  k_with "ite" => (k_here; dsimp only)
  k_with "execs cons" => (k_here; first | k_gentoks | ((try dsimp only); refine execs_cut ?_; intro Q9 hQ9))
  k_with "call ref" => (first | (k_here; k_dflt (refine' useI (gcd_tell _ _ _ _ _ _) ?q1 ?q2 ?q3 ?q4 ?q5 ?q6 ?q7 ?q8 ?_; (case q1 | q2 | q3 | q4 | q5 => k_asm); (case q6 => first | exact rfl | assumption); (case q7 => ktr_room); (case q8 => ktr_units); intro t9 h9 tk9 F9 N9; revert t9 h9 tk9 F9 N9; intros; ((try dsimp only); (try k_sweep)))) | fail "no")
  k_with "call ref" => (first | (k_here; k_dflt (refine' useI (gcd_all_tell _ _ _ _ _ _ ?hl ?hi) ?q1 ?q2 ?q3 ?q4 ?q5 ?q6 ?q7 ?q8 ?_; (case q1 | q2 | q3 | q4 | q5 => k_asm); (case q6 => first | exact rfl | assumption); (case q7 => ktr_room); (case q8 => ktr_units); (case hl => k_mem); (case hi => l_ints); intro t9 h9 tk9 F9 N9; revert t9 h9 tk9 F9 N9; intros; ((try dsimp only); (try k_sweep)))) | fail "no")
  k_with "call ref" => (first | (k_here; k_dflt (refine' useI (lcm_tell _ _ _ _ _ _ ?ha ?hb) ?q1 ?q2 ?q3 ?q4 ?q5 ?q6 ?q7 ?q8 ?_; (case q1 | q2 | q3 | q4 | q5 => k_asm); (case q6 => first | exact rfl | assumption); (case q7 => ktr_room); (case q8 => ktr_units); (case ha | hb => omega); intro t9 h9 tk9 F9 N9; (try simp only [Int.zero_sub, Int.neg_lcm, Int.lcm_neg]); revert t9 h9 tk9 F9 N9; intros; ((try dsimp only); (try k_sweep)))) | fail "no")
  k_with "call ref" => (first | (k_here; k_dflt (refine' useT (ratio_tell _ _ _ _ _ _ ?ha ?hb) ?q1 ?q2 ?q3 ?q4 ?q5 ?q6 ?q7 ?q8 ?_; (case q1 | q2 | q3 | q4 | q5 => k_asm); (case q6 => first | exact rfl | assumption); (case q7 => ktr_room); (case q8 => ktr_units); (case ha | hb => omega); intro D9 p9 q9 t9 u9 h9 tk9 hP9 F9 N9 l9; (have hq9 := hP9.pos); (have hb9 := hP9.dvd); (have hc9 := hP9.bd (by omega)); (try dsimp only [AllLt] at l9); (try revert hc9); (try revert hb9); (try revert hq9); revert D9 p9 q9 t9 u9 h9 tk9 hP9 F9 N9 l9; intros; ((try dsimp only); (try k_sweep)))) | fail "no")
  k_with "call ref" => (first | (k_here; k_dflt (refine' useTE (whole_tell _ _ _ _) ?q1 ?q2 ?q3 ?q4 ?q5 ?q6 ?q7 ?q8 ?_; (case q1 | q2 | q3 | q4 | q5 => k_asm); (case q6 => first | exact rfl | assumption); (case q7 => ktr_room); (case q8 => ktr_units); intro D9 t9 u9 h9 tk9 F9 N9 l9; (try dsimp only [AllLt] at l9); revert D9 t9 u9 h9 tk9 F9 N9 l9; intros; ((try dsimp only); (try k_sweep)))) | fail "no")
  k_with "call ref" => (first | (k_here; k_dflt (refine' useI (floor_tell _ _ _ _ _ _ _ ?hA ?ha ?hb) ?q1 ?q2 ?q3 ?q4 ?q5 ?q6 ?q7 ?q8 ?_; (case q1 | q2 | q3 | q4 | q5 => k_asm); (case q6 => first | exact rfl | assumption); (case q7 => ktr_room); (case q8 => ktr_units); (case hA => k_mem); (case ha | hb => omega); intro t9 h9 tk9 F9 N9; revert t9 h9 tk9 F9 N9; intros; ((try dsimp only); (try k_sweep)))) | fail "no")
  k_with "call ref" => (first | (k_here; k_dflt (refine' useI (ceil_tell _ _ _ _ _ _ _ ?hA ?ha ?hb) ?q1 ?q2 ?q3 ?q4 ?q5 ?q6 ?q7 ?q8 ?_; (case q1 | q2 | q3 | q4 | q5 => k_asm); (case q6 => first | exact rfl | assumption); (case q7 => ktr_room); (case q8 => ktr_units); (case hA => k_mem); (case ha | hb => omega); intro t9 h9 tk9 F9 N9; revert t9 h9 tk9 F9 N9; intros; ((try dsimp only); (try k_sweep)))) | fail "no")
  k_with "call ref" => (first | (k_here; k_dflt (refine' useB (iswhole_tell _ _ _ _ _ _ _ ?hA) ?q1 ?q2 ?q3 ?q4 ?q5 ?q6 ?q7 ?q8 ?_; (case q1 | q2 | q3 | q4 | q5 => k_asm); (case q6 => first | exact rfl | assumption); (case q7 => ktr_room); (case q8 => ktr_units); (case hA => k_mem); intro h9 tk9 F9 N9; revert h9 tk9 F9 N9; intros; ((try dsimp only); (try k_sweep)))) | fail "no")
  k_with "call ref" => (first | (k_here; k_dflt (refine' useI (compare_tell _ _ _ _ _ _ _ _ _ _ _ _ ?hA ?hC ?ha ?hb) ?q1 ?q2 ?q3 ?q4 ?q5 ?q6 ?q7 ?q8 ?_; (case q1 | q2 | q3 | q4 | q5 => k_asm); (case q6 => first | exact rfl | assumption); (case q7 => ktr_room); (case q8 => ktr_units); (case hA | hC => k_mem); (case ha | hb => omega); intro t9 h9 tk9 F9 N9; revert t9 h9 tk9 F9 N9; intros; ((try dsimp only); (try k_sweep)))) | fail "no")
  k_with "call ref" => (first | (k_here; k_dflt (refine' useTE (neg_tell _ _ _ _ _ _ _ ?hA) ?q1 ?q2 ?q3 ?q4 ?q5 ?q6 ?q7 ?q8 ?_; (case q1 | q2 | q3 | q4 | q5 => k_asm); (case q6 => first | exact rfl | assumption); (case q7 => ktr_room); (case q8 => ktr_units); (case hA => k_mem); intro D9 t9 u9 h9 tk9 F9 N9 l9; (try dsimp only [AllLt] at l9); revert D9 t9 u9 h9 tk9 F9 N9 l9; intros; ((try dsimp only); (try k_sweep)))) | fail "no")
  k_with "call ref" => (first | (k_here; k_dflt (refine' useT (add_tell _ _ _ _ _ _ _ _ _ _ _ _ ?hA ?hC ?ha ?hb) ?q1 ?q2 ?q3 ?q4 ?q5 ?q6 ?q7 ?q8 ?_; (case q1 | q2 | q3 | q4 | q5 => k_asm); (case q6 => first | exact rfl | assumption); (case q7 => ktr_room); (case q8 => ktr_units); (case hA | hC => k_mem); (case ha | hb => omega); intro D9 p9 q9 t9 u9 h9 tk9 hP9 F9 N9 l9; (have hq9 := hP9.pos); (have hb9 := hP9.dvd); (try (have hc9 := hP9.bd (by omega))); (try dsimp only [AllLt] at l9); (try revert hc9); (try revert hb9); (try revert hq9); revert D9 p9 q9 t9 u9 h9 tk9 hP9 F9 N9 l9; intros; ((try dsimp only); (try k_sweep)))) | fail "no")
  k_with "call ref" => (first | (k_here; k_dflt (refine' useT (sub_tell _ _ _ _ _ _ _ _ _ _ _ _ ?hA ?hC ?ha ?hb) ?q1 ?q2 ?q3 ?q4 ?q5 ?q6 ?q7 ?q8 ?_; (case q1 | q2 | q3 | q4 | q5 => k_asm); (case q6 => first | exact rfl | assumption); (case q7 => ktr_room); (case q8 => ktr_units); (case hA | hC => k_mem); (case ha | hb => omega); intro D9 p9 q9 t9 u9 h9 tk9 hP9 F9 N9 l9; (have hq9 := hP9.pos); (have hb9 := hP9.dvd); (try (have hc9 := hP9.bd (by omega))); (try dsimp only [AllLt] at l9); (try revert hc9); (try revert hb9); (try revert hq9); revert D9 p9 q9 t9 u9 h9 tk9 hP9 F9 N9 l9; intros; ((try dsimp only); (try k_sweep)))) | fail "no")
  k_with "all" => (first | (first | assumption | exact ne_of_allLt (by assumption) (by first | exact Nat.le_refl _ | exact Nat.le_succ _ | exact bdU2 | exact bdU | omega)) | fail "no")
  k_with "call ref" => (first | (k_here; k_dflt (refine' useN ?ho ?hi ?hlen ?h0 ?hm ?q1 ?q2 ?q3 ?q4 ?q5 ?q6 ?q7 ?q8 ?U ?hne ?hl ?_; (case q1 | q2 | q3 | q4 | q5 => k_asm); (case q6 => first | exact rfl | assumption); (case q7 => ktr_room); (case q8 => ktr_units); (case U => k_updF); (case ho => assumption); (case hne => k_ne); (case hl => k_mem); (case hi => assumption); (case hlen => assumption); (case h0 => omega); (case hm => omega); intro v9 t9 o9 h9 tk9 hv9 hT9 F9 N9; revert v9 t9 o9 h9 tk9 hv9 hT9 F9 N9; intros; ((try dsimp only); (try k_sweep)))) | fail "no")
  k_with "call ref" => (first | (k_here; k_dflt (refine' useI (bottom_tell _ _ _ _ _ _ ?hl ?hp ?hq) ?q1 ?q2 ?q3 ?q4 ?q5 ?q6 ?q7 ?q8 ?_; (case q1 | q2 | q3 | q4 | q5 => k_asm); (case q6 => first | exact rfl | assumption); (case q7 => ktr_room); (case q8 => ktr_units); (case hl => k_mem); (case hp => first | assumption | first | exact PairsAre.nil | (refine' PairsAre.cons ?hmm PairsAre.nil; (case hmm => k_mem))); (case hq => first | assumption | (intro r9 hr9; (simp only [List.mem_cons, List.not_mem_nil, or_false] at hr9); subst hr9; dsimp only; omega)); intro t9 h9 tk9 F9 N9; revert t9 h9 tk9 F9 N9; intros; ((try dsimp only); (try k_sweep)))) | fail "no")
  replace N : News h₀ L s.heap ((TP, o) :: (CL, listOf vs.toArray n) :: news) := fun p hp => by
    rcases List.mem_cons.mp hp with h | h
    · exact N p (h ▸ .head _)
    · rcases List.mem_cons.mp h with h | h
      · exact N p (.tail _ (h ▸ hl))
      · exact N p (.tail _ h)
  refine wpAny_call ?_
  k_dflt (refine' code_defC ?k1 ?k2 ?k3 ?k4 ?k5 ?kA ?kF ?kK ?k6 ?k7 ?k8 ?k9 ?kB ?kD ?_ ?c2 ?c3 ?c4; (case kA => exact rfl); (case kF => exact rfl); (case kK => first | exact rfl | assumption); (case k1 => k_asm); (case k2 => k_asm); (case k3 => k_asm); (case k4 => k_asm); (case k5 => k_asm); (case k6 => k_is); (case k7 => k_is); (case k8 => ktr_room); (case k9 => exact BindsTo.of_eq rfl); (case kB => exact rfl); (case kD => decide +kernel); (case c2 => exact rfl); (case c3 => exact rfl); (case c4 => exact rfl); k_whole; intro g' L' h' tk' cells' FG' F' N' Y' B' X' T' l1; (try (replace l1 := allLt_of l1; dsimp only [AllLt] at l1)); k_cells Y'; (try simp only [List.cons_append, List.nil_append] at N'); (try dsimp only); (try k_fold))
  have hAL := l1.2.2
  (rename Fr _ _ _ _ => F0); replace F0 := frAs (fun y => if y = Str.ofString "tape" then some (Value.ref TP) else none) F0 (by with_unfolding_all exact Eq.refl (fun y => if y = Str.ofString "tape" then some (Value.ref TP) else none))
  (refine letA ?_); intro A9
  (repeat' ((fail_if_success (with_reducible first | (show wpAny _ _ (exec (PySem.Stmt.While _ _ _ _) _) _ _ _) | (show wpAny _ _ (exec (PySem.Stmt.For _ _ _ _ _) _) _ _ _) | (show wpAny _ _ (eval (PySem.Expr.ListComp _ _ _ _) _) _ _ _) | (show wpAny _ _ (pyIter (Value.ref _)) _ _ _) | (show LCg.CompSrc _ _ _ _ _ _ _ _ _ _ _ _ _ _) | (show LCt.CompSrcT _ _ _ _ _ _ _ _ _ _ _ _ _ _ _) | (show LCp.SrcLP _ _ _ _ _ _ _ _ _ _ _ _ _ _ _) | (show wpAny _ _ (exec (PySem.Stmt.Assign _ (PySem.Expr.ListComp _ _ _ _) _) _) _ _ _))); first | (k_unfold; (try dsimp only)) | walk1 | (dsimp only; walk1) | (leave1; (try dsimp only)) | (refine Then.next hQ9 ?_; clear hQ9; (try clear Q9)) | (refine Then.ret hQ9 ?_; clear hQ9; (try clear Q9)) | (refine Then.brk hQ9 ?_; clear hQ9; (try clear Q9)) | (refine Then.cont hQ9 ?_; clear hQ9; (try clear Q9)) | fail "no step"))
  rename_i v1 t1 o1 h1 tk1 hv1 hT1 v2 t2 o2 h2 tk2 hv2 hT2 D h5 l2 h4 h3 hh2 tkq hh1 oc Fc Nc dc
  obtain ⟨nw, hTN, hsub, hAN, Nc⟩ := hide1A (News.tl Nc) l1
  refine While_inv2 (fun k m nx => ∃ (mo : Int) (t : Tok) (oc : Obj), m = _ ∧ nx = (L' + 1, oc) :: nw ∧ oc.data = .cell (some (.int mo t)) ∧ ClkP (1 + v1) (1 + v2) mo ∧ k = (((Int.lcm (1 + v1) (1 + v2) : Nat) : Int) - mo).toNat) Fc Nc ⟨_, _, _, rfl, rfl, dc, clk_start (by omega) (by omega), rfl⟩ ?_
  clear Fc Nc dc
  rintro k m1 nx hh tkk F1 N1 ⟨mo, tmo, oc1, rfl, rfl, dc1, hP, rfl⟩
  (repeat' ((fail_if_success (with_reducible first | (show wpAny _ _ (exec (PySem.Stmt.While _ _ _ _) _) _ _ _) | (show wpAny _ _ (exec (PySem.Stmt.For _ _ _ _ _) _) _ _ _) | (show wpAny _ _ (eval (PySem.Expr.ListComp _ _ _ _) _) _ _ _) | (show wpAny _ _ (pyIter (Value.ref _)) _ _ _) | (show LCg.CompSrc _ _ _ _ _ _ _ _ _ _ _ _ _ _) | (show LCt.CompSrcT _ _ _ _ _ _ _ _ _ _ _ _ _ _ _) | (show LCp.SrcLP _ _ _ _ _ _ _ _ _ _ _ _ _ _ _) | (show wpAny _ _ (exec (PySem.Stmt.Assign _ (PySem.Expr.ListComp _ _ _ _) _) _) _ _ _))); first | (k_unfold; (try dsimp only)) | walk1 | (dsimp only; walk1) | (leave1; (try dsimp only)) | (refine Then.next hQ9 ?_; clear hQ9; (try clear Q9)) | (refine Then.ret hQ9 ?_; clear hQ9; (try clear Q9)) | (refine Then.brk hQ9 ?_; clear hQ9; (try clear Q9)) | (refine Then.cont hQ9 ?_; clear hQ9; (try clear Q9)) | fail "no step"))
  · exact ⟨_, _, _, _, _, rfl, by assumption, by assumption, clk_meas hP (by assumption), _, _, _, rfl, rfl, by assumption, clk_step hP (by assumption), rfl⟩
  have hE := clk_end hP (by assumption)
  have hE2 : ((Int.lcm (1 + v2) (1 + v1) : Nat) : Int) = mo := by rw [Int.lcm_comm]; exact hE
  (repeat' ((fail_if_success (with_reducible first | (show wpAny _ _ (exec (PySem.Stmt.While _ _ _ _) _) _ _ _) | (show wpAny _ _ (exec (PySem.Stmt.For _ _ _ _ _) _) _ _ _) | (show wpAny _ _ (eval (PySem.Expr.ListComp _ _ _ _) _) _ _ _) | (show wpAny _ _ (pyIter (Value.ref _)) _ _ _) | (show LCg.CompSrc _ _ _ _ _ _ _ _ _ _ _ _ _ _) | (show LCt.CompSrcT _ _ _ _ _ _ _ _ _ _ _ _ _ _ _) | (show LCp.SrcLP _ _ _ _ _ _ _ _ _ _ _ _ _ _ _) | (show wpAny _ _ (exec (PySem.Stmt.Assign _ (PySem.Expr.ListComp _ _ _ _) _) _) _ _ _))); first | (k_unfold; (try dsimp only)) | walk1 | (dsimp only; walk1) | (leave1; (try dsimp only)) | (refine Then.next hQ9 ?_; clear hQ9; (try clear Q9)) | (refine Then.ret hQ9 ?_; clear hQ9; (try clear Q9)) | (refine Then.brk hQ9 ?_; clear hQ9; (try clear Q9)) | (refine Then.cont hQ9 ?_; clear hQ9; (try clear Q9)) | fail "no step"))
  refine LCt.ListComp_T (F₀ := by k_asm) (by with_unfolding_all rfl) (by decide) (by rfl) (by decide) (by rfl) ?_
  (repeat' ((fail_if_success (with_reducible first | (show wpAny _ _ (exec (PySem.Stmt.While _ _ _ _) _) _ _ _) | (show wpAny _ _ (exec (PySem.Stmt.For _ _ _ _ _) _) _ _ _) | (show wpAny _ _ (eval (PySem.Expr.ListComp _ _ _ _) _) _ _ _) | (show wpAny _ _ (pyIter (Value.ref _)) _ _ _) | (show LCg.CompSrc _ _ _ _ _ _ _ _ _ _ _ _ _ _) | (show LCt.CompSrcT _ _ _ _ _ _ _ _ _ _ _ _ _ _ _) | (show LCp.SrcLP _ _ _ _ _ _ _ _ _ _ _ _ _ _ _) | (show wpAny _ _ (exec (PySem.Stmt.Assign _ (PySem.Expr.ListComp _ _ _ _) _) _) _ _ _))); first | (k_unfold; (try dsimp only)) | walk1 | (dsimp only; walk1) | (leave1; (try dsimp only)) | (refine Then.next hQ9 ?_; clear hQ9; (try clear Q9)) | (refine Then.ret hQ9 ?_; clear hQ9; (try clear Q9)) | (refine Then.brk hQ9 ?_; clear hQ9; (try clear Q9)) | (refine Then.cont hQ9 ?_; clear hQ9; (try clear Q9)) | fail "no step"))
  refine LCt.CompSrcT.ledger (by rfl) (by k_asm) (by k_asm) (by k_mem) (by exact Nat.le_of_ble_eq_true rfl) ?_
  intro g
  refine restT_ind (fun i ys nx => ys = [] ∧ nx = _) ?_ ?_ _ 0 [] _ (Nat.zero_add _) ⟨rfl, rfl⟩
  · rintro i ys nx v I oI C oC D8 m2 h8 tk8 E8 hi ⟨rfl, rfl⟩ hP8 hC8 hx8 F8 N8 off8 ne8
    have off0 := off8
    dsimp only [LCg.Off3] at off8
    (try dsimp only)
    have hi4 : i < 4 := hi
    obtain rfl | rfl | rfl | rfl := lt4 hi4
    all_goals lcg_open hP8
    all_goals (repeat' (first | (k_unfold; (try dsimp only)) | walk1 | (dsimp only; walk1) | (leave1; (try dsimp only)) | (refine Then.next hQ9 ?_; clear hQ9; (try clear Q9)) | (refine Then.ret hQ9 ?_; clear hQ9; (try clear Q9)) | (refine Then.brk hQ9 ?_; clear hQ9; (try clear Q9)) | (refine Then.cont hQ9 ?_; clear hQ9; (try clear Q9)) | fail "no step"))
    all_goals first
      | (exfalso; omega)
      | (refine LCg.CompEnd.intro (by assumption) (by assumption) _ (fun p hp => hp) off0 (Or.inr ⟨_, by k_mem, rfl, _, rfl⟩) ⟨rfl, rfl⟩)
  · rintro ys nx ⟨rfl, rfl⟩ D8 h8 tk8 F8 N8 off8
    (repeat' (first | (k_unfold; (try dsimp only)) | walk1 | (dsimp only; walk1) | (leave1; (try dsimp only)) | (refine Then.next hQ9 ?_; clear hQ9; (try clear Q9)) | (refine Then.ret hQ9 ?_; clear hQ9; (try clear Q9)) | (refine Then.brk hQ9 ?_; clear hQ9; (try clear Q9)) | (refine Then.cont hQ9 ?_; clear hQ9; (try clear Q9)) | fail "no step"))
    exact endL (R := fun o' spot' => Tape w o' CL spot' ∧ spot ≤ spot' ∧ spot' ≤ spot + 2) hret (by assumption) (by assumption) (by repeat (first | exact hTN | refine List.Mem.tail _ ?_)) (fun p hp => by replace hp := hsub p hp; repeat (first | exact hp | refine List.Mem.tail _ ?_)) ⟨hT2, by omega, by omega⟩
def stSum (rise run begin_ : Int) (n : Nat) : Int := ((List.range n).map (fun k : Nat => (rise * (k : Int) + begin_).fdiv run)).sum
theorem stSum_succ (rise run begin_ : Int) (n : Nat) : stSum rise run begin_ (n + 1) = stSum rise run begin_ n + (rise * (n : Int) + begin_).fdiv run := by
  simp [stSum, List.range_succ]
structure StP (X run b0 b h : Int) : Prop where
  lo : 1 ≤ h
  eq : b = b0 + (h - 1)
  up : (h - 1) * run ≤ X
theorem st_end {X run b0 b h : Int} (H : StP X run b0 b h) (hr : 0 < run) (hs : ¬ h * run ≤ X) : b = b0 + X.fdiv run := by
  have e : X.fdiv run = h - 1 := by
    rw [Int.fdiv_eq_ediv_of_nonneg _ (by (first | lia | omega))]
    have h1 := H.up
    have h2 : X < h * run := by (first | lia | omega)
    have h3 : h - 1 ≤ X / run := (Int.le_ediv_iff_mul_le hr).mpr h1
    have h4 : X / run < h := (Int.ediv_lt_iff_lt_mul hr).mpr h2
    (first | lia | omega)
  rw [e, H.eq]
theorem st_step {X run b0 b h : Int} (H : StP X run b0 b h) (hs : h * run ≤ X) : StP X run b0 (b + 1) (h + 1) := by
  refine ⟨by have := H.lo; (first | lia | omega), by have := H.eq; (first | lia | omega), ?_⟩
  rw [show h + 1 - 1 = h from by (first | lia | omega)]
  exact hs
theorem st_meas {X run b0 b h : Int} (H : StP X run b0 b h) (hr : 0 < run) (hs : h * run ≤ X) : (X + 1 - (h + 1)).toNat < (X + 1 - h).toNat := by
  have h1 : h * 1 ≤ h * run := Int.mul_le_mul_of_nonneg_left (by (first | lia | omega)) (by have := H.lo; (first | lia | omega))
  exact toN (by (first | lia | omega))
theorem isR_fdiv {a b p q : Int} (h : IsR a b p q) (hb : 0 < b) : p.fdiv q = a.fdiv b := by
  rw [Int.fdiv_eq_ediv_of_nonneg p (by have := h.pos; (first | lia | omega)), Int.fdiv_eq_ediv_of_nonneg a (by (first | lia | omega))]
  have h1 : (p * b) / (q * b) = p / q := Int.mul_ediv_mul_of_pos_left _ _ hb
  have h2 : (a * q) / (b * q) = a / b := Int.mul_ediv_mul_of_pos_left _ _ h.pos
  rw [← h1, ← h2, h.eq, Int.mul_comm b q]
theorem stairs_tell (w : World) (TP CL : Addr) (o : Obj) (spot : Int) (vs : List Value) (ns : List Int) (n : Nat) (news : List (Addr × Obj)) (ho : Tape w o CL spot) (hl : (CL, listOf vs.toArray n) ∈ news) (hi : IntsAre vs ns) (hlen : ns.length ≤ 100) (hoff : ∀ p ∈ news, p.1 ≠ TP) (hCL : @Ne Nat CL TP) (h0 : 0 ≤ spot ∧ spot < 1000) :
    Tell w 20 225 [.ref TP] ((TP, o) :: news) (fun r nx => ∃ (o' : Obj) (spot' : Int), r = .bool true ∧ nx = (TP, o') :: news ∧ Tape w o' CL spot' ∧ spot ≤ spot' ∧ spot' ≤ spot + 4) := by
  w_top off
  unfold Tell
  k_fill
  intro mean mg mb dp un gd cn cs ad ccd cl outer A₀ base h₀ L m s Q E B F X N T hk hd hu hret
  k_with_none
  k_with "lt" => ((with_reducible rename ∀ p ∈ (_ : List (Addr × Obj)), p.1 < (_ : Addr) => hlt); replace hlt := allLt_of hlt; (dsimp only [AllLt] at hlt); revert hlt; intros)
  k_with "room" => (k_dflt (first | exact rm2 (by assumption) (by rfl) | exact rm1 (by assumption) (by rfl) | exact rm3 (by assumption) (by rfl) | exact rm0 (by assumption) | fail "no"))
  k_with "arm" => (first | assumption | (with_reducible first | exact arm0 (by assumption) | exact arm1 (by assumption) | exact arm2 (by assumption) | exact arm3 (by assumption) | exact arm4 (by assumption) | exact arm5 (by assumption) | exact arm6 (by assumption) | exact arm7 (by assumption) | exact arm8 (by assumption) | exact arm9 (by assumption) | exact arm10 (by assumption) | exact arm11 (by assumption) | exact arm12 (by assumption) | exact arm13 (by assumption) | exact And.left (arm0 (by assumption)) | exact And.left (And.right (arm0 (by assumption))) | exact And.right (And.right (arm0 (by assumption))) | exact And.left (arm1 (by assumption)) | exact And.left (And.right (arm1 (by assumption))) | exact And.right (And.right (arm1 (by assumption))) | exact And.left (arm2 (by assumption)) | exact And.left (And.right (arm2 (by assumption))) | exact And.right (And.right (arm2 (by assumption))) | exact And.left (arm3 (by assumption)) | exact And.left (And.right (arm3 (by assumption))) | exact And.right (And.right (arm3 (by assumption))) | exact And.left (arm4 (by assumption)) | exact And.left (And.right (arm4 (by assumption))) | exact And.right (And.right (arm4 (by assumption))) | exact And.left (arm5 (by assumption)) | exact And.left (And.right (arm5 (by assumption))) | exact And.right (And.right (arm5 (by assumption))) | exact And.left (arm6 (by assumption)) | exact And.left (And.right (arm6 (by assumption))) | exact And.right (And.right (arm6 (by assumption))) | exact And.left (arm7 (by assumption)) | exact And.left (And.right (arm7 (by assumption))) | exact And.right (And.right (arm7 (by assumption))) | exact Nat.lt_add_one _ | fail "no") | (with_reducible refine Nat.lt_add_right _ ?_; mod_arm) | fail "no")
  k_with "ne" => (k_dflt (first | assumption | exact Ne.symm (by assumption) | (refine neN ?_; (try dsimp only); first | assumption | exact Ne.symm (by assumption) | exact Nat.ne_of_lt (by mod_arm) | exact Nat.ne_of_gt (by mod_arm) | mod_arm | exact Ne.symm (by mod_arm) | fail "no") | fail "no"))
  k_with "om" => (first | (with_reducible first | assumption | exact Ne.symm (by assumption) | exact bdA (by assumption) | exact bdB (by assumption) (by k_dflt rfl) | exact bdC (by assumption) | exact bdD (by assumption) (by k_dflt rfl) | exact bdE (by assumption) | exact bdF (by assumption) (by k_dflt rfl) | exact bdG (by assumption) (by k_dflt rfl) | exact bdH (by assumption) (by k_dflt rfl) | exact bdI (by assumption) | exact bdJ (by assumption) (by k_dflt rfl) | exact bdK (by assumption) | exact bdO (by assumption) | exact bdP (by assumption) (by k_dflt rfl) | exact bdO0 (by assumption) | exact bdP0 (by assumption) (by k_dflt rfl) | exact bdV (by assumption) | exact bdS0 (by assumption) | exact bdS1 (by assumption) | exact bdS2 (by assumption) | exact bdS3 (by assumption) | exact bdQ (by assumption) (by assumption) (by assumption) | exact bdQ2 (by assumption) (by assumption) (by assumption) (by k_dflt rfl) | exact bdQ3 (by assumption) (by assumption) (by assumption) (by assumption) (by assumption) | exact bdQ4 (by assumption) (by assumption) (by assumption) | exact bdQ5 (by assumption) (by assumption) (by assumption) (by k_dflt rfl) | exact bdNA (by assumption) | exact bdW (by assumption) (by k_dflt rfl) | exact bdX2 (by assumption) (by k_dflt rfl) | exact bdX3 (by assumption) (by k_dflt rfl) | exact bdX4 (by assumption) (by k_dflt rfl) | exact bdX5 (by assumption) (by k_dflt rfl) | exact bdT0 (by assumption) | exact bdT1 (by assumption) | exact bdR2 | exact bdR1 (by assumption) (by k_dflt rfl) | exact Nat.ne_of_lt (by mod_arm) | exact Nat.ne_of_gt (by mod_arm) | exact Ne.symm (by mod_arm) | mod_arm | fail "no") | ((with_reducible refine And.intro ?_ ?_) <;> omega) | ((with_reducible (first | (rename @Ne _ _ _ => hz9; clear hz9) | (rename And (@Ne _ _ _) _ => hz9; clear hz9) | (rename And (And (@Ne _ _ _) _) _ => hz9; clear hz9)); (repeat (with_reducible first | (rename @Ne _ _ _ => hz9; clear hz9) | (rename And (@Ne _ _ _) _ => hz9; clear hz9) | (rename And (And (@Ne _ _ _) _) _ => hz9; clear hz9))); omega)) | fail "no")
  k_with "eval Call" => (refine Call_ ?_)
  k_with "eval Name" => (k_here; k_dflt (refine' nameX_L ?F ?v ?_ ?a ?b; (case F => k_asm); (case a => rfl); (case b => rfl); (case v => first | rfl | exact hr9 _ rfl | exact hr8 _ rfl | exact (hr9 _ rfl).trans (hr8 _ rfl)); k_whole))
  k_with "storeName" => (k_here; dsimp only)
  k_with "newTuple" => (k_here; dsimp only)
  k_with "newList" => (k_here; dsimp only)
  k_with "LeaveK" => (k_here; dsimp only)
  k_with "ite" => (k_here; dsimp only)
  k_with "execs cons" => (k_here; first | k_gentoks | ((try dsimp only); refine execs_cut ?_; intro Q9 hQ9))
  k_with "call ref" => (first | (k_here; k_dflt (refine' useI (gcd_tell _ _ _ _ _ _) ?q1 ?q2 ?q3 ?q4 ?q5 ?q6 ?q7 ?q8 ?_; (case q1 | q2 | q3 | q4 | q5 => k_asm); (case q6 => first | exact rfl | assumption); (case q7 => ktr_room); (case q8 => ktr_units); intro t9 h9 tk9 F9 N9; revert t9 h9 tk9 F9 N9; intros; ((try dsimp only); (try k_sweep)))) | fail "no")
  k_with "call ref" => (first | (k_here; k_dflt (refine' useI (gcd_all_tell _ _ _ _ _ _ ?hl ?hi) ?q1 ?q2 ?q3 ?q4 ?q5 ?q6 ?q7 ?q8 ?_; (case q1 | q2 | q3 | q4 | q5 => k_asm); (case q6 => first | exact rfl | assumption); (case q7 => ktr_room); (case q8 => ktr_units); (case hl => k_mem); (case hi => l_ints); intro t9 h9 tk9 F9 N9; revert t9 h9 tk9 F9 N9; intros; ((try dsimp only); (try k_sweep)))) | fail "no")
  k_with "call ref" => (first | (k_here; k_dflt (refine' useI (lcm_tell _ _ _ _ _ _ ?ha ?hb) ?q1 ?q2 ?q3 ?q4 ?q5 ?q6 ?q7 ?q8 ?_; (case q1 | q2 | q3 | q4 | q5 => k_asm); (case q6 => first | exact rfl | assumption); (case q7 => ktr_room); (case q8 => ktr_units); (case ha | hb => omega); intro t9 h9 tk9 F9 N9; (try simp only [Int.zero_sub, Int.neg_lcm, Int.lcm_neg]); revert t9 h9 tk9 F9 N9; intros; ((try dsimp only); (try k_sweep)))) | fail "no")
  k_with "call ref" => (first | (k_here; k_dflt (refine' useT (ratio_tell _ _ _ _ _ _ ?ha ?hb) ?q1 ?q2 ?q3 ?q4 ?q5 ?q6 ?q7 ?q8 ?_; (case q1 | q2 | q3 | q4 | q5 => k_asm); (case q6 => first | exact rfl | assumption); (case q7 => ktr_room); (case q8 => ktr_units); (case ha | hb => omega); intro D9 p9 q9 t9 u9 h9 tk9 hP9 F9 N9 l9; (have hq9 := hP9.pos); (have hb9 := hP9.dvd); (have hc9 := hP9.bd (by omega)); (try dsimp only [AllLt] at l9); (try revert hc9); (try revert hb9); (try revert hq9); revert D9 p9 q9 t9 u9 h9 tk9 hP9 F9 N9 l9; intros; ((try dsimp only); (try k_sweep)))) | fail "no")
  k_with "call ref" => (first | (k_here; k_dflt (refine' useTE (whole_tell _ _ _ _) ?q1 ?q2 ?q3 ?q4 ?q5 ?q6 ?q7 ?q8 ?_; (case q1 | q2 | q3 | q4 | q5 => k_asm); (case q6 => first | exact rfl | assumption); (case q7 => ktr_room); (case q8 => ktr_units); intro D9 t9 u9 h9 tk9 F9 N9 l9; (try dsimp only [AllLt] at l9); revert D9 t9 u9 h9 tk9 F9 N9 l9; intros; ((try dsimp only); (try k_sweep)))) | fail "no")
  k_with "call ref" => (first | (k_here; k_dflt (refine' useI (floor_tell _ _ _ _ _ _ _ ?hA ?ha ?hb) ?q1 ?q2 ?q3 ?q4 ?q5 ?q6 ?q7 ?q8 ?_; (case q1 | q2 | q3 | q4 | q5 => k_asm); (case q6 => first | exact rfl | assumption); (case q7 => ktr_room); (case q8 => ktr_units); (case hA => k_mem); (case ha | hb => omega); intro t9 h9 tk9 F9 N9; revert t9 h9 tk9 F9 N9; intros; ((try dsimp only); (try k_sweep)))) | fail "no")
  k_with "call ref" => (first | (k_here; k_dflt (refine' useI (ceil_tell _ _ _ _ _ _ _ ?hA ?ha ?hb) ?q1 ?q2 ?q3 ?q4 ?q5 ?q6 ?q7 ?q8 ?_; (case q1 | q2 | q3 | q4 | q5 => k_asm); (case q6 => first | exact rfl | assumption); (case q7 => ktr_room); (case q8 => ktr_units); (case hA => k_mem); (case ha | hb => omega); intro t9 h9 tk9 F9 N9; revert t9 h9 tk9 F9 N9; intros; ((try dsimp only); (try k_sweep)))) | fail "no")
  k_with "call ref" => (first | (k_here; k_dflt (refine' useB (iswhole_tell _ _ _ _ _ _ _ ?hA) ?q1 ?q2 ?q3 ?q4 ?q5 ?q6 ?q7 ?q8 ?_; (case q1 | q2 | q3 | q4 | q5 => k_asm); (case q6 => first | exact rfl | assumption); (case q7 => ktr_room); (case q8 => ktr_units); (case hA => k_mem); intro h9 tk9 F9 N9; revert h9 tk9 F9 N9; intros; ((try dsimp only); (try k_sweep)))) | fail "no")
  k_with "call ref" => (first | (k_here; k_dflt (refine' useI (compare_tell _ _ _ _ _ _ _ _ _ _ _ _ ?hA ?hC ?ha ?hb) ?q1 ?q2 ?q3 ?q4 ?q5 ?q6 ?q7 ?q8 ?_; (case q1 | q2 | q3 | q4 | q5 => k_asm); (case q6 => first | exact rfl | assumption); (case q7 => ktr_room); (case q8 => ktr_units); (case hA | hC => k_mem); (case ha | hb => omega); intro t9 h9 tk9 F9 N9; revert t9 h9 tk9 F9 N9; intros; ((try dsimp only); (try k_sweep)))) | fail "no")
  k_with "call ref" => (first | (k_here; k_dflt (refine' useTE (neg_tell _ _ _ _ _ _ _ ?hA) ?q1 ?q2 ?q3 ?q4 ?q5 ?q6 ?q7 ?q8 ?_; (case q1 | q2 | q3 | q4 | q5 => k_asm); (case q6 => first | exact rfl | assumption); (case q7 => ktr_room); (case q8 => ktr_units); (case hA => k_mem); intro D9 t9 u9 h9 tk9 F9 N9 l9; (try dsimp only [AllLt] at l9); revert D9 t9 u9 h9 tk9 F9 N9 l9; intros; ((try dsimp only); (try k_sweep)))) | fail "no")
  k_with "call ref" => (first | (k_here; k_dflt (refine' useT (add_tell _ _ _ _ _ _ _ _ _ _ _ _ ?hA ?hC ?ha ?hb) ?q1 ?q2 ?q3 ?q4 ?q5 ?q6 ?q7 ?q8 ?_; (case q1 | q2 | q3 | q4 | q5 => k_asm); (case q6 => first | exact rfl | assumption); (case q7 => ktr_room); (case q8 => ktr_units); (case hA | hC => k_mem); (case ha | hb => omega); intro D9 p9 q9 t9 u9 h9 tk9 hP9 F9 N9 l9; (have hq9 := hP9.pos); (have hb9 := hP9.dvd); (try (have hc9 := hP9.bd (by omega))); (try dsimp only [AllLt] at l9); (try revert hc9); (try revert hb9); (try revert hq9); revert D9 p9 q9 t9 u9 h9 tk9 hP9 F9 N9 l9; intros; ((try dsimp only); (try k_sweep)))) | fail "no")
  k_with "call ref" => (first | (k_here; k_dflt (refine' useT (sub_tell _ _ _ _ _ _ _ _ _ _ _ _ ?hA ?hC ?ha ?hb) ?q1 ?q2 ?q3 ?q4 ?q5 ?q6 ?q7 ?q8 ?_; (case q1 | q2 | q3 | q4 | q5 => k_asm); (case q6 => first | exact rfl | assumption); (case q7 => ktr_room); (case q8 => ktr_units); (case hA | hC => k_mem); (case ha | hb => omega); intro D9 p9 q9 t9 u9 h9 tk9 hP9 F9 N9 l9; (have hq9 := hP9.pos); (have hb9 := hP9.dvd); (try (have hc9 := hP9.bd (by omega))); (try dsimp only [AllLt] at l9); (try revert hc9); (try revert hb9); (try revert hq9); revert D9 p9 q9 t9 u9 h9 tk9 hP9 F9 N9 l9; intros; ((try dsimp only); (try k_sweep)))) | fail "no")
  k_with "all" => (first | (first | assumption | exact ne_of_allLt (by assumption) (by first | exact Nat.le_refl _ | exact Nat.le_succ _ | exact bdU2 | exact bdU | omega)) | fail "no")
  k_with "call ref" => (first | (k_here; k_dflt (refine' useN ?ho ?hi ?hlen ?h0 ?hm ?q1 ?q2 ?q3 ?q4 ?q5 ?q6 ?q7 ?q8 ?U ?hne ?hl ?_; (case q1 | q2 | q3 | q4 | q5 => k_asm); (case q6 => first | exact rfl | assumption); (case q7 => ktr_room); (case q8 => ktr_units); (case U => k_updF); (case ho => assumption); (case hne => k_ne); (case hl => k_mem); (case hi => assumption); (case hlen => assumption); (case h0 => omega); (case hm => omega); intro v9 t9 o9 h9 tk9 hv9 hT9 F9 N9; revert v9 t9 o9 h9 tk9 hv9 hT9 F9 N9; intros; ((try dsimp only); (try k_sweep)))) | fail "no")
  k_with "call ref" => (first | (k_here; k_dflt (refine' useI (bottom_tell _ _ _ _ _ _ ?hl ?hp ?hq) ?q1 ?q2 ?q3 ?q4 ?q5 ?q6 ?q7 ?q8 ?_; (case q1 | q2 | q3 | q4 | q5 => k_asm); (case q6 => first | exact rfl | assumption); (case q7 => ktr_room); (case q8 => ktr_units); (case hl => k_mem); (case hp => first | assumption | first | exact PairsAre.nil | (refine' PairsAre.cons ?hmm PairsAre.nil; (case hmm => k_mem))); (case hq => first | assumption | (intro r9 hr9; (simp only [List.mem_cons, List.not_mem_nil, or_false] at hr9); subst hr9; dsimp only; omega)); intro t9 h9 tk9 F9 N9; revert t9 h9 tk9 F9 N9; intros; ((try dsimp only); (try k_sweep)))) | fail "no")
  replace N : News h₀ L s.heap ((TP, o) :: (CL, listOf vs.toArray n) :: news) := fun p hp => by
    rcases List.mem_cons.mp hp with h | h
    · exact N p (h ▸ .head _)
    · rcases List.mem_cons.mp h with h | h
      · exact N p (.tail _ (h ▸ hl))
      · exact N p (.tail _ h)
  refine wpAny_call ?_
  k_dflt (refine' code_defC ?k1 ?k2 ?k3 ?k4 ?k5 ?kA ?kF ?kK ?k6 ?k7 ?k8 ?k9 ?kB ?kD ?_ ?c2 ?c3 ?c4; (case kA => exact rfl); (case kF => exact rfl); (case kK => first | exact rfl | assumption); (case k1 => k_asm); (case k2 => k_asm); (case k3 => k_asm); (case k4 => k_asm); (case k5 => k_asm); (case k6 => k_is); (case k7 => k_is); (case k8 => ktr_room); (case k9 => exact BindsTo.of_eq rfl); (case kB => exact rfl); (case kD => decide +kernel); (case c2 => exact rfl); (case c3 => exact rfl); (case c4 => exact rfl); k_whole; intro g' L' h' tk' cells' FG' F' N' Y' B' X' T' l1; (try (replace l1 := allLt_of l1; dsimp only [AllLt] at l1)); k_cells Y'; (try simp only [List.cons_append, List.nil_append] at N'); (try dsimp only); (try k_fold))
  have hAL := l1.2.2
  (rename Fr _ _ _ _ => F0); replace F0 := frAs (fun y => if y = Str.ofString "tape" then some (Value.ref TP) else none) F0 (by with_unfolding_all exact Eq.refl (fun y => if y = Str.ofString "tape" then some (Value.ref TP) else none))
  (refine letA ?_); intro A9
  (repeat' ((fail_if_success (with_reducible first | (show wpAny _ _ (exec (PySem.Stmt.While _ _ _ _) _) _ _ _) | (show wpAny _ _ (exec (PySem.Stmt.For _ _ _ _ _) _) _ _ _) | (show wpAny _ _ (eval (PySem.Expr.ListComp _ _ _ _) _) _ _ _) | (show wpAny _ _ (pyIter (Value.ref _)) _ _ _) | (show LCg.CompSrc _ _ _ _ _ _ _ _ _ _ _ _ _ _) | (show LCt.CompSrcT _ _ _ _ _ _ _ _ _ _ _ _ _ _ _) | (show LCp.SrcLP _ _ _ _ _ _ _ _ _ _ _ _ _ _ _) | (show wpAny _ _ (exec (PySem.Stmt.Assign _ (PySem.Expr.ListComp _ _ _ _) _) _) _ _ _))); first | (k_unfold; (try dsimp only)) | walk1 | (dsimp only; walk1) | (leave1; (try dsimp only)) | (refine Then.next hQ9 ?_; clear hQ9; (try clear Q9)) | (refine Then.ret hQ9 ?_; clear hQ9; (try clear Q9)) | (refine Then.brk hQ9 ?_; clear hQ9; (try clear Q9)) | (refine Then.cont hQ9 ?_; clear hQ9; (try clear Q9)) | fail "no step"))
  rename_i v1 t1 o1 h1 tk1 hv1 hT1 v2 t2 o2 h2 tk2 hv2 hT2 v3 t3 o3 h3 tk3 hv3 hT3 v4 t4 o4 h4 tk4 hv4 hT4 D h5 ltD h6 h7 oa hh1 d1 ob hh2 d2 oc hh3 d3 tkq hh4 Fc Nc
  obtain ⟨nw, hTN, hsub, Nc⟩ := hide3 (News.tl Nc)
  (rename Fr _ _ _ _ => lF)
  (with_unfolding_all refine' For_invVF lF ?k1 ?k2 ?_; (case k1 => exact rfl); (case k2 => exact rfl))
  (repeat' ((fail_if_success (with_reducible first | (show wpAny _ _ (exec (PySem.Stmt.While _ _ _ _) _) _ _ _) | (show wpAny _ _ (exec (PySem.Stmt.For _ _ _ _ _) _) _ _ _) | (show wpAny _ _ (eval (PySem.Expr.ListComp _ _ _ _) _) _ _ _) | (show wpAny _ _ (pyIter (Value.ref _)) _ _ _) | (show LCg.CompSrc _ _ _ _ _ _ _ _ _ _ _ _ _ _) | (show LCt.CompSrcT _ _ _ _ _ _ _ _ _ _ _ _ _ _ _) | (show LCp.SrcLP _ _ _ _ _ _ _ _ _ _ _ _ _ _ _) | (show wpAny _ _ (exec (PySem.Stmt.Assign _ (PySem.Expr.ListComp _ _ _ _) _) _) _ _ _))); first | (k_unfold; (try dsimp only)) | walk1 | (dsimp only; walk1) | (leave1; (try dsimp only)) | (refine Then.next hQ9 ?_; clear hQ9; (try clear Q9)) | (refine Then.ret hQ9 ?_; clear hQ9; (try clear Q9)) | (refine Then.brk hQ9 ?_; clear hQ9; (try clear Q9)) | (refine Then.cont hQ9 ?_; clear hQ9; (try clear Q9)) | fail "no step"))
  (rename IsRange _ _ _ _ _ _ _ _ => R9)
  (rename Fr _ _ _ _ => lF9); (rename News _ _ _ _ => lN9)
  with_unfolding_all refine' iter_rngS (σ := Int × Tok) (fun c => _) (fun c => [(Str.ofString "below", Value.int c.1 c.2)]) [Str.ofString "height"] (fun i c => c.1 = stSum v1 (1 + v2) v3 i) (0, _) rfl R9 (small_one (by omega) (by omega) (by omega) (by omega)) (rangeSize_nat _ _) lF9 lN9 ?kk ?kr ?kt ?kd
  case kk => (repeat (first | exact Names.nil | refine Names.cons (by with_unfolding_all rfl) ?_))
  case kr => rfl
  case kt =>
    rintro I i t ⟨b, tb⟩ u h tk oI hr8 hi hR F1 N1 hn
    (repeat' ((fail_if_success (with_reducible first | (show wpAny _ _ (exec (PySem.Stmt.While _ _ _ _) _) _ _ _) | (show wpAny _ _ (exec (PySem.Stmt.For _ _ _ _ _) _) _ _ _) | (show wpAny _ _ (eval (PySem.Expr.ListComp _ _ _ _) _) _ _ _) | (show wpAny _ _ (pyIter (Value.ref _)) _ _ _) | (show LCg.CompSrc _ _ _ _ _ _ _ _ _ _ _ _ _ _) | (show LCt.CompSrcT _ _ _ _ _ _ _ _ _ _ _ _ _ _ _) | (show LCp.SrcLP _ _ _ _ _ _ _ _ _ _ _ _ _ _ _) | (show wpAny _ _ (exec (PySem.Stmt.Assign _ (PySem.Expr.ListComp _ _ _ _) _) _) _ _ _))); first | (k_unfold; (try dsimp only)) | walk1 | (dsimp only; walk1) | (leave1; (try dsimp only)) | (refine Then.next hQ9 ?_; clear hQ9; (try clear Q9)) | (refine Then.ret hQ9 ?_; clear hQ9; (try clear Q9)) | (refine Then.brk hQ9 ?_; clear hQ9; (try clear Q9)) | (refine Then.cont hQ9 ?_; clear hQ9; (try clear Q9)) | fail "no step"))
    (rename Fr _ _ _ _ => lF8); (rename News _ _ _ _ => lN8)
    with_unfolding_all refine' while_S (σ := (Int × Tok) × (Int × Tok)) (fun c => _) (fun c => [(Str.ofString "below", Value.int c.1.1 c.1.2), (Str.ofString "height", Value.int c.2.1 c.2.2)]) [] (fun c => StP (v1 * (0 + (i : Int)) + v3) (1 + v2) b c.1.1 c.2.1) (fun c => (v1 * (0 + (i : Int)) + v3 + 1 - c.2.1).toNat) ((b, _), (1, _)) lF8 lN8 ?kk ?kr ?kt
    case kk => (repeat (first | exact Names.nil | refine Names.cons (by with_unfolding_all rfl) ?_))
    case kr => exact ⟨by show (1:Int) ≤ 1; omega, by show b = b + (1 - 1); omega, by
      show (1 - 1) * (1 + v2) ≤ v1 * (0 + (i : Int)) + v3
      have h1 : 0 ≤ v1 * (0 + (i : Int)) := Int.mul_nonneg (by omega) (by omega)
      omega⟩
    case kt =>
      rintro ⟨⟨bb, tbb⟩, ⟨hh, thh⟩⟩ u7 h7 tk7 hr9 hP F7 N7
      (repeat' ((fail_if_success (with_reducible first | (show wpAny _ _ (exec (PySem.Stmt.While _ _ _ _) _) _ _ _) | (show wpAny _ _ (exec (PySem.Stmt.For _ _ _ _ _) _) _ _ _) | (show wpAny _ _ (eval (PySem.Expr.ListComp _ _ _ _) _) _ _ _) | (show wpAny _ _ (pyIter (Value.ref _)) _ _ _) | (show LCg.CompSrc _ _ _ _ _ _ _ _ _ _ _ _ _ _) | (show LCt.CompSrcT _ _ _ _ _ _ _ _ _ _ _ _ _ _ _) | (show LCp.SrcLP _ _ _ _ _ _ _ _ _ _ _ _ _ _ _) | (show wpAny _ _ (exec (PySem.Stmt.Assign _ (PySem.Expr.ListComp _ _ _ _) _) _) _ _ _))); first | (k_unfold; (try dsimp only)) | walk1 | (dsimp only; walk1) | (leave1; (try dsimp only)) | (refine Then.next hQ9 ?_; clear hQ9; (try clear Q9)) | (refine Then.ret hQ9 ?_; clear hQ9; (try clear Q9)) | (refine Then.brk hQ9 ?_; clear hQ9; (try clear Q9)) | (refine Then.cont hQ9 ?_; clear hQ9; (try clear Q9)) | fail "no step"))
      · refine' while_end ((_, _), (_, _)) (by assumption) (by assumption) (fun p hp => .tail _ hp) ?hk ?hr (st_step hP (by assumption)) (st_meas hP (by omega) (by assumption))
        case hk => (repeat (first | exact Names.nil | refine Names.cons (by with_unfolding_all rfl) ?_))
        case hr => (first | (((repeat (first | refine RestsW.step (by with_unfolding_all rfl) ?_ | refine RestsW.stepU (by with_unfolding_all rfl) ?_))); first | exact RestsW.of hr9 | exact RestsW.of hr8 | exact RestsW.last | exact RestsW.same | (refine RestsW.via hr9 ?_; ((repeat (first | refine RestsW.step (by with_unfolding_all rfl) ?_ | refine RestsW.stepU (by with_unfolding_all rfl) ?_))); exact RestsW.of hr8) | (refine RestsW.viaS (by with_unfolding_all rfl) hr9 ?_; ((repeat (first | refine RestsW.step (by with_unfolding_all rfl) ?_ | refine RestsW.stepU (by with_unfolding_all rfl) ?_))); exact RestsW.of hr8)) | (intro z9 hz2 hz3; (have hz1 := True.intro); (have hz4 := hz3); (try simp only [List.mem_cons, forall_eq_or_imp, List.not_mem_nil, false_implies, implies_true, and_true, List.mem_singleton, forall_eq, ne_eq] at hz1 hz2); (try simp only [List.contains_cons, List.contains_nil, Bool.or_false, Bool.or_eq_false_iff, beq_eq_false_iff_ne, ne_eq] at hz4); simp only [hz1, hz2, hz3, hz4, kstB, if_false, Bool.false_eq_true, List.contains_nil]))
      have hE : bb = _ := st_end hP (by omega) (by assumption)
      (repeat' ((fail_if_success (with_reducible first | (show wpAny _ _ (exec (PySem.Stmt.While _ _ _ _) _) _ _ _) | (show wpAny _ _ (exec (PySem.Stmt.For _ _ _ _ _) _) _ _ _) | (show wpAny _ _ (eval (PySem.Expr.ListComp _ _ _ _) _) _ _ _) | (show wpAny _ _ (pyIter (Value.ref _)) _ _ _) | (show LCg.CompSrc _ _ _ _ _ _ _ _ _ _ _ _ _ _) | (show LCt.CompSrcT _ _ _ _ _ _ _ _ _ _ _ _ _ _ _) | (show LCp.SrcLP _ _ _ _ _ _ _ _ _ _ _ _ _ _ _) | (show wpAny _ _ (exec (PySem.Stmt.Assign _ (PySem.Expr.ListComp _ _ _ _) _) _) _ _ _))); first | (k_unfold; (try dsimp only)) | walk1 | (dsimp only; walk1) | (leave1; (try dsimp only)) | (refine Then.next hQ9 ?_; clear hQ9; (try clear Q9)) | (refine Then.ret hQ9 ?_; clear hQ9; (try clear Q9)) | (refine Then.brk hQ9 ?_; clear hQ9; (try clear Q9)) | (refine Then.cont hQ9 ?_; clear hQ9; (try clear Q9)) | fail "no step"))
      refine' turn_end (_, _) (by assumption) (by assumption) (fun p hp => hp) hn ?hk ?hr ?hR
      case hk => (repeat (first | exact Names.nil | refine Names.cons (by with_unfolding_all rfl) ?_))
      case hr => (first | (((repeat (first | refine Rests.step (by with_unfolding_all rfl) ?_ | refine Rests.stepU (by with_unfolding_all rfl) ?_))); first | exact Rests.of hr9 | exact Rests.of hr8 | exact Rests.last | exact Rests.same | (refine Rests.via hr9 ?_; ((repeat (first | refine Rests.step (by with_unfolding_all rfl) ?_ | refine Rests.stepU (by with_unfolding_all rfl) ?_))); exact Rests.of hr8) | (refine Rests.viaS (by with_unfolding_all rfl) hr9 ?_; ((repeat (first | refine Rests.step (by with_unfolding_all rfl) ?_ | refine Rests.stepU (by with_unfolding_all rfl) ?_))); exact Rests.of hr8)) | (intro z9 hz1 hz2 hz3; (have hz4 := hz3); (try simp only [List.mem_cons, forall_eq_or_imp, List.not_mem_nil, false_implies, implies_true, and_true, List.mem_singleton, forall_eq, ne_eq] at hz1 hz2); (try simp only [List.contains_cons, List.contains_nil, Bool.or_false, Bool.or_eq_false_iff, beq_eq_false_iff_ne, ne_eq] at hz4); simp only [hz1, hz2, hz3, hz4, kstB, if_false, Bool.false_eq_true, List.contains_nil]))
      show bb = stSum v1 (1 + v2) v3 (i + 1)
      rw [stSum_succ, hE, show b = _ from hR, Int.zero_add]
  case kd =>
    rintro ⟨f, tf⟩ u0 u h tk hr8 hR F1 N1
    (repeat' ((fail_if_success (with_reducible first | (show wpAny _ _ (exec (PySem.Stmt.While _ _ _ _) _) _ _ _) | (show wpAny _ _ (exec (PySem.Stmt.For _ _ _ _ _) _) _ _ _) | (show wpAny _ _ (eval (PySem.Expr.ListComp _ _ _ _) _) _ _ _) | (show wpAny _ _ (pyIter (Value.ref _)) _ _ _) | (show LCg.CompSrc _ _ _ _ _ _ _ _ _ _ _ _ _ _) | (show LCt.CompSrcT _ _ _ _ _ _ _ _ _ _ _ _ _ _ _) | (show LCp.SrcLP _ _ _ _ _ _ _ _ _ _ _ _ _ _ _) | (show wpAny _ _ (exec (PySem.Stmt.Assign _ (PySem.Expr.ListComp _ _ _ _) _) _) _ _ _))); first | (k_unfold; (try dsimp only)) | walk1 | (dsimp only; walk1) | (leave1; (try dsimp only)) | (refine Then.next hQ9 ?_; clear hQ9; (try clear Q9)) | (refine Then.ret hQ9 ?_; clear hQ9; (try clear Q9)) | (refine Then.brk hQ9 ?_; clear hQ9; (try clear Q9)) | (refine Then.cont hQ9 ?_; clear hQ9; (try clear Q9)) | fail "no step"))
    refine LCg.ListComp_U (F₀ := by k_asm) (by with_unfolding_all rfl) (by decide) (by rfl) (by decide) (by rfl) ?_
    (repeat' ((fail_if_success (with_reducible first | (show wpAny _ _ (exec (PySem.Stmt.While _ _ _ _) _) _ _ _) | (show wpAny _ _ (exec (PySem.Stmt.For _ _ _ _ _) _) _ _ _) | (show wpAny _ _ (eval (PySem.Expr.ListComp _ _ _ _) _) _ _ _) | (show wpAny _ _ (pyIter (Value.ref _)) _ _ _) | (show LCg.CompSrc _ _ _ _ _ _ _ _ _ _ _ _ _ _) | (show LCt.CompSrcT _ _ _ _ _ _ _ _ _ _ _ _ _ _ _) | (show LCp.SrcLP _ _ _ _ _ _ _ _ _ _ _ _ _ _ _) | (show wpAny _ _ (exec (PySem.Stmt.Assign _ (PySem.Expr.ListComp _ _ _ _) _) _) _ _ _))); first | (k_unfold; (try dsimp only)) | walk1 | (dsimp only; walk1) | (leave1; (try dsimp only)) | (refine Then.next hQ9 ?_; clear hQ9; (try clear Q9)) | (refine Then.ret hQ9 ?_; clear hQ9; (try clear Q9)) | (refine Then.brk hQ9 ?_; clear hQ9; (try clear Q9)) | (refine Then.cont hQ9 ?_; clear hQ9; (try clear Q9)) | fail "no step"))
    refine LCg.CompSrc.range (by rfl) (by k_asm) (by k_asm) (by assumption) (small_one (by omega) (by omega) (by omega) (by omega)) (rangeSize_nat _ _) (by unfold sizeLine; omega) ?_
    intro g
    refine rest_ind (fun i ys nx => nx = _ ∧ IntsAre ys ((List.range i).map fun k : Nat => (v1 * (k : Int) + v3).fdiv (1 + v2))) ?_ ?_ _ 0 [] _ (Nat.zero_add _) ⟨rfl, .nil⟩
    · rintro i ys nx v I oI C oC D8 m2 h8 tk8 E8 hi ⟨rfl, hys⟩ hP8 hC8 hx8 F8 N8 off8 ne8
      obtain ⟨t8, rfl⟩ := hP8
      have off0 := off8
      dsimp only [LCg.Off3] at off8
      (try dsimp only)
      (repeat' (first | (k_unfold; (try dsimp only)) | walk1 | (dsimp only; walk1) | (leave1; (try dsimp only)) | (refine Then.next hQ9 ?_; clear hQ9; (try clear Q9)) | (refine Then.ret hQ9 ?_; clear hQ9; (try clear Q9)) | (refine Then.brk hQ9 ?_; clear hQ9; (try clear Q9)) | (refine Then.cont hQ9 ?_; clear hQ9; (try clear Q9)) | fail "no step"))
      refine LCg.CompEnd.intro (by assumption) (by assumption) _ (fun p hp => .tail _ hp) off0 trivial ⟨rfl, ?_⟩
      rw [isR_fdiv (by assumption) (by omega), List.range_succ, List.map_append]
      simp only [Int.zero_add]
      exact hys.append (.cons _ _ .nil)
    · rintro ys nx ⟨rfl, hys⟩ D8 h8 tk8 F8 N8 off8
      (repeat' (first | (k_unfold; (try dsimp only)) | walk1 | (dsimp only; walk1) | (leave1; (try dsimp only)) | (refine Then.next hQ9 ?_; clear hQ9; (try clear Q9)) | (refine Then.ret hQ9 ?_; clear hQ9; (try clear Q9)) | (refine Then.brk hQ9 ?_; clear hQ9; (try clear Q9)) | (refine Then.cont hQ9 ?_; clear hQ9; (try clear Q9)) | fail "no step"))
      have hf : f = _ := hR
      have e : ((List.map (fun k : Nat => (v1 * (k : Int) + v3).fdiv (1 + v2)) (List.range (1 + v4 - 0).toNat)).sum == f) = true := by
        rw [hf, stSum]
        exact beq_self_eq_true _
      rw [e]
      exact endL (R := fun o' spot' => Tape w o' CL spot' ∧ spot ≤ spot' ∧ spot' ≤ spot + 4) hret (by assumption) (by assumption) (by repeat (first | exact hTN | refine List.Mem.tail _ ?_)) (fun p hp => by replace hp := hsub p hp; repeat (first | exact hp | refine List.Mem.tail _ ?_)) ⟨hT4, by omega, by omega⟩
theorem isR_uniq {a b c d p q r s : Int} (h1 : IsR a b p q) (h2 : IsR c d r s) (hb : 0 < b) (hd : 0 < d) (e : a * d = c * b) : p = r ∧ q = s := by
  have hq := h1.pos
  have hs := h2.pos
  have k : p * s = r * q := by
    have k1 : (p * s) * (b * d) = (r * q) * (b * d) := by
      have e1 := h1.eq
      have e2 := h2.eq
      calc (p * s) * (b * d) = (p * b) * s * d := by grind
        _ = (a * q) * s * d := by rw [e1]
        _ = (a * d) * q * s := by grind
        _ = (c * b) * q * s := by rw [e]
        _ = (c * s) * q * b := by grind
        _ = (r * d) * q * b := by rw [e2]
        _ = (r * q) * (b * d) := by grind
    exact Int.eq_of_mul_eq_mul_right (by have := Int.mul_pos hb hd; (first | lia | omega)) k1
  have d1 : q ∣ s := by
    have h3 : q ∣ p * s := ⟨r, by rw [k, Int.mul_comm]⟩
    have h4 : Int.gcd q p = 1 := by rw [Int.gcd_comm]; exact h1.co
    rw [← Int.natAbs_dvd_natAbs] at h3 ⊢
    rw [Int.natAbs_mul] at h3
    exact Nat.Coprime.dvd_of_dvd_mul_left h4 h3
  have d2 : s ∣ q := by
    have h3 : s ∣ r * q := ⟨p, by rw [← k, Int.mul_comm]⟩
    have h4 : Int.gcd s r = 1 := by rw [Int.gcd_comm]; exact h2.co
    rw [← Int.natAbs_dvd_natAbs] at h3 ⊢
    rw [Int.natAbs_mul] at h3
    exact Nat.Coprime.dvd_of_dvd_mul_left h4 h3
  have l1 := Int.le_of_dvd hs d1
  have l2 := Int.le_of_dvd hq d2
  have e3 : q = s := by (first | lia | omega)
  subst e3
  exact ⟨Int.eq_of_mul_eq_mul_right (by (first | lia | omega)) k, rfl⟩
structure HandP (top b p q turn x y : Int) : Prop where
  b0 : 0 < b
  b1 : b ≤ 9
  st : IsR top b p q
  t0 : 0 ≤ turn
  le : turn ≤ q
  r : IsR ((turn * top).fmod b) b x y
theorem HandP.qb {top b p q turn x y : Int} (H : HandP top b p q turn x y) : 0 < q ∧ q ≤ 9 ∧ 0 < y ∧ y ≤ 9 := by
  have h1 := H.st.le H.b0
  have h2 := H.r.le H.b0
  have h3 := H.b1
  exact ⟨H.st.pos, by (first | lia | omega), H.r.pos, by (first | lia | omega)⟩
theorem HandP.yq {top b p q turn x y : Int} (H : HandP top b p q turn x y) : 0 < y * q ∧ y * q ≤ 81 := by
  have h := H.qb
  refine ⟨Int.mul_pos h.2.2.1 h.1, ?_⟩
  have h1 : y * q ≤ 9 * q := Int.mul_le_mul_of_nonneg_right (by (first | lia | omega)) (by (first | lia | omega))
  (first | lia | omega)
theorem hand_start {top b p q : Int} (b0 : 0 < b) (b1 : b ≤ 9) (st : IsR top b p q) : HandP top b p q 0 0 1 :=
  ⟨b0, b1, st, by (first | lia | omega), by have := st.pos; (first | lia | omega), ⟨by (first | lia | omega), by rw [Int.zero_mul]; simp, by decide⟩⟩
theorem isR_whole {m b x y : Int} (h : IsR (m.fmod b) b x y) (hb : 0 < b) : y = 1 ↔ b ∣ m := by
  have e := h.eq
  rw [Int.fmod_eq_emod_of_nonneg _ (by (first | lia | omega))] at e
  have e0 := Int.emod_nonneg m (show b ≠ 0 by (first | lia | omega))
  have e1 := Int.emod_lt_of_pos m hb
  constructor
  · intro hy
    subst hy
    rw [Int.mul_one] at e
    have hx : x = 0 := by
      by_cases h1 : x = 0
      · exact h1
      · exfalso
        by_cases h2 : 0 < x
        · have : 1 * b ≤ x * b := Int.mul_le_mul_of_nonneg_right (by (first | lia | omega)) (by (first | lia | omega))
          (first | lia | omega)
        · have : x * b ≤ -1 * b := Int.mul_le_mul_of_nonneg_right (by (first | lia | omega)) (by (first | lia | omega))
          (first | lia | omega)
    rw [hx, Int.zero_mul] at e
    exact Int.dvd_of_emod_eq_zero e.symm
  · intro hd
    rw [Int.emod_eq_zero_of_dvd hd, Int.zero_mul] at e
    have hx : x = 0 := by
      rcases Int.mul_eq_zero.mp e with h1 | h1
      · exact h1
      · (first | lia | omega)
    have hc := h.co
    rw [hx, Int.gcd_zero_left] at hc
    have := h.pos
    (first | lia | omega)
theorem isR_mult {top b p q t : Int} (h : IsR top b p q) (hb : 0 < b) : b ∣ t * top ↔ q ∣ t := by
  have e := h.eq
  have hq := h.pos
  constructor
  · rintro ⟨k, hk⟩
    have e2 : t * p = q * k := by
      have e3 : (t * p) * b = (q * k) * b := by
        calc (t * p) * b = t * (p * b) := by grind
          _ = t * (top * q) := by rw [e]
          _ = (t * top) * q := by grind
          _ = (b * k) * q := by rw [hk]
          _ = (q * k) * b := by grind
      exact Int.eq_of_mul_eq_mul_right (by (first | lia | omega)) e3
    have h3 : q ∣ p * t := ⟨k, by rw [Int.mul_comm]; exact e2⟩
    have h4 : Int.gcd q p = 1 := by rw [Int.gcd_comm]; exact h.co
    rw [← Int.natAbs_dvd_natAbs] at h3 ⊢
    rw [Int.natAbs_mul] at h3
    exact Nat.Coprime.dvd_of_dvd_mul_left h4 h3
  · rintro ⟨j, hj⟩
    exact ⟨j * p, by
      rw [hj]
      calc q * j * top = (top * q) * j := by grind
        _ = (p * b) * j := by rw [e]
        _ = b * (j * p) := by grind⟩
/-- the sum of the two ratios, its whole part off -/
theorem hand_sum {top b p q turn x y x2 y2 x3 y3 : Int} (H : HandP top b p q turn x y) (h2 : IsR (x * q + p * y) (y * q) x2 y2) (h3 : IsR (x2 * 1 - (x2.fdiv y2) * y2) (y2 * 1) x3 y3) :
    IsR (((turn + 1) * top).fmod b) b x3 y3 := by
  have hb := H.b0
  have hy := H.r.pos
  have hq := H.st.pos
  have hy2 := h2.pos
  have e1 := H.r.eq
  have e2 := H.st.eq
  have e3 := h2.eq
  rw [Int.fmod_eq_emod_of_nonneg _ (by (first | lia | omega))] at e1 ⊢
  rw [Int.mul_one, Int.mul_one, Int.fdiv_eq_ediv_of_nonneg _ (by (first | lia | omega))] at h3
  have c1 : x2 * b = ((turn * top) % b + top) * y2 := by
    have c2 : (x2 * b) * (y * q) = (((turn * top) % b + top) * y2) * (y * q) := by
      calc (x2 * b) * (y * q) = (x2 * (y * q)) * b := by grind
        _ = ((x * q + p * y) * y2) * b := by rw [e3]
        _ = ((x * b) * q + (p * b) * y) * y2 := by grind
        _ = ((turn * top % b * y) * q + (top * q) * y) * y2 := by rw [e1, e2]
        _ = (((turn * top) % b + top) * y2) * (y * q) := by grind
    exact Int.eq_of_mul_eq_mul_right (by have := Int.mul_pos hy hq; (first | lia | omega)) c2
  have d1 := Int.mul_ediv_add_emod x2 y2
  have d2 := Int.emod_nonneg x2 (show y2 ≠ 0 by (first | lia | omega))
  have d3 := Int.emod_lt_of_pos x2 hy2
  generalize hfl : x2 / y2 = fl at *
  have d4 : x2 - fl * y2 = x2 % y2 := by rw [Int.mul_comm] at d1; (first | lia | omega)
  rw [d4] at h3
  have c3 : (x2 % y2) * b = ((turn * top) % b + top - fl * b) * y2 := by
    rw [← d4]
    calc (x2 - fl * y2) * b = x2 * b - fl * y2 * b := by grind
      _ = ((turn * top) % b + top) * y2 - fl * y2 * b := by rw [c1]
      _ = ((turn * top) % b + top - fl * b) * y2 := by grind
  have c4 : (turn * top) % b + top - fl * b = ((turn + 1) * top) % b := by
    have m1 : ((turn + 1) * top) % b = ((turn * top) % b + top - fl * b) % b := by
      rw [show (turn * top) % b + top - fl * b = ((turn * top) % b + top) + b * (-fl) from by grind, Int.add_mul_emod_self_left, Int.emod_add_emod, Int.add_mul, Int.one_mul]
    rw [m1]
    generalize (turn * top) % b + top - fl * b = z at c3
    refine (Int.emod_eq_of_lt ?_ ?_).symm
    · by_cases hz : 0 ≤ z
      · exact hz
      · exfalso
        have : z * y2 ≤ -1 * y2 := Int.mul_le_mul_of_nonneg_right (by (first | lia | omega)) (by (first | lia | omega))
        have : 0 ≤ (x2 % y2) * b := Int.mul_nonneg d2 (by (first | lia | omega))
        (first | lia | omega)
    · by_cases hz : z < b
      · exact hz
      · exfalso
        have : b * y2 ≤ z * y2 := Int.mul_le_mul_of_nonneg_right (by (first | lia | omega)) (by (first | lia | omega))
        have : (x2 % y2) * b ≤ (y2 - 1) * b := Int.mul_le_mul_of_nonneg_right (by (first | lia | omega)) (by (first | lia | omega))
        have e9 : (y2 - 1) * b = b * y2 - b := by grind
        (first | lia | omega)
  rw [c4] at c3
  refine ⟨h3.pos, ?_, h3.co⟩
  have e4 := h3.eq
  have e5 : (x3 * b) * y2 = (((turn + 1) * top) % b * y3) * y2 := by
    calc (x3 * b) * y2 = (x3 * y2) * b := by grind
      _ = ((x2 % y2) * y3) * b := by rw [e4]
      _ = ((x2 % y2) * b) * y3 := by grind
      _ = (((turn + 1) * top) % b * y2) * y3 := by rw [c3]
      _ = (((turn + 1) * top) % b * y3) * y2 := by grind
  exact Int.eq_of_mul_eq_mul_right (by (first | lia | omega)) e5
theorem hand_in {m b x y : Int} (h : IsR (m.fmod b) b x y) (hb : 0 < b) : 0 ≤ x ∧ x < y := by
  have e := h.eq
  have hy := h.pos
  rw [Int.fmod_eq_emod_of_nonneg _ (by (first | lia | omega))] at e
  have e0 := Int.emod_nonneg m (show b ≠ 0 by (first | lia | omega))
  have e1 := Int.emod_lt_of_pos m hb
  constructor
  · by_cases hx : 0 ≤ x
    · exact hx
    · exfalso
      have : x * b ≤ -1 * b := Int.mul_le_mul_of_nonneg_right (by (first | lia | omega)) (by (first | lia | omega))
      have : 0 ≤ m % b * y := Int.mul_nonneg e0 (by (first | lia | omega))
      (first | lia | omega)
  · by_cases hx : x < y
    · exact hx
    · exfalso
      have : y * b ≤ x * b := Int.mul_le_mul_of_nonneg_right (by (first | lia | omega)) (by (first | lia | omega))
      have : m % b * y ≤ (b - 1) * y := Int.mul_le_mul_of_nonneg_right (by (first | lia | omega)) (by (first | lia | omega))
      have e9 : (b - 1) * y = y * b - y := by grind
      (first | lia | omega)
theorem hand_step {top b p q turn x y x3 y3 : Int} (H : HandP top b p q turn x y) (hne : turn = 0 ∨ y ≠ 1) (h3 : IsR (((turn + 1) * top).fmod b) b x3 y3) : HandP top b p q (turn + 1) x3 y3 := by
  have hq := H.st.pos
  have hne2 : turn ≠ q := by
    intro e
    rcases hne with h | h
    · (first | lia | omega)
    · exact h ((isR_whole H.r H.b0).mpr ((isR_mult H.st H.b0).mpr ⟨1, by rw [e, Int.mul_one]⟩))
  exact ⟨H.b0, H.b1, H.st, by have := H.t0; (first | lia | omega), by have := H.le; (first | lia | omega), h3⟩
theorem hand_end {top b p q turn x y : Int} (H : HandP top b p q turn x y) (ht : turn ≠ 0) (hy : y = 1) : turn = q := by
  have h1 := (isR_mult H.st H.b0).mp ((isR_whole H.r H.b0).mp hy)
  have h2 := Int.le_of_dvd (by have := H.t0; (first | lia | omega)) h1
  have := H.le
  (first | lia | omega)
theorem hand_meas {top b p q turn x y x3 y3 : Int} (H : HandP top b p q turn x y) (H' : HandP top b p q (turn + 1) x3 y3) : (q - (turn + 1)).toNat < (q - turn).toNat := toN H'.le
theorem hand_no0 {top b p q turn x y x2 y2 x3 y3 r s : Int} (H : HandP top b p q turn x y) (h2 : IsR (x * q + p * y) (y * q) x2 y2) (h3 : IsR (x2 * 1 - (x2.fdiv y2) * y2) (y2 * 1) x3 y3)
    (h4 : IsR (((turn + 1) * top).fmod b) b r s) (hn : (x3 == r && y3 == s) = false) : False := by
  obtain ⟨e1, e2⟩ := isR_uniq (hand_sum H h2 h3) h4 H.b0 H.b0 rfl
  simp [e1, e2] at hn
theorem hand_no1 {top b p q turn x y x2 y2 x3 y3 : Int} (H : HandP top b p q turn x y) (h2 : IsR (x * q + p * y) (y * q) x2 y2) (h3 : IsR (x2 * 1 - (x2.fdiv y2) * y2) (y2 * 1) x3 y3)
    (hn : cmpv (x3 * 1) (0 * y3) < 0) : False := by
  have h := hand_in (hand_sum H h2 h3) H.b0
  unfold cmpv at hn
  split at hn
  · (first | lia | omega)
  · split at hn <;> (first | lia | omega)
theorem hand_no2 {top b p q turn x y x2 y2 x3 y3 : Int} (H : HandP top b p q turn x y) (h2 : IsR (x * q + p * y) (y * q) x2 y2) (h3 : IsR (x2 * 1 - (x2.fdiv y2) * y2) (y2 * 1) x3 y3)
    (hn : 0 ≤ cmpv (x3 * 1) (1 * y3)) : False := by
  have h := hand_in (hand_sum H h2 h3) H.b0
  unfold cmpv at hn
  split at hn
  · (first | lia | omega)
  · split at hn <;> (first | lia | omega)
theorem hand_tell (w : World) (TP CL : Addr) (o : Obj) (spot : Int) (vs : List Value) (ns : List Int) (n : Nat) (news : List (Addr × Obj)) (ho : Tape w o CL spot) (hl : (CL, listOf vs.toArray n) ∈ news) (hi : IntsAre vs ns) (hlen : ns.length ≤ 100) (hoff : ∀ p ∈ news, p.1 ≠ TP) (hCL : @Ne Nat CL TP) (h0 : 0 ≤ spot ∧ spot < 1000) :
    Tell w 20 213 [.ref TP] ((TP, o) :: news) (fun r nx => ∃ (o' : Obj) (spot' : Int), r = .bool true ∧ nx = (TP, o') :: news ∧ Tape w o' CL spot' ∧ spot ≤ spot' ∧ spot' ≤ spot + 2) := by
  w_top off
  unfold Tell
  k_fill
  intro mean mg mb dp un gd cn cs ad ccd cl outer A₀ base h₀ L m s Q E B F X N T hk hd hu hret
  k_with_none
  k_with "lt" => ((with_reducible rename ∀ p ∈ (_ : List (Addr × Obj)), p.1 < (_ : Addr) => hlt); replace hlt := allLt_of hlt; (dsimp only [AllLt] at hlt); revert hlt; intros)
  k_with "room" => (k_dflt (first | exact rm2 (by assumption) (by rfl) | exact rm1 (by assumption) (by rfl) | exact rm3 (by assumption) (by rfl) | exact rm0 (by assumption) | fail "no"))
  k_with "arm" => (first | assumption | (with_reducible first | exact arm0 (by assumption) | exact arm1 (by assumption) | exact arm2 (by assumption) | exact arm3 (by assumption) | exact arm4 (by assumption) | exact arm5 (by assumption) | exact arm6 (by assumption) | exact arm7 (by assumption) | exact arm8 (by assumption) | exact arm9 (by assumption) | exact arm10 (by assumption) | exact arm11 (by assumption) | exact arm12 (by assumption) | exact arm13 (by assumption) | exact And.left (arm0 (by assumption)) | exact And.left (And.right (arm0 (by assumption))) | exact And.right (And.right (arm0 (by assumption))) | exact And.left (arm1 (by assumption)) | exact And.left (And.right (arm1 (by assumption))) | exact And.right (And.right (arm1 (by assumption))) | exact And.left (arm2 (by assumption)) | exact And.left (And.right (arm2 (by assumption))) | exact And.right (And.right (arm2 (by assumption))) | exact And.left (arm3 (by assumption)) | exact And.left (And.right (arm3 (by assumption))) | exact And.right (And.right (arm3 (by assumption))) | exact And.left (arm4 (by assumption)) | exact And.left (And.right (arm4 (by assumption))) | exact And.right (And.right (arm4 (by assumption))) | exact And.left (arm5 (by assumption)) | exact And.left (And.right (arm5 (by assumption))) | exact And.right (And.right (arm5 (by assumption))) | exact And.left (arm6 (by assumption)) | exact And.left (And.right (arm6 (by assumption))) | exact And.right (And.right (arm6 (by assumption))) | exact And.left (arm7 (by assumption)) | exact And.left (And.right (arm7 (by assumption))) | exact And.right (And.right (arm7 (by assumption))) | exact Nat.lt_add_one _ | fail "no") | (with_reducible refine Nat.lt_add_right _ ?_; mod_arm) | fail "no")
  k_with "ne" => (k_dflt (first | assumption | exact Ne.symm (by assumption) | (refine neN ?_; (try dsimp only); first | assumption | exact Ne.symm (by assumption) | exact Nat.ne_of_lt (by mod_arm) | exact Nat.ne_of_gt (by mod_arm) | mod_arm | exact Ne.symm (by mod_arm) | fail "no") | fail "no"))
  k_with "om" => (first | (with_reducible first | assumption | exact Ne.symm (by assumption) | exact bdA (by assumption) | exact bdB (by assumption) (by k_dflt rfl) | exact bdC (by assumption) | exact bdD (by assumption) (by k_dflt rfl) | exact bdE (by assumption) | exact bdF (by assumption) (by k_dflt rfl) | exact bdG (by assumption) (by k_dflt rfl) | exact bdH (by assumption) (by k_dflt rfl) | exact bdI (by assumption) | exact bdJ (by assumption) (by k_dflt rfl) | exact bdK (by assumption) | exact bdO (by assumption) | exact bdP (by assumption) (by k_dflt rfl) | exact bdO0 (by assumption) | exact bdP0 (by assumption) (by k_dflt rfl) | exact bdV (by assumption) | exact bdS0 (by assumption) | exact bdS1 (by assumption) | exact bdS2 (by assumption) | exact bdS3 (by assumption) | exact bdQ (by assumption) (by assumption) (by assumption) | exact bdQ2 (by assumption) (by assumption) (by assumption) (by k_dflt rfl) | exact bdQ3 (by assumption) (by assumption) (by assumption) (by assumption) (by assumption) | exact bdQ4 (by assumption) (by assumption) (by assumption) | exact bdQ5 (by assumption) (by assumption) (by assumption) (by k_dflt rfl) | exact bdNA (by assumption) | exact bdW (by assumption) (by k_dflt rfl) | exact bdX2 (by assumption) (by k_dflt rfl) | exact bdX3 (by assumption) (by k_dflt rfl) | exact bdX4 (by assumption) (by k_dflt rfl) | exact bdX5 (by assumption) (by k_dflt rfl) | exact bdT0 (by assumption) | exact bdT1 (by assumption) | exact bdR2 | exact bdR1 (by assumption) (by k_dflt rfl) | exact Nat.ne_of_lt (by mod_arm) | exact Nat.ne_of_gt (by mod_arm) | exact Ne.symm (by mod_arm) | mod_arm | fail "no") | ((with_reducible refine And.intro ?_ ?_) <;> omega) | ((with_reducible (first | (rename @Ne _ _ _ => hz9; clear hz9) | (rename And (@Ne _ _ _) _ => hz9; clear hz9) | (rename And (And (@Ne _ _ _) _) _ => hz9; clear hz9)); (repeat (with_reducible first | (rename @Ne _ _ _ => hz9; clear hz9) | (rename And (@Ne _ _ _) _ => hz9; clear hz9) | (rename And (And (@Ne _ _ _) _) _ => hz9; clear hz9))); omega)) | fail "no")
  k_with "eval Call" => (refine Call_ ?_)
  k_with "eval Name" => (k_here; k_dflt (refine' nameX_L ?F ?v ?_ ?a ?b; (case F => k_asm); (case a => rfl); (case b => rfl); (case v => first | rfl | exact hr9 _ rfl | exact hr8 _ rfl | exact (hr9 _ rfl).trans (hr8 _ rfl)); k_whole))
  k_with "storeName" => (k_here; dsimp only)
  k_with "newTuple" => (k_here; dsimp only)
  k_with "newList" => (k_here; dsimp only)
  k_with "LeaveK" => (k_here; dsimp only)
  k_with "ite" => (k_here; dsimp only)
  k_with "execs cons" => (k_here; first | k_gentoks | ((try dsimp only); refine execs_cut ?_; intro Q9 hQ9))
  k_with "call ref" => (first | (k_here; k_dflt (refine' useI (gcd_tell _ _ _ _ _ _) ?q1 ?q2 ?q3 ?q4 ?q5 ?q6 ?q7 ?q8 ?_; (case q1 | q2 | q3 | q4 | q5 => k_asm); (case q6 => first | exact rfl | assumption); (case q7 => ktr_room); (case q8 => ktr_units); intro t9 h9 tk9 F9 N9; revert t9 h9 tk9 F9 N9; intros; ((try dsimp only); (try k_sweep)))) | fail "no")
  k_with "call ref" => (first | (k_here; k_dflt (refine' useI (gcd_all_tell _ _ _ _ _ _ ?hl ?hi) ?q1 ?q2 ?q3 ?q4 ?q5 ?q6 ?q7 ?q8 ?_; (case q1 | q2 | q3 | q4 | q5 => k_asm); (case q6 => first | exact rfl | assumption); (case q7 => ktr_room); (case q8 => ktr_units); (case hl => k_mem); (case hi => l_ints); intro t9 h9 tk9 F9 N9; revert t9 h9 tk9 F9 N9; intros; ((try dsimp only); (try k_sweep)))) | fail "no")
  k_with "call ref" => (first | (k_here; k_dflt (refine' useI (lcm_tell _ _ _ _ _ _ ?ha ?hb) ?q1 ?q2 ?q3 ?q4 ?q5 ?q6 ?q7 ?q8 ?_; (case q1 | q2 | q3 | q4 | q5 => k_asm); (case q6 => first | exact rfl | assumption); (case q7 => ktr_room); (case q8 => ktr_units); (case ha | hb => omega); intro t9 h9 tk9 F9 N9; (try simp only [Int.zero_sub, Int.neg_lcm, Int.lcm_neg]); revert t9 h9 tk9 F9 N9; intros; ((try dsimp only); (try k_sweep)))) | fail "no")
  k_with "call ref" => (first | (k_here; k_dflt (refine' useT (ratio_tell _ _ _ _ _ _ ?ha ?hb) ?q1 ?q2 ?q3 ?q4 ?q5 ?q6 ?q7 ?q8 ?_; (case q1 | q2 | q3 | q4 | q5 => k_asm); (case q6 => first | exact rfl | assumption); (case q7 => ktr_room); (case q8 => ktr_units); (case ha | hb => omega); intro D9 p9 q9 t9 u9 h9 tk9 hP9 F9 N9 l9; (have hq9 := hP9.pos); (have hb9 := hP9.dvd); (have hc9 := hP9.bd (by omega)); (try dsimp only [AllLt] at l9); (try revert hc9); (try revert hb9); (try revert hq9); revert D9 p9 q9 t9 u9 h9 tk9 hP9 F9 N9 l9; intros; ((try dsimp only); (try k_sweep)))) | fail "no")
  k_with "call ref" => (first | (k_here; k_dflt (refine' useTE (whole_tell _ _ _ _) ?q1 ?q2 ?q3 ?q4 ?q5 ?q6 ?q7 ?q8 ?_; (case q1 | q2 | q3 | q4 | q5 => k_asm); (case q6 => first | exact rfl | assumption); (case q7 => ktr_room); (case q8 => ktr_units); intro D9 t9 u9 h9 tk9 F9 N9 l9; (try dsimp only [AllLt] at l9); revert D9 t9 u9 h9 tk9 F9 N9 l9; intros; ((try dsimp only); (try k_sweep)))) | fail "no")
  k_with "call ref" => (first | (k_here; k_dflt (refine' useI (floor_tell _ _ _ _ _ _ _ ?hA ?ha ?hb) ?q1 ?q2 ?q3 ?q4 ?q5 ?q6 ?q7 ?q8 ?_; (case q1 | q2 | q3 | q4 | q5 => k_asm); (case q6 => first | exact rfl | assumption); (case q7 => ktr_room); (case q8 => ktr_units); (case hA => k_mem); (case ha | hb => omega); intro t9 h9 tk9 F9 N9; revert t9 h9 tk9 F9 N9; intros; ((try dsimp only); (try k_sweep)))) | fail "no")
  k_with "call ref" => (first | (k_here; k_dflt (refine' useI (ceil_tell _ _ _ _ _ _ _ ?hA ?ha ?hb) ?q1 ?q2 ?q3 ?q4 ?q5 ?q6 ?q7 ?q8 ?_; (case q1 | q2 | q3 | q4 | q5 => k_asm); (case q6 => first | exact rfl | assumption); (case q7 => ktr_room); (case q8 => ktr_units); (case hA => k_mem); (case ha | hb => omega); intro t9 h9 tk9 F9 N9; revert t9 h9 tk9 F9 N9; intros; ((try dsimp only); (try k_sweep)))) | fail "no")
  k_with "call ref" => (first | (k_here; k_dflt (refine' useB (iswhole_tell _ _ _ _ _ _ _ ?hA) ?q1 ?q2 ?q3 ?q4 ?q5 ?q6 ?q7 ?q8 ?_; (case q1 | q2 | q3 | q4 | q5 => k_asm); (case q6 => first | exact rfl | assumption); (case q7 => ktr_room); (case q8 => ktr_units); (case hA => k_mem); intro h9 tk9 F9 N9; revert h9 tk9 F9 N9; intros; ((try dsimp only); (try k_sweep)))) | fail "no")
  k_with "call ref" => (first | (k_here; k_dflt (refine' useI (compare_tell _ _ _ _ _ _ _ _ _ _ _ _ ?hA ?hC ?ha ?hb) ?q1 ?q2 ?q3 ?q4 ?q5 ?q6 ?q7 ?q8 ?_; (case q1 | q2 | q3 | q4 | q5 => k_asm); (case q6 => first | exact rfl | assumption); (case q7 => ktr_room); (case q8 => ktr_units); (case hA | hC => k_mem); (case ha | hb => omega); intro t9 h9 tk9 F9 N9; revert t9 h9 tk9 F9 N9; intros; ((try dsimp only); (try k_sweep)))) | fail "no")
  k_with "call ref" => (first | (k_here; k_dflt (refine' useTE (neg_tell _ _ _ _ _ _ _ ?hA) ?q1 ?q2 ?q3 ?q4 ?q5 ?q6 ?q7 ?q8 ?_; (case q1 | q2 | q3 | q4 | q5 => k_asm); (case q6 => first | exact rfl | assumption); (case q7 => ktr_room); (case q8 => ktr_units); (case hA => k_mem); intro D9 t9 u9 h9 tk9 F9 N9 l9; (try dsimp only [AllLt] at l9); revert D9 t9 u9 h9 tk9 F9 N9 l9; intros; ((try dsimp only); (try k_sweep)))) | fail "no")
  k_with "call ref" => (first | (k_here; k_dflt (refine' useT (add_tell _ _ _ _ _ _ _ _ _ _ _ _ ?hA ?hC ?ha ?hb) ?q1 ?q2 ?q3 ?q4 ?q5 ?q6 ?q7 ?q8 ?_; (case q1 | q2 | q3 | q4 | q5 => k_asm); (case q6 => first | exact rfl | assumption); (case q7 => ktr_room); (case q8 => ktr_units); (case hA | hC => k_mem); (case ha | hb => omega); intro D9 p9 q9 t9 u9 h9 tk9 hP9 F9 N9 l9; (have hq9 := hP9.pos); (have hb9 := hP9.dvd); (try (have hc9 := hP9.bd (by omega))); (try dsimp only [AllLt] at l9); (try revert hc9); (try revert hb9); (try revert hq9); revert D9 p9 q9 t9 u9 h9 tk9 hP9 F9 N9 l9; intros; ((try dsimp only); (try k_sweep)))) | fail "no")
  k_with "call ref" => (first | (k_here; k_dflt (refine' useT (sub_tell _ _ _ _ _ _ _ _ _ _ _ _ ?hA ?hC ?ha ?hb) ?q1 ?q2 ?q3 ?q4 ?q5 ?q6 ?q7 ?q8 ?_; (case q1 | q2 | q3 | q4 | q5 => k_asm); (case q6 => first | exact rfl | assumption); (case q7 => ktr_room); (case q8 => ktr_units); (case hA | hC => k_mem); (case ha | hb => omega); intro D9 p9 q9 t9 u9 h9 tk9 hP9 F9 N9 l9; (have hq9 := hP9.pos); (have hb9 := hP9.dvd); (try (have hc9 := hP9.bd (by omega))); (try dsimp only [AllLt] at l9); (try revert hc9); (try revert hb9); (try revert hq9); revert D9 p9 q9 t9 u9 h9 tk9 hP9 F9 N9 l9; intros; ((try dsimp only); (try k_sweep)))) | fail "no")
  k_with "all" => (first | (first | assumption | exact ne_of_allLt (by assumption) (by first | exact Nat.le_refl _ | exact Nat.le_succ _ | exact bdU2 | exact bdU | omega)) | fail "no")
  k_with "call ref" => (first | (k_here; k_dflt (refine' useN ?ho ?hi ?hlen ?h0 ?hm ?q1 ?q2 ?q3 ?q4 ?q5 ?q6 ?q7 ?q8 ?U ?hne ?hl ?_; (case q1 | q2 | q3 | q4 | q5 => k_asm); (case q6 => first | exact rfl | assumption); (case q7 => ktr_room); (case q8 => ktr_units); (case U => k_updF); (case ho => assumption); (case hne => k_ne); (case hl => k_mem); (case hi => assumption); (case hlen => assumption); (case h0 => omega); (case hm => omega); intro v9 t9 o9 h9 tk9 hv9 hT9 F9 N9; revert v9 t9 o9 h9 tk9 hv9 hT9 F9 N9; intros; ((try dsimp only); (try k_sweep)))) | fail "no")
  k_with "call ref" => (first | (k_here; k_dflt (refine' useI (bottom_tell _ _ _ _ _ _ ?hl ?hp ?hq) ?q1 ?q2 ?q3 ?q4 ?q5 ?q6 ?q7 ?q8 ?_; (case q1 | q2 | q3 | q4 | q5 => k_asm); (case q6 => first | exact rfl | assumption); (case q7 => ktr_room); (case q8 => ktr_units); (case hl => k_mem); (case hp => first | assumption | first | exact PairsAre.nil | (refine' PairsAre.cons ?hmm PairsAre.nil; (case hmm => k_mem))); (case hq => first | assumption | (intro r9 hr9; (simp only [List.mem_cons, List.not_mem_nil, or_false] at hr9); subst hr9; dsimp only; omega)); intro t9 h9 tk9 F9 N9; revert t9 h9 tk9 F9 N9; intros; ((try dsimp only); (try k_sweep)))) | fail "no")
  replace N : News h₀ L s.heap ((TP, o) :: (CL, listOf vs.toArray n) :: news) := fun p hp => by
    rcases List.mem_cons.mp hp with h | h
    · exact N p (h ▸ .head _)
    · rcases List.mem_cons.mp h with h | h
      · exact N p (.tail _ (h ▸ hl))
      · exact N p (.tail _ h)
  refine wpAny_call ?_
  k_dflt ktr_enter
  (rename Fr _ _ _ _ => F0); replace F0 := frAs (fun y => List.lookup y [(Str.ofString "tape", Value.ref TP)]) F0 (by with_unfolding_all exact Eq.refl (fun y => List.lookup y [(Str.ofString "tape", Value.ref TP)]))
  (refine letA ?_); intro A9
  (repeat' ((fail_if_success (with_reducible first | (show wpAny _ _ (exec (PySem.Stmt.While _ _ _ _) _) _ _ _) | (show wpAny _ _ (exec (PySem.Stmt.For _ _ _ _ _) _) _ _ _) | (show wpAny _ _ (eval (PySem.Expr.ListComp _ _ _ _) _) _ _ _) | (show wpAny _ _ (pyIter (Value.ref _)) _ _ _) | (show LCg.CompSrc _ _ _ _ _ _ _ _ _ _ _ _ _ _) | (show LCt.CompSrcT _ _ _ _ _ _ _ _ _ _ _ _ _ _ _) | (show LCp.SrcLP _ _ _ _ _ _ _ _ _ _ _ _ _ _ _) | (show wpAny _ _ (exec (PySem.Stmt.Assign _ (PySem.Expr.ListComp _ _ _ _) _) _) _ _ _))); first | (k_unfold; (try dsimp only)) | walk1 | (dsimp only; walk1) | (leave1; (try dsimp only)) | (refine Then.next hQ9 ?_; clear hQ9; (try clear Q9)) | (refine Then.ret hQ9 ?_; clear hQ9; (try clear Q9)) | (refine Then.brk hQ9 ?_; clear hQ9; (try clear Q9)) | (refine Then.cont hQ9 ?_; clear hQ9; (try clear Q9)) | fail "no step"))
  rename_i v1 t1 o1 h1 tk1 hv1 hT1 v2 t2 o2 h2 tk2 hv2 hT2 D1 hA ltD1 hB hC hDD tkk DS pS qS tS uS hS tkS hPS ltS hqS hbS hcS D3 h5 lt3 D4 h6 lt4 h7 h8 h9 h10 Fc Nc
  obtain ⟨nw, hTN, hsub, Nc⟩ := hide2 (News.drop3 (News.tl Nc))
  with_unfolding_all refine' while_S (σ := Addr × (Int × Tok) × (Int × Tok) × (Int × Tok)) (fun c => (c.1, (prO c.2.1.1 c.2.1.2 c.2.2.1.1 c.2.2.1.2)) :: _) (fun c => [(Str.ofString "hand", Value.ref c.1), (Str.ofString "turn", Value.int c.2.2.2.1 c.2.2.2.2)]) [] (fun c => HandP (v1 - 20) (1 + v2) pS qS c.2.2.2.1 c.2.1.1 c.2.2.1.1) (fun c => (qS - c.2.2.2.1).toNat) (D3, (0, _), (1, _), (0, _)) Fc Nc ?kk ?kr ?kt
  case kk => (repeat (first | exact Names.nil | refine Names.cons (by with_unfolding_all rfl) ?_))
  case kr => exact hand_start (by omega) (by omega) hPS
  case kt =>
    rintro ⟨Dh, ⟨x, tx⟩, ⟨y, ty⟩, ⟨turn, tt⟩⟩ u7 h7 tk7 hr9 hP F7 N7
    replace hP : HandP (v1 - 20) (1 + v2) pS qS turn x y := hP
    have hqb := hP.qb
    have hyq := hP.yq
    dsimp only at F7 N7 ⊢
    refine mono_FN (R := fun b => (b = true ∧ (turn = 0 ∨ y ≠ 1)) ∨ (b = false ∧ turn ≠ 0 ∧ y = 1)) F7 N7 ?h ?_
    case h =>
      (repeat' ((fail_if_success (with_reducible first | (show wpAny _ _ (exec (PySem.Stmt.While _ _ _ _) _) _ _ _) | (show wpAny _ _ (exec (PySem.Stmt.For _ _ _ _ _) _) _ _ _) | (show wpAny _ _ (eval (PySem.Expr.ListComp _ _ _ _) _) _ _ _) | (show wpAny _ _ (pyIter (Value.ref _)) _ _ _) | (show LCg.CompSrc _ _ _ _ _ _ _ _ _ _ _ _ _ _) | (show LCt.CompSrcT _ _ _ _ _ _ _ _ _ _ _ _ _ _ _) | (show LCp.SrcLP _ _ _ _ _ _ _ _ _ _ _ _ _ _ _) | (show wpAny _ _ (exec (PySem.Stmt.Assign _ (PySem.Expr.ListComp _ _ _ _) _) _) _ _ _))); first | (k_unfold; (try dsimp only)) | walk1 | (dsimp only; walk1) | (leave1; (try dsimp only)) | (refine Then.next hQ9 ?_; clear hQ9; (try clear Q9)) | (refine Then.ret hQ9 ?_; clear hQ9; (try clear Q9)) | (refine Then.brk hQ9 ?_; clear hQ9; (try clear Q9)) | (refine Then.cont hQ9 ?_; clear hQ9; (try clear Q9)) | fail "no step"))
      all_goals refine KeptFN.intro (by assumption) (by assumption) ?_
      all_goals first
        | exact .inl ⟨rfl, .inl (by assumption)⟩
        | exact .inl ⟨rfl, .inr (by assumption)⟩
        | exact .inr ⟨rfl, by assumption, by assumption⟩
    rintro b h8 tk8 (⟨rfl, hc⟩ | ⟨rfl, hc1, hc2⟩) F8 N8
    · simp only [if_true]
      (repeat' ((fail_if_success (with_reducible first | (show wpAny _ _ (exec (PySem.Stmt.While _ _ _ _) _) _ _ _) | (show wpAny _ _ (exec (PySem.Stmt.For _ _ _ _ _) _) _ _ _) | (show wpAny _ _ (eval (PySem.Expr.ListComp _ _ _ _) _) _ _ _) | (show wpAny _ _ (pyIter (Value.ref _)) _ _ _) | (show LCg.CompSrc _ _ _ _ _ _ _ _ _ _ _ _ _ _) | (show LCt.CompSrcT _ _ _ _ _ _ _ _ _ _ _ _ _ _ _) | (show LCp.SrcLP _ _ _ _ _ _ _ _ _ _ _ _ _ _ _) | (show wpAny _ _ (exec (PySem.Stmt.Assign _ (PySem.Expr.ListComp _ _ _ _) _) _) _ _ _))); first | (k_unfold; (try dsimp only)) | walk1 | (dsimp only; walk1) | (leave1; (try dsimp only)) | (refine Then.next hQ9 ?_; clear hQ9; (try clear Q9)) | (refine Then.ret hQ9 ?_; clear hQ9; (try clear Q9)) | (refine Then.brk hQ9 ?_; clear hQ9; (try clear Q9)) | (refine Then.cont hQ9 ?_; clear hQ9; (try clear Q9)) | fail "no step"))
      all_goals first
        | (exfalso; exact hand_no0 hP (by assumption) (by assumption) (by assumption) (by assumption))
        | (exfalso; exact hand_no1 hP (by assumption) (by assumption) (by assumption))
        | (exfalso; exact hand_no2 hP (by assumption) (by assumption) (by assumption))
        | skip
      refine' while_end (_, (_, _), (_, _), (_, _)) (by assumption) (by assumption) ?sub ?hk ?hr (hand_step hP hc (hand_sum hP (by assumption) (by assumption))) (hand_meas hP (hand_step hP hc (hand_sum hP (by assumption) (by assumption))))
      case sub => (intro p9 hp9; exact (List.mem_cons.mp hp9).elim (fun hp9 => by rw [hp9]; k_mem) (fun hp9 => by repeat (first | exact hp9 | refine List.Mem.tail _ ?_)))
      case hk => (repeat (first | exact Names.nil | refine Names.cons (by with_unfolding_all rfl) ?_))
      case hr => (first | (((repeat (first | refine RestsW.step (by with_unfolding_all rfl) ?_ | refine RestsW.stepU (by with_unfolding_all rfl) ?_))); first | exact RestsW.of hr9 | exact RestsW.of hr8 | exact RestsW.last | exact RestsW.same | (refine RestsW.via hr9 ?_; ((repeat (first | refine RestsW.step (by with_unfolding_all rfl) ?_ | refine RestsW.stepU (by with_unfolding_all rfl) ?_))); exact RestsW.of hr8) | (refine RestsW.viaS (by with_unfolding_all rfl) hr9 ?_; ((repeat (first | refine RestsW.step (by with_unfolding_all rfl) ?_ | refine RestsW.stepU (by with_unfolding_all rfl) ?_))); exact RestsW.of hr8)) | (intro z9 hz2 hz3; (have hz1 := True.intro); (have hz4 := hz3); (try simp only [List.mem_cons, forall_eq_or_imp, List.not_mem_nil, false_implies, implies_true, and_true, List.mem_singleton, forall_eq, ne_eq] at hz1 hz2); (try simp only [List.contains_cons, List.contains_nil, Bool.or_false, Bool.or_eq_false_iff, beq_eq_false_iff_ne, ne_eq] at hz4); simp only [hz1, hz2, hz3, hz4, kstB, if_false, Bool.false_eq_true, List.contains_nil]))
    · simp only [Bool.false_eq_true, if_false]
      (repeat' ((fail_if_success (with_reducible first | (show wpAny _ _ (exec (PySem.Stmt.While _ _ _ _) _) _ _ _) | (show wpAny _ _ (exec (PySem.Stmt.For _ _ _ _ _) _) _ _ _) | (show wpAny _ _ (eval (PySem.Expr.ListComp _ _ _ _) _) _ _ _) | (show wpAny _ _ (pyIter (Value.ref _)) _ _ _) | (show LCg.CompSrc _ _ _ _ _ _ _ _ _ _ _ _ _ _) | (show LCt.CompSrcT _ _ _ _ _ _ _ _ _ _ _ _ _ _ _) | (show LCp.SrcLP _ _ _ _ _ _ _ _ _ _ _ _ _ _ _) | (show wpAny _ _ (exec (PySem.Stmt.Assign _ (PySem.Expr.ListComp _ _ _ _) _) _) _ _ _))); first | (k_unfold; (try dsimp only)) | walk1 | (dsimp only; walk1) | (leave1; (try dsimp only)) | (refine Then.next hQ9 ?_; clear hQ9; (try clear Q9)) | (refine Then.ret hQ9 ?_; clear hQ9; (try clear Q9)) | (refine Then.brk hQ9 ?_; clear hQ9; (try clear Q9)) | (refine Then.cont hQ9 ?_; clear hQ9; (try clear Q9)) | fail "no step"))
      have e : (turn == lcms [(pS, qS)]) = true := by
        rw [hand_end hP hc1 hc2]
        have : lcms [(pS, qS)] = qS := by
          simp only [lcms, List.foldl_cons, List.foldl_nil, Int.one_lcm]
          omega
        rw [this]
        exact beq_self_eq_true _
      rw [e]
      exact endL (R := fun o' spot' => Tape w o' CL spot' ∧ spot ≤ spot' ∧ spot' ≤ spot + 2) hret (by assumption) (by assumption) (by repeat (first | exact hTN | refine List.Mem.tail _ ?_)) (fun p hp => by replace hp := hsub p hp; repeat (first | exact hp | refine List.Mem.tail _ ?_)) ⟨hT2, by omega, by omega⟩
/-- what d_compare says where the firsts part, else 1 -/
def dcv (x : Int) : Int := if x = 0 then 1 else x
theorem dcv_ne {x : Int} (h : x ≠ 0) : x = dcv x := (if_neg h).symm
theorem dcv_eq {x : Int} (h : x = 0) : 1 = dcv x := (if_pos h).symm
theorem dcv_le {x y : Int} : dcv (cmpv x y) ≤ 0 ↔ x < y := by
  unfold dcv cmpv
  split <;> split <;> (try split) <;> (first | lia | omega)
theorem btw_t {p q r v n : Int} (h : dcv (cmpv (p * 1) (n * q)) ≤ 0) : decide (dcv (cmpv (n * v) (r * 1)) ≤ 0) = (decide (p < n * q) && decide (n * v < r)) := by
  rw [Int.mul_one] at h ⊢
  rw [decide_eq_true (dcv_le.mp h), Bool.true_and, decide_eq_decide]
  exact dcv_le
theorem btw_f {p q r v n : Int} (h : ¬ dcv (cmpv (p * 1) (n * q)) ≤ 0) : decide (dcv (cmpv (p * 1) (n * q)) ≤ 0) = (decide (p < n * q) && decide (n * v < r)) := by
  rw [Int.mul_one] at h ⊢
  rw [decide_eq_false h, decide_eq_false (fun x => h (dcv_le.mpr x)), Bool.false_and]
section
variable {w : World} {dep : Nat} {f : Addr} {vs : List Value} {news : List (Addr × Obj)} {mean : ExcName → Option Value} {mg mb : Str → Option Value} {dp un : Nat} {gd : Option (List Code)} {cn : Str} {cs : Scope} {a : Addr} {ccd : Value} {cl : List (Str × Addr)} {outer : List Env} {A₀ : Around} {base h₀ : Heap} {L : Addr} {m : Str → Option Value} {s : Shared} {Q E : Value → Shared → Prop}
/-- a new object -/
theorem useO {o : Obj} (h : Tell w dep f vs news (fun r nx => ∃ D, r = .ref D ∧ nx = (D, o) :: news ∧ AllLt D news))
    (p1 : Below A₀ base outer h₀) (p2 : Fr h₀ L s.heap m) (p3 : (hd.heap_39 w.params).In h₀) (p4 : News h₀ L s.heap news) (p5 : Top hd.view_39 (looseW hd.view_39 []) mean mg mb h₀) (p6 : cs.kind = .function) (p7 : dp + dep < recursionLimit) (p8 : un + 20 * dep < cLine)
    (ret : ∀ D h' tk', Fr h₀ L h' m → News h₀ L h' ((D, o) :: news) → AllLt D news → Q (.ref D) { s with heap := h', toks := tk' }) :
    wpAny (model PySem.Challenge.rw_nz0134_01.row.prog w) (ktrTop dp un gd cn cs L a ccd cl outer) (call (.ref f) vs) Q E s :=
  h mean mg mb dp un gd cn cs a ccd cl outer A₀ base h₀ L m s Q E p1 p2 p3 p4 p5 p6 p7 p8 fun r nx h' tk' F' N' hr => by
    obtain ⟨D, rfl, rfl, hl⟩ := hr
    exact ret D h' tk' F' N' hl
theorem endO {o : Obj} {news nw : List (Addr × Obj)} {h₀ h' : Heap} {D : Addr} {tk' : Nat} (hret : ∀ r nx h' tk', Fr h₀ L h' m → News h₀ L h' nx → (fun r nx => ∃ D, r = Value.ref D ∧ nx = (D, o) :: news ∧ AllLt D news) r nx → Q r { s with heap := h', toks := tk' })
    (F : Fr h₀ L h' m) (N : News h₀ L h' nw) (sub : ∀ p ∈ (D, o) :: news, p ∈ nw) (hl : AllLt D news) : Q (.ref D) { s with heap := h', toks := tk' } :=
  hret _ _ _ _ F (fun z hz => N z (sub z hz)) ⟨D, rfl, rfl, hl⟩
end
theorem d_make_tell (w : World) (A : Addr) (news : List (Addr × Obj)) : Tell w 3 151 [.ref A] news (fun r nx => ∃ D, r = .ref D ∧ nx = (D, two (.ref A) (.ref 51)) :: news ∧ AllLt D news) := by
  w_top off
  unfold Tell
  k_fill
  intro mean mg mb dp un gd cn cs ad ccd cl outer A₀ base h₀ L m s Q E B F X N T hk hd hu hret
  k_with_none
  k_with "lt" => ((with_reducible rename ∀ p ∈ (_ : List (Addr × Obj)), p.1 < (_ : Addr) => hlt); replace hlt := allLt_of hlt; (dsimp only [AllLt] at hlt); revert hlt; intros)
  k_with "room" => (k_dflt (first | exact rm2 (by assumption) (by rfl) | exact rm1 (by assumption) (by rfl) | exact rm3 (by assumption) (by rfl) | exact rm0 (by assumption) | fail "no"))
  k_with "arm" => (first | assumption | (with_reducible first | exact arm0 (by assumption) | exact arm1 (by assumption) | exact arm2 (by assumption) | exact arm3 (by assumption) | exact arm4 (by assumption) | exact arm5 (by assumption) | exact arm6 (by assumption) | exact arm7 (by assumption) | exact arm8 (by assumption) | exact arm9 (by assumption) | exact arm10 (by assumption) | exact arm11 (by assumption) | exact arm12 (by assumption) | exact arm13 (by assumption) | exact And.left (arm0 (by assumption)) | exact And.left (And.right (arm0 (by assumption))) | exact And.right (And.right (arm0 (by assumption))) | exact And.left (arm1 (by assumption)) | exact And.left (And.right (arm1 (by assumption))) | exact And.right (And.right (arm1 (by assumption))) | exact And.left (arm2 (by assumption)) | exact And.left (And.right (arm2 (by assumption))) | exact And.right (And.right (arm2 (by assumption))) | exact And.left (arm3 (by assumption)) | exact And.left (And.right (arm3 (by assumption))) | exact And.right (And.right (arm3 (by assumption))) | exact And.left (arm4 (by assumption)) | exact And.left (And.right (arm4 (by assumption))) | exact And.right (And.right (arm4 (by assumption))) | exact And.left (arm5 (by assumption)) | exact And.left (And.right (arm5 (by assumption))) | exact And.right (And.right (arm5 (by assumption))) | exact And.left (arm6 (by assumption)) | exact And.left (And.right (arm6 (by assumption))) | exact And.right (And.right (arm6 (by assumption))) | exact And.left (arm7 (by assumption)) | exact And.left (And.right (arm7 (by assumption))) | exact And.right (And.right (arm7 (by assumption))) | exact Nat.lt_add_one _ | fail "no") | (with_reducible refine Nat.lt_add_right _ ?_; mod_arm) | fail "no")
  k_with "ne" => (k_dflt (first | assumption | exact Ne.symm (by assumption) | (refine neN ?_; (try dsimp only); first | assumption | exact Ne.symm (by assumption) | exact Nat.ne_of_lt (by mod_arm) | exact Nat.ne_of_gt (by mod_arm) | mod_arm | exact Ne.symm (by mod_arm) | fail "no") | fail "no"))
  k_with "om" => (first | (with_reducible first | assumption | exact Ne.symm (by assumption) | exact bdA (by assumption) | exact bdB (by assumption) (by k_dflt rfl) | exact bdC (by assumption) | exact bdD (by assumption) (by k_dflt rfl) | exact bdE (by assumption) | exact bdF (by assumption) (by k_dflt rfl) | exact bdG (by assumption) (by k_dflt rfl) | exact bdH (by assumption) (by k_dflt rfl) | exact bdI (by assumption) | exact bdJ (by assumption) (by k_dflt rfl) | exact bdK (by assumption) | exact bdO (by assumption) | exact bdP (by assumption) (by k_dflt rfl) | exact bdO0 (by assumption) | exact bdP0 (by assumption) (by k_dflt rfl) | exact bdV (by assumption) | exact bdS0 (by assumption) | exact bdS1 (by assumption) | exact bdS2 (by assumption) | exact bdS3 (by assumption) | exact bdQ (by assumption) (by assumption) (by assumption) | exact bdQ2 (by assumption) (by assumption) (by assumption) (by k_dflt rfl) | exact bdQ3 (by assumption) (by assumption) (by assumption) (by assumption) (by assumption) | exact bdQ4 (by assumption) (by assumption) (by assumption) | exact bdQ5 (by assumption) (by assumption) (by assumption) (by k_dflt rfl) | exact bdNA (by assumption) | exact bdW (by assumption) (by k_dflt rfl) | exact bdX2 (by assumption) (by k_dflt rfl) | exact bdX3 (by assumption) (by k_dflt rfl) | exact bdX4 (by assumption) (by k_dflt rfl) | exact bdX5 (by assumption) (by k_dflt rfl) | exact bdT0 (by assumption) | exact bdT1 (by assumption) | exact bdR2 | exact bdR1 (by assumption) (by k_dflt rfl) | exact Nat.ne_of_lt (by mod_arm) | exact Nat.ne_of_gt (by mod_arm) | exact Ne.symm (by mod_arm) | mod_arm | fail "no") | ((with_reducible refine And.intro ?_ ?_) <;> omega) | ((with_reducible (first | (rename @Ne _ _ _ => hz9; clear hz9) | (rename And (@Ne _ _ _) _ => hz9; clear hz9) | (rename And (And (@Ne _ _ _) _) _ => hz9; clear hz9)); (repeat (with_reducible first | (rename @Ne _ _ _ => hz9; clear hz9) | (rename And (@Ne _ _ _) _ => hz9; clear hz9) | (rename And (And (@Ne _ _ _) _) _ => hz9; clear hz9))); omega)) | fail "no")
  k_with "eval Call" => (refine Call_ ?_)
  k_with "eval Name" => (k_here; k_dflt (refine' nameX_L ?F ?v ?_ ?a ?b; (case F => k_asm); (case a => rfl); (case b => rfl); (case v => first | rfl | exact hr9 _ rfl | exact hr8 _ rfl | exact (hr9 _ rfl).trans (hr8 _ rfl)); k_whole))
  k_with "storeName" => (k_here; dsimp only)
  k_with "newTuple" => (k_here; dsimp only)
  k_with "newList" => (k_here; dsimp only)
  k_with "LeaveK" => (k_here; dsimp only)
  k_with "ite" => (k_here; dsimp only)
  k_with "execs cons" => (k_here; first | k_gentoks | ((try dsimp only); refine execs_cut ?_; intro Q9 hQ9))
  k_with "call ref" => (first | (k_here; k_dflt (refine' useI (gcd_tell _ _ _ _ _ _) ?q1 ?q2 ?q3 ?q4 ?q5 ?q6 ?q7 ?q8 ?_; (case q1 | q2 | q3 | q4 | q5 => k_asm); (case q6 => first | exact rfl | assumption); (case q7 => ktr_room); (case q8 => ktr_units); intro t9 h9 tk9 F9 N9; revert t9 h9 tk9 F9 N9; intros; ((try dsimp only); (try k_sweep)))) | fail "no")
  k_with "call ref" => (first | (k_here; k_dflt (refine' useI (gcd_all_tell _ _ _ _ _ _ ?hl ?hi) ?q1 ?q2 ?q3 ?q4 ?q5 ?q6 ?q7 ?q8 ?_; (case q1 | q2 | q3 | q4 | q5 => k_asm); (case q6 => first | exact rfl | assumption); (case q7 => ktr_room); (case q8 => ktr_units); (case hl => k_mem); (case hi => l_ints); intro t9 h9 tk9 F9 N9; revert t9 h9 tk9 F9 N9; intros; ((try dsimp only); (try k_sweep)))) | fail "no")
  k_with "call ref" => (first | (k_here; k_dflt (refine' useI (lcm_tell _ _ _ _ _ _ ?ha ?hb) ?q1 ?q2 ?q3 ?q4 ?q5 ?q6 ?q7 ?q8 ?_; (case q1 | q2 | q3 | q4 | q5 => k_asm); (case q6 => first | exact rfl | assumption); (case q7 => ktr_room); (case q8 => ktr_units); (case ha | hb => omega); intro t9 h9 tk9 F9 N9; (try simp only [Int.zero_sub, Int.neg_lcm, Int.lcm_neg]); revert t9 h9 tk9 F9 N9; intros; ((try dsimp only); (try k_sweep)))) | fail "no")
  k_with "call ref" => (first | (k_here; k_dflt (refine' useT (ratio_tell _ _ _ _ _ _ ?ha ?hb) ?q1 ?q2 ?q3 ?q4 ?q5 ?q6 ?q7 ?q8 ?_; (case q1 | q2 | q3 | q4 | q5 => k_asm); (case q6 => first | exact rfl | assumption); (case q7 => ktr_room); (case q8 => ktr_units); (case ha | hb => omega); intro D9 p9 q9 t9 u9 h9 tk9 hP9 F9 N9 l9; (have hq9 := hP9.pos); (have hb9 := hP9.dvd); (have hc9 := hP9.bd (by omega)); (try dsimp only [AllLt] at l9); (try revert hc9); (try revert hb9); (try revert hq9); revert D9 p9 q9 t9 u9 h9 tk9 hP9 F9 N9 l9; intros; ((try dsimp only); (try k_sweep)))) | fail "no")
  k_with "call ref" => (first | (k_here; k_dflt (refine' useTE (whole_tell _ _ _ _) ?q1 ?q2 ?q3 ?q4 ?q5 ?q6 ?q7 ?q8 ?_; (case q1 | q2 | q3 | q4 | q5 => k_asm); (case q6 => first | exact rfl | assumption); (case q7 => ktr_room); (case q8 => ktr_units); intro D9 t9 u9 h9 tk9 F9 N9 l9; (try dsimp only [AllLt] at l9); revert D9 t9 u9 h9 tk9 F9 N9 l9; intros; ((try dsimp only); (try k_sweep)))) | fail "no")
  k_with "call ref" => (first | (k_here; k_dflt (refine' useI (floor_tell _ _ _ _ _ _ _ ?hA ?ha ?hb) ?q1 ?q2 ?q3 ?q4 ?q5 ?q6 ?q7 ?q8 ?_; (case q1 | q2 | q3 | q4 | q5 => k_asm); (case q6 => first | exact rfl | assumption); (case q7 => ktr_room); (case q8 => ktr_units); (case hA => k_mem); (case ha | hb => omega); intro t9 h9 tk9 F9 N9; revert t9 h9 tk9 F9 N9; intros; ((try dsimp only); (try k_sweep)))) | fail "no")
  k_with "call ref" => (first | (k_here; k_dflt (refine' useI (ceil_tell _ _ _ _ _ _ _ ?hA ?ha ?hb) ?q1 ?q2 ?q3 ?q4 ?q5 ?q6 ?q7 ?q8 ?_; (case q1 | q2 | q3 | q4 | q5 => k_asm); (case q6 => first | exact rfl | assumption); (case q7 => ktr_room); (case q8 => ktr_units); (case hA => k_mem); (case ha | hb => omega); intro t9 h9 tk9 F9 N9; revert t9 h9 tk9 F9 N9; intros; ((try dsimp only); (try k_sweep)))) | fail "no")
  k_with "call ref" => (first | (k_here; k_dflt (refine' useB (iswhole_tell _ _ _ _ _ _ _ ?hA) ?q1 ?q2 ?q3 ?q4 ?q5 ?q6 ?q7 ?q8 ?_; (case q1 | q2 | q3 | q4 | q5 => k_asm); (case q6 => first | exact rfl | assumption); (case q7 => ktr_room); (case q8 => ktr_units); (case hA => k_mem); intro h9 tk9 F9 N9; revert h9 tk9 F9 N9; intros; ((try dsimp only); (try k_sweep)))) | fail "no")
  k_with "call ref" => (first | (k_here; k_dflt (refine' useI (compare_tell _ _ _ _ _ _ _ _ _ _ _ _ ?hA ?hC ?ha ?hb) ?q1 ?q2 ?q3 ?q4 ?q5 ?q6 ?q7 ?q8 ?_; (case q1 | q2 | q3 | q4 | q5 => k_asm); (case q6 => first | exact rfl | assumption); (case q7 => ktr_room); (case q8 => ktr_units); (case hA | hC => k_mem); (case ha | hb => omega); intro t9 h9 tk9 F9 N9; revert t9 h9 tk9 F9 N9; intros; ((try dsimp only); (try k_sweep)))) | fail "no")
  k_with "call ref" => (first | (k_here; k_dflt (refine' useTE (neg_tell _ _ _ _ _ _ _ ?hA) ?q1 ?q2 ?q3 ?q4 ?q5 ?q6 ?q7 ?q8 ?_; (case q1 | q2 | q3 | q4 | q5 => k_asm); (case q6 => first | exact rfl | assumption); (case q7 => ktr_room); (case q8 => ktr_units); (case hA => k_mem); intro D9 t9 u9 h9 tk9 F9 N9 l9; (try dsimp only [AllLt] at l9); revert D9 t9 u9 h9 tk9 F9 N9 l9; intros; ((try dsimp only); (try k_sweep)))) | fail "no")
  k_with "call ref" => (first | (k_here; k_dflt (refine' useT (add_tell _ _ _ _ _ _ _ _ _ _ _ _ ?hA ?hC ?ha ?hb) ?q1 ?q2 ?q3 ?q4 ?q5 ?q6 ?q7 ?q8 ?_; (case q1 | q2 | q3 | q4 | q5 => k_asm); (case q6 => first | exact rfl | assumption); (case q7 => ktr_room); (case q8 => ktr_units); (case hA | hC => k_mem); (case ha | hb => omega); intro D9 p9 q9 t9 u9 h9 tk9 hP9 F9 N9 l9; (have hq9 := hP9.pos); (have hb9 := hP9.dvd); (try (have hc9 := hP9.bd (by omega))); (try dsimp only [AllLt] at l9); (try revert hc9); (try revert hb9); (try revert hq9); revert D9 p9 q9 t9 u9 h9 tk9 hP9 F9 N9 l9; intros; ((try dsimp only); (try k_sweep)))) | fail "no")
  k_with "call ref" => (first | (k_here; k_dflt (refine' useT (sub_tell _ _ _ _ _ _ _ _ _ _ _ _ ?hA ?hC ?ha ?hb) ?q1 ?q2 ?q3 ?q4 ?q5 ?q6 ?q7 ?q8 ?_; (case q1 | q2 | q3 | q4 | q5 => k_asm); (case q6 => first | exact rfl | assumption); (case q7 => ktr_room); (case q8 => ktr_units); (case hA | hC => k_mem); (case ha | hb => omega); intro D9 p9 q9 t9 u9 h9 tk9 hP9 F9 N9 l9; (have hq9 := hP9.pos); (have hb9 := hP9.dvd); (try (have hc9 := hP9.bd (by omega))); (try dsimp only [AllLt] at l9); (try revert hc9); (try revert hb9); (try revert hq9); revert D9 p9 q9 t9 u9 h9 tk9 hP9 F9 N9 l9; intros; ((try dsimp only); (try k_sweep)))) | fail "no")
  k_with "all" => (first | (first | assumption | exact ne_of_allLt (by assumption) (by first | exact Nat.le_refl _ | exact Nat.le_succ _ | exact bdU2 | exact bdU | omega)) | fail "no")
  k_with "call ref" => (first | (k_here; k_dflt (refine' useN ?ho ?hi ?hlen ?h0 ?hm ?q1 ?q2 ?q3 ?q4 ?q5 ?q6 ?q7 ?q8 ?U ?hne ?hl ?_; (case q1 | q2 | q3 | q4 | q5 => k_asm); (case q6 => first | exact rfl | assumption); (case q7 => ktr_room); (case q8 => ktr_units); (case U => k_updF); (case ho => assumption); (case hne => k_ne); (case hl => k_mem); (case hi => assumption); (case hlen => assumption); (case h0 => omega); (case hm => omega); intro v9 t9 o9 h9 tk9 hv9 hT9 F9 N9; revert v9 t9 o9 h9 tk9 hv9 hT9 F9 N9; intros; ((try dsimp only); (try k_sweep)))) | fail "no")
  k_with "call ref" => (first | (k_here; k_dflt (refine' useI (bottom_tell _ _ _ _ _ _ ?hl ?hp ?hq) ?q1 ?q2 ?q3 ?q4 ?q5 ?q6 ?q7 ?q8 ?_; (case q1 | q2 | q3 | q4 | q5 => k_asm); (case q6 => first | exact rfl | assumption); (case q7 => ktr_room); (case q8 => ktr_units); (case hl => k_mem); (case hp => first | assumption | first | exact PairsAre.nil | (refine' PairsAre.cons ?hmm PairsAre.nil; (case hmm => k_mem))); (case hq => first | assumption | (intro r9 hr9; (simp only [List.mem_cons, List.not_mem_nil, or_false] at hr9); subst hr9; dsimp only; omega)); intro t9 h9 tk9 F9 N9; revert t9 h9 tk9 F9 N9; intros; ((try dsimp only); (try k_sweep)))) | fail "no")
  refine wpAny_call ?_
  k_dflt ktr_enter
  (rename Fr _ _ _ _ => F0); replace F0 := frAs (fun y => List.lookup y [(Str.ofString "r", Value.ref A)]) F0 (by with_unfolding_all exact Eq.refl (fun y => List.lookup y [(Str.ofString "r", Value.ref A)]))
  (refine letA ?_); intro A9
  (repeat' (first | (k_unfold; (try dsimp only)) | walk1 | (dsimp only; walk1) | (leave1; (try dsimp only)) | (refine Then.next hQ9 ?_; clear hQ9; (try clear Q9)) | (refine Then.ret hQ9 ?_; clear hQ9; (try clear Q9)) | (refine Then.brk hQ9 ?_; clear hQ9; (try clear Q9)) | (refine Then.cont hQ9 ?_; clear hQ9; (try clear Q9)) | fail "no step"))
  exact endO hret (by assumption) (by assumption) (fun p hp => hp) (allLt_of (by assumption))
theorem d_below_tell (w : World) (A : Addr) (news : List (Addr × Obj)) : Tell w 3 158 [.ref A] news (fun r nx => ∃ D, r = .ref D ∧ nx = (D, two (.ref A) (.ref 53)) :: news ∧ AllLt D news) := by
  w_top off
  unfold Tell
  k_fill
  intro mean mg mb dp un gd cn cs ad ccd cl outer A₀ base h₀ L m s Q E B F X N T hk hd hu hret
  k_with_none
  k_with "lt" => ((with_reducible rename ∀ p ∈ (_ : List (Addr × Obj)), p.1 < (_ : Addr) => hlt); replace hlt := allLt_of hlt; (dsimp only [AllLt] at hlt); revert hlt; intros)
  k_with "room" => (k_dflt (first | exact rm2 (by assumption) (by rfl) | exact rm1 (by assumption) (by rfl) | exact rm3 (by assumption) (by rfl) | exact rm0 (by assumption) | fail "no"))
  k_with "arm" => (first | assumption | (with_reducible first | exact arm0 (by assumption) | exact arm1 (by assumption) | exact arm2 (by assumption) | exact arm3 (by assumption) | exact arm4 (by assumption) | exact arm5 (by assumption) | exact arm6 (by assumption) | exact arm7 (by assumption) | exact arm8 (by assumption) | exact arm9 (by assumption) | exact arm10 (by assumption) | exact arm11 (by assumption) | exact arm12 (by assumption) | exact arm13 (by assumption) | exact And.left (arm0 (by assumption)) | exact And.left (And.right (arm0 (by assumption))) | exact And.right (And.right (arm0 (by assumption))) | exact And.left (arm1 (by assumption)) | exact And.left (And.right (arm1 (by assumption))) | exact And.right (And.right (arm1 (by assumption))) | exact And.left (arm2 (by assumption)) | exact And.left (And.right (arm2 (by assumption))) | exact And.right (And.right (arm2 (by assumption))) | exact And.left (arm3 (by assumption)) | exact And.left (And.right (arm3 (by assumption))) | exact And.right (And.right (arm3 (by assumption))) | exact And.left (arm4 (by assumption)) | exact And.left (And.right (arm4 (by assumption))) | exact And.right (And.right (arm4 (by assumption))) | exact And.left (arm5 (by assumption)) | exact And.left (And.right (arm5 (by assumption))) | exact And.right (And.right (arm5 (by assumption))) | exact And.left (arm6 (by assumption)) | exact And.left (And.right (arm6 (by assumption))) | exact And.right (And.right (arm6 (by assumption))) | exact And.left (arm7 (by assumption)) | exact And.left (And.right (arm7 (by assumption))) | exact And.right (And.right (arm7 (by assumption))) | exact Nat.lt_add_one _ | fail "no") | (with_reducible refine Nat.lt_add_right _ ?_; mod_arm) | fail "no")
  k_with "ne" => (k_dflt (first | assumption | exact Ne.symm (by assumption) | (refine neN ?_; (try dsimp only); first | assumption | exact Ne.symm (by assumption) | exact Nat.ne_of_lt (by mod_arm) | exact Nat.ne_of_gt (by mod_arm) | mod_arm | exact Ne.symm (by mod_arm) | fail "no") | fail "no"))
  k_with "om" => (first | (with_reducible first | assumption | exact Ne.symm (by assumption) | exact bdA (by assumption) | exact bdB (by assumption) (by k_dflt rfl) | exact bdC (by assumption) | exact bdD (by assumption) (by k_dflt rfl) | exact bdE (by assumption) | exact bdF (by assumption) (by k_dflt rfl) | exact bdG (by assumption) (by k_dflt rfl) | exact bdH (by assumption) (by k_dflt rfl) | exact bdI (by assumption) | exact bdJ (by assumption) (by k_dflt rfl) | exact bdK (by assumption) | exact bdO (by assumption) | exact bdP (by assumption) (by k_dflt rfl) | exact bdO0 (by assumption) | exact bdP0 (by assumption) (by k_dflt rfl) | exact bdV (by assumption) | exact bdS0 (by assumption) | exact bdS1 (by assumption) | exact bdS2 (by assumption) | exact bdS3 (by assumption) | exact bdQ (by assumption) (by assumption) (by assumption) | exact bdQ2 (by assumption) (by assumption) (by assumption) (by k_dflt rfl) | exact bdQ3 (by assumption) (by assumption) (by assumption) (by assumption) (by assumption) | exact bdQ4 (by assumption) (by assumption) (by assumption) | exact bdQ5 (by assumption) (by assumption) (by assumption) (by k_dflt rfl) | exact bdNA (by assumption) | exact bdW (by assumption) (by k_dflt rfl) | exact bdX2 (by assumption) (by k_dflt rfl) | exact bdX3 (by assumption) (by k_dflt rfl) | exact bdX4 (by assumption) (by k_dflt rfl) | exact bdX5 (by assumption) (by k_dflt rfl) | exact bdT0 (by assumption) | exact bdT1 (by assumption) | exact bdR2 | exact bdR1 (by assumption) (by k_dflt rfl) | exact Nat.ne_of_lt (by mod_arm) | exact Nat.ne_of_gt (by mod_arm) | exact Ne.symm (by mod_arm) | mod_arm | fail "no") | ((with_reducible refine And.intro ?_ ?_) <;> omega) | ((with_reducible (first | (rename @Ne _ _ _ => hz9; clear hz9) | (rename And (@Ne _ _ _) _ => hz9; clear hz9) | (rename And (And (@Ne _ _ _) _) _ => hz9; clear hz9)); (repeat (with_reducible first | (rename @Ne _ _ _ => hz9; clear hz9) | (rename And (@Ne _ _ _) _ => hz9; clear hz9) | (rename And (And (@Ne _ _ _) _) _ => hz9; clear hz9))); omega)) | fail "no")
  k_with "eval Call" => (refine Call_ ?_)
  k_with "eval Name" => (k_here; k_dflt (refine' nameX_L ?F ?v ?_ ?a ?b; (case F => k_asm); (case a => rfl); (case b => rfl); (case v => first | rfl | exact hr9 _ rfl | exact hr8 _ rfl | exact (hr9 _ rfl).trans (hr8 _ rfl)); k_whole))
  k_with "storeName" => (k_here; dsimp only)
  k_with "newTuple" => (k_here; dsimp only)
  k_with "newList" => (k_here; dsimp only)
  k_with "LeaveK" => (k_here; dsimp only)
  k_with "ite" => (k_here; dsimp only)
  k_with "execs cons" => (k_here; first | k_gentoks | ((try dsimp only); refine execs_cut ?_; intro Q9 hQ9))
  k_with "call ref" => (first | (k_here; k_dflt (refine' useI (gcd_tell _ _ _ _ _ _) ?q1 ?q2 ?q3 ?q4 ?q5 ?q6 ?q7 ?q8 ?_; (case q1 | q2 | q3 | q4 | q5 => k_asm); (case q6 => first | exact rfl | assumption); (case q7 => ktr_room); (case q8 => ktr_units); intro t9 h9 tk9 F9 N9; revert t9 h9 tk9 F9 N9; intros; ((try dsimp only); (try k_sweep)))) | fail "no")
  k_with "call ref" => (first | (k_here; k_dflt (refine' useI (gcd_all_tell _ _ _ _ _ _ ?hl ?hi) ?q1 ?q2 ?q3 ?q4 ?q5 ?q6 ?q7 ?q8 ?_; (case q1 | q2 | q3 | q4 | q5 => k_asm); (case q6 => first | exact rfl | assumption); (case q7 => ktr_room); (case q8 => ktr_units); (case hl => k_mem); (case hi => l_ints); intro t9 h9 tk9 F9 N9; revert t9 h9 tk9 F9 N9; intros; ((try dsimp only); (try k_sweep)))) | fail "no")
  k_with "call ref" => (first | (k_here; k_dflt (refine' useI (lcm_tell _ _ _ _ _ _ ?ha ?hb) ?q1 ?q2 ?q3 ?q4 ?q5 ?q6 ?q7 ?q8 ?_; (case q1 | q2 | q3 | q4 | q5 => k_asm); (case q6 => first | exact rfl | assumption); (case q7 => ktr_room); (case q8 => ktr_units); (case ha | hb => omega); intro t9 h9 tk9 F9 N9; (try simp only [Int.zero_sub, Int.neg_lcm, Int.lcm_neg]); revert t9 h9 tk9 F9 N9; intros; ((try dsimp only); (try k_sweep)))) | fail "no")
  k_with "call ref" => (first | (k_here; k_dflt (refine' useT (ratio_tell _ _ _ _ _ _ ?ha ?hb) ?q1 ?q2 ?q3 ?q4 ?q5 ?q6 ?q7 ?q8 ?_; (case q1 | q2 | q3 | q4 | q5 => k_asm); (case q6 => first | exact rfl | assumption); (case q7 => ktr_room); (case q8 => ktr_units); (case ha | hb => omega); intro D9 p9 q9 t9 u9 h9 tk9 hP9 F9 N9 l9; (have hq9 := hP9.pos); (have hb9 := hP9.dvd); (have hc9 := hP9.bd (by omega)); (try dsimp only [AllLt] at l9); (try revert hc9); (try revert hb9); (try revert hq9); revert D9 p9 q9 t9 u9 h9 tk9 hP9 F9 N9 l9; intros; ((try dsimp only); (try k_sweep)))) | fail "no")
  k_with "call ref" => (first | (k_here; k_dflt (refine' useTE (whole_tell _ _ _ _) ?q1 ?q2 ?q3 ?q4 ?q5 ?q6 ?q7 ?q8 ?_; (case q1 | q2 | q3 | q4 | q5 => k_asm); (case q6 => first | exact rfl | assumption); (case q7 => ktr_room); (case q8 => ktr_units); intro D9 t9 u9 h9 tk9 F9 N9 l9; (try dsimp only [AllLt] at l9); revert D9 t9 u9 h9 tk9 F9 N9 l9; intros; ((try dsimp only); (try k_sweep)))) | fail "no")
  k_with "call ref" => (first | (k_here; k_dflt (refine' useI (floor_tell _ _ _ _ _ _ _ ?hA ?ha ?hb) ?q1 ?q2 ?q3 ?q4 ?q5 ?q6 ?q7 ?q8 ?_; (case q1 | q2 | q3 | q4 | q5 => k_asm); (case q6 => first | exact rfl | assumption); (case q7 => ktr_room); (case q8 => ktr_units); (case hA => k_mem); (case ha | hb => omega); intro t9 h9 tk9 F9 N9; revert t9 h9 tk9 F9 N9; intros; ((try dsimp only); (try k_sweep)))) | fail "no")
  k_with "call ref" => (first | (k_here; k_dflt (refine' useI (ceil_tell _ _ _ _ _ _ _ ?hA ?ha ?hb) ?q1 ?q2 ?q3 ?q4 ?q5 ?q6 ?q7 ?q8 ?_; (case q1 | q2 | q3 | q4 | q5 => k_asm); (case q6 => first | exact rfl | assumption); (case q7 => ktr_room); (case q8 => ktr_units); (case hA => k_mem); (case ha | hb => omega); intro t9 h9 tk9 F9 N9; revert t9 h9 tk9 F9 N9; intros; ((try dsimp only); (try k_sweep)))) | fail "no")
  k_with "call ref" => (first | (k_here; k_dflt (refine' useB (iswhole_tell _ _ _ _ _ _ _ ?hA) ?q1 ?q2 ?q3 ?q4 ?q5 ?q6 ?q7 ?q8 ?_; (case q1 | q2 | q3 | q4 | q5 => k_asm); (case q6 => first | exact rfl | assumption); (case q7 => ktr_room); (case q8 => ktr_units); (case hA => k_mem); intro h9 tk9 F9 N9; revert h9 tk9 F9 N9; intros; ((try dsimp only); (try k_sweep)))) | fail "no")
  k_with "call ref" => (first | (k_here; k_dflt (refine' useI (compare_tell _ _ _ _ _ _ _ _ _ _ _ _ ?hA ?hC ?ha ?hb) ?q1 ?q2 ?q3 ?q4 ?q5 ?q6 ?q7 ?q8 ?_; (case q1 | q2 | q3 | q4 | q5 => k_asm); (case q6 => first | exact rfl | assumption); (case q7 => ktr_room); (case q8 => ktr_units); (case hA | hC => k_mem); (case ha | hb => omega); intro t9 h9 tk9 F9 N9; revert t9 h9 tk9 F9 N9; intros; ((try dsimp only); (try k_sweep)))) | fail "no")
  k_with "call ref" => (first | (k_here; k_dflt (refine' useTE (neg_tell _ _ _ _ _ _ _ ?hA) ?q1 ?q2 ?q3 ?q4 ?q5 ?q6 ?q7 ?q8 ?_; (case q1 | q2 | q3 | q4 | q5 => k_asm); (case q6 => first | exact rfl | assumption); (case q7 => ktr_room); (case q8 => ktr_units); (case hA => k_mem); intro D9 t9 u9 h9 tk9 F9 N9 l9; (try dsimp only [AllLt] at l9); revert D9 t9 u9 h9 tk9 F9 N9 l9; intros; ((try dsimp only); (try k_sweep)))) | fail "no")
  k_with "call ref" => (first | (k_here; k_dflt (refine' useT (add_tell _ _ _ _ _ _ _ _ _ _ _ _ ?hA ?hC ?ha ?hb) ?q1 ?q2 ?q3 ?q4 ?q5 ?q6 ?q7 ?q8 ?_; (case q1 | q2 | q3 | q4 | q5 => k_asm); (case q6 => first | exact rfl | assumption); (case q7 => ktr_room); (case q8 => ktr_units); (case hA | hC => k_mem); (case ha | hb => omega); intro D9 p9 q9 t9 u9 h9 tk9 hP9 F9 N9 l9; (have hq9 := hP9.pos); (have hb9 := hP9.dvd); (try (have hc9 := hP9.bd (by omega))); (try dsimp only [AllLt] at l9); (try revert hc9); (try revert hb9); (try revert hq9); revert D9 p9 q9 t9 u9 h9 tk9 hP9 F9 N9 l9; intros; ((try dsimp only); (try k_sweep)))) | fail "no")
  k_with "call ref" => (first | (k_here; k_dflt (refine' useT (sub_tell _ _ _ _ _ _ _ _ _ _ _ _ ?hA ?hC ?ha ?hb) ?q1 ?q2 ?q3 ?q4 ?q5 ?q6 ?q7 ?q8 ?_; (case q1 | q2 | q3 | q4 | q5 => k_asm); (case q6 => first | exact rfl | assumption); (case q7 => ktr_room); (case q8 => ktr_units); (case hA | hC => k_mem); (case ha | hb => omega); intro D9 p9 q9 t9 u9 h9 tk9 hP9 F9 N9 l9; (have hq9 := hP9.pos); (have hb9 := hP9.dvd); (try (have hc9 := hP9.bd (by omega))); (try dsimp only [AllLt] at l9); (try revert hc9); (try revert hb9); (try revert hq9); revert D9 p9 q9 t9 u9 h9 tk9 hP9 F9 N9 l9; intros; ((try dsimp only); (try k_sweep)))) | fail "no")
  k_with "all" => (first | (first | assumption | exact ne_of_allLt (by assumption) (by first | exact Nat.le_refl _ | exact Nat.le_succ _ | exact bdU2 | exact bdU | omega)) | fail "no")
  k_with "call ref" => (first | (k_here; k_dflt (refine' useN ?ho ?hi ?hlen ?h0 ?hm ?q1 ?q2 ?q3 ?q4 ?q5 ?q6 ?q7 ?q8 ?U ?hne ?hl ?_; (case q1 | q2 | q3 | q4 | q5 => k_asm); (case q6 => first | exact rfl | assumption); (case q7 => ktr_room); (case q8 => ktr_units); (case U => k_updF); (case ho => assumption); (case hne => k_ne); (case hl => k_mem); (case hi => assumption); (case hlen => assumption); (case h0 => omega); (case hm => omega); intro v9 t9 o9 h9 tk9 hv9 hT9 F9 N9; revert v9 t9 o9 h9 tk9 hv9 hT9 F9 N9; intros; ((try dsimp only); (try k_sweep)))) | fail "no")
  k_with "call ref" => (first | (k_here; k_dflt (refine' useI (bottom_tell _ _ _ _ _ _ ?hl ?hp ?hq) ?q1 ?q2 ?q3 ?q4 ?q5 ?q6 ?q7 ?q8 ?_; (case q1 | q2 | q3 | q4 | q5 => k_asm); (case q6 => first | exact rfl | assumption); (case q7 => ktr_room); (case q8 => ktr_units); (case hl => k_mem); (case hp => first | assumption | first | exact PairsAre.nil | (refine' PairsAre.cons ?hmm PairsAre.nil; (case hmm => k_mem))); (case hq => first | assumption | (intro r9 hr9; (simp only [List.mem_cons, List.not_mem_nil, or_false] at hr9); subst hr9; dsimp only; omega)); intro t9 h9 tk9 F9 N9; revert t9 h9 tk9 F9 N9; intros; ((try dsimp only); (try k_sweep)))) | fail "no")
  refine wpAny_call ?_
  k_dflt ktr_enter
  (rename Fr _ _ _ _ => F0); replace F0 := frAs (fun y => List.lookup y [(Str.ofString "r", Value.ref A)]) F0 (by with_unfolding_all exact Eq.refl (fun y => List.lookup y [(Str.ofString "r", Value.ref A)]))
  (refine letA ?_); intro A9
  (repeat' (first | (k_unfold; (try dsimp only)) | walk1 | (dsimp only; walk1) | (leave1; (try dsimp only)) | (refine Then.next hQ9 ?_; clear hQ9; (try clear Q9)) | (refine Then.ret hQ9 ?_; clear hQ9; (try clear Q9)) | (refine Then.brk hQ9 ?_; clear hQ9; (try clear Q9)) | (refine Then.cont hQ9 ?_; clear hQ9; (try clear Q9)) | fail "no step"))
  exact endO hret (by assumption) (by assumption) (fun p hp => hp) (allLt_of (by assumption))
theorem d_above_tell (w : World) (A : Addr) (news : List (Addr × Obj)) : Tell w 3 165 [.ref A] news (fun r nx => ∃ D, r = .ref D ∧ nx = (D, two (.ref A) (.ref 52)) :: news ∧ AllLt D news) := by
  w_top off
  unfold Tell
  k_fill
  intro mean mg mb dp un gd cn cs ad ccd cl outer A₀ base h₀ L m s Q E B F X N T hk hd hu hret
  k_with_none
  k_with "lt" => ((with_reducible rename ∀ p ∈ (_ : List (Addr × Obj)), p.1 < (_ : Addr) => hlt); replace hlt := allLt_of hlt; (dsimp only [AllLt] at hlt); revert hlt; intros)
  k_with "room" => (k_dflt (first | exact rm2 (by assumption) (by rfl) | exact rm1 (by assumption) (by rfl) | exact rm3 (by assumption) (by rfl) | exact rm0 (by assumption) | fail "no"))
  k_with "arm" => (first | assumption | (with_reducible first | exact arm0 (by assumption) | exact arm1 (by assumption) | exact arm2 (by assumption) | exact arm3 (by assumption) | exact arm4 (by assumption) | exact arm5 (by assumption) | exact arm6 (by assumption) | exact arm7 (by assumption) | exact arm8 (by assumption) | exact arm9 (by assumption) | exact arm10 (by assumption) | exact arm11 (by assumption) | exact arm12 (by assumption) | exact arm13 (by assumption) | exact And.left (arm0 (by assumption)) | exact And.left (And.right (arm0 (by assumption))) | exact And.right (And.right (arm0 (by assumption))) | exact And.left (arm1 (by assumption)) | exact And.left (And.right (arm1 (by assumption))) | exact And.right (And.right (arm1 (by assumption))) | exact And.left (arm2 (by assumption)) | exact And.left (And.right (arm2 (by assumption))) | exact And.right (And.right (arm2 (by assumption))) | exact And.left (arm3 (by assumption)) | exact And.left (And.right (arm3 (by assumption))) | exact And.right (And.right (arm3 (by assumption))) | exact And.left (arm4 (by assumption)) | exact And.left (And.right (arm4 (by assumption))) | exact And.right (And.right (arm4 (by assumption))) | exact And.left (arm5 (by assumption)) | exact And.left (And.right (arm5 (by assumption))) | exact And.right (And.right (arm5 (by assumption))) | exact And.left (arm6 (by assumption)) | exact And.left (And.right (arm6 (by assumption))) | exact And.right (And.right (arm6 (by assumption))) | exact And.left (arm7 (by assumption)) | exact And.left (And.right (arm7 (by assumption))) | exact And.right (And.right (arm7 (by assumption))) | exact Nat.lt_add_one _ | fail "no") | (with_reducible refine Nat.lt_add_right _ ?_; mod_arm) | fail "no")
  k_with "ne" => (k_dflt (first | assumption | exact Ne.symm (by assumption) | (refine neN ?_; (try dsimp only); first | assumption | exact Ne.symm (by assumption) | exact Nat.ne_of_lt (by mod_arm) | exact Nat.ne_of_gt (by mod_arm) | mod_arm | exact Ne.symm (by mod_arm) | fail "no") | fail "no"))
  k_with "om" => (first | (with_reducible first | assumption | exact Ne.symm (by assumption) | exact bdA (by assumption) | exact bdB (by assumption) (by k_dflt rfl) | exact bdC (by assumption) | exact bdD (by assumption) (by k_dflt rfl) | exact bdE (by assumption) | exact bdF (by assumption) (by k_dflt rfl) | exact bdG (by assumption) (by k_dflt rfl) | exact bdH (by assumption) (by k_dflt rfl) | exact bdI (by assumption) | exact bdJ (by assumption) (by k_dflt rfl) | exact bdK (by assumption) | exact bdO (by assumption) | exact bdP (by assumption) (by k_dflt rfl) | exact bdO0 (by assumption) | exact bdP0 (by assumption) (by k_dflt rfl) | exact bdV (by assumption) | exact bdS0 (by assumption) | exact bdS1 (by assumption) | exact bdS2 (by assumption) | exact bdS3 (by assumption) | exact bdQ (by assumption) (by assumption) (by assumption) | exact bdQ2 (by assumption) (by assumption) (by assumption) (by k_dflt rfl) | exact bdQ3 (by assumption) (by assumption) (by assumption) (by assumption) (by assumption) | exact bdQ4 (by assumption) (by assumption) (by assumption) | exact bdQ5 (by assumption) (by assumption) (by assumption) (by k_dflt rfl) | exact bdNA (by assumption) | exact bdW (by assumption) (by k_dflt rfl) | exact bdX2 (by assumption) (by k_dflt rfl) | exact bdX3 (by assumption) (by k_dflt rfl) | exact bdX4 (by assumption) (by k_dflt rfl) | exact bdX5 (by assumption) (by k_dflt rfl) | exact bdT0 (by assumption) | exact bdT1 (by assumption) | exact bdR2 | exact bdR1 (by assumption) (by k_dflt rfl) | exact Nat.ne_of_lt (by mod_arm) | exact Nat.ne_of_gt (by mod_arm) | exact Ne.symm (by mod_arm) | mod_arm | fail "no") | ((with_reducible refine And.intro ?_ ?_) <;> omega) | ((with_reducible (first | (rename @Ne _ _ _ => hz9; clear hz9) | (rename And (@Ne _ _ _) _ => hz9; clear hz9) | (rename And (And (@Ne _ _ _) _) _ => hz9; clear hz9)); (repeat (with_reducible first | (rename @Ne _ _ _ => hz9; clear hz9) | (rename And (@Ne _ _ _) _ => hz9; clear hz9) | (rename And (And (@Ne _ _ _) _) _ => hz9; clear hz9))); omega)) | fail "no")
  k_with "eval Call" => (refine Call_ ?_)
  k_with "eval Name" => (k_here; k_dflt (refine' nameX_L ?F ?v ?_ ?a ?b; (case F => k_asm); (case a => rfl); (case b => rfl); (case v => first | rfl | exact hr9 _ rfl | exact hr8 _ rfl | exact (hr9 _ rfl).trans (hr8 _ rfl)); k_whole))
  k_with "storeName" => (k_here; dsimp only)
  k_with "newTuple" => (k_here; dsimp only)
  k_with "newList" => (k_here; dsimp only)
  k_with "LeaveK" => (k_here; dsimp only)
  k_with "ite" => (k_here; dsimp only)
  k_with "execs cons" => (k_here; first | k_gentoks | ((try dsimp only); refine execs_cut ?_; intro Q9 hQ9))
  k_with "call ref" => (first | (k_here; k_dflt (refine' useI (gcd_tell _ _ _ _ _ _) ?q1 ?q2 ?q3 ?q4 ?q5 ?q6 ?q7 ?q8 ?_; (case q1 | q2 | q3 | q4 | q5 => k_asm); (case q6 => first | exact rfl | assumption); (case q7 => ktr_room); (case q8 => ktr_units); intro t9 h9 tk9 F9 N9; revert t9 h9 tk9 F9 N9; intros; ((try dsimp only); (try k_sweep)))) | fail "no")
  k_with "call ref" => (first | (k_here; k_dflt (refine' useI (gcd_all_tell _ _ _ _ _ _ ?hl ?hi) ?q1 ?q2 ?q3 ?q4 ?q5 ?q6 ?q7 ?q8 ?_; (case q1 | q2 | q3 | q4 | q5 => k_asm); (case q6 => first | exact rfl | assumption); (case q7 => ktr_room); (case q8 => ktr_units); (case hl => k_mem); (case hi => l_ints); intro t9 h9 tk9 F9 N9; revert t9 h9 tk9 F9 N9; intros; ((try dsimp only); (try k_sweep)))) | fail "no")
  k_with "call ref" => (first | (k_here; k_dflt (refine' useI (lcm_tell _ _ _ _ _ _ ?ha ?hb) ?q1 ?q2 ?q3 ?q4 ?q5 ?q6 ?q7 ?q8 ?_; (case q1 | q2 | q3 | q4 | q5 => k_asm); (case q6 => first | exact rfl | assumption); (case q7 => ktr_room); (case q8 => ktr_units); (case ha | hb => omega); intro t9 h9 tk9 F9 N9; (try simp only [Int.zero_sub, Int.neg_lcm, Int.lcm_neg]); revert t9 h9 tk9 F9 N9; intros; ((try dsimp only); (try k_sweep)))) | fail "no")
  k_with "call ref" => (first | (k_here; k_dflt (refine' useT (ratio_tell _ _ _ _ _ _ ?ha ?hb) ?q1 ?q2 ?q3 ?q4 ?q5 ?q6 ?q7 ?q8 ?_; (case q1 | q2 | q3 | q4 | q5 => k_asm); (case q6 => first | exact rfl | assumption); (case q7 => ktr_room); (case q8 => ktr_units); (case ha | hb => omega); intro D9 p9 q9 t9 u9 h9 tk9 hP9 F9 N9 l9; (have hq9 := hP9.pos); (have hb9 := hP9.dvd); (have hc9 := hP9.bd (by omega)); (try dsimp only [AllLt] at l9); (try revert hc9); (try revert hb9); (try revert hq9); revert D9 p9 q9 t9 u9 h9 tk9 hP9 F9 N9 l9; intros; ((try dsimp only); (try k_sweep)))) | fail "no")
  k_with "call ref" => (first | (k_here; k_dflt (refine' useTE (whole_tell _ _ _ _) ?q1 ?q2 ?q3 ?q4 ?q5 ?q6 ?q7 ?q8 ?_; (case q1 | q2 | q3 | q4 | q5 => k_asm); (case q6 => first | exact rfl | assumption); (case q7 => ktr_room); (case q8 => ktr_units); intro D9 t9 u9 h9 tk9 F9 N9 l9; (try dsimp only [AllLt] at l9); revert D9 t9 u9 h9 tk9 F9 N9 l9; intros; ((try dsimp only); (try k_sweep)))) | fail "no")
  k_with "call ref" => (first | (k_here; k_dflt (refine' useI (floor_tell _ _ _ _ _ _ _ ?hA ?ha ?hb) ?q1 ?q2 ?q3 ?q4 ?q5 ?q6 ?q7 ?q8 ?_; (case q1 | q2 | q3 | q4 | q5 => k_asm); (case q6 => first | exact rfl | assumption); (case q7 => ktr_room); (case q8 => ktr_units); (case hA => k_mem); (case ha | hb => omega); intro t9 h9 tk9 F9 N9; revert t9 h9 tk9 F9 N9; intros; ((try dsimp only); (try k_sweep)))) | fail "no")
  k_with "call ref" => (first | (k_here; k_dflt (refine' useI (ceil_tell _ _ _ _ _ _ _ ?hA ?ha ?hb) ?q1 ?q2 ?q3 ?q4 ?q5 ?q6 ?q7 ?q8 ?_; (case q1 | q2 | q3 | q4 | q5 => k_asm); (case q6 => first | exact rfl | assumption); (case q7 => ktr_room); (case q8 => ktr_units); (case hA => k_mem); (case ha | hb => omega); intro t9 h9 tk9 F9 N9; revert t9 h9 tk9 F9 N9; intros; ((try dsimp only); (try k_sweep)))) | fail "no")
  k_with "call ref" => (first | (k_here; k_dflt (refine' useB (iswhole_tell _ _ _ _ _ _ _ ?hA) ?q1 ?q2 ?q3 ?q4 ?q5 ?q6 ?q7 ?q8 ?_; (case q1 | q2 | q3 | q4 | q5 => k_asm); (case q6 => first | exact rfl | assumption); (case q7 => ktr_room); (case q8 => ktr_units); (case hA => k_mem); intro h9 tk9 F9 N9; revert h9 tk9 F9 N9; intros; ((try dsimp only); (try k_sweep)))) | fail "no")
  k_with "call ref" => (first | (k_here; k_dflt (refine' useI (compare_tell _ _ _ _ _ _ _ _ _ _ _ _ ?hA ?hC ?ha ?hb) ?q1 ?q2 ?q3 ?q4 ?q5 ?q6 ?q7 ?q8 ?_; (case q1 | q2 | q3 | q4 | q5 => k_asm); (case q6 => first | exact rfl | assumption); (case q7 => ktr_room); (case q8 => ktr_units); (case hA | hC => k_mem); (case ha | hb => omega); intro t9 h9 tk9 F9 N9; revert t9 h9 tk9 F9 N9; intros; ((try dsimp only); (try k_sweep)))) | fail "no")
  k_with "call ref" => (first | (k_here; k_dflt (refine' useTE (neg_tell _ _ _ _ _ _ _ ?hA) ?q1 ?q2 ?q3 ?q4 ?q5 ?q6 ?q7 ?q8 ?_; (case q1 | q2 | q3 | q4 | q5 => k_asm); (case q6 => first | exact rfl | assumption); (case q7 => ktr_room); (case q8 => ktr_units); (case hA => k_mem); intro D9 t9 u9 h9 tk9 F9 N9 l9; (try dsimp only [AllLt] at l9); revert D9 t9 u9 h9 tk9 F9 N9 l9; intros; ((try dsimp only); (try k_sweep)))) | fail "no")
  k_with "call ref" => (first | (k_here; k_dflt (refine' useT (add_tell _ _ _ _ _ _ _ _ _ _ _ _ ?hA ?hC ?ha ?hb) ?q1 ?q2 ?q3 ?q4 ?q5 ?q6 ?q7 ?q8 ?_; (case q1 | q2 | q3 | q4 | q5 => k_asm); (case q6 => first | exact rfl | assumption); (case q7 => ktr_room); (case q8 => ktr_units); (case hA | hC => k_mem); (case ha | hb => omega); intro D9 p9 q9 t9 u9 h9 tk9 hP9 F9 N9 l9; (have hq9 := hP9.pos); (have hb9 := hP9.dvd); (try (have hc9 := hP9.bd (by omega))); (try dsimp only [AllLt] at l9); (try revert hc9); (try revert hb9); (try revert hq9); revert D9 p9 q9 t9 u9 h9 tk9 hP9 F9 N9 l9; intros; ((try dsimp only); (try k_sweep)))) | fail "no")
  k_with "call ref" => (first | (k_here; k_dflt (refine' useT (sub_tell _ _ _ _ _ _ _ _ _ _ _ _ ?hA ?hC ?ha ?hb) ?q1 ?q2 ?q3 ?q4 ?q5 ?q6 ?q7 ?q8 ?_; (case q1 | q2 | q3 | q4 | q5 => k_asm); (case q6 => first | exact rfl | assumption); (case q7 => ktr_room); (case q8 => ktr_units); (case hA | hC => k_mem); (case ha | hb => omega); intro D9 p9 q9 t9 u9 h9 tk9 hP9 F9 N9 l9; (have hq9 := hP9.pos); (have hb9 := hP9.dvd); (try (have hc9 := hP9.bd (by omega))); (try dsimp only [AllLt] at l9); (try revert hc9); (try revert hb9); (try revert hq9); revert D9 p9 q9 t9 u9 h9 tk9 hP9 F9 N9 l9; intros; ((try dsimp only); (try k_sweep)))) | fail "no")
  k_with "all" => (first | (first | assumption | exact ne_of_allLt (by assumption) (by first | exact Nat.le_refl _ | exact Nat.le_succ _ | exact bdU2 | exact bdU | omega)) | fail "no")
  k_with "call ref" => (first | (k_here; k_dflt (refine' useN ?ho ?hi ?hlen ?h0 ?hm ?q1 ?q2 ?q3 ?q4 ?q5 ?q6 ?q7 ?q8 ?U ?hne ?hl ?_; (case q1 | q2 | q3 | q4 | q5 => k_asm); (case q6 => first | exact rfl | assumption); (case q7 => ktr_room); (case q8 => ktr_units); (case U => k_updF); (case ho => assumption); (case hne => k_ne); (case hl => k_mem); (case hi => assumption); (case hlen => assumption); (case h0 => omega); (case hm => omega); intro v9 t9 o9 h9 tk9 hv9 hT9 F9 N9; revert v9 t9 o9 h9 tk9 hv9 hT9 F9 N9; intros; ((try dsimp only); (try k_sweep)))) | fail "no")
  k_with "call ref" => (first | (k_here; k_dflt (refine' useI (bottom_tell _ _ _ _ _ _ ?hl ?hp ?hq) ?q1 ?q2 ?q3 ?q4 ?q5 ?q6 ?q7 ?q8 ?_; (case q1 | q2 | q3 | q4 | q5 => k_asm); (case q6 => first | exact rfl | assumption); (case q7 => ktr_room); (case q8 => ktr_units); (case hl => k_mem); (case hp => first | assumption | first | exact PairsAre.nil | (refine' PairsAre.cons ?hmm PairsAre.nil; (case hmm => k_mem))); (case hq => first | assumption | (intro r9 hr9; (simp only [List.mem_cons, List.not_mem_nil, or_false] at hr9); subst hr9; dsimp only; omega)); intro t9 h9 tk9 F9 N9; revert t9 h9 tk9 F9 N9; intros; ((try dsimp only); (try k_sweep)))) | fail "no")
  refine wpAny_call ?_
  k_dflt ktr_enter
  (rename Fr _ _ _ _ => F0); replace F0 := frAs (fun y => List.lookup y [(Str.ofString "r", Value.ref A)]) F0 (by with_unfolding_all exact Eq.refl (fun y => List.lookup y [(Str.ofString "r", Value.ref A)]))
  (refine letA ?_); intro A9
  (repeat' (first | (k_unfold; (try dsimp only)) | walk1 | (dsimp only; walk1) | (leave1; (try dsimp only)) | (refine Then.next hQ9 ?_; clear hQ9; (try clear Q9)) | (refine Then.ret hQ9 ?_; clear hQ9; (try clear Q9)) | (refine Then.brk hQ9 ?_; clear hQ9; (try clear Q9)) | (refine Then.cont hQ9 ?_; clear hQ9; (try clear Q9)) | fail "no step"))
  exact endO hret (by assumption) (by assumption) (fun p hp => hp) (allLt_of (by assumption))
theorem cmp_above_tell (w : World) (news : List (Addr × Obj)) : Tell w 3 116 [.ref 52, .ref 51] news (fun r nx => (∃ t, r = .int 1 t) ∧ nx = news) := by
  w_top off
  unfold Tell
  k_fill
  intro mean mg mb dp un gd cn cs ad ccd cl outer A₀ base h₀ L m s Q E B F X N T hk hd hu hret
  k_with_none
  k_with "lt" => ((with_reducible rename ∀ p ∈ (_ : List (Addr × Obj)), p.1 < (_ : Addr) => hlt); replace hlt := allLt_of hlt; (dsimp only [AllLt] at hlt); revert hlt; intros)
  k_with "room" => (k_dflt (first | exact rm2 (by assumption) (by rfl) | exact rm1 (by assumption) (by rfl) | exact rm3 (by assumption) (by rfl) | exact rm0 (by assumption) | fail "no"))
  k_with "arm" => (first | assumption | (with_reducible first | exact arm0 (by assumption) | exact arm1 (by assumption) | exact arm2 (by assumption) | exact arm3 (by assumption) | exact arm4 (by assumption) | exact arm5 (by assumption) | exact arm6 (by assumption) | exact arm7 (by assumption) | exact arm8 (by assumption) | exact arm9 (by assumption) | exact arm10 (by assumption) | exact arm11 (by assumption) | exact arm12 (by assumption) | exact arm13 (by assumption) | exact And.left (arm0 (by assumption)) | exact And.left (And.right (arm0 (by assumption))) | exact And.right (And.right (arm0 (by assumption))) | exact And.left (arm1 (by assumption)) | exact And.left (And.right (arm1 (by assumption))) | exact And.right (And.right (arm1 (by assumption))) | exact And.left (arm2 (by assumption)) | exact And.left (And.right (arm2 (by assumption))) | exact And.right (And.right (arm2 (by assumption))) | exact And.left (arm3 (by assumption)) | exact And.left (And.right (arm3 (by assumption))) | exact And.right (And.right (arm3 (by assumption))) | exact And.left (arm4 (by assumption)) | exact And.left (And.right (arm4 (by assumption))) | exact And.right (And.right (arm4 (by assumption))) | exact And.left (arm5 (by assumption)) | exact And.left (And.right (arm5 (by assumption))) | exact And.right (And.right (arm5 (by assumption))) | exact And.left (arm6 (by assumption)) | exact And.left (And.right (arm6 (by assumption))) | exact And.right (And.right (arm6 (by assumption))) | exact And.left (arm7 (by assumption)) | exact And.left (And.right (arm7 (by assumption))) | exact And.right (And.right (arm7 (by assumption))) | exact Nat.lt_add_one _ | fail "no") | (with_reducible refine Nat.lt_add_right _ ?_; mod_arm) | fail "no")
  k_with "ne" => (k_dflt (first | assumption | exact Ne.symm (by assumption) | (refine neN ?_; (try dsimp only); first | assumption | exact Ne.symm (by assumption) | exact Nat.ne_of_lt (by mod_arm) | exact Nat.ne_of_gt (by mod_arm) | mod_arm | exact Ne.symm (by mod_arm) | fail "no") | fail "no"))
  k_with "om" => (first | (with_reducible first | assumption | exact Ne.symm (by assumption) | exact bdA (by assumption) | exact bdB (by assumption) (by k_dflt rfl) | exact bdC (by assumption) | exact bdD (by assumption) (by k_dflt rfl) | exact bdE (by assumption) | exact bdF (by assumption) (by k_dflt rfl) | exact bdG (by assumption) (by k_dflt rfl) | exact bdH (by assumption) (by k_dflt rfl) | exact bdI (by assumption) | exact bdJ (by assumption) (by k_dflt rfl) | exact bdK (by assumption) | exact bdO (by assumption) | exact bdP (by assumption) (by k_dflt rfl) | exact bdO0 (by assumption) | exact bdP0 (by assumption) (by k_dflt rfl) | exact bdV (by assumption) | exact bdS0 (by assumption) | exact bdS1 (by assumption) | exact bdS2 (by assumption) | exact bdS3 (by assumption) | exact bdQ (by assumption) (by assumption) (by assumption) | exact bdQ2 (by assumption) (by assumption) (by assumption) (by k_dflt rfl) | exact bdQ3 (by assumption) (by assumption) (by assumption) (by assumption) (by assumption) | exact bdQ4 (by assumption) (by assumption) (by assumption) | exact bdQ5 (by assumption) (by assumption) (by assumption) (by k_dflt rfl) | exact bdNA (by assumption) | exact bdW (by assumption) (by k_dflt rfl) | exact bdX2 (by assumption) (by k_dflt rfl) | exact bdX3 (by assumption) (by k_dflt rfl) | exact bdX4 (by assumption) (by k_dflt rfl) | exact bdX5 (by assumption) (by k_dflt rfl) | exact bdT0 (by assumption) | exact bdT1 (by assumption) | exact bdR2 | exact bdR1 (by assumption) (by k_dflt rfl) | exact Nat.ne_of_lt (by mod_arm) | exact Nat.ne_of_gt (by mod_arm) | exact Ne.symm (by mod_arm) | mod_arm | fail "no") | ((with_reducible refine And.intro ?_ ?_) <;> omega) | ((with_reducible (first | (rename @Ne _ _ _ => hz9; clear hz9) | (rename And (@Ne _ _ _) _ => hz9; clear hz9) | (rename And (And (@Ne _ _ _) _) _ => hz9; clear hz9)); (repeat (with_reducible first | (rename @Ne _ _ _ => hz9; clear hz9) | (rename And (@Ne _ _ _) _ => hz9; clear hz9) | (rename And (And (@Ne _ _ _) _) _ => hz9; clear hz9))); omega)) | fail "no")
  k_with "eval Call" => (refine Call_ ?_)
  k_with "eval Name" => (k_here; k_dflt (refine' nameX_L ?F ?v ?_ ?a ?b; (case F => k_asm); (case a => rfl); (case b => rfl); (case v => first | rfl | exact hr9 _ rfl | exact hr8 _ rfl | exact (hr9 _ rfl).trans (hr8 _ rfl)); k_whole))
  k_with "storeName" => (k_here; dsimp only)
  k_with "newTuple" => (k_here; dsimp only)
  k_with "newList" => (k_here; dsimp only)
  k_with "LeaveK" => (k_here; dsimp only)
  k_with "ite" => (k_here; dsimp only)
  k_with "execs cons" => (k_here; first | k_gentoks | ((try dsimp only); refine execs_cut ?_; intro Q9 hQ9))
  k_with "call ref" => (first | (k_here; k_dflt (refine' useI (gcd_tell _ _ _ _ _ _) ?q1 ?q2 ?q3 ?q4 ?q5 ?q6 ?q7 ?q8 ?_; (case q1 | q2 | q3 | q4 | q5 => k_asm); (case q6 => first | exact rfl | assumption); (case q7 => ktr_room); (case q8 => ktr_units); intro t9 h9 tk9 F9 N9; revert t9 h9 tk9 F9 N9; intros; ((try dsimp only); (try k_sweep)))) | fail "no")
  k_with "call ref" => (first | (k_here; k_dflt (refine' useI (gcd_all_tell _ _ _ _ _ _ ?hl ?hi) ?q1 ?q2 ?q3 ?q4 ?q5 ?q6 ?q7 ?q8 ?_; (case q1 | q2 | q3 | q4 | q5 => k_asm); (case q6 => first | exact rfl | assumption); (case q7 => ktr_room); (case q8 => ktr_units); (case hl => k_mem); (case hi => l_ints); intro t9 h9 tk9 F9 N9; revert t9 h9 tk9 F9 N9; intros; ((try dsimp only); (try k_sweep)))) | fail "no")
  k_with "call ref" => (first | (k_here; k_dflt (refine' useI (lcm_tell _ _ _ _ _ _ ?ha ?hb) ?q1 ?q2 ?q3 ?q4 ?q5 ?q6 ?q7 ?q8 ?_; (case q1 | q2 | q3 | q4 | q5 => k_asm); (case q6 => first | exact rfl | assumption); (case q7 => ktr_room); (case q8 => ktr_units); (case ha | hb => omega); intro t9 h9 tk9 F9 N9; (try simp only [Int.zero_sub, Int.neg_lcm, Int.lcm_neg]); revert t9 h9 tk9 F9 N9; intros; ((try dsimp only); (try k_sweep)))) | fail "no")
  k_with "call ref" => (first | (k_here; k_dflt (refine' useT (ratio_tell _ _ _ _ _ _ ?ha ?hb) ?q1 ?q2 ?q3 ?q4 ?q5 ?q6 ?q7 ?q8 ?_; (case q1 | q2 | q3 | q4 | q5 => k_asm); (case q6 => first | exact rfl | assumption); (case q7 => ktr_room); (case q8 => ktr_units); (case ha | hb => omega); intro D9 p9 q9 t9 u9 h9 tk9 hP9 F9 N9 l9; (have hq9 := hP9.pos); (have hb9 := hP9.dvd); (have hc9 := hP9.bd (by omega)); (try dsimp only [AllLt] at l9); (try revert hc9); (try revert hb9); (try revert hq9); revert D9 p9 q9 t9 u9 h9 tk9 hP9 F9 N9 l9; intros; ((try dsimp only); (try k_sweep)))) | fail "no")
  k_with "call ref" => (first | (k_here; k_dflt (refine' useTE (whole_tell _ _ _ _) ?q1 ?q2 ?q3 ?q4 ?q5 ?q6 ?q7 ?q8 ?_; (case q1 | q2 | q3 | q4 | q5 => k_asm); (case q6 => first | exact rfl | assumption); (case q7 => ktr_room); (case q8 => ktr_units); intro D9 t9 u9 h9 tk9 F9 N9 l9; (try dsimp only [AllLt] at l9); revert D9 t9 u9 h9 tk9 F9 N9 l9; intros; ((try dsimp only); (try k_sweep)))) | fail "no")
  k_with "call ref" => (first | (k_here; k_dflt (refine' useI (floor_tell _ _ _ _ _ _ _ ?hA ?ha ?hb) ?q1 ?q2 ?q3 ?q4 ?q5 ?q6 ?q7 ?q8 ?_; (case q1 | q2 | q3 | q4 | q5 => k_asm); (case q6 => first | exact rfl | assumption); (case q7 => ktr_room); (case q8 => ktr_units); (case hA => k_mem); (case ha | hb => omega); intro t9 h9 tk9 F9 N9; revert t9 h9 tk9 F9 N9; intros; ((try dsimp only); (try k_sweep)))) | fail "no")
  k_with "call ref" => (first | (k_here; k_dflt (refine' useI (ceil_tell _ _ _ _ _ _ _ ?hA ?ha ?hb) ?q1 ?q2 ?q3 ?q4 ?q5 ?q6 ?q7 ?q8 ?_; (case q1 | q2 | q3 | q4 | q5 => k_asm); (case q6 => first | exact rfl | assumption); (case q7 => ktr_room); (case q8 => ktr_units); (case hA => k_mem); (case ha | hb => omega); intro t9 h9 tk9 F9 N9; revert t9 h9 tk9 F9 N9; intros; ((try dsimp only); (try k_sweep)))) | fail "no")
  k_with "call ref" => (first | (k_here; k_dflt (refine' useB (iswhole_tell _ _ _ _ _ _ _ ?hA) ?q1 ?q2 ?q3 ?q4 ?q5 ?q6 ?q7 ?q8 ?_; (case q1 | q2 | q3 | q4 | q5 => k_asm); (case q6 => first | exact rfl | assumption); (case q7 => ktr_room); (case q8 => ktr_units); (case hA => k_mem); intro h9 tk9 F9 N9; revert h9 tk9 F9 N9; intros; ((try dsimp only); (try k_sweep)))) | fail "no")
  k_with "call ref" => (first | (k_here; k_dflt (refine' useI (compare_tell _ _ _ _ _ _ _ _ _ _ _ _ ?hA ?hC ?ha ?hb) ?q1 ?q2 ?q3 ?q4 ?q5 ?q6 ?q7 ?q8 ?_; (case q1 | q2 | q3 | q4 | q5 => k_asm); (case q6 => first | exact rfl | assumption); (case q7 => ktr_room); (case q8 => ktr_units); (case hA | hC => k_mem); (case ha | hb => omega); intro t9 h9 tk9 F9 N9; revert t9 h9 tk9 F9 N9; intros; ((try dsimp only); (try k_sweep)))) | fail "no")
  k_with "call ref" => (first | (k_here; k_dflt (refine' useTE (neg_tell _ _ _ _ _ _ _ ?hA) ?q1 ?q2 ?q3 ?q4 ?q5 ?q6 ?q7 ?q8 ?_; (case q1 | q2 | q3 | q4 | q5 => k_asm); (case q6 => first | exact rfl | assumption); (case q7 => ktr_room); (case q8 => ktr_units); (case hA => k_mem); intro D9 t9 u9 h9 tk9 F9 N9 l9; (try dsimp only [AllLt] at l9); revert D9 t9 u9 h9 tk9 F9 N9 l9; intros; ((try dsimp only); (try k_sweep)))) | fail "no")
  k_with "call ref" => (first | (k_here; k_dflt (refine' useT (add_tell _ _ _ _ _ _ _ _ _ _ _ _ ?hA ?hC ?ha ?hb) ?q1 ?q2 ?q3 ?q4 ?q5 ?q6 ?q7 ?q8 ?_; (case q1 | q2 | q3 | q4 | q5 => k_asm); (case q6 => first | exact rfl | assumption); (case q7 => ktr_room); (case q8 => ktr_units); (case hA | hC => k_mem); (case ha | hb => omega); intro D9 p9 q9 t9 u9 h9 tk9 hP9 F9 N9 l9; (have hq9 := hP9.pos); (have hb9 := hP9.dvd); (try (have hc9 := hP9.bd (by omega))); (try dsimp only [AllLt] at l9); (try revert hc9); (try revert hb9); (try revert hq9); revert D9 p9 q9 t9 u9 h9 tk9 hP9 F9 N9 l9; intros; ((try dsimp only); (try k_sweep)))) | fail "no")
  k_with "call ref" => (first | (k_here; k_dflt (refine' useT (sub_tell _ _ _ _ _ _ _ _ _ _ _ _ ?hA ?hC ?ha ?hb) ?q1 ?q2 ?q3 ?q4 ?q5 ?q6 ?q7 ?q8 ?_; (case q1 | q2 | q3 | q4 | q5 => k_asm); (case q6 => first | exact rfl | assumption); (case q7 => ktr_room); (case q8 => ktr_units); (case hA | hC => k_mem); (case ha | hb => omega); intro D9 p9 q9 t9 u9 h9 tk9 hP9 F9 N9 l9; (have hq9 := hP9.pos); (have hb9 := hP9.dvd); (try (have hc9 := hP9.bd (by omega))); (try dsimp only [AllLt] at l9); (try revert hc9); (try revert hb9); (try revert hq9); revert D9 p9 q9 t9 u9 h9 tk9 hP9 F9 N9 l9; intros; ((try dsimp only); (try k_sweep)))) | fail "no")
  k_with "all" => (first | (first | assumption | exact ne_of_allLt (by assumption) (by first | exact Nat.le_refl _ | exact Nat.le_succ _ | exact bdU2 | exact bdU | omega)) | fail "no")
  k_with "call ref" => (first | (k_here; k_dflt (refine' useN ?ho ?hi ?hlen ?h0 ?hm ?q1 ?q2 ?q3 ?q4 ?q5 ?q6 ?q7 ?q8 ?U ?hne ?hl ?_; (case q1 | q2 | q3 | q4 | q5 => k_asm); (case q6 => first | exact rfl | assumption); (case q7 => ktr_room); (case q8 => ktr_units); (case U => k_updF); (case ho => assumption); (case hne => k_ne); (case hl => k_mem); (case hi => assumption); (case hlen => assumption); (case h0 => omega); (case hm => omega); intro v9 t9 o9 h9 tk9 hv9 hT9 F9 N9; revert v9 t9 o9 h9 tk9 hv9 hT9 F9 N9; intros; ((try dsimp only); (try k_sweep)))) | fail "no")
  k_with "call ref" => (first | (k_here; k_dflt (refine' useI (bottom_tell _ _ _ _ _ _ ?hl ?hp ?hq) ?q1 ?q2 ?q3 ?q4 ?q5 ?q6 ?q7 ?q8 ?_; (case q1 | q2 | q3 | q4 | q5 => k_asm); (case q6 => first | exact rfl | assumption); (case q7 => ktr_room); (case q8 => ktr_units); (case hl => k_mem); (case hp => first | assumption | first | exact PairsAre.nil | (refine' PairsAre.cons ?hmm PairsAre.nil; (case hmm => k_mem))); (case hq => first | assumption | (intro r9 hr9; (simp only [List.mem_cons, List.not_mem_nil, or_false] at hr9); subst hr9; dsimp only; omega)); intro t9 h9 tk9 F9 N9; revert t9 h9 tk9 F9 N9; intros; ((try dsimp only); (try k_sweep)))) | fail "no")
  refine wpAny_call ?_
  k_dflt ktr_enter
  (rename Fr _ _ _ _ => F0); replace F0 := frAs (fun y => List.lookup y [(Str.ofString "b", Value.ref 51), (Str.ofString "a", Value.ref 52)]) F0 (by with_unfolding_all exact Eq.refl (fun y => List.lookup y [(Str.ofString "b", Value.ref 51), (Str.ofString "a", Value.ref 52)]))
  (refine letA ?_); intro A9
  (repeat' (first | (k_unfold; (try dsimp only)) | walk1 | (dsimp only; walk1) | (leave1; (try dsimp only)) | (refine Then.next hQ9 ?_; clear hQ9; (try clear Q9)) | (refine Then.ret hQ9 ?_; clear hQ9; (try clear Q9)) | (refine Then.brk hQ9 ?_; clear hQ9; (try clear Q9)) | (refine Then.cont hQ9 ?_; clear hQ9; (try clear Q9)) | fail "no step"))
  exact endI hret (by assumption) (by assumption) (fun p hp => .tail _ hp) (by decide)
theorem cmp_below_tell (w : World) (news : List (Addr × Obj)) : Tell w 3 116 [.ref 51, .ref 53] news (fun r nx => (∃ t, r = .int 1 t) ∧ nx = news) := by
  w_top off
  unfold Tell
  k_fill
  intro mean mg mb dp un gd cn cs ad ccd cl outer A₀ base h₀ L m s Q E B F X N T hk hd hu hret
  k_with_none
  k_with "lt" => ((with_reducible rename ∀ p ∈ (_ : List (Addr × Obj)), p.1 < (_ : Addr) => hlt); replace hlt := allLt_of hlt; (dsimp only [AllLt] at hlt); revert hlt; intros)
  k_with "room" => (k_dflt (first | exact rm2 (by assumption) (by rfl) | exact rm1 (by assumption) (by rfl) | exact rm3 (by assumption) (by rfl) | exact rm0 (by assumption) | fail "no"))
  k_with "arm" => (first | assumption | (with_reducible first | exact arm0 (by assumption) | exact arm1 (by assumption) | exact arm2 (by assumption) | exact arm3 (by assumption) | exact arm4 (by assumption) | exact arm5 (by assumption) | exact arm6 (by assumption) | exact arm7 (by assumption) | exact arm8 (by assumption) | exact arm9 (by assumption) | exact arm10 (by assumption) | exact arm11 (by assumption) | exact arm12 (by assumption) | exact arm13 (by assumption) | exact And.left (arm0 (by assumption)) | exact And.left (And.right (arm0 (by assumption))) | exact And.right (And.right (arm0 (by assumption))) | exact And.left (arm1 (by assumption)) | exact And.left (And.right (arm1 (by assumption))) | exact And.right (And.right (arm1 (by assumption))) | exact And.left (arm2 (by assumption)) | exact And.left (And.right (arm2 (by assumption))) | exact And.right (And.right (arm2 (by assumption))) | exact And.left (arm3 (by assumption)) | exact And.left (And.right (arm3 (by assumption))) | exact And.right (And.right (arm3 (by assumption))) | exact And.left (arm4 (by assumption)) | exact And.left (And.right (arm4 (by assumption))) | exact And.right (And.right (arm4 (by assumption))) | exact And.left (arm5 (by assumption)) | exact And.left (And.right (arm5 (by assumption))) | exact And.right (And.right (arm5 (by assumption))) | exact And.left (arm6 (by assumption)) | exact And.left (And.right (arm6 (by assumption))) | exact And.right (And.right (arm6 (by assumption))) | exact And.left (arm7 (by assumption)) | exact And.left (And.right (arm7 (by assumption))) | exact And.right (And.right (arm7 (by assumption))) | exact Nat.lt_add_one _ | fail "no") | (with_reducible refine Nat.lt_add_right _ ?_; mod_arm) | fail "no")
  k_with "ne" => (k_dflt (first | assumption | exact Ne.symm (by assumption) | (refine neN ?_; (try dsimp only); first | assumption | exact Ne.symm (by assumption) | exact Nat.ne_of_lt (by mod_arm) | exact Nat.ne_of_gt (by mod_arm) | mod_arm | exact Ne.symm (by mod_arm) | fail "no") | fail "no"))
  k_with "om" => (first | (with_reducible first | assumption | exact Ne.symm (by assumption) | exact bdA (by assumption) | exact bdB (by assumption) (by k_dflt rfl) | exact bdC (by assumption) | exact bdD (by assumption) (by k_dflt rfl) | exact bdE (by assumption) | exact bdF (by assumption) (by k_dflt rfl) | exact bdG (by assumption) (by k_dflt rfl) | exact bdH (by assumption) (by k_dflt rfl) | exact bdI (by assumption) | exact bdJ (by assumption) (by k_dflt rfl) | exact bdK (by assumption) | exact bdO (by assumption) | exact bdP (by assumption) (by k_dflt rfl) | exact bdO0 (by assumption) | exact bdP0 (by assumption) (by k_dflt rfl) | exact bdV (by assumption) | exact bdS0 (by assumption) | exact bdS1 (by assumption) | exact bdS2 (by assumption) | exact bdS3 (by assumption) | exact bdQ (by assumption) (by assumption) (by assumption) | exact bdQ2 (by assumption) (by assumption) (by assumption) (by k_dflt rfl) | exact bdQ3 (by assumption) (by assumption) (by assumption) (by assumption) (by assumption) | exact bdQ4 (by assumption) (by assumption) (by assumption) | exact bdQ5 (by assumption) (by assumption) (by assumption) (by k_dflt rfl) | exact bdNA (by assumption) | exact bdW (by assumption) (by k_dflt rfl) | exact bdX2 (by assumption) (by k_dflt rfl) | exact bdX3 (by assumption) (by k_dflt rfl) | exact bdX4 (by assumption) (by k_dflt rfl) | exact bdX5 (by assumption) (by k_dflt rfl) | exact bdT0 (by assumption) | exact bdT1 (by assumption) | exact bdR2 | exact bdR1 (by assumption) (by k_dflt rfl) | exact Nat.ne_of_lt (by mod_arm) | exact Nat.ne_of_gt (by mod_arm) | exact Ne.symm (by mod_arm) | mod_arm | fail "no") | ((with_reducible refine And.intro ?_ ?_) <;> omega) | ((with_reducible (first | (rename @Ne _ _ _ => hz9; clear hz9) | (rename And (@Ne _ _ _) _ => hz9; clear hz9) | (rename And (And (@Ne _ _ _) _) _ => hz9; clear hz9)); (repeat (with_reducible first | (rename @Ne _ _ _ => hz9; clear hz9) | (rename And (@Ne _ _ _) _ => hz9; clear hz9) | (rename And (And (@Ne _ _ _) _) _ => hz9; clear hz9))); omega)) | fail "no")
  k_with "eval Call" => (refine Call_ ?_)
  k_with "eval Name" => (k_here; k_dflt (refine' nameX_L ?F ?v ?_ ?a ?b; (case F => k_asm); (case a => rfl); (case b => rfl); (case v => first | rfl | exact hr9 _ rfl | exact hr8 _ rfl | exact (hr9 _ rfl).trans (hr8 _ rfl)); k_whole))
  k_with "storeName" => (k_here; dsimp only)
  k_with "newTuple" => (k_here; dsimp only)
  k_with "newList" => (k_here; dsimp only)
  k_with "LeaveK" => (k_here; dsimp only)
  k_with "ite" => (k_here; dsimp only)
  k_with "execs cons" => (k_here; first | k_gentoks | ((try dsimp only); refine execs_cut ?_; intro Q9 hQ9))
  k_with "call ref" => (first | (k_here; k_dflt (refine' useI (gcd_tell _ _ _ _ _ _) ?q1 ?q2 ?q3 ?q4 ?q5 ?q6 ?q7 ?q8 ?_; (case q1 | q2 | q3 | q4 | q5 => k_asm); (case q6 => first | exact rfl | assumption); (case q7 => ktr_room); (case q8 => ktr_units); intro t9 h9 tk9 F9 N9; revert t9 h9 tk9 F9 N9; intros; ((try dsimp only); (try k_sweep)))) | fail "no")
  k_with "call ref" => (first | (k_here; k_dflt (refine' useI (gcd_all_tell _ _ _ _ _ _ ?hl ?hi) ?q1 ?q2 ?q3 ?q4 ?q5 ?q6 ?q7 ?q8 ?_; (case q1 | q2 | q3 | q4 | q5 => k_asm); (case q6 => first | exact rfl | assumption); (case q7 => ktr_room); (case q8 => ktr_units); (case hl => k_mem); (case hi => l_ints); intro t9 h9 tk9 F9 N9; revert t9 h9 tk9 F9 N9; intros; ((try dsimp only); (try k_sweep)))) | fail "no")
  k_with "call ref" => (first | (k_here; k_dflt (refine' useI (lcm_tell _ _ _ _ _ _ ?ha ?hb) ?q1 ?q2 ?q3 ?q4 ?q5 ?q6 ?q7 ?q8 ?_; (case q1 | q2 | q3 | q4 | q5 => k_asm); (case q6 => first | exact rfl | assumption); (case q7 => ktr_room); (case q8 => ktr_units); (case ha | hb => omega); intro t9 h9 tk9 F9 N9; (try simp only [Int.zero_sub, Int.neg_lcm, Int.lcm_neg]); revert t9 h9 tk9 F9 N9; intros; ((try dsimp only); (try k_sweep)))) | fail "no")
  k_with "call ref" => (first | (k_here; k_dflt (refine' useT (ratio_tell _ _ _ _ _ _ ?ha ?hb) ?q1 ?q2 ?q3 ?q4 ?q5 ?q6 ?q7 ?q8 ?_; (case q1 | q2 | q3 | q4 | q5 => k_asm); (case q6 => first | exact rfl | assumption); (case q7 => ktr_room); (case q8 => ktr_units); (case ha | hb => omega); intro D9 p9 q9 t9 u9 h9 tk9 hP9 F9 N9 l9; (have hq9 := hP9.pos); (have hb9 := hP9.dvd); (have hc9 := hP9.bd (by omega)); (try dsimp only [AllLt] at l9); (try revert hc9); (try revert hb9); (try revert hq9); revert D9 p9 q9 t9 u9 h9 tk9 hP9 F9 N9 l9; intros; ((try dsimp only); (try k_sweep)))) | fail "no")
  k_with "call ref" => (first | (k_here; k_dflt (refine' useTE (whole_tell _ _ _ _) ?q1 ?q2 ?q3 ?q4 ?q5 ?q6 ?q7 ?q8 ?_; (case q1 | q2 | q3 | q4 | q5 => k_asm); (case q6 => first | exact rfl | assumption); (case q7 => ktr_room); (case q8 => ktr_units); intro D9 t9 u9 h9 tk9 F9 N9 l9; (try dsimp only [AllLt] at l9); revert D9 t9 u9 h9 tk9 F9 N9 l9; intros; ((try dsimp only); (try k_sweep)))) | fail "no")
  k_with "call ref" => (first | (k_here; k_dflt (refine' useI (floor_tell _ _ _ _ _ _ _ ?hA ?ha ?hb) ?q1 ?q2 ?q3 ?q4 ?q5 ?q6 ?q7 ?q8 ?_; (case q1 | q2 | q3 | q4 | q5 => k_asm); (case q6 => first | exact rfl | assumption); (case q7 => ktr_room); (case q8 => ktr_units); (case hA => k_mem); (case ha | hb => omega); intro t9 h9 tk9 F9 N9; revert t9 h9 tk9 F9 N9; intros; ((try dsimp only); (try k_sweep)))) | fail "no")
  k_with "call ref" => (first | (k_here; k_dflt (refine' useI (ceil_tell _ _ _ _ _ _ _ ?hA ?ha ?hb) ?q1 ?q2 ?q3 ?q4 ?q5 ?q6 ?q7 ?q8 ?_; (case q1 | q2 | q3 | q4 | q5 => k_asm); (case q6 => first | exact rfl | assumption); (case q7 => ktr_room); (case q8 => ktr_units); (case hA => k_mem); (case ha | hb => omega); intro t9 h9 tk9 F9 N9; revert t9 h9 tk9 F9 N9; intros; ((try dsimp only); (try k_sweep)))) | fail "no")
  k_with "call ref" => (first | (k_here; k_dflt (refine' useB (iswhole_tell _ _ _ _ _ _ _ ?hA) ?q1 ?q2 ?q3 ?q4 ?q5 ?q6 ?q7 ?q8 ?_; (case q1 | q2 | q3 | q4 | q5 => k_asm); (case q6 => first | exact rfl | assumption); (case q7 => ktr_room); (case q8 => ktr_units); (case hA => k_mem); intro h9 tk9 F9 N9; revert h9 tk9 F9 N9; intros; ((try dsimp only); (try k_sweep)))) | fail "no")
  k_with "call ref" => (first | (k_here; k_dflt (refine' useI (compare_tell _ _ _ _ _ _ _ _ _ _ _ _ ?hA ?hC ?ha ?hb) ?q1 ?q2 ?q3 ?q4 ?q5 ?q6 ?q7 ?q8 ?_; (case q1 | q2 | q3 | q4 | q5 => k_asm); (case q6 => first | exact rfl | assumption); (case q7 => ktr_room); (case q8 => ktr_units); (case hA | hC => k_mem); (case ha | hb => omega); intro t9 h9 tk9 F9 N9; revert t9 h9 tk9 F9 N9; intros; ((try dsimp only); (try k_sweep)))) | fail "no")
  k_with "call ref" => (first | (k_here; k_dflt (refine' useTE (neg_tell _ _ _ _ _ _ _ ?hA) ?q1 ?q2 ?q3 ?q4 ?q5 ?q6 ?q7 ?q8 ?_; (case q1 | q2 | q3 | q4 | q5 => k_asm); (case q6 => first | exact rfl | assumption); (case q7 => ktr_room); (case q8 => ktr_units); (case hA => k_mem); intro D9 t9 u9 h9 tk9 F9 N9 l9; (try dsimp only [AllLt] at l9); revert D9 t9 u9 h9 tk9 F9 N9 l9; intros; ((try dsimp only); (try k_sweep)))) | fail "no")
  k_with "call ref" => (first | (k_here; k_dflt (refine' useT (add_tell _ _ _ _ _ _ _ _ _ _ _ _ ?hA ?hC ?ha ?hb) ?q1 ?q2 ?q3 ?q4 ?q5 ?q6 ?q7 ?q8 ?_; (case q1 | q2 | q3 | q4 | q5 => k_asm); (case q6 => first | exact rfl | assumption); (case q7 => ktr_room); (case q8 => ktr_units); (case hA | hC => k_mem); (case ha | hb => omega); intro D9 p9 q9 t9 u9 h9 tk9 hP9 F9 N9 l9; (have hq9 := hP9.pos); (have hb9 := hP9.dvd); (try (have hc9 := hP9.bd (by omega))); (try dsimp only [AllLt] at l9); (try revert hc9); (try revert hb9); (try revert hq9); revert D9 p9 q9 t9 u9 h9 tk9 hP9 F9 N9 l9; intros; ((try dsimp only); (try k_sweep)))) | fail "no")
  k_with "call ref" => (first | (k_here; k_dflt (refine' useT (sub_tell _ _ _ _ _ _ _ _ _ _ _ _ ?hA ?hC ?ha ?hb) ?q1 ?q2 ?q3 ?q4 ?q5 ?q6 ?q7 ?q8 ?_; (case q1 | q2 | q3 | q4 | q5 => k_asm); (case q6 => first | exact rfl | assumption); (case q7 => ktr_room); (case q8 => ktr_units); (case hA | hC => k_mem); (case ha | hb => omega); intro D9 p9 q9 t9 u9 h9 tk9 hP9 F9 N9 l9; (have hq9 := hP9.pos); (have hb9 := hP9.dvd); (try (have hc9 := hP9.bd (by omega))); (try dsimp only [AllLt] at l9); (try revert hc9); (try revert hb9); (try revert hq9); revert D9 p9 q9 t9 u9 h9 tk9 hP9 F9 N9 l9; intros; ((try dsimp only); (try k_sweep)))) | fail "no")
  k_with "all" => (first | (first | assumption | exact ne_of_allLt (by assumption) (by first | exact Nat.le_refl _ | exact Nat.le_succ _ | exact bdU2 | exact bdU | omega)) | fail "no")
  k_with "call ref" => (first | (k_here; k_dflt (refine' useN ?ho ?hi ?hlen ?h0 ?hm ?q1 ?q2 ?q3 ?q4 ?q5 ?q6 ?q7 ?q8 ?U ?hne ?hl ?_; (case q1 | q2 | q3 | q4 | q5 => k_asm); (case q6 => first | exact rfl | assumption); (case q7 => ktr_room); (case q8 => ktr_units); (case U => k_updF); (case ho => assumption); (case hne => k_ne); (case hl => k_mem); (case hi => assumption); (case hlen => assumption); (case h0 => omega); (case hm => omega); intro v9 t9 o9 h9 tk9 hv9 hT9 F9 N9; revert v9 t9 o9 h9 tk9 hv9 hT9 F9 N9; intros; ((try dsimp only); (try k_sweep)))) | fail "no")
  k_with "call ref" => (first | (k_here; k_dflt (refine' useI (bottom_tell _ _ _ _ _ _ ?hl ?hp ?hq) ?q1 ?q2 ?q3 ?q4 ?q5 ?q6 ?q7 ?q8 ?_; (case q1 | q2 | q3 | q4 | q5 => k_asm); (case q6 => first | exact rfl | assumption); (case q7 => ktr_room); (case q8 => ktr_units); (case hl => k_mem); (case hp => first | assumption | first | exact PairsAre.nil | (refine' PairsAre.cons ?hmm PairsAre.nil; (case hmm => k_mem))); (case hq => first | assumption | (intro r9 hr9; (simp only [List.mem_cons, List.not_mem_nil, or_false] at hr9); subst hr9; dsimp only; omega)); intro t9 h9 tk9 F9 N9; revert t9 h9 tk9 F9 N9; intros; ((try dsimp only); (try k_sweep)))) | fail "no")
  refine wpAny_call ?_
  k_dflt ktr_enter
  (rename Fr _ _ _ _ => F0); replace F0 := frAs (fun y => List.lookup y [(Str.ofString "b", Value.ref 53), (Str.ofString "a", Value.ref 51)]) F0 (by with_unfolding_all exact Eq.refl (fun y => List.lookup y [(Str.ofString "b", Value.ref 53), (Str.ofString "a", Value.ref 51)]))
  (refine letA ?_); intro A9
  (repeat' (first | (k_unfold; (try dsimp only)) | walk1 | (dsimp only; walk1) | (leave1; (try dsimp only)) | (refine Then.next hQ9 ?_; clear hQ9; (try clear Q9)) | (refine Then.ret hQ9 ?_; clear hQ9; (try clear Q9)) | (refine Then.brk hQ9 ?_; clear hQ9; (try clear Q9)) | (refine Then.cont hQ9 ?_; clear hQ9; (try clear Q9)) | fail "no step"))
  exact endI hret (by assumption) (by assumption) (fun p hp => .tail _ hp) (by decide)
theorem d_compare_tell (w : World) (D D' A C X Y : Addr) (p q r v : Int) (tp tq tr tv : Tok) (news : List (Addr × Obj)) (hD : (D, two (.ref A) (.ref X)) ∈ news) (hD' : (D', two (.ref C) (.ref Y)) ∈ news) (hA : (A, (prO p tp q tq)) ∈ news) (hC : (C, (prO r tr v tv)) ∈ news) (hq : -1000000000 < q ∧ q < 1000000000) (hv : -1000000000 < v ∧ v < 1000000000)
    (hc : ∀ news, Tell w 3 116 [.ref X, .ref Y] news (fun r' nx => (∃ t, r' = .int 1 t) ∧ nx = news)) : Tell w 8 172 [.ref D, .ref D'] news (fun r' nx => (∃ t, r' = .int (dcv (cmpv (p * v) (r * q))) t) ∧ nx = news) := by
  w_top off
  unfold Tell
  k_fill
  intro mean mg mb dp un gd cn cs ad ccd cl outer A₀ base h₀ L m s Q E B F X N T hk hd hu hret
  k_with_none
  k_with "lt" => ((with_reducible rename ∀ p ∈ (_ : List (Addr × Obj)), p.1 < (_ : Addr) => hlt); replace hlt := allLt_of hlt; (dsimp only [AllLt] at hlt); revert hlt; intros)
  k_with "room" => (k_dflt (first | exact rm2 (by assumption) (by rfl) | exact rm1 (by assumption) (by rfl) | exact rm3 (by assumption) (by rfl) | exact rm0 (by assumption) | fail "no"))
  k_with "arm" => (first | assumption | (with_reducible first | exact arm0 (by assumption) | exact arm1 (by assumption) | exact arm2 (by assumption) | exact arm3 (by assumption) | exact arm4 (by assumption) | exact arm5 (by assumption) | exact arm6 (by assumption) | exact arm7 (by assumption) | exact arm8 (by assumption) | exact arm9 (by assumption) | exact arm10 (by assumption) | exact arm11 (by assumption) | exact arm12 (by assumption) | exact arm13 (by assumption) | exact And.left (arm0 (by assumption)) | exact And.left (And.right (arm0 (by assumption))) | exact And.right (And.right (arm0 (by assumption))) | exact And.left (arm1 (by assumption)) | exact And.left (And.right (arm1 (by assumption))) | exact And.right (And.right (arm1 (by assumption))) | exact And.left (arm2 (by assumption)) | exact And.left (And.right (arm2 (by assumption))) | exact And.right (And.right (arm2 (by assumption))) | exact And.left (arm3 (by assumption)) | exact And.left (And.right (arm3 (by assumption))) | exact And.right (And.right (arm3 (by assumption))) | exact And.left (arm4 (by assumption)) | exact And.left (And.right (arm4 (by assumption))) | exact And.right (And.right (arm4 (by assumption))) | exact And.left (arm5 (by assumption)) | exact And.left (And.right (arm5 (by assumption))) | exact And.right (And.right (arm5 (by assumption))) | exact And.left (arm6 (by assumption)) | exact And.left (And.right (arm6 (by assumption))) | exact And.right (And.right (arm6 (by assumption))) | exact And.left (arm7 (by assumption)) | exact And.left (And.right (arm7 (by assumption))) | exact And.right (And.right (arm7 (by assumption))) | exact Nat.lt_add_one _ | fail "no") | (with_reducible refine Nat.lt_add_right _ ?_; mod_arm) | fail "no")
  k_with "ne" => (k_dflt (first | assumption | exact Ne.symm (by assumption) | (refine neN ?_; (try dsimp only); first | assumption | exact Ne.symm (by assumption) | exact Nat.ne_of_lt (by mod_arm) | exact Nat.ne_of_gt (by mod_arm) | mod_arm | exact Ne.symm (by mod_arm) | fail "no") | fail "no"))
  k_with "om" => (first | (with_reducible first | assumption | exact Ne.symm (by assumption) | exact bdA (by assumption) | exact bdB (by assumption) (by k_dflt rfl) | exact bdC (by assumption) | exact bdD (by assumption) (by k_dflt rfl) | exact bdE (by assumption) | exact bdF (by assumption) (by k_dflt rfl) | exact bdG (by assumption) (by k_dflt rfl) | exact bdH (by assumption) (by k_dflt rfl) | exact bdI (by assumption) | exact bdJ (by assumption) (by k_dflt rfl) | exact bdK (by assumption) | exact bdO (by assumption) | exact bdP (by assumption) (by k_dflt rfl) | exact bdO0 (by assumption) | exact bdP0 (by assumption) (by k_dflt rfl) | exact bdV (by assumption) | exact bdS0 (by assumption) | exact bdS1 (by assumption) | exact bdS2 (by assumption) | exact bdS3 (by assumption) | exact bdQ (by assumption) (by assumption) (by assumption) | exact bdQ2 (by assumption) (by assumption) (by assumption) (by k_dflt rfl) | exact bdQ3 (by assumption) (by assumption) (by assumption) (by assumption) (by assumption) | exact bdQ4 (by assumption) (by assumption) (by assumption) | exact bdQ5 (by assumption) (by assumption) (by assumption) (by k_dflt rfl) | exact bdNA (by assumption) | exact bdW (by assumption) (by k_dflt rfl) | exact bdX2 (by assumption) (by k_dflt rfl) | exact bdX3 (by assumption) (by k_dflt rfl) | exact bdX4 (by assumption) (by k_dflt rfl) | exact bdX5 (by assumption) (by k_dflt rfl) | exact bdT0 (by assumption) | exact bdT1 (by assumption) | exact bdR2 | exact bdR1 (by assumption) (by k_dflt rfl) | exact Nat.ne_of_lt (by mod_arm) | exact Nat.ne_of_gt (by mod_arm) | exact Ne.symm (by mod_arm) | mod_arm | fail "no") | ((with_reducible refine And.intro ?_ ?_) <;> omega) | ((with_reducible (first | (rename @Ne _ _ _ => hz9; clear hz9) | (rename And (@Ne _ _ _) _ => hz9; clear hz9) | (rename And (And (@Ne _ _ _) _) _ => hz9; clear hz9)); (repeat (with_reducible first | (rename @Ne _ _ _ => hz9; clear hz9) | (rename And (@Ne _ _ _) _ => hz9; clear hz9) | (rename And (And (@Ne _ _ _) _) _ => hz9; clear hz9))); omega)) | fail "no")
  k_with "eval Call" => (refine Call_ ?_)
  k_with "eval Name" => (k_here; k_dflt (refine' nameX_L ?F ?v ?_ ?a ?b; (case F => k_asm); (case a => rfl); (case b => rfl); (case v => first | rfl | exact hr9 _ rfl | exact hr8 _ rfl | exact (hr9 _ rfl).trans (hr8 _ rfl)); k_whole))
  k_with "storeName" => (k_here; dsimp only)
  k_with "newTuple" => (k_here; dsimp only)
  k_with "newList" => (k_here; dsimp only)
  k_with "LeaveK" => (k_here; dsimp only)
  k_with "ite" => (k_here; dsimp only)
  k_with "execs cons" => (k_here; first | k_gentoks | ((try dsimp only); refine execs_cut ?_; intro Q9 hQ9))
  k_with "call ref" => (first | (k_here; k_dflt (refine' useI (gcd_tell _ _ _ _ _ _) ?q1 ?q2 ?q3 ?q4 ?q5 ?q6 ?q7 ?q8 ?_; (case q1 | q2 | q3 | q4 | q5 => k_asm); (case q6 => first | exact rfl | assumption); (case q7 => ktr_room); (case q8 => ktr_units); intro t9 h9 tk9 F9 N9; revert t9 h9 tk9 F9 N9; intros; ((try dsimp only); (try k_sweep)))) | fail "no")
  k_with "call ref" => (first | (k_here; k_dflt (refine' useI (gcd_all_tell _ _ _ _ _ _ ?hl ?hi) ?q1 ?q2 ?q3 ?q4 ?q5 ?q6 ?q7 ?q8 ?_; (case q1 | q2 | q3 | q4 | q5 => k_asm); (case q6 => first | exact rfl | assumption); (case q7 => ktr_room); (case q8 => ktr_units); (case hl => k_mem); (case hi => l_ints); intro t9 h9 tk9 F9 N9; revert t9 h9 tk9 F9 N9; intros; ((try dsimp only); (try k_sweep)))) | fail "no")
  k_with "call ref" => (first | (k_here; k_dflt (refine' useI (lcm_tell _ _ _ _ _ _ ?ha ?hb) ?q1 ?q2 ?q3 ?q4 ?q5 ?q6 ?q7 ?q8 ?_; (case q1 | q2 | q3 | q4 | q5 => k_asm); (case q6 => first | exact rfl | assumption); (case q7 => ktr_room); (case q8 => ktr_units); (case ha | hb => omega); intro t9 h9 tk9 F9 N9; (try simp only [Int.zero_sub, Int.neg_lcm, Int.lcm_neg]); revert t9 h9 tk9 F9 N9; intros; ((try dsimp only); (try k_sweep)))) | fail "no")
  k_with "call ref" => (first | (k_here; k_dflt (refine' useT (ratio_tell _ _ _ _ _ _ ?ha ?hb) ?q1 ?q2 ?q3 ?q4 ?q5 ?q6 ?q7 ?q8 ?_; (case q1 | q2 | q3 | q4 | q5 => k_asm); (case q6 => first | exact rfl | assumption); (case q7 => ktr_room); (case q8 => ktr_units); (case ha | hb => omega); intro D9 p9 q9 t9 u9 h9 tk9 hP9 F9 N9 l9; (have hq9 := hP9.pos); (have hb9 := hP9.dvd); (have hc9 := hP9.bd (by omega)); (try dsimp only [AllLt] at l9); (try revert hc9); (try revert hb9); (try revert hq9); revert D9 p9 q9 t9 u9 h9 tk9 hP9 F9 N9 l9; intros; ((try dsimp only); (try k_sweep)))) | fail "no")
  k_with "call ref" => (first | (k_here; k_dflt (refine' useTE (whole_tell _ _ _ _) ?q1 ?q2 ?q3 ?q4 ?q5 ?q6 ?q7 ?q8 ?_; (case q1 | q2 | q3 | q4 | q5 => k_asm); (case q6 => first | exact rfl | assumption); (case q7 => ktr_room); (case q8 => ktr_units); intro D9 t9 u9 h9 tk9 F9 N9 l9; (try dsimp only [AllLt] at l9); revert D9 t9 u9 h9 tk9 F9 N9 l9; intros; ((try dsimp only); (try k_sweep)))) | fail "no")
  k_with "call ref" => (first | (k_here; k_dflt (refine' useI (floor_tell _ _ _ _ _ _ _ ?hA ?ha ?hb) ?q1 ?q2 ?q3 ?q4 ?q5 ?q6 ?q7 ?q8 ?_; (case q1 | q2 | q3 | q4 | q5 => k_asm); (case q6 => first | exact rfl | assumption); (case q7 => ktr_room); (case q8 => ktr_units); (case hA => k_mem); (case ha | hb => omega); intro t9 h9 tk9 F9 N9; revert t9 h9 tk9 F9 N9; intros; ((try dsimp only); (try k_sweep)))) | fail "no")
  k_with "call ref" => (first | (k_here; k_dflt (refine' useI (ceil_tell _ _ _ _ _ _ _ ?hA ?ha ?hb) ?q1 ?q2 ?q3 ?q4 ?q5 ?q6 ?q7 ?q8 ?_; (case q1 | q2 | q3 | q4 | q5 => k_asm); (case q6 => first | exact rfl | assumption); (case q7 => ktr_room); (case q8 => ktr_units); (case hA => k_mem); (case ha | hb => omega); intro t9 h9 tk9 F9 N9; revert t9 h9 tk9 F9 N9; intros; ((try dsimp only); (try k_sweep)))) | fail "no")
  k_with "call ref" => (first | (k_here; k_dflt (refine' useB (iswhole_tell _ _ _ _ _ _ _ ?hA) ?q1 ?q2 ?q3 ?q4 ?q5 ?q6 ?q7 ?q8 ?_; (case q1 | q2 | q3 | q4 | q5 => k_asm); (case q6 => first | exact rfl | assumption); (case q7 => ktr_room); (case q8 => ktr_units); (case hA => k_mem); intro h9 tk9 F9 N9; revert h9 tk9 F9 N9; intros; ((try dsimp only); (try k_sweep)))) | fail "no")
  k_with "call ref" => (first | (k_here; k_dflt (refine' useI (compare_tell _ _ _ _ _ _ _ _ _ _ _ _ ?hA ?hC ?ha ?hb) ?q1 ?q2 ?q3 ?q4 ?q5 ?q6 ?q7 ?q8 ?_; (case q1 | q2 | q3 | q4 | q5 => k_asm); (case q6 => first | exact rfl | assumption); (case q7 => ktr_room); (case q8 => ktr_units); (case hA | hC => k_mem); (case ha | hb => omega); intro t9 h9 tk9 F9 N9; revert t9 h9 tk9 F9 N9; intros; ((try dsimp only); (try k_sweep)))) | fail "no")
  k_with "call ref" => (first | (k_here; k_dflt (refine' useTE (neg_tell _ _ _ _ _ _ _ ?hA) ?q1 ?q2 ?q3 ?q4 ?q5 ?q6 ?q7 ?q8 ?_; (case q1 | q2 | q3 | q4 | q5 => k_asm); (case q6 => first | exact rfl | assumption); (case q7 => ktr_room); (case q8 => ktr_units); (case hA => k_mem); intro D9 t9 u9 h9 tk9 F9 N9 l9; (try dsimp only [AllLt] at l9); revert D9 t9 u9 h9 tk9 F9 N9 l9; intros; ((try dsimp only); (try k_sweep)))) | fail "no")
  k_with "call ref" => (first | (k_here; k_dflt (refine' useT (add_tell _ _ _ _ _ _ _ _ _ _ _ _ ?hA ?hC ?ha ?hb) ?q1 ?q2 ?q3 ?q4 ?q5 ?q6 ?q7 ?q8 ?_; (case q1 | q2 | q3 | q4 | q5 => k_asm); (case q6 => first | exact rfl | assumption); (case q7 => ktr_room); (case q8 => ktr_units); (case hA | hC => k_mem); (case ha | hb => omega); intro D9 p9 q9 t9 u9 h9 tk9 hP9 F9 N9 l9; (have hq9 := hP9.pos); (have hb9 := hP9.dvd); (try (have hc9 := hP9.bd (by omega))); (try dsimp only [AllLt] at l9); (try revert hc9); (try revert hb9); (try revert hq9); revert D9 p9 q9 t9 u9 h9 tk9 hP9 F9 N9 l9; intros; ((try dsimp only); (try k_sweep)))) | fail "no")
  k_with "call ref" => (first | (k_here; k_dflt (refine' useT (sub_tell _ _ _ _ _ _ _ _ _ _ _ _ ?hA ?hC ?ha ?hb) ?q1 ?q2 ?q3 ?q4 ?q5 ?q6 ?q7 ?q8 ?_; (case q1 | q2 | q3 | q4 | q5 => k_asm); (case q6 => first | exact rfl | assumption); (case q7 => ktr_room); (case q8 => ktr_units); (case hA | hC => k_mem); (case ha | hb => omega); intro D9 p9 q9 t9 u9 h9 tk9 hP9 F9 N9 l9; (have hq9 := hP9.pos); (have hb9 := hP9.dvd); (try (have hc9 := hP9.bd (by omega))); (try dsimp only [AllLt] at l9); (try revert hc9); (try revert hb9); (try revert hq9); revert D9 p9 q9 t9 u9 h9 tk9 hP9 F9 N9 l9; intros; ((try dsimp only); (try k_sweep)))) | fail "no")
  k_with "all" => (first | (first | assumption | exact ne_of_allLt (by assumption) (by first | exact Nat.le_refl _ | exact Nat.le_succ _ | exact bdU2 | exact bdU | omega)) | fail "no")
  k_with "call ref" => (first | (k_here; k_dflt (refine' useN ?ho ?hi ?hlen ?h0 ?hm ?q1 ?q2 ?q3 ?q4 ?q5 ?q6 ?q7 ?q8 ?U ?hne ?hl ?_; (case q1 | q2 | q3 | q4 | q5 => k_asm); (case q6 => first | exact rfl | assumption); (case q7 => ktr_room); (case q8 => ktr_units); (case U => k_updF); (case ho => assumption); (case hne => k_ne); (case hl => k_mem); (case hi => assumption); (case hlen => assumption); (case h0 => omega); (case hm => omega); intro v9 t9 o9 h9 tk9 hv9 hT9 F9 N9; revert v9 t9 o9 h9 tk9 hv9 hT9 F9 N9; intros; ((try dsimp only); (try k_sweep)))) | fail "no")
  k_with "call ref" => (first | (k_here; k_dflt (refine' useI (bottom_tell _ _ _ _ _ _ ?hl ?hp ?hq) ?q1 ?q2 ?q3 ?q4 ?q5 ?q6 ?q7 ?q8 ?_; (case q1 | q2 | q3 | q4 | q5 => k_asm); (case q6 => first | exact rfl | assumption); (case q7 => ktr_room); (case q8 => ktr_units); (case hl => k_mem); (case hp => first | assumption | first | exact PairsAre.nil | (refine' PairsAre.cons ?hmm PairsAre.nil; (case hmm => k_mem))); (case hq => first | assumption | (intro r9 hr9; (simp only [List.mem_cons, List.not_mem_nil, or_false] at hr9); subst hr9; dsimp only; omega)); intro t9 h9 tk9 F9 N9; revert t9 h9 tk9 F9 N9; intros; ((try dsimp only); (try k_sweep)))) | fail "no")
  k_with "call ref" => (first | (k_here; k_dflt (refine' useI (hc _) ?q1 ?q2 ?q3 ?q4 ?q5 ?q6 ?q7 ?q8 ?_; (case q1 | q2 | q3 | q4 | q5 => k_asm); (case q6 => first | exact rfl | assumption); (case q7 => ktr_room); (case q8 => ktr_units); intro t9 h9 tk9 F9 N9; revert t9 h9 tk9 F9 N9; intros; ((try dsimp only); (try k_sweep)))) | fail "no")
  replace N := News.dup (News.dup (News.dup (News.dup N hC) (.tail _ hA)) (.tail _ (.tail _ hD'))) (.tail _ (.tail _ (.tail _ hD)))
  refine wpAny_call ?_
  k_dflt ktr_enter
  (rename Fr _ _ _ _ => F0); replace F0 := frAs (fun y => List.lookup y [(Str.ofString "b", Value.ref D'), (Str.ofString "a", Value.ref D)]) F0 (by with_unfolding_all exact Eq.refl (fun y => List.lookup y [(Str.ofString "b", Value.ref D'), (Str.ofString "a", Value.ref D)]))
  (refine letA ?_); intro A9
  (repeat' (first | (k_unfold; (try dsimp only)) | walk1 | (dsimp only; walk1) | (leave1; (try dsimp only)) | (refine Then.next hQ9 ?_; clear hQ9; (try clear Q9)) | (refine Then.ret hQ9 ?_; clear hQ9; (try clear Q9)) | (refine Then.brk hQ9 ?_; clear hQ9; (try clear Q9)) | (refine Then.cont hQ9 ?_; clear hQ9; (try clear Q9)) | fail "no step"))
  all_goals refine endI hret (by assumption) (by assumption) (fun p hp => .tail _ (.tail _ (.tail _ (.tail _ hp)))) ?_
  · exact dcv_ne (by assumption)
  · exact dcv_eq (by assumption)
theorem between_tell (w : World) (A C : Addr) (p q r v n : Int) (tp tq tr tv tn : Tok) (news : List (Addr × Obj)) (hA : (A, (prO p tp q tq)) ∈ news) (hC : (C, (prO r tr v tv)) ∈ news) (hq : 0 < q ∧ q < 1000000000) (hv : 0 < v ∧ v < 1000000000) : Tell w 20 220 [.ref A, .ref C, .int n tn] news (fun r' nx => r' = .bool (decide (p < n * q) && decide (n * v < r)) ∧ nx = news) := by
  w_top off
  unfold Tell
  k_fill
  intro mean mg mb dp un gd cn cs ad ccd cl outer A₀ base h₀ L m s Q E B F X N T hk hd hu hret
  k_with_none
  k_with "lt" => ((with_reducible rename ∀ p ∈ (_ : List (Addr × Obj)), p.1 < (_ : Addr) => hlt); replace hlt := allLt_of hlt; (dsimp only [AllLt] at hlt); revert hlt; intros)
  k_with "room" => (k_dflt (first | exact rm2 (by assumption) (by rfl) | exact rm1 (by assumption) (by rfl) | exact rm3 (by assumption) (by rfl) | exact rm0 (by assumption) | fail "no"))
  k_with "arm" => (first | assumption | (with_reducible first | exact arm0 (by assumption) | exact arm1 (by assumption) | exact arm2 (by assumption) | exact arm3 (by assumption) | exact arm4 (by assumption) | exact arm5 (by assumption) | exact arm6 (by assumption) | exact arm7 (by assumption) | exact arm8 (by assumption) | exact arm9 (by assumption) | exact arm10 (by assumption) | exact arm11 (by assumption) | exact arm12 (by assumption) | exact arm13 (by assumption) | exact And.left (arm0 (by assumption)) | exact And.left (And.right (arm0 (by assumption))) | exact And.right (And.right (arm0 (by assumption))) | exact And.left (arm1 (by assumption)) | exact And.left (And.right (arm1 (by assumption))) | exact And.right (And.right (arm1 (by assumption))) | exact And.left (arm2 (by assumption)) | exact And.left (And.right (arm2 (by assumption))) | exact And.right (And.right (arm2 (by assumption))) | exact And.left (arm3 (by assumption)) | exact And.left (And.right (arm3 (by assumption))) | exact And.right (And.right (arm3 (by assumption))) | exact And.left (arm4 (by assumption)) | exact And.left (And.right (arm4 (by assumption))) | exact And.right (And.right (arm4 (by assumption))) | exact And.left (arm5 (by assumption)) | exact And.left (And.right (arm5 (by assumption))) | exact And.right (And.right (arm5 (by assumption))) | exact And.left (arm6 (by assumption)) | exact And.left (And.right (arm6 (by assumption))) | exact And.right (And.right (arm6 (by assumption))) | exact And.left (arm7 (by assumption)) | exact And.left (And.right (arm7 (by assumption))) | exact And.right (And.right (arm7 (by assumption))) | exact Nat.lt_add_one _ | fail "no") | (with_reducible refine Nat.lt_add_right _ ?_; mod_arm) | fail "no")
  k_with "ne" => (k_dflt (first | assumption | exact Ne.symm (by assumption) | (refine neN ?_; (try dsimp only); first | assumption | exact Ne.symm (by assumption) | exact Nat.ne_of_lt (by mod_arm) | exact Nat.ne_of_gt (by mod_arm) | mod_arm | exact Ne.symm (by mod_arm) | fail "no") | fail "no"))
  k_with "om" => (first | (with_reducible first | assumption | exact Ne.symm (by assumption) | exact bdA (by assumption) | exact bdB (by assumption) (by k_dflt rfl) | exact bdC (by assumption) | exact bdD (by assumption) (by k_dflt rfl) | exact bdE (by assumption) | exact bdF (by assumption) (by k_dflt rfl) | exact bdG (by assumption) (by k_dflt rfl) | exact bdH (by assumption) (by k_dflt rfl) | exact bdI (by assumption) | exact bdJ (by assumption) (by k_dflt rfl) | exact bdK (by assumption) | exact bdO (by assumption) | exact bdP (by assumption) (by k_dflt rfl) | exact bdO0 (by assumption) | exact bdP0 (by assumption) (by k_dflt rfl) | exact bdV (by assumption) | exact bdS0 (by assumption) | exact bdS1 (by assumption) | exact bdS2 (by assumption) | exact bdS3 (by assumption) | exact bdQ (by assumption) (by assumption) (by assumption) | exact bdQ2 (by assumption) (by assumption) (by assumption) (by k_dflt rfl) | exact bdQ3 (by assumption) (by assumption) (by assumption) (by assumption) (by assumption) | exact bdQ4 (by assumption) (by assumption) (by assumption) | exact bdQ5 (by assumption) (by assumption) (by assumption) (by k_dflt rfl) | exact bdNA (by assumption) | exact bdW (by assumption) (by k_dflt rfl) | exact bdX2 (by assumption) (by k_dflt rfl) | exact bdX3 (by assumption) (by k_dflt rfl) | exact bdX4 (by assumption) (by k_dflt rfl) | exact bdX5 (by assumption) (by k_dflt rfl) | exact bdT0 (by assumption) | exact bdT1 (by assumption) | exact bdR2 | exact bdR1 (by assumption) (by k_dflt rfl) | exact Nat.ne_of_lt (by mod_arm) | exact Nat.ne_of_gt (by mod_arm) | exact Ne.symm (by mod_arm) | mod_arm | fail "no") | ((with_reducible refine And.intro ?_ ?_) <;> omega) | ((with_reducible (first | (rename @Ne _ _ _ => hz9; clear hz9) | (rename And (@Ne _ _ _) _ => hz9; clear hz9) | (rename And (And (@Ne _ _ _) _) _ => hz9; clear hz9)); (repeat (with_reducible first | (rename @Ne _ _ _ => hz9; clear hz9) | (rename And (@Ne _ _ _) _ => hz9; clear hz9) | (rename And (And (@Ne _ _ _) _) _ => hz9; clear hz9))); omega)) | fail "no")
  k_with "eval Call" => (refine Call_ ?_)
  k_with "eval Name" => (k_here; k_dflt (refine' nameX_L ?F ?v ?_ ?a ?b; (case F => k_asm); (case a => rfl); (case b => rfl); (case v => first | rfl | exact hr9 _ rfl | exact hr8 _ rfl | exact (hr9 _ rfl).trans (hr8 _ rfl)); k_whole))
  k_with "storeName" => (k_here; dsimp only)
  k_with "newTuple" => (k_here; dsimp only)
  k_with "newList" => (k_here; dsimp only)
  k_with "LeaveK" => (k_here; dsimp only)
  k_with "ite" => (k_here; dsimp only)
  k_with "execs cons" => (k_here; first | k_gentoks | ((try dsimp only); refine execs_cut ?_; intro Q9 hQ9))
  k_with "call ref" => (first | (k_here; k_dflt (refine' useI (gcd_tell _ _ _ _ _ _) ?q1 ?q2 ?q3 ?q4 ?q5 ?q6 ?q7 ?q8 ?_; (case q1 | q2 | q3 | q4 | q5 => k_asm); (case q6 => first | exact rfl | assumption); (case q7 => ktr_room); (case q8 => ktr_units); intro t9 h9 tk9 F9 N9; revert t9 h9 tk9 F9 N9; intros; ((try dsimp only); (try k_sweep)))) | fail "no")
  k_with "call ref" => (first | (k_here; k_dflt (refine' useI (gcd_all_tell _ _ _ _ _ _ ?hl ?hi) ?q1 ?q2 ?q3 ?q4 ?q5 ?q6 ?q7 ?q8 ?_; (case q1 | q2 | q3 | q4 | q5 => k_asm); (case q6 => first | exact rfl | assumption); (case q7 => ktr_room); (case q8 => ktr_units); (case hl => k_mem); (case hi => l_ints); intro t9 h9 tk9 F9 N9; revert t9 h9 tk9 F9 N9; intros; ((try dsimp only); (try k_sweep)))) | fail "no")
  k_with "call ref" => (first | (k_here; k_dflt (refine' useI (lcm_tell _ _ _ _ _ _ ?ha ?hb) ?q1 ?q2 ?q3 ?q4 ?q5 ?q6 ?q7 ?q8 ?_; (case q1 | q2 | q3 | q4 | q5 => k_asm); (case q6 => first | exact rfl | assumption); (case q7 => ktr_room); (case q8 => ktr_units); (case ha | hb => omega); intro t9 h9 tk9 F9 N9; (try simp only [Int.zero_sub, Int.neg_lcm, Int.lcm_neg]); revert t9 h9 tk9 F9 N9; intros; ((try dsimp only); (try k_sweep)))) | fail "no")
  k_with "call ref" => (first | (k_here; k_dflt (refine' useT (ratio_tell _ _ _ _ _ _ ?ha ?hb) ?q1 ?q2 ?q3 ?q4 ?q5 ?q6 ?q7 ?q8 ?_; (case q1 | q2 | q3 | q4 | q5 => k_asm); (case q6 => first | exact rfl | assumption); (case q7 => ktr_room); (case q8 => ktr_units); (case ha | hb => omega); intro D9 p9 q9 t9 u9 h9 tk9 hP9 F9 N9 l9; (have hq9 := hP9.pos); (have hb9 := hP9.dvd); (have hc9 := hP9.bd (by omega)); (try dsimp only [AllLt] at l9); (try revert hc9); (try revert hb9); (try revert hq9); revert D9 p9 q9 t9 u9 h9 tk9 hP9 F9 N9 l9; intros; ((try dsimp only); (try k_sweep)))) | fail "no")
  k_with "call ref" => (first | (k_here; k_dflt (refine' useTE (whole_tell _ _ _ _) ?q1 ?q2 ?q3 ?q4 ?q5 ?q6 ?q7 ?q8 ?_; (case q1 | q2 | q3 | q4 | q5 => k_asm); (case q6 => first | exact rfl | assumption); (case q7 => ktr_room); (case q8 => ktr_units); intro D9 t9 u9 h9 tk9 F9 N9 l9; (try dsimp only [AllLt] at l9); revert D9 t9 u9 h9 tk9 F9 N9 l9; intros; ((try dsimp only); (try k_sweep)))) | fail "no")
  k_with "call ref" => (first | (k_here; k_dflt (refine' useI (floor_tell _ _ _ _ _ _ _ ?hA ?ha ?hb) ?q1 ?q2 ?q3 ?q4 ?q5 ?q6 ?q7 ?q8 ?_; (case q1 | q2 | q3 | q4 | q5 => k_asm); (case q6 => first | exact rfl | assumption); (case q7 => ktr_room); (case q8 => ktr_units); (case hA => k_mem); (case ha | hb => omega); intro t9 h9 tk9 F9 N9; revert t9 h9 tk9 F9 N9; intros; ((try dsimp only); (try k_sweep)))) | fail "no")
  k_with "call ref" => (first | (k_here; k_dflt (refine' useI (ceil_tell _ _ _ _ _ _ _ ?hA ?ha ?hb) ?q1 ?q2 ?q3 ?q4 ?q5 ?q6 ?q7 ?q8 ?_; (case q1 | q2 | q3 | q4 | q5 => k_asm); (case q6 => first | exact rfl | assumption); (case q7 => ktr_room); (case q8 => ktr_units); (case hA => k_mem); (case ha | hb => omega); intro t9 h9 tk9 F9 N9; revert t9 h9 tk9 F9 N9; intros; ((try dsimp only); (try k_sweep)))) | fail "no")
  k_with "call ref" => (first | (k_here; k_dflt (refine' useB (iswhole_tell _ _ _ _ _ _ _ ?hA) ?q1 ?q2 ?q3 ?q4 ?q5 ?q6 ?q7 ?q8 ?_; (case q1 | q2 | q3 | q4 | q5 => k_asm); (case q6 => first | exact rfl | assumption); (case q7 => ktr_room); (case q8 => ktr_units); (case hA => k_mem); intro h9 tk9 F9 N9; revert h9 tk9 F9 N9; intros; ((try dsimp only); (try k_sweep)))) | fail "no")
  k_with "call ref" => (first | (k_here; k_dflt (refine' useI (compare_tell _ _ _ _ _ _ _ _ _ _ _ _ ?hA ?hC ?ha ?hb) ?q1 ?q2 ?q3 ?q4 ?q5 ?q6 ?q7 ?q8 ?_; (case q1 | q2 | q3 | q4 | q5 => k_asm); (case q6 => first | exact rfl | assumption); (case q7 => ktr_room); (case q8 => ktr_units); (case hA | hC => k_mem); (case ha | hb => omega); intro t9 h9 tk9 F9 N9; revert t9 h9 tk9 F9 N9; intros; ((try dsimp only); (try k_sweep)))) | fail "no")
  k_with "call ref" => (first | (k_here; k_dflt (refine' useTE (neg_tell _ _ _ _ _ _ _ ?hA) ?q1 ?q2 ?q3 ?q4 ?q5 ?q6 ?q7 ?q8 ?_; (case q1 | q2 | q3 | q4 | q5 => k_asm); (case q6 => first | exact rfl | assumption); (case q7 => ktr_room); (case q8 => ktr_units); (case hA => k_mem); intro D9 t9 u9 h9 tk9 F9 N9 l9; (try dsimp only [AllLt] at l9); revert D9 t9 u9 h9 tk9 F9 N9 l9; intros; ((try dsimp only); (try k_sweep)))) | fail "no")
  k_with "call ref" => (first | (k_here; k_dflt (refine' useT (add_tell _ _ _ _ _ _ _ _ _ _ _ _ ?hA ?hC ?ha ?hb) ?q1 ?q2 ?q3 ?q4 ?q5 ?q6 ?q7 ?q8 ?_; (case q1 | q2 | q3 | q4 | q5 => k_asm); (case q6 => first | exact rfl | assumption); (case q7 => ktr_room); (case q8 => ktr_units); (case hA | hC => k_mem); (case ha | hb => omega); intro D9 p9 q9 t9 u9 h9 tk9 hP9 F9 N9 l9; (have hq9 := hP9.pos); (have hb9 := hP9.dvd); (try (have hc9 := hP9.bd (by omega))); (try dsimp only [AllLt] at l9); (try revert hc9); (try revert hb9); (try revert hq9); revert D9 p9 q9 t9 u9 h9 tk9 hP9 F9 N9 l9; intros; ((try dsimp only); (try k_sweep)))) | fail "no")
  k_with "call ref" => (first | (k_here; k_dflt (refine' useT (sub_tell _ _ _ _ _ _ _ _ _ _ _ _ ?hA ?hC ?ha ?hb) ?q1 ?q2 ?q3 ?q4 ?q5 ?q6 ?q7 ?q8 ?_; (case q1 | q2 | q3 | q4 | q5 => k_asm); (case q6 => first | exact rfl | assumption); (case q7 => ktr_room); (case q8 => ktr_units); (case hA | hC => k_mem); (case ha | hb => omega); intro D9 p9 q9 t9 u9 h9 tk9 hP9 F9 N9 l9; (have hq9 := hP9.pos); (have hb9 := hP9.dvd); (try (have hc9 := hP9.bd (by omega))); (try dsimp only [AllLt] at l9); (try revert hc9); (try revert hb9); (try revert hq9); revert D9 p9 q9 t9 u9 h9 tk9 hP9 F9 N9 l9; intros; ((try dsimp only); (try k_sweep)))) | fail "no")
  k_with "all" => (first | (first | assumption | exact ne_of_allLt (by assumption) (by first | exact Nat.le_refl _ | exact Nat.le_succ _ | exact bdU2 | exact bdU | omega)) | fail "no")
  k_with "call ref" => (first | (k_here; k_dflt (refine' useN ?ho ?hi ?hlen ?h0 ?hm ?q1 ?q2 ?q3 ?q4 ?q5 ?q6 ?q7 ?q8 ?U ?hne ?hl ?_; (case q1 | q2 | q3 | q4 | q5 => k_asm); (case q6 => first | exact rfl | assumption); (case q7 => ktr_room); (case q8 => ktr_units); (case U => k_updF); (case ho => assumption); (case hne => k_ne); (case hl => k_mem); (case hi => assumption); (case hlen => assumption); (case h0 => omega); (case hm => omega); intro v9 t9 o9 h9 tk9 hv9 hT9 F9 N9; revert v9 t9 o9 h9 tk9 hv9 hT9 F9 N9; intros; ((try dsimp only); (try k_sweep)))) | fail "no")
  k_with "call ref" => (first | (k_here; k_dflt (refine' useI (bottom_tell _ _ _ _ _ _ ?hl ?hp ?hq) ?q1 ?q2 ?q3 ?q4 ?q5 ?q6 ?q7 ?q8 ?_; (case q1 | q2 | q3 | q4 | q5 => k_asm); (case q6 => first | exact rfl | assumption); (case q7 => ktr_room); (case q8 => ktr_units); (case hl => k_mem); (case hp => first | assumption | first | exact PairsAre.nil | (refine' PairsAre.cons ?hmm PairsAre.nil; (case hmm => k_mem))); (case hq => first | assumption | (intro r9 hr9; (simp only [List.mem_cons, List.not_mem_nil, or_false] at hr9); subst hr9; dsimp only; omega)); intro t9 h9 tk9 F9 N9; revert t9 h9 tk9 F9 N9; intros; ((try dsimp only); (try k_sweep)))) | fail "no")
  k_with "call ref" => (first | (k_here; k_dflt (refine' useO (d_make_tell w _ _) ?q1 ?q2 ?q3 ?q4 ?q5 ?q6 ?q7 ?q8 ?_; (case q1 | q2 | q3 | q4 | q5 => k_asm); (case q6 => first | exact rfl | assumption); (case q7 => ktr_room); (case q8 => ktr_units); intro D9 h9 tk9 F9 N9 l9; (try dsimp only [AllLt] at l9); revert D9 h9 tk9 F9 N9 l9; intros; ((try dsimp only); (try k_sweep)))) | fail "no")
  k_with "call ref" => (first | (k_here; k_dflt (refine' useO (d_below_tell w _ _) ?q1 ?q2 ?q3 ?q4 ?q5 ?q6 ?q7 ?q8 ?_; (case q1 | q2 | q3 | q4 | q5 => k_asm); (case q6 => first | exact rfl | assumption); (case q7 => ktr_room); (case q8 => ktr_units); intro D9 h9 tk9 F9 N9 l9; (try dsimp only [AllLt] at l9); revert D9 h9 tk9 F9 N9 l9; intros; ((try dsimp only); (try k_sweep)))) | fail "no")
  k_with "call ref" => (first | (k_here; k_dflt (refine' useO (d_above_tell w _ _) ?q1 ?q2 ?q3 ?q4 ?q5 ?q6 ?q7 ?q8 ?_; (case q1 | q2 | q3 | q4 | q5 => k_asm); (case q6 => first | exact rfl | assumption); (case q7 => ktr_room); (case q8 => ktr_units); intro D9 h9 tk9 F9 N9 l9; (try dsimp only [AllLt] at l9); revert D9 h9 tk9 F9 N9 l9; intros; ((try dsimp only); (try k_sweep)))) | fail "no")
  k_with "call ref" => (first | (k_here; k_dflt (refine' useI (d_compare_tell _ _ _ _ _ _ _ _ _ _ _ _ _ _ _ _ ?hD ?hE ?hA ?hC ?ha ?hb ?hcc) ?q1 ?q2 ?q3 ?q4 ?q5 ?q6 ?q7 ?q8 ?_; (case q1 | q2 | q3 | q4 | q5 => k_asm); (case q6 => first | exact rfl | assumption); (case q7 => ktr_room); (case q8 => ktr_units); (case hD | hE | hA | hC => k_mem); (case hcc => first | exact cmp_above_tell w | exact cmp_below_tell w); (case ha | hb => omega); intro t9 h9 tk9 F9 N9; revert t9 h9 tk9 F9 N9; intros; ((try dsimp only); (try k_sweep)))) | fail "no")
  replace N := News.dup (News.dup N hC) (.tail _ hA)
  refine wpAny_call ?_
  k_dflt ktr_enter
  (rename Fr _ _ _ _ => F0); replace F0 := frAs (fun y => List.lookup y [(Str.ofString "n", Value.int n tn), (Str.ofString "high", Value.ref C), (Str.ofString "low", Value.ref A)]) F0 (by with_unfolding_all exact Eq.refl (fun y => List.lookup y [(Str.ofString "n", Value.int n tn), (Str.ofString "high", Value.ref C), (Str.ofString "low", Value.ref A)]))
  (refine letA ?_); intro A9
  (repeat' (first | (k_unfold; (try dsimp only)) | walk1 | (dsimp only; walk1) | (leave1; (try dsimp only)) | (refine Then.next hQ9 ?_; clear hQ9; (try clear Q9)) | (refine Then.ret hQ9 ?_; clear hQ9; (try clear Q9)) | (refine Then.brk hQ9 ?_; clear hQ9; (try clear Q9)) | (refine Then.cont hQ9 ?_; clear hQ9; (try clear Q9)) | fail "no step"))
  all_goals refine endB hret (by assumption) (by assumption) (fun p hp => by repeat (first | exact hp | refine List.Mem.tail _ ?_)) ?_
  all_goals first
    | exact btw_t (by assumption)
    | exact btw_f (by assumption)
structure LapS where
  o : Obj
  spot : Int
  its : List Value
  rs : List (Int × Int)
  nn : Nat
  tl : List (Addr × Obj)
structure LapP (w : World) (TP CL S LC : Addr) (spot0 : Int) (news : List (Addr × Obj)) (i : Nat) (c : LapS) : Prop where
  tape : Tape w c.o CL c.spot
  lo : spot0 ≤ c.spot
  hi : c.spot ≤ spot0 + 2 * (i : Int)
  len : c.its.length = i
  prs : PairsAre c.tl c.its c.rs
  bnd : ∀ r ∈ c.rs, (0 < r.2 ∧ r.2 ≤ 9) ∧ (-20 ≤ r.1 ∧ r.1 ≤ 20)
  offT : ∀ p ∈ c.tl, p.1 ≠ TP
  offS : ∀ p ∈ c.tl, p.1 ≠ S
  offC : ∀ p ∈ c.tl, p.1 ≠ LC
  sub : ∀ p ∈ news, p ∈ c.tl
def lapQ (r : Int × Int) : Int := r.2.fdiv ((Int.gcd r.1 r.2 : Nat) : Int)
def lapM (rs : List (Int × Int)) : Int := rs.foldl (fun f r => ((Int.lcm f (lapQ r) : Nat) : Int)) 1
theorem lapQ_pos {r : Int × Int} (h : 0 < r.2) : 0 < lapQ r := (isR_pos (a := r.1) h).pos
theorem lapM_go {rs : List (Int × Int)} (hb : ∀ r ∈ rs, 0 < r.2) : ∀ f : Int, 0 < f → 0 < rs.foldl (fun f r => ((Int.lcm f (lapQ r) : Nat) : Int)) f ∧ ∀ l : Int, (rs.foldl (fun f r => ((Int.lcm f (lapQ r) : Nat) : Int)) f ∣ l ↔ f ∣ l ∧ ∀ r ∈ rs, lapQ r ∣ l) := by
  induction rs with
  | nil => intro f hf; exact ⟨hf, fun l => by simp⟩
  | cons r rs ih =>
    intro f hf
    have hq := lapQ_pos (hb r (.head _))
    have hl : (0 : Int) < ((Int.lcm f (lapQ r) : Nat) : Int) := by
      have : Int.lcm f (lapQ r) ≠ 0 := by
        intro e
        rw [Int.lcm_eq_zero_iff] at e
        (first | lia | omega)
      (first | lia | omega)
    obtain ⟨h1, h2⟩ := ih (fun r hr => hb r (.tail _ hr)) _ hl
    refine ⟨h1, fun l => ?_⟩
    rw [List.foldl_cons, h2 l]
    constructor
    · rintro ⟨h3, h4⟩
      refine ⟨Int.dvd_trans (Int.dvd_lcm_left _ _) h3, fun r' hr' => ?_⟩
      rcases List.mem_cons.mp hr' with rfl | hr'
      · exact Int.dvd_trans (Int.dvd_lcm_right _ _) h3
      · exact h4 r' hr'
    · rintro ⟨h3, h4⟩
      exact ⟨Int.coe_lcm_dvd h3 (h4 r (.head _)), fun r' hr' => h4 r' (.tail _ hr')⟩
theorem lapM_pos {rs : List (Int × Int)} (hb : ∀ r ∈ rs, (0 < r.2 ∧ r.2 ≤ 9) ∧ (-20 ≤ r.1 ∧ r.1 ≤ 20)) : 1 ≤ lapM rs := (lapM_go (fun r hr => (hb r hr).1.1) 1 (by decide)).1
/-- all ratios are whole behind l laps -/
def lapOk (l : Int) (rs : List (Int × Int)) : Prop := ∀ r ∈ rs, (l * r.1).fmod r.2 = 0
theorem lapOk_iff {rs : List (Int × Int)} {l : Int} (hb : ∀ r ∈ rs, (0 < r.2 ∧ r.2 ≤ 9) ∧ (-20 ≤ r.1 ∧ r.1 ≤ 20)) : lapOk l rs ↔ lapM rs ∣ l := by
  have h := (lapM_go (fun r hr => (hb r hr).1.1) 1 (by decide)).2 l
  unfold lapM
  rw [h]
  have one : ∀ r ∈ rs, ((l * r.1).fmod r.2 = 0 ↔ lapQ r ∣ l) := fun r hr => by
    have h0 := (hb r hr).1.1
    rw [Int.fmod_eq_emod_of_nonneg _ (by (first | lia | omega)), ← Int.dvd_iff_emod_eq_zero]
    exact isR_mult (isR_pos (a := r.1) h0) h0
  constructor
  · exact fun h => ⟨Int.one_dvd _, fun r hr => (one r hr).mp (h r hr)⟩
  · exact fun h r hr => (one r hr).mpr (h.2 r hr)
theorem lap_next {rs : List (Int × Int)} {l : Int} (hb : ∀ r ∈ rs, (0 < r.2 ∧ r.2 ≤ 9) ∧ (-20 ≤ r.1 ∧ r.1 ≤ 20)) (h2 : l ≤ lapM rs) (hn : ¬ lapOk l rs) : l + 1 ≤ lapM rs := by
  have : l ≠ lapM rs := fun e => hn ((lapOk_iff hb).mpr (by rw [e]; exact Int.dvd_refl _))
  (first | lia | omega)
theorem lap_end {rs : List (Int × Int)} {l : Int} (hb : ∀ r ∈ rs, (0 < r.2 ∧ r.2 ≤ 9) ∧ (-20 ≤ r.1 ∧ r.1 ≤ 20)) (h1 : 1 ≤ l) (h2 : l ≤ lapM rs) (hn : lapOk l rs) : lapM rs = l := by
  have := Int.le_of_dvd (by (first | lia | omega)) ((lapOk_iff hb).mp hn)
  (first | lia | omega)
/-- the ones that the test lets through -/
def lapOnes (l : Int) (rs : List (Int × Int)) : List Int := (rs.filter fun r => decide (¬ (l * r.1).fmod r.2 = 0)).map fun _ => 1
theorem lapOnes_nil {l : Int} {rs : List (Int × Int)} : lapOnes l rs = [] ↔ lapOk l rs := by
  simp [lapOnes, lapOk]
theorem lapOnes_yes {l : Int} {rs : List (Int × Int)} {i : Nat} {p q : Int} (h : rs[i]? = some (p, q)) (hn : ¬ (l * p).fmod q = 0) : lapOnes l (rs.take (i + 1)) = lapOnes l (rs.take i) ++ [1] := by
  rw [List.take_add_one, h]
  simp [lapOnes, hn]
theorem lapOnes_no {l : Int} {rs : List (Int × Int)} {i : Nat} {p q : Int} (h : rs[i]? = some (p, q)) (hn : (l * p).fmod q = 0) : lapOnes l (rs.take (i + 1)) = lapOnes l (rs.take i) := by
  rw [List.take_add_one, h]
  simp [lapOnes, hn]
/-- the second list is the first in lowest terms -/
inductive Reds : List (Int × Int) → List (Int × Int) → Prop where
  | nil : Reds [] []
  | cons {a b p q : Int} {rs qs : List (Int × Int)} : IsR a b p q → Reds rs qs → Reds ((a, b) :: rs) ((p, q) :: qs)
theorem Reds.snoc {a b p q : Int} {rs qs : List (Int × Int)} (h : Reds rs qs) (hr : IsR a b p q) : Reds (rs ++ [(a, b)]) (qs ++ [(p, q)]) := by
  induction h with
  | nil => exact .cons hr .nil
  | cons h _ ih => exact .cons h ih
theorem Reds.go {rs qs : List (Int × Int)} (h : Reds rs qs) (hb : ∀ r ∈ rs, 0 < r.2) : ∀ f : Int, qs.foldl (fun f p => ((Int.lcm f p.2 : Nat) : Int)) f = rs.foldl (fun f r => ((Int.lcm f (lapQ r) : Nat) : Int)) f := by
  induction h with
  | nil => intro f; rfl
  | @cons a b p q rs qs hr _ ih =>
    intro f
    have h0 : 0 < b := hb (a, b) (.head _)
    have e : q = lapQ (a, b) := (isR_uniq hr (isR_pos (a := a) h0) h0 h0 rfl).2
    rw [List.foldl_cons, List.foldl_cons, ih (fun r hr => hb r (.tail _ hr)), e]
theorem Reds.lcms {rs qs : List (Int × Int)} (h : Reds rs qs) (hb : ∀ r ∈ rs, (0 < r.2 ∧ r.2 ≤ 9) ∧ (-20 ≤ r.1 ∧ r.1 ≤ 20)) : lcms qs = lapM rs := h.go (fun r hr => (hb r hr).1.1) 1
theorem Reds.bnd {rs qs : List (Int × Int)} (h : Reds rs qs) (hb : ∀ r ∈ rs, (0 < r.2 ∧ r.2 ≤ 9) ∧ (-20 ≤ r.1 ∧ r.1 ≤ 20)) : ∀ r ∈ qs, 0 < r.2 ∧ r.2 ≤ 1000 := by
  induction h with
  | nil => intro r hr; exact nomatch hr
  | @cons a b p q rs qs hr _ ih =>
    intro r' hr'
    have h0 := (hb (a, b) (.head _)).1
    rcases List.mem_cons.mp hr' with rfl | hr'
    · have h2 : q ≤ b := hr.le h0.1
      have h3 : b ≤ 9 := h0.2
      exact ⟨hr.pos, by show q ≤ 1000; (first | lia | omega)⟩
    · exact ih (fun r hr => hb r (.tail _ hr)) r' hr'
theorem lap_meas {M l : Int} (h : l + 1 ≤ M) : (M - (l + 1)).toNat < (M - l).toNat := toN h
theorem laps_tell (w : World) (TP CL : Addr) (o : Obj) (spot : Int) (vs : List Value) (ns : List Int) (n : Nat) (news : List (Addr × Obj)) (ho : Tape w o CL spot) (hl : (CL, listOf vs.toArray n) ∈ news) (hi : IntsAre vs ns) (hlen : ns.length ≤ 100) (hoff : ∀ p ∈ news, p.1 ≠ TP) (hCL : @Ne Nat CL TP) (h0 : 0 ≤ spot ∧ spot < 1000) :
    Tell w 20 201 [.ref TP] ((TP, o) :: news) (fun r nx => ∃ (o' : Obj) (spot' : Int), r = .bool true ∧ nx = (TP, o') :: news ∧ Tape w o' CL spot' ∧ spot ≤ spot' ∧ spot' ≤ spot + 7) := by
  w_top off
  unfold Tell
  k_fill
  intro mean mg mb dp un gd cn cs ad ccd cl outer A₀ base h₀ L m s Q E B F X N T hk hd hu hret
  k_with_none
  k_with "lt" => ((with_reducible rename ∀ p ∈ (_ : List (Addr × Obj)), p.1 < (_ : Addr) => hlt); replace hlt := allLt_of hlt; (dsimp only [AllLt] at hlt); revert hlt; intros)
  k_with "room" => (k_dflt (first | exact rm2 (by assumption) (by rfl) | exact rm1 (by assumption) (by rfl) | exact rm3 (by assumption) (by rfl) | exact rm0 (by assumption) | fail "no"))
  k_with "arm" => (first | assumption | (with_reducible first | exact arm0 (by assumption) | exact arm1 (by assumption) | exact arm2 (by assumption) | exact arm3 (by assumption) | exact arm4 (by assumption) | exact arm5 (by assumption) | exact arm6 (by assumption) | exact arm7 (by assumption) | exact arm8 (by assumption) | exact arm9 (by assumption) | exact arm10 (by assumption) | exact arm11 (by assumption) | exact arm12 (by assumption) | exact arm13 (by assumption) | exact And.left (arm0 (by assumption)) | exact And.left (And.right (arm0 (by assumption))) | exact And.right (And.right (arm0 (by assumption))) | exact And.left (arm1 (by assumption)) | exact And.left (And.right (arm1 (by assumption))) | exact And.right (And.right (arm1 (by assumption))) | exact And.left (arm2 (by assumption)) | exact And.left (And.right (arm2 (by assumption))) | exact And.right (And.right (arm2 (by assumption))) | exact And.left (arm3 (by assumption)) | exact And.left (And.right (arm3 (by assumption))) | exact And.right (And.right (arm3 (by assumption))) | exact And.left (arm4 (by assumption)) | exact And.left (And.right (arm4 (by assumption))) | exact And.right (And.right (arm4 (by assumption))) | exact And.left (arm5 (by assumption)) | exact And.left (And.right (arm5 (by assumption))) | exact And.right (And.right (arm5 (by assumption))) | exact And.left (arm6 (by assumption)) | exact And.left (And.right (arm6 (by assumption))) | exact And.right (And.right (arm6 (by assumption))) | exact And.left (arm7 (by assumption)) | exact And.left (And.right (arm7 (by assumption))) | exact And.right (And.right (arm7 (by assumption))) | exact Nat.lt_add_one _ | fail "no") | (with_reducible refine Nat.lt_add_right _ ?_; mod_arm) | fail "no")
  k_with "ne" => (k_dflt (first | assumption | exact Ne.symm (by assumption) | (refine neN ?_; (try dsimp only); first | assumption | exact Ne.symm (by assumption) | exact Nat.ne_of_lt (by mod_arm) | exact Nat.ne_of_gt (by mod_arm) | mod_arm | exact Ne.symm (by mod_arm) | fail "no") | fail "no"))
  k_with "om" => (first | (with_reducible first | assumption | exact Ne.symm (by assumption) | exact bdA (by assumption) | exact bdB (by assumption) (by k_dflt rfl) | exact bdC (by assumption) | exact bdD (by assumption) (by k_dflt rfl) | exact bdE (by assumption) | exact bdF (by assumption) (by k_dflt rfl) | exact bdG (by assumption) (by k_dflt rfl) | exact bdH (by assumption) (by k_dflt rfl) | exact bdI (by assumption) | exact bdJ (by assumption) (by k_dflt rfl) | exact bdK (by assumption) | exact bdO (by assumption) | exact bdP (by assumption) (by k_dflt rfl) | exact bdO0 (by assumption) | exact bdP0 (by assumption) (by k_dflt rfl) | exact bdV (by assumption) | exact bdS0 (by assumption) | exact bdS1 (by assumption) | exact bdS2 (by assumption) | exact bdS3 (by assumption) | exact bdQ (by assumption) (by assumption) (by assumption) | exact bdQ2 (by assumption) (by assumption) (by assumption) (by k_dflt rfl) | exact bdQ3 (by assumption) (by assumption) (by assumption) (by assumption) (by assumption) | exact bdQ4 (by assumption) (by assumption) (by assumption) | exact bdQ5 (by assumption) (by assumption) (by assumption) (by k_dflt rfl) | exact bdNA (by assumption) | exact bdW (by assumption) (by k_dflt rfl) | exact bdX2 (by assumption) (by k_dflt rfl) | exact bdX3 (by assumption) (by k_dflt rfl) | exact bdX4 (by assumption) (by k_dflt rfl) | exact bdX5 (by assumption) (by k_dflt rfl) | exact bdT0 (by assumption) | exact bdT1 (by assumption) | exact bdR2 | exact bdR1 (by assumption) (by k_dflt rfl) | exact Nat.ne_of_lt (by mod_arm) | exact Nat.ne_of_gt (by mod_arm) | exact Ne.symm (by mod_arm) | mod_arm | fail "no") | ((with_reducible refine And.intro ?_ ?_) <;> omega) | ((with_reducible (first | (rename @Ne _ _ _ => hz9; clear hz9) | (rename And (@Ne _ _ _) _ => hz9; clear hz9) | (rename And (And (@Ne _ _ _) _) _ => hz9; clear hz9)); (repeat (with_reducible first | (rename @Ne _ _ _ => hz9; clear hz9) | (rename And (@Ne _ _ _) _ => hz9; clear hz9) | (rename And (And (@Ne _ _ _) _) _ => hz9; clear hz9))); omega)) | fail "no")
  k_with "eval Call" => (refine Call_ ?_)
  k_with "eval Name" => (k_here; k_dflt (refine' nameX_L ?F ?v ?_ ?a ?b; (case F => k_asm); (case a => rfl); (case b => rfl); (case v => first | rfl | exact hr9 _ rfl | exact hr8 _ rfl | exact (hr9 _ rfl).trans (hr8 _ rfl)); k_whole))
  k_with "storeName" => (k_here; dsimp only)
  k_with "newTuple" => (k_here; dsimp only)
  k_with "newList" => (k_here; dsimp only)
  k_with "LeaveK" => (k_here; dsimp only)
  k_with "ite" => (k_here; dsimp only)
  k_with "execs cons" => (k_here; first | k_gentoks | ((try dsimp only); refine execs_cut ?_; intro Q9 hQ9))
  k_with "call ref" => (first | (k_here; k_dflt (refine' useI (gcd_tell _ _ _ _ _ _) ?q1 ?q2 ?q3 ?q4 ?q5 ?q6 ?q7 ?q8 ?_; (case q1 | q2 | q3 | q4 | q5 => k_asm); (case q6 => first | exact rfl | assumption); (case q7 => ktr_room); (case q8 => ktr_units); intro t9 h9 tk9 F9 N9; revert t9 h9 tk9 F9 N9; intros; ((try dsimp only); (try k_sweep)))) | fail "no")
  k_with "call ref" => (first | (k_here; k_dflt (refine' useI (gcd_all_tell _ _ _ _ _ _ ?hl ?hi) ?q1 ?q2 ?q3 ?q4 ?q5 ?q6 ?q7 ?q8 ?_; (case q1 | q2 | q3 | q4 | q5 => k_asm); (case q6 => first | exact rfl | assumption); (case q7 => ktr_room); (case q8 => ktr_units); (case hl => k_mem); (case hi => l_ints); intro t9 h9 tk9 F9 N9; revert t9 h9 tk9 F9 N9; intros; ((try dsimp only); (try k_sweep)))) | fail "no")
  k_with "call ref" => (first | (k_here; k_dflt (refine' useI (lcm_tell _ _ _ _ _ _ ?ha ?hb) ?q1 ?q2 ?q3 ?q4 ?q5 ?q6 ?q7 ?q8 ?_; (case q1 | q2 | q3 | q4 | q5 => k_asm); (case q6 => first | exact rfl | assumption); (case q7 => ktr_room); (case q8 => ktr_units); (case ha | hb => omega); intro t9 h9 tk9 F9 N9; (try simp only [Int.zero_sub, Int.neg_lcm, Int.lcm_neg]); revert t9 h9 tk9 F9 N9; intros; ((try dsimp only); (try k_sweep)))) | fail "no")
  k_with "call ref" => (first | (k_here; k_dflt (refine' useT (ratio_tell _ _ _ _ _ _ ?ha ?hb) ?q1 ?q2 ?q3 ?q4 ?q5 ?q6 ?q7 ?q8 ?_; (case q1 | q2 | q3 | q4 | q5 => k_asm); (case q6 => first | exact rfl | assumption); (case q7 => ktr_room); (case q8 => ktr_units); (case ha | hb => omega); intro D9 p9 q9 t9 u9 h9 tk9 hP9 F9 N9 l9; (have hq9 := hP9.pos); (have hb9 := hP9.dvd); (have hc9 := hP9.bd (by omega)); (try dsimp only [AllLt] at l9); (try revert hc9); (try revert hb9); (try revert hq9); revert D9 p9 q9 t9 u9 h9 tk9 hP9 F9 N9 l9; intros; ((try dsimp only); (try k_sweep)))) | fail "no")
  k_with "call ref" => (first | (k_here; k_dflt (refine' useTE (whole_tell _ _ _ _) ?q1 ?q2 ?q3 ?q4 ?q5 ?q6 ?q7 ?q8 ?_; (case q1 | q2 | q3 | q4 | q5 => k_asm); (case q6 => first | exact rfl | assumption); (case q7 => ktr_room); (case q8 => ktr_units); intro D9 t9 u9 h9 tk9 F9 N9 l9; (try dsimp only [AllLt] at l9); revert D9 t9 u9 h9 tk9 F9 N9 l9; intros; ((try dsimp only); (try k_sweep)))) | fail "no")
  k_with "call ref" => (first | (k_here; k_dflt (refine' useI (floor_tell _ _ _ _ _ _ _ ?hA ?ha ?hb) ?q1 ?q2 ?q3 ?q4 ?q5 ?q6 ?q7 ?q8 ?_; (case q1 | q2 | q3 | q4 | q5 => k_asm); (case q6 => first | exact rfl | assumption); (case q7 => ktr_room); (case q8 => ktr_units); (case hA => k_mem); (case ha | hb => omega); intro t9 h9 tk9 F9 N9; revert t9 h9 tk9 F9 N9; intros; ((try dsimp only); (try k_sweep)))) | fail "no")
  k_with "call ref" => (first | (k_here; k_dflt (refine' useI (ceil_tell _ _ _ _ _ _ _ ?hA ?ha ?hb) ?q1 ?q2 ?q3 ?q4 ?q5 ?q6 ?q7 ?q8 ?_; (case q1 | q2 | q3 | q4 | q5 => k_asm); (case q6 => first | exact rfl | assumption); (case q7 => ktr_room); (case q8 => ktr_units); (case hA => k_mem); (case ha | hb => omega); intro t9 h9 tk9 F9 N9; revert t9 h9 tk9 F9 N9; intros; ((try dsimp only); (try k_sweep)))) | fail "no")
  k_with "call ref" => (first | (k_here; k_dflt (refine' useB (iswhole_tell _ _ _ _ _ _ _ ?hA) ?q1 ?q2 ?q3 ?q4 ?q5 ?q6 ?q7 ?q8 ?_; (case q1 | q2 | q3 | q4 | q5 => k_asm); (case q6 => first | exact rfl | assumption); (case q7 => ktr_room); (case q8 => ktr_units); (case hA => k_mem); intro h9 tk9 F9 N9; revert h9 tk9 F9 N9; intros; ((try dsimp only); (try k_sweep)))) | fail "no")
  k_with "call ref" => (first | (k_here; k_dflt (refine' useI (compare_tell _ _ _ _ _ _ _ _ _ _ _ _ ?hA ?hC ?ha ?hb) ?q1 ?q2 ?q3 ?q4 ?q5 ?q6 ?q7 ?q8 ?_; (case q1 | q2 | q3 | q4 | q5 => k_asm); (case q6 => first | exact rfl | assumption); (case q7 => ktr_room); (case q8 => ktr_units); (case hA | hC => k_mem); (case ha | hb => omega); intro t9 h9 tk9 F9 N9; revert t9 h9 tk9 F9 N9; intros; ((try dsimp only); (try k_sweep)))) | fail "no")
  k_with "call ref" => (first | (k_here; k_dflt (refine' useTE (neg_tell _ _ _ _ _ _ _ ?hA) ?q1 ?q2 ?q3 ?q4 ?q5 ?q6 ?q7 ?q8 ?_; (case q1 | q2 | q3 | q4 | q5 => k_asm); (case q6 => first | exact rfl | assumption); (case q7 => ktr_room); (case q8 => ktr_units); (case hA => k_mem); intro D9 t9 u9 h9 tk9 F9 N9 l9; (try dsimp only [AllLt] at l9); revert D9 t9 u9 h9 tk9 F9 N9 l9; intros; ((try dsimp only); (try k_sweep)))) | fail "no")
  k_with "call ref" => (first | (k_here; k_dflt (refine' useT (add_tell _ _ _ _ _ _ _ _ _ _ _ _ ?hA ?hC ?ha ?hb) ?q1 ?q2 ?q3 ?q4 ?q5 ?q6 ?q7 ?q8 ?_; (case q1 | q2 | q3 | q4 | q5 => k_asm); (case q6 => first | exact rfl | assumption); (case q7 => ktr_room); (case q8 => ktr_units); (case hA | hC => k_mem); (case ha | hb => omega); intro D9 p9 q9 t9 u9 h9 tk9 hP9 F9 N9 l9; (have hq9 := hP9.pos); (have hb9 := hP9.dvd); (try (have hc9 := hP9.bd (by omega))); (try dsimp only [AllLt] at l9); (try revert hc9); (try revert hb9); (try revert hq9); revert D9 p9 q9 t9 u9 h9 tk9 hP9 F9 N9 l9; intros; ((try dsimp only); (try k_sweep)))) | fail "no")
  k_with "call ref" => (first | (k_here; k_dflt (refine' useT (sub_tell _ _ _ _ _ _ _ _ _ _ _ _ ?hA ?hC ?ha ?hb) ?q1 ?q2 ?q3 ?q4 ?q5 ?q6 ?q7 ?q8 ?_; (case q1 | q2 | q3 | q4 | q5 => k_asm); (case q6 => first | exact rfl | assumption); (case q7 => ktr_room); (case q8 => ktr_units); (case hA | hC => k_mem); (case ha | hb => omega); intro D9 p9 q9 t9 u9 h9 tk9 hP9 F9 N9 l9; (have hq9 := hP9.pos); (have hb9 := hP9.dvd); (try (have hc9 := hP9.bd (by omega))); (try dsimp only [AllLt] at l9); (try revert hc9); (try revert hb9); (try revert hq9); revert D9 p9 q9 t9 u9 h9 tk9 hP9 F9 N9 l9; intros; ((try dsimp only); (try k_sweep)))) | fail "no")
  k_with "all" => (first | (first | assumption | exact ne_of_allLt (by assumption) (by first | exact Nat.le_refl _ | exact Nat.le_succ _ | exact bdU2 | exact bdU | omega)) | fail "no")
  k_with "call ref" => (first | (k_here; k_dflt (refine' useN ?ho ?hi ?hlen ?h0 ?hm ?q1 ?q2 ?q3 ?q4 ?q5 ?q6 ?q7 ?q8 ?U ?hne ?hl ?_; (case q1 | q2 | q3 | q4 | q5 => k_asm); (case q6 => first | exact rfl | assumption); (case q7 => ktr_room); (case q8 => ktr_units); (case U => k_updF); (case ho => assumption); (case hne => k_ne); (case hl => k_mem); (case hi => assumption); (case hlen => assumption); (case h0 => omega); (case hm => omega); intro v9 t9 o9 h9 tk9 hv9 hT9 F9 N9; revert v9 t9 o9 h9 tk9 hv9 hT9 F9 N9; intros; ((try dsimp only); (try k_sweep)))) | fail "no")
  k_with "call ref" => (first | (k_here; k_dflt (refine' useI (bottom_tell _ _ _ _ _ _ ?hl ?hp ?hq) ?q1 ?q2 ?q3 ?q4 ?q5 ?q6 ?q7 ?q8 ?_; (case q1 | q2 | q3 | q4 | q5 => k_asm); (case q6 => first | exact rfl | assumption); (case q7 => ktr_room); (case q8 => ktr_units); (case hl => k_mem); (case hp => first | assumption | first | exact PairsAre.nil | (refine' PairsAre.cons ?hmm PairsAre.nil; (case hmm => k_mem))); (case hq => first | assumption | (intro r9 hr9; (simp only [List.mem_cons, List.not_mem_nil, or_false] at hr9); subst hr9; dsimp only; omega)); intro t9 h9 tk9 F9 N9; revert t9 h9 tk9 F9 N9; intros; ((try dsimp only); (try k_sweep)))) | fail "no")
  k_with "call ref" => (first | (k_here; k_dflt (refine' useB (between_tell _ _ _ _ _ _ _ _ _ _ _ _ _ _ ?hA ?hC ?ha ?hb) ?q1 ?q2 ?q3 ?q4 ?q5 ?q6 ?q7 ?q8 ?_; (case q1 | q2 | q3 | q4 | q5 => k_asm); (case q6 => first | exact rfl | assumption); (case q7 => ktr_room); (case q8 => ktr_units); (case hA | hC => k_mem); (case ha | hb => omega); intro h9 tk9 F9 N9; revert h9 tk9 F9 N9; intros; ((try dsimp only); (try k_sweep)))) | fail "no")
  replace N : News h₀ L s.heap ((TP, o) :: (CL, listOf vs.toArray n) :: news) := fun p hp => by
    rcases List.mem_cons.mp hp with h | h
    · exact N p (h ▸ .head _)
    · rcases List.mem_cons.mp h with h | h
      · exact N p (.tail _ (h ▸ hl))
      · exact N p (.tail _ h)
  refine wpAny_call ?_
  k_dflt (refine' code_defC ?k1 ?k2 ?k3 ?k4 ?k5 ?kA ?kF ?kK ?k6 ?k7 ?k8 ?k9 ?kB ?kD ?_ ?c2 ?c3 ?c4; (case kA => exact rfl); (case kF => exact rfl); (case kK => first | exact rfl | assumption); (case k1 => k_asm); (case k2 => k_asm); (case k3 => k_asm); (case k4 => k_asm); (case k5 => k_asm); (case k6 => k_is); (case k7 => k_is); (case k8 => ktr_room); (case k9 => exact BindsTo.of_eq rfl); (case kB => exact rfl); (case kD => decide +kernel); (case c2 => exact rfl); (case c3 => exact rfl); (case c4 => exact rfl); k_whole; intro g' L' h' tk' cells' FG' F' N' Y' B' X' T' l1; (try (replace l1 := allLt_of l1; dsimp only [AllLt] at l1)); k_cells Y'; (try simp only [List.cons_append, List.nil_append] at N'); (try dsimp only); (try k_fold))
  have hAL := l1.2.2
  (rename Fr _ _ _ _ => F0); replace F0 := frAs (fun y => if y = Str.ofString "tape" then some (Value.ref TP) else none) F0 (by with_unfolding_all exact Eq.refl (fun y => if y = Str.ofString "tape" then some (Value.ref TP) else none))
  (refine letA ?_); intro A9
  (repeat' ((fail_if_success (with_reducible first | (show wpAny _ _ (exec (PySem.Stmt.While _ _ _ _) _) _ _ _) | (show wpAny _ _ (exec (PySem.Stmt.For _ _ _ _ _) _) _ _ _) | (show wpAny _ _ (eval (PySem.Expr.ListComp _ _ _ _) _) _ _ _) | (show wpAny _ _ (pyIter (Value.ref _)) _ _ _) | (show LCg.CompSrc _ _ _ _ _ _ _ _ _ _ _ _ _ _) | (show LCt.CompSrcT _ _ _ _ _ _ _ _ _ _ _ _ _ _ _) | (show LCp.SrcLP _ _ _ _ _ _ _ _ _ _ _ _ _ _ _) | (show wpAny _ _ (exec (PySem.Stmt.Assign _ (PySem.Expr.ListComp _ _ _ _) _) _) _ _ _))); first | (k_unfold; (try dsimp only)) | walk1 | (dsimp only; walk1) | (leave1; (try dsimp only)) | (refine Then.next hQ9 ?_; clear hQ9; (try clear Q9)) | (refine Then.ret hQ9 ?_; clear hQ9; (try clear Q9)) | (refine Then.brk hQ9 ?_; clear hQ9; (try clear Q9)) | (refine Then.cont hQ9 ?_; clear hQ9; (try clear Q9)) | fail "no step"))
  (rename Fr _ _ _ _ => lF)
  (with_unfolding_all refine' For_invVF lF ?k1 ?k2 ?_; (case k1 => exact rfl); (case k2 => exact rfl))
  repeat' ((fail_if_success (with_reducible first | (show wpAny _ _ (call (Value.type "range") _ _) _ _ _) | (show wpAny _ _ (exec (PySem.Stmt.While _ _ _ _) _) _ _ _) | (show wpAny _ _ (exec (PySem.Stmt.For _ _ _ _ _) _) _ _ _) | (show wpAny _ _ (eval (PySem.Expr.ListComp _ _ _ _) _) _ _ _) | (show wpAny _ _ (pyIter (Value.ref _)) _ _ _) | (show LCg.CompSrc _ _ _ _ _ _ _ _ _ _ _ _ _ _) | (show LCt.CompSrcT _ _ _ _ _ _ _ _ _ _ _ _ _ _ _) | (show LCp.SrcLP _ _ _ _ _ _ _ _ _ _ _ _ _ _ _) | (show wpAny _ _ (exec (PySem.Stmt.Assign _ (PySem.Expr.ListComp _ _ _ _) _) _) _ _ _))); first | (k_unfold; (try dsimp only)) | walk1 | (dsimp only; walk1) | (leave1; (try dsimp only)) | (refine Then.next hQ9 ?_; clear hQ9; (try clear Q9)) | (refine Then.ret hQ9 ?_; clear hQ9; (try clear Q9)) | (refine Then.brk hQ9 ?_; clear hQ9; (try clear Q9)) | (refine Then.cont hQ9 ?_; clear hQ9; (try clear Q9)) | fail "no step")
  (rename Fr _ _ _ _ => lF); (rename News _ _ _ _ => lN)
  refine range1_rows lF lN ?_
  intro hR9 tkR9 tR9 uR9 vR9 R9 lF9 lN9 kR9
  (try dsimp only)
  rename_i oc dc S hS1 ltS hS2 v1 t1 o1 h1 tk1 hv1 hT1
  with_unfolding_all refine' iter_rngS (σ := LapS) (fun c => (S, listOf c.its.toArray c.nn) :: (L' + 1, oc) :: (TP, c.o) :: (CL, listOf vs.toArray n) :: c.tl) (fun c => []) [Str.ofString "top", Str.ofString "bottom"] (fun i c => LapP w TP CL S (L' + 1) (spot + 1) news i c) ⟨o1, spot + 1, [], [], 0, news⟩ rfl R9 (small_one (by omega) (by omega) (by omega) (by omega)) (rangeSize_nat _ _) lF9 lN9 ?kk ?kr ?kt ?kd
  case kk => (repeat (first | exact Names.nil | refine Names.cons (by with_unfolding_all rfl) ?_))
  case kr => exact ⟨hT1, Int.le_refl _, by simp, rfl, .nil, by simp, hoff, ne_of_allLt ltS.2.2.2 (Nat.le_refl _), ne_of_allLt hAL (Nat.le_succ _), fun p hp => hp⟩
  case kt =>
    rintro I i t ⟨o2, sp, its, rs, nn, tl⟩ u h tk oI hr8 hi hR F1 N1 hn
    have hT2 := hR.tape
    have hoffT := hR.offT
    have hoffS := hR.offS
    have hlo := hR.lo
    have hhi := hR.hi
    have hlen2 := hR.len
    dsimp only at F1 N1 hn hT2 hoffT hoffS hlo hhi hlen2
    have hi3 : i ≤ 3 := by omega
    have hsl : its.length ≤ 3 := by omega
    have hs2 : 0 ≤ sp ∧ sp < 2000 := ⟨by omega, by omega⟩
    have hI1 : @Ne Nat S I := hn (S, _) (.head _)
    have hI2 : @Ne Nat (L' + 1) I := hn (_, oc) (.tail _ (.head _))
    have hI3 : @Ne Nat TP I := hn (TP, _) (.tail _ (.tail _ (.head _)))
    have hI4 : @Ne Nat CL I := hn (CL, _) (.tail _ (.tail _ (.tail _ (.head _))))
    (repeat' ((fail_if_success (with_reducible first | (show wpAny _ _ (exec (PySem.Stmt.While _ _ _ _) _) _ _ _) | (show wpAny _ _ (exec (PySem.Stmt.For _ _ _ _ _) _) _ _ _) | (show wpAny _ _ (eval (PySem.Expr.ListComp _ _ _ _) _) _ _ _) | (show wpAny _ _ (pyIter (Value.ref _)) _ _ _) | (show LCg.CompSrc _ _ _ _ _ _ _ _ _ _ _ _ _ _) | (show LCt.CompSrcT _ _ _ _ _ _ _ _ _ _ _ _ _ _ _) | (show LCp.SrcLP _ _ _ _ _ _ _ _ _ _ _ _ _ _ _) | (show wpAny _ _ (exec (PySem.Stmt.Assign _ (PySem.Expr.ListComp _ _ _ _) _) _) _ _ _))); first | (k_unfold; (try dsimp only)) | walk1 | (dsimp only; walk1) | (leave1; (try dsimp only)) | (refine Then.next hQ9 ?_; clear hQ9; (try clear Q9)) | (refine Then.ret hQ9 ?_; clear hQ9; (try clear Q9)) | (refine Then.brk hQ9 ?_; clear hQ9; (try clear Q9)) | (refine Then.cont hQ9 ?_; clear hQ9; (try clear Q9)) | fail "no step"))
    rename_i v2 t2 o3 h2 tk2 hv2 hT3 v3 t3 o4 h3 tk3 hv3 hT4 D1 hA1 ltD1 hA2 hA3 hA4 tkA D2 hA5 ltD2 hA6 F8 N8
    simp only [List.push_toArray] at N8
    refine' turn_end ⟨o4, sp + 1 + 1, its ++ [.ref D2], rs ++ [(v2 - 20, 1 + v3)], nn + 1, (D2, (prO (v2 - 20) (tk2 + 1) (1 + v3) tk3)) :: tl⟩ (by assumption) N8 ?sub ?off ?hk ?hr ?hR
    case hk => (repeat (first | exact Names.nil | refine Names.cons (by with_unfolding_all rfl) ?_))
    case hr => (first | (((repeat (first | refine Rests.step (by with_unfolding_all rfl) ?_ | refine Rests.stepU (by with_unfolding_all rfl) ?_))); first | exact Rests.of hr9 | exact Rests.of hr8 | exact Rests.last | exact Rests.same | (refine Rests.via hr9 ?_; ((repeat (first | refine Rests.step (by with_unfolding_all rfl) ?_ | refine Rests.stepU (by with_unfolding_all rfl) ?_))); exact Rests.of hr8) | (refine Rests.viaS (by with_unfolding_all rfl) hr9 ?_; ((repeat (first | refine Rests.step (by with_unfolding_all rfl) ?_ | refine Rests.stepU (by with_unfolding_all rfl) ?_))); exact Rests.of hr8)) | (intro z9 hz1 hz2 hz3; (have hz4 := hz3); (try simp only [List.mem_cons, forall_eq_or_imp, List.not_mem_nil, false_implies, implies_true, and_true, List.mem_singleton, forall_eq, ne_eq] at hz1 hz2); (try simp only [List.contains_cons, List.contains_nil, Bool.or_false, Bool.or_eq_false_iff, beq_eq_false_iff_ne, ne_eq] at hz4); simp only [hz1, hz2, hz3, hz4, kstB, if_false, Bool.false_eq_true, List.contains_nil]))
    case sub =>
      dsimp only
      repeat (refine subC (by k_mem) ?_)
      intro p hp
      repeat (first | exact hp | refine List.Mem.tail _ ?_)
    case off =>
      dsimp only
      repeat (refine offCons (by first | exact hI1 | exact hI2 | exact hI3 | exact hI4 | (show @Ne Nat _ _; omega)) ?_)
      exact fun p hp => hn p (by repeat (first | exact hp | refine List.Mem.tail _ ?_))
    case hR =>
      refine ⟨hT4, by show spot + 1 ≤ sp + 1 + 1; omega, by show sp + 1 + 1 ≤ _; simp only [Int.natCast_add]; omega, by simp [hlen2], ?_, ?_, ?_, ?_, ?_, ?_⟩
      · exact (hR.prs.mono fun p hp => .tail _ hp).snoc (.head _)
      · intro r hr
        rcases List.mem_append.mp hr with hr | hr
        · exact hR.bnd r hr
        · rw [List.mem_singleton.mp hr]
          exact ⟨⟨by show 0 < 1 + v3; omega, by show 1 + v3 ≤ 9; omega⟩, ⟨by show -20 ≤ v2 - 20; omega, by show v2 - 20 ≤ 20; omega⟩⟩
      · intro p hp
        rcases List.mem_cons.mp hp with h | h
        · subst h; show @Ne Nat _ _; omega
        · exact hoffT p h
      · intro p hp
        rcases List.mem_cons.mp hp with h | h
        · subst h; show @Ne Nat _ _; omega
        · exact hoffS p h
      · intro p hp
        rcases List.mem_cons.mp hp with h | h
        · subst h; show @Ne Nat _ _; omega
        · exact hR.offC p h
      · exact fun p hp => .tail _ (hR.sub p hp)
  case kd =>
    rintro ⟨o2, sp, its, rs, nn, tl⟩ u0 u h tk hr8 hR F1 N1
    have hT2 := hR.tape
    have hoffT := hR.offT
    have hoffS := hR.offS
    have hoffC := hR.offC
    have hlo := hR.lo
    have hhi := hR.hi
    have hlen2 := hR.len
    dsimp only at F1 N1 hT2 hoffT hoffS hoffC hlo hhi hlen2
    have hits : its.length ≤ 3 := by omega
    have hsp : sp ≤ spot + 7 := by omega
    have hsq : spot ≤ sp := by omega
    clear hlen2 hhi hlo
    replace F1 : Fr g' L' h _ := F1
    replace N1 : News g' L' h _ := N1
    (repeat' ((fail_if_success (with_reducible first | (show wpAny _ _ (exec (PySem.Stmt.While _ _ _ _) _) _ _ _) | (show wpAny _ _ (exec (PySem.Stmt.For _ _ _ _ _) _) _ _ _) | (show wpAny _ _ (eval (PySem.Expr.ListComp _ _ _ _) _) _ _ _) | (show wpAny _ _ (pyIter (Value.ref _)) _ _ _) | (show LCg.CompSrc _ _ _ _ _ _ _ _ _ _ _ _ _ _) | (show LCt.CompSrcT _ _ _ _ _ _ _ _ _ _ _ _ _ _ _) | (show LCp.SrcLP _ _ _ _ _ _ _ _ _ _ _ _ _ _ _) | (show wpAny _ _ (exec (PySem.Stmt.Assign _ (PySem.Expr.ListComp _ _ _ _) _) _) _ _ _))); first | (k_unfold; (try dsimp only)) | walk1 | (dsimp only; walk1) | (leave1; (try dsimp only)) | (refine Then.next hQ9 ?_; clear hQ9; (try clear Q9)) | (refine Then.ret hQ9 ?_; clear hQ9; (try clear Q9)) | (refine Then.brk hQ9 ?_; clear hQ9; (try clear Q9)) | (refine Then.cont hQ9 ?_; clear hQ9; (try clear Q9)) | fail "no step"))
    rename_i hB1 oc3 F2 N2 dc3
    obtain ⟨tz3, dc3⟩ : ∃ t, oc3.data = Data.cell (some (Value.int 1 t)) := ⟨_, dc3⟩
    refine' while_S (σ := Int × Tok × Obj) (fun c => (S, listOf its.toArray nn) :: (L' + 1, c.2.2) :: (TP, o2) :: (CL, listOf vs.toArray n) :: tl) (fun c => []) [] (fun c => c.2.2.data = .cell (some (.int c.1 c.2.1)) ∧ 1 ≤ c.1 ∧ c.1 ≤ lapM rs) (fun c => (lapM rs - c.1).toNat) (1, tz3, oc3) F2 N2 ?kk ?kr ?kt
    case kk => exact Names.nil
    case kr => exact ⟨dc3, Int.le_refl _, lapM_pos hR.bnd⟩
    case kt =>
      rintro ⟨lp, tlp, oc4⟩ u7 h7 tk7 hr9 ⟨dc4, hl1, hl2⟩ F7 N7
      dsimp only at dc4 hl1 hl2 F7 N7
      (repeat' ((fail_if_success (with_reducible first | (show wpAny _ _ (exec (PySem.Stmt.While _ _ _ _) _) _ _ _) | (show wpAny _ _ (exec (PySem.Stmt.For _ _ _ _ _) _) _ _ _) | (show wpAny _ _ (eval (PySem.Expr.ListComp _ _ _ _) _) _ _ _) | (show wpAny _ _ (pyIter (Value.ref _)) _ _ _) | (show LCg.CompSrc _ _ _ _ _ _ _ _ _ _ _ _ _ _) | (show LCt.CompSrcT _ _ _ _ _ _ _ _ _ _ _ _ _ _ _) | (show LCp.SrcLP _ _ _ _ _ _ _ _ _ _ _ _ _ _ _) | (show wpAny _ _ (exec (PySem.Stmt.Assign _ (PySem.Expr.ListComp _ _ _ _) _) _) _ _ _))); first | (k_unfold; (try dsimp only)) | walk1 | (dsimp only; walk1) | (leave1; (try dsimp only)) | (refine Then.next hQ9 ?_; clear hQ9; (try clear Q9)) | (refine Then.ret hQ9 ?_; clear hQ9; (try clear Q9)) | (refine Then.brk hQ9 ?_; clear hQ9; (try clear Q9)) | (refine Then.cont hQ9 ?_; clear hQ9; (try clear Q9)) | fail "no step"))
      refine comp_PT (_F₀ := by k_asm) (by with_unfolding_all rfl) (by decide) (by rfl) (by decide) (by rfl) (by rfl) (by decide) ?_
      (repeat' ((fail_if_success (with_reducible first | (show wpAny _ _ (exec (PySem.Stmt.While _ _ _ _) _) _ _ _) | (show wpAny _ _ (exec (PySem.Stmt.For _ _ _ _ _) _) _ _ _) | (show wpAny _ _ (eval (PySem.Expr.ListComp _ _ _ _) _) _ _ _) | (show wpAny _ _ (pyIter (Value.ref _)) _ _ _) | (show LCg.CompSrc _ _ _ _ _ _ _ _ _ _ _ _ _ _) | (show LCt.CompSrcT _ _ _ _ _ _ _ _ _ _ _ _ _ _ _) | (show LCp.SrcLP _ _ _ _ _ _ _ _ _ _ _ _ _ _ _) | (show wpAny _ _ (exec (PySem.Stmt.Assign _ (PySem.Expr.ListComp _ _ _ _) _) _) _ _ _))); first | (k_unfold; (try dsimp only)) | walk1 | (dsimp only; walk1) | (leave1; (try dsimp only)) | (refine Then.next hQ9 ?_; clear hQ9; (try clear Q9)) | (refine Then.ret hQ9 ?_; clear hQ9; (try clear Q9)) | (refine Then.brk hQ9 ?_; clear hQ9; (try clear Q9)) | (refine Then.cont hQ9 ?_; clear hQ9; (try clear Q9)) | fail "no step"))
      refine ⟨fun i ys nx => nx = (S, listOf its.toArray nn) :: (L' + 1, oc4) :: (TP, o2) :: (CL, listOf vs.toArray n) :: tl ∧ IntsAre ys (lapOnes lp (rs.take i)), S, its.toArray, nn, _, rfl, by rfl, by k_asm, N7, by unfold sizeLine; simp only [List.size_toArray]; omega, ⟨rfl, .nil⟩, fun i ys nx h => by rw [h.1]; exact .head _, ?_, ?_⟩
      · rintro i ys nx v hv ⟨rfl, hys⟩
        obtain ⟨D, p, q, t, u', rfl, hpi, hD⟩ := hR.prs.get (i := i) (by simpa using hv)
        refine ⟨D, _, _, rfl, .tail _ (.tail _ (.tail _ (.tail _ hD))), ?_⟩
        intro I8 oI8 C8 oC8 D8 m8 h8 tk8 E8 hC8 hx8 hy8 F8 N8 off8 ne8
        have off0 := off8
        dsimp only [LCg.Off3] at off8
        (try dsimp only)
        have hqq := (hR.bnd _ (List.mem_of_getElem? hpi)).1
        have hpp := (hR.bnd _ (List.mem_of_getElem? hpi)).2
        dsimp only at hqq hpp
        (repeat' (first | (k_unfold; (try dsimp only)) | walk1 | (dsimp only; walk1) | (leave1; (try dsimp only)) | (refine Then.next hQ9 ?_; clear hQ9; (try clear Q9)) | (refine Then.ret hQ9 ?_; clear hQ9; (try clear Q9)) | (refine Then.brk hQ9 ?_; clear hQ9; (try clear Q9)) | (refine Then.cont hQ9 ?_; clear hQ9; (try clear Q9)) | fail "no step"))
        · refine LCg.CompEnd.intro (by assumption) (by assumption) _ (fun p hp => hp) off0 trivial ⟨rfl, ?_⟩
          rw [lapOnes_yes hpi (by assumption)]
          exact hys.append (.cons _ _ .nil)
        · refine LCg.CompEnd.intro (by assumption) (by assumption) _ (fun p hp => hp) off0 trivial ⟨rfl, ?_⟩
          rw [lapOnes_no hpi (by assumption)]
          exact hys
      · rintro ys nx ⟨rfl, hys⟩ D8 h8 tk8 F8 N8 off8
        dsimp only [LCg.Off1] at off8
        have htk : rs.take its.toArray.size = rs := List.take_of_length_le (by simp [hR.prs.length])
        (repeat' ((fail_if_success (with_reducible first | (show wpAny _ _ (exec (PySem.Stmt.While _ _ _ _) _) _ _ _) | (show wpAny _ _ (exec (PySem.Stmt.For _ _ _ _ _) _) _ _ _) | (show wpAny _ _ (eval (PySem.Expr.ListComp _ _ _ _) _) _ _ _) | (show wpAny _ _ (pyIter (Value.ref _)) _ _ _) | (show LCg.CompSrc _ _ _ _ _ _ _ _ _ _ _ _ _ _) | (show LCt.CompSrcT _ _ _ _ _ _ _ _ _ _ _ _ _ _ _) | (show LCp.SrcLP _ _ _ _ _ _ _ _ _ _ _ _ _ _ _) | (show wpAny _ _ (exec (PySem.Stmt.Assign _ (PySem.Expr.ListComp _ _ _ _) _) _) _ _ _))); first | (k_unfold; (try dsimp only)) | walk1 | (dsimp only; walk1) | (leave1; (try dsimp only)) | (refine Then.next hQ9 ?_; clear hQ9; (try clear Q9)) | (refine Then.ret hQ9 ?_; clear hQ9; (try clear Q9)) | (refine Then.brk hQ9 ?_; clear hQ9; (try clear Q9)) | (refine Then.cont hQ9 ?_; clear hQ9; (try clear Q9)) | fail "no step"))
        · rename_i D9 h9 F9 N9 lt9 hok
          rw [htk] at hok
          have hE := lap_end hR.bnd hl1 hl2 (lapOnes_nil.mp (of_decide_eq_true hok))
          refine LCp.ListComp_P (F₀ := by k_asm) (by with_unfolding_all rfl) (by decide) (by rfl) (by decide) (by rfl) (by rfl) (by decide) ?_
          (repeat' ((fail_if_success (with_reducible first | (show wpAny _ _ (exec (PySem.Stmt.While _ _ _ _) _) _ _ _) | (show wpAny _ _ (exec (PySem.Stmt.For _ _ _ _ _) _) _ _ _) | (show wpAny _ _ (eval (PySem.Expr.ListComp _ _ _ _) _) _ _ _) | (show wpAny _ _ (pyIter (Value.ref _)) _ _ _) | (show LCg.CompSrc _ _ _ _ _ _ _ _ _ _ _ _ _ _) | (show LCt.CompSrcT _ _ _ _ _ _ _ _ _ _ _ _ _ _ _) | (show LCp.SrcLP _ _ _ _ _ _ _ _ _ _ _ _ _ _ _) | (show wpAny _ _ (exec (PySem.Stmt.Assign _ (PySem.Expr.ListComp _ _ _ _) _) _) _ _ _))); first | (k_unfold; (try dsimp only)) | walk1 | (dsimp only; walk1) | (leave1; (try dsimp only)) | (refine Then.next hQ9 ?_; clear hQ9; (try clear Q9)) | (refine Then.ret hQ9 ?_; clear hQ9; (try clear Q9)) | (refine Then.brk hQ9 ?_; clear hQ9; (try clear Q9)) | (refine Then.cont hQ9 ?_; clear hQ9; (try clear Q9)) | fail "no step"))
          refine LCp.SrcLP.ledger (by rfl) (by k_asm) (by k_asm) (List.Mem.tail _ (List.Mem.tail _ (List.Mem.head _))) (by unfold sizeLine; simp only [List.size_toArray]; omega) ?_
          intro g
          refine restP_ind (fun i ys nx => (∀ p ∈ (D9, _) :: (D8, _) :: (S, listOf its.toArray nn) :: (L' + 1, oc4) :: (TP, o2) :: (CL, listOf vs.toArray n) :: tl, p ∈ nx) ∧ ∃ qs, PairsAre nx ys qs ∧ Reds (rs.take i) qs) ?_ ?_ _ 0 [] _ (Nat.zero_add _) ⟨fun p hp => hp, [], .nil, .nil⟩
          · rintro i ys nx v hi ⟨hsub, qs, hpq, hred⟩ hv
            obtain ⟨D, p, q, t, u', rfl, hpi, hD⟩ := hR.prs.get (i := i) (by simpa using hv)
            refine ⟨D, _, _, _, 0, rfl, hsub _ (.tail _ (.tail _ (.tail _ (.tail _ (.tail _ (.tail _ hD)))))), rfl, rfl, ?_⟩
            intro I8 oI8 C8 oC8 D7 m8 h8 tk8 E8 hC8 hx8 hy8 F8 N8 off8 ne8
            have hqq := (hR.bnd _ (List.mem_of_getElem? hpi)).1
            dsimp only at hqq
            (repeat' (first | (k_unfold; (try dsimp only)) | walk1 | (dsimp only; walk1) | (leave1; (try dsimp only)) | (refine Then.next hQ9 ?_; clear hQ9; (try clear Q9)) | (refine Then.ret hQ9 ?_; clear hQ9; (try clear Q9)) | (refine Then.brk hQ9 ?_; clear hQ9; (try clear Q9)) | (refine Then.cont hQ9 ?_; clear hQ9; (try clear Q9)) | fail "no step"))
            rename_i D6 p6 q6 t6 u6 h6 tk6 hP6 F6 N6 lt6 hq6 hb6 hc6
            refine LCg.CompEnd.intro F6 N6 ((D6, (prO p6 t6 q6 u6)) :: nx) ?sub ?off ?src ⟨fun p hp => .tail _ (hsub p hp), qs ++ [(p6, q6)], (hpq.mono fun p hp => .tail _ hp).snoc (.head _), ?red⟩
            case red =>
              rw [List.take_add_one, hpi]
              exact hred.snoc hP6
            case src => exact Or.inr ⟨_, .tail _ (hsub _ (.tail _ (.tail _ (.head _)))), rfl, _, rfl⟩
            case off => exact ⟨⟨by show @Ne Nat _ _; omega, by show @Ne Nat _ _; omega, by show @Ne Nat _ _; omega⟩, off8⟩
            case sub =>
              repeat (refine subC (by k_mem) ?_)
              intro p hp
              repeat (first | exact hp | refine List.Mem.tail _ ?_)
          · rintro ys nx ⟨hsub, qs, hpq, hred⟩ D7 h7 tk7 F7 N7 off7
            have htk2 : rs.take (List.toArray its).size = rs := List.take_of_length_le (by simp [hR.prs.length])
            rw [htk2] at hred
            have hPA : PairsAre ((D7, LCg.lst ys) :: nx) ys qs := hpq.mono fun p hp => .tail _ hp
            have hqb := hred.bnd hR.bnd
            have hTP := hsub (TP, o2) (by simp)
            have hsb : ∀ p ∈ news, p ∈ nx := fun p hp => hsub p (by simp [hR.sub p hp])
            have hC5 := hsub (L' + 1, oc4) (by simp)
            clear hsub hpq
            repeat' ((fail_if_success (with_reducible show wpAny _ _ (call (Value.ref 144) _ _) _ _ _)); first | (k_unfold; (try dsimp only)) | walk1 | (dsimp only; walk1) | (leave1; (try dsimp only)) | (refine Then.next hQ9 ?_; clear hQ9; (try clear Q9)) | (refine Then.ret hQ9 ?_; clear hQ9; (try clear Q9)) | (refine Then.brk hQ9 ?_; clear hQ9; (try clear Q9)) | (refine Then.cont hQ9 ?_; clear hQ9; (try clear Q9)) | fail "no step")
            replace N7 : News g' L' h7 ((D7, listOf ys.toArray ys.length) :: nx) := N7
            k_dflt (refine' useI (bottom_tell _ _ _ _ _ _ (.head _) hPA hqb) ?q1 ?q2 ?q3 ?q4 ?q5 ?q6 ?q7 ?q8 ?_; (case q1 | q2 | q3 | q4 | q5 => k_asm); (case q6 => first | exact rfl | assumption); (case q7 => ktr_room); (case q8 => ktr_units))
            intro t9 h9 tk9 F9 N9
            (try dsimp only)
            (try k_sweep)
            replace N9 := News.dup (News.dup N9 (.tail _ hTP)) (.tail _ (.tail _ hC5))
            (repeat' (first | (k_unfold; (try dsimp only)) | walk1 | (dsimp only; walk1) | (leave1; (try dsimp only)) | (refine Then.next hQ9 ?_; clear hQ9; (try clear Q9)) | (refine Then.ret hQ9 ?_; clear hQ9; (try clear Q9)) | (refine Then.brk hQ9 ?_; clear hQ9; (try clear Q9)) | (refine Then.cont hQ9 ?_; clear hQ9; (try clear Q9)) | fail "no step"))
            have e : (lcms qs == lp) = true := by
              rw [hred.lcms hR.bnd, hE]
              exact beq_self_eq_true _
            rw [e]
            exact endL (R := fun o' spot' => Tape w o' CL spot' ∧ spot ≤ spot' ∧ spot' ≤ spot + 7) hret (by assumption) (by assumption) (by k_mem) (fun p hp => by simp [hsb p hp]) ⟨hT2, by omega, by omega⟩
        · rename_i D9 h9 lt9 hok h10 oc5 F9 N9 dc5
          rw [htk] at hok
          have hE := lap_next hR.bnd hl2 (fun h => of_decide_eq_false hok (lapOnes_nil.mpr h))
          refine' while_end (lp + 1, _, oc5) (by assumption) (by assumption) (fun p hp => .tail _ (.tail _ hp)) ?hk ?hr ⟨dc5, by show 1 ≤ lp + 1; omega, hE⟩ (lap_meas hE)
          case hk => exact Names.nil
          case hr => (first | (((repeat (first | refine RestsW.step (by with_unfolding_all rfl) ?_ | refine RestsW.stepU (by with_unfolding_all rfl) ?_))); first | exact RestsW.of hr9 | exact RestsW.of hr8 | exact RestsW.last | exact RestsW.same | (refine RestsW.via hr9 ?_; ((repeat (first | refine RestsW.step (by with_unfolding_all rfl) ?_ | refine RestsW.stepU (by with_unfolding_all rfl) ?_))); exact RestsW.of hr8) | (refine RestsW.viaS (by with_unfolding_all rfl) hr9 ?_; ((repeat (first | refine RestsW.step (by with_unfolding_all rfl) ?_ | refine RestsW.stepU (by with_unfolding_all rfl) ?_))); exact RestsW.of hr8)) | (intro z9 hz2 hz3; (have hz1 := True.intro); (have hz4 := hz3); (try simp only [List.mem_cons, forall_eq_or_imp, List.not_mem_nil, false_implies, implies_true, and_true, List.mem_singleton, forall_eq, ne_eq] at hz1 hz2); (try simp only [List.contains_cons, List.contains_nil, Bool.or_false, Bool.or_eq_false_iff, beq_eq_false_iff_ne, ne_eq] at hz4); simp only [hz1, hz2, hz3, hz4, kstB, if_false, Bool.false_eq_true, List.contains_nil]))
theorem News.dropAt {h₀ h : Heap} {L : Addr} {l1 l2 : List (Addr × Obj)} {q : Addr × Obj} (N : News h₀ L h (l1 ++ q :: l2)) : News h₀ L h (l1 ++ l2) := fun p hp => N p (by
  rcases List.mem_append.mp hp with h | h
  · exact List.mem_append_left _ h
  · exact List.mem_append_right _ (.tail _ h))
/-- the ints from -31 on that p lets through -/
def sel (p : Int → Bool) (i : Nat) : List Int := ((List.range i).map fun k : Nat => (-31 : Int) + (k : Int)).filter p
theorem sel_yes {p : Int → Bool} {i : Nat} (h : p (-31 + (i : Int)) = true) : sel p (i + 1) = sel p i ++ [-31 + (i : Int)] := by
  simp [sel, List.range_succ, List.filter_append, h]
theorem sel_no {p : Int → Bool} {i : Nat} (h : p (-31 + (i : Int)) = false) : sel p (i + 1) = sel p i := by
  simp [sel, List.range_succ, List.filter_append, h]
def pcl (a b c d n : Int) : Bool := decide (a ≤ n * b) && decide (n * d ≤ c)
def pin (a b c d n : Int) : Bool := decide (a < n * b) && decide (n * d < c)
section
variable {a b c d n : Int}
theorem pcl_t (h1 : a ≤ n * b) (h2 : n * d ≤ c) : pcl a b c d n = true := by simp [pcl, h1, h2]
theorem pcl_f1 (h1 : ¬ a ≤ n * b) : pcl a b c d n = false := by simp [pcl, h1]
theorem pcl_f2 (h1 : ¬ n * d ≤ c) : pcl a b c d n = false := by simp [pcl, h1]
theorem pin_t (h1 : a < n * b) (h2 : n * d < c) : pin a b c d n = true := by simp [pin, h1, h2]
theorem pin_f1 (h1 : ¬ a < n * b) : pin a b c d n = false := by simp [pin, h1]
theorem pin_f2 (h1 : ¬ n * d < c) : pin a b c d n = false := by simp [pin, h1]
theorem isR_lt {a b p q n : Int} (h : IsR a b p q) (hb : 0 < b) : p < n * q ↔ a < n * b := by
  have e := h.eq
  have hq := h.pos
  have e1 : p * b < n * q * b ↔ p < n * q := Int.mul_lt_mul_right hb
  have e2 : a * q < n * b * q ↔ a < n * b := Int.mul_lt_mul_right hq
  rw [← e1, ← e2, e, show n * q * b = n * b * q from by grind]
theorem isR_gt {a b p q n : Int} (h : IsR a b p q) (hb : 0 < b) : n * q < p ↔ n * b < a := by
  have e := h.eq
  have hq := h.pos
  have e1 : n * q * b < p * b ↔ n * q < p := Int.mul_lt_mul_right hb
  have e2 : n * b * q < a * q ↔ n * b < a := Int.mul_lt_mul_right hq
  rw [← e1, ← e2, e, show n * q * b = n * b * q from by grind]
theorem btw_pin {p q r s : Int} (hl : IsR a b p q) (hh : IsR c d r s) (hb : 0 < b) (hd : 0 < d) : (decide (p < n * q) && decide (n * s < r)) = pin a b c d n := by
  unfold pin
  rw [decide_eq_decide.mpr (isR_lt hl hb), decide_eq_decide.mpr (isR_gt hh hd)]
end
theorem ints_snoc {ys : List Value} {l : List Int} {x y : Int} {t : Tok} (h : IntsAre ys l) (e : x = y) : IntsAre (ys ++ [.int x t]) (l ++ [y]) := by
  subst e
  exact h.append (.cons _ _ .nil)
/-- n ints from lo on -/
def seg (lo : Int) (n : Nat) : List Int := (List.range n).map fun k : Nat => lo + (k : Int)
theorem seg_succ (lo : Int) (n : Nat) : seg lo (n + 1) = seg lo n ++ [lo + (n : Int)] := by simp [seg, List.range_succ]
/-- how many of the ints from lo on, below hi, lie below x -/
def cnt (lo hi x : Int) : Nat := ((if x ≤ hi then x else hi) - lo).toNat
theorem cnt_lo {lo hi x : Int} (h : x ≤ lo) : cnt lo hi x = 0 := by
  unfold cnt
  apply Int.toNat_of_nonpos
  split <;> (first | lia | omega)
theorem cnt_hi {lo hi x : Int} (h : hi ≤ x) : cnt lo hi x = (hi - lo).toNat := by
  unfold cnt
  split
  · rw [show x = hi from Int.le_antisymm (by assumption) h]
  · rfl
theorem cnt_in {lo hi x : Int} (h2 : x ≤ hi) : cnt lo hi x = (x - lo).toNat := by
  unfold cnt
  rw [if_pos h2]
theorem cnt_step {lo hi x : Int} (h1 : lo ≤ x) (h2 : x < hi) : cnt lo hi (x + 1) = cnt lo hi x + 1 := by
  rw [cnt_in (by (first | lia | omega)), cnt_in (by (first | lia | omega)), show x + 1 - lo = (x - lo) + 1 from by (first | lia | omega)]
  exact Int.toNat_add_nat (by (first | lia | omega)) 1
theorem cnt_stay {lo hi x : Int} (h : ¬ (lo ≤ x ∧ x < hi)) : cnt lo hi (x + 1) = cnt lo hi x := by
  by_cases h1 : lo ≤ x
  · rw [cnt_hi (by (first | lia | omega)), cnt_hi (by (first | lia | omega))]
  · rw [cnt_lo (by (first | lia | omega)), cnt_lo (by (first | lia | omega))]
theorem cnt_val {lo hi x : Int} (h1 : lo ≤ x) (h2 : x < hi) : lo + (cnt lo hi x : Int) = x := by
  rw [cnt_in (by (first | lia | omega)), Int.toNat_of_nonneg (by (first | lia | omega))]
  (first | lia | omega)
theorem sel_seg {p : Int → Bool} {lo hi : Int} (h : ∀ x, p x = (decide (lo ≤ x) && decide (x < hi))) (h1 : -31 ≤ lo) (i : Nat) : sel p i = seg lo (cnt lo hi (-31 + (i : Int))) := by
  induction i with
  | zero => rw [show (-31 + ((0 : Nat) : Int)) = -31 from rfl, cnt_lo h1]; rfl
  | succ i ih =>
    rw [show -31 + ((i + 1 : Nat) : Int) = (-31 + (i : Int)) + 1 from by (first | lia | omega)]
    cases hp : p (-31 + (i : Int)) with
    | true =>
      have hq := (h _).symm.trans hp
      simp only [Bool.and_eq_true, decide_eq_true_eq] at hq
      rw [sel_yes hp, ih, cnt_step hq.1 hq.2, seg_succ, cnt_val hq.1 hq.2]
    | false =>
      have hq : ¬ (lo ≤ -31 + (i : Int) ∧ -31 + (i : Int) < hi) := fun hq => by
        rw [h, decide_eq_true hq.1, decide_eq_true hq.2] at hp
        exact absurd hp (by decide)
      rw [sel_no hp, ih, cnt_stay hq]
section
variable {a b c d : Int}
theorem ceil_le {x : Int} (hb : 0 < b) : -((-a).fdiv b) ≤ x ↔ a ≤ x * b := by
  rw [Int.fdiv_eq_ediv_of_nonneg _ (by (first | lia | omega))]
  have h := Int.le_ediv_iff_mul_le (a := -x) (b := -a) hb
  rw [Int.neg_mul] at h
  (first | lia | omega)
theorem le_floor {x : Int} (hd : 0 < d) : x ≤ c.fdiv d ↔ x * d ≤ c := by
  rw [Int.fdiv_eq_ediv_of_nonneg _ (by (first | lia | omega))]
  exact Int.le_ediv_iff_mul_le hd
theorem floor_lt {x : Int} (hb : 0 < b) : a.fdiv b < x ↔ a < x * b := by
  rw [Int.fdiv_eq_ediv_of_nonneg _ (by (first | lia | omega))]
  exact Int.ediv_lt_iff_lt_mul hb
theorem lt_ceil {x : Int} (hd : 0 < d) : x < -((-c).fdiv d) ↔ x * d < c := by --o
  have h := ceil_le (a := c) (x := x) hd
  omega
theorem end_lo (hb : 0 < b) (ha : -30 ≤ a ∧ a ≤ 30) : -31 ≤ -((-a).fdiv b) := by --o
  have h := lt_ceil (c := a) (x := -31) hb
  have : -31 * b ≤ -31 * 1 := Int.mul_le_mul_of_nonpos_left (by omega) (by omega)
  omega
theorem end_hi (hd : 0 < d) (hc : -30 ≤ c ∧ c ≤ 30) : c.fdiv d + 1 ≤ 32 := by --o
  have h := floor_lt (a := c) (x := 31) hd
  have : 31 * 1 ≤ 31 * d := Int.mul_le_mul_of_nonneg_left (by omega) (by omega)
  omega
theorem end_lo2 (hb : 0 < b) (ha : -30 ≤ a ∧ a ≤ 30) : -31 ≤ a.fdiv b + 1 := by --o
  have h3 := le_floor (c := a) (x := -32) hb
  have h4 : -32 * b ≤ -32 * 1 := Int.mul_le_mul_of_nonpos_left (by omega) (by omega)
  have h5 := le_floor (c := a) (x := -30) hb
  have h6 : -30 * b ≤ -30 * 1 := Int.mul_le_mul_of_nonpos_left (by omega) (by omega)
  omega
theorem end_hi2 (hd : 0 < d) (hc : -30 ≤ c ∧ c ≤ 30) : -((-c).fdiv d) ≤ 32 := by --o
  have h := ceil_le (a := c) (x := 32) hd
  have : 32 * 1 ≤ 32 * d := Int.mul_le_mul_of_nonneg_left (by omega) (by omega)
  omega
theorem ends_closed (hb : 0 < b) (hd : 0 < d) (ha : -30 ≤ a ∧ a ≤ 30) (hc : -30 ≤ c ∧ c ≤ 30) : sel (pcl a b c d) 63 = seg (-((-a).fdiv b)) (c.fdiv d + 1 - -((-a).fdiv b)).toNat := by
  have h1 := end_lo hb ha
  have h2 := end_hi hd hc
  rw [sel_seg (lo := -((-a).fdiv b)) (hi := c.fdiv d + 1) (fun x => ?_) h1, cnt_hi (x := -31 + ((63 : Nat) : Int)) (by (first | lia | omega))]
  unfold pcl
  rw [decide_eq_decide.mpr (ceil_le (a := a) (x := x) hb), decide_eq_decide.mpr (show x * d ≤ c ↔ x < c.fdiv d + 1 from by rw [← le_floor hd]; (first | lia | omega))]
theorem ends_inner (hb : 0 < b) (hd : 0 < d) (ha : -30 ≤ a ∧ a ≤ 30) (hc : -30 ≤ c ∧ c ≤ 30) : sel (pin a b c d) 63 = seg (a.fdiv b + 1) (-((-c).fdiv d) - (a.fdiv b + 1)).toNat := by
  have h1 := end_lo2 hb ha
  have h2 := end_hi2 hd hc
  rw [sel_seg (lo := a.fdiv b + 1) (hi := -((-c).fdiv d)) (fun x => ?_) h1, cnt_hi (x := -31 + ((63 : Nat) : Int)) (by (first | lia | omega))]
  unfold pin
  rw [decide_eq_decide.mpr (show a < x * b ↔ a.fdiv b + 1 ≤ x from by rw [← floor_lt hb]; (first | lia | omega)), decide_eq_decide.mpr (lt_ceil (c := c) (x := x) hd)]
theorem shift_floor {f p q : Int} (h : IsR (a + f * b) b p q) (hb : 0 < b) : p.fdiv q = f + a.fdiv b := by
  rw [isR_fdiv h hb, Int.fdiv_eq_ediv_of_nonneg _ (by (first | lia | omega)), Int.fdiv_eq_ediv_of_nonneg _ (by (first | lia | omega)), Int.add_mul_ediv_right _ _ (by (first | lia | omega))]
  (first | lia | omega)
theorem shift_ceil {f p q : Int} (h : IsR (a + f * b) b p q) (hb : 0 < b) : -((-p).fdiv q) = f + -((-a).fdiv b) := by
  have h2 : IsR (-a + (-f) * b) b (-p) q := ⟨h.pos, by have := h.eq; rw [Int.neg_mul, this]; grind, by rw [Int.neg_gcd]; exact h.co⟩
  rw [shift_floor h2 hb]
  (first | lia | omega)
end
theorem ends_ne1 (p q : Int) : ((0 - p).fdiv q != 0 - -(-p).fdiv q) = false := by simp
theorem ends_ne2 (p q : Int) : (-(-(0 - p)).fdiv q != 0 - p.fdiv q) = false := by simp
theorem ends_tell (w : World) (great : Int) (tg : Tok) (TP CL : Addr) (o : Obj) (spot : Int) (vs : List Value) (ns : List Int) (n : Nat) (news : List (Addr × Obj)) (ho : Tape w o CL spot) (hl : (CL, listOf vs.toArray n) ∈ news) (hi : IntsAre vs ns) (hlen : ns.length ≤ 100) (hoff : ∀ p ∈ news, p.1 ≠ TP) (hCL : @Ne Nat CL TP) (h0 : 0 ≤ spot ∧ spot < 1000) :
    Tell w 25 206 [.ref TP, .int great tg] ((TP, o) :: news) (fun r nx => ∃ (o' : Obj) (spot' : Int), r = .bool true ∧ nx = (TP, o') :: news ∧ Tape w o' CL spot' ∧ spot ≤ spot' ∧ spot' ≤ spot + 4) := by
  w_top off
  unfold Tell
  k_fill
  intro mean mg mb dp un gd cn cs ad ccd cl outer A₀ base h₀ L m s Q E B F X N T hk hd hu hret
  k_with_none
  k_with "lt" => ((with_reducible rename ∀ p ∈ (_ : List (Addr × Obj)), p.1 < (_ : Addr) => hlt); replace hlt := allLt_of hlt; (dsimp only [AllLt] at hlt); revert hlt; intros)
  k_with "room" => (k_dflt (first | exact rm2 (by assumption) (by rfl) | exact rm1 (by assumption) (by rfl) | exact rm3 (by assumption) (by rfl) | exact rm0 (by assumption) | fail "no"))
  k_with "arm" => (first | assumption | (with_reducible first | exact arm0 (by assumption) | exact arm1 (by assumption) | exact arm2 (by assumption) | exact arm3 (by assumption) | exact arm4 (by assumption) | exact arm5 (by assumption) | exact arm6 (by assumption) | exact arm7 (by assumption) | exact arm8 (by assumption) | exact arm9 (by assumption) | exact arm10 (by assumption) | exact arm11 (by assumption) | exact arm12 (by assumption) | exact arm13 (by assumption) | exact And.left (arm0 (by assumption)) | exact And.left (And.right (arm0 (by assumption))) | exact And.right (And.right (arm0 (by assumption))) | exact And.left (arm1 (by assumption)) | exact And.left (And.right (arm1 (by assumption))) | exact And.right (And.right (arm1 (by assumption))) | exact And.left (arm2 (by assumption)) | exact And.left (And.right (arm2 (by assumption))) | exact And.right (And.right (arm2 (by assumption))) | exact And.left (arm3 (by assumption)) | exact And.left (And.right (arm3 (by assumption))) | exact And.right (And.right (arm3 (by assumption))) | exact And.left (arm4 (by assumption)) | exact And.left (And.right (arm4 (by assumption))) | exact And.right (And.right (arm4 (by assumption))) | exact And.left (arm5 (by assumption)) | exact And.left (And.right (arm5 (by assumption))) | exact And.right (And.right (arm5 (by assumption))) | exact And.left (arm6 (by assumption)) | exact And.left (And.right (arm6 (by assumption))) | exact And.right (And.right (arm6 (by assumption))) | exact And.left (arm7 (by assumption)) | exact And.left (And.right (arm7 (by assumption))) | exact And.right (And.right (arm7 (by assumption))) | exact Nat.lt_add_one _ | fail "no") | (with_reducible refine Nat.lt_add_right _ ?_; mod_arm) | fail "no")
  k_with "ne" => (k_dflt (first | assumption | exact Ne.symm (by assumption) | (refine neN ?_; (try dsimp only); first | assumption | exact Ne.symm (by assumption) | exact Nat.ne_of_lt (by mod_arm) | exact Nat.ne_of_gt (by mod_arm) | mod_arm | exact Ne.symm (by mod_arm) | fail "no") | fail "no"))
  k_with "om" => (first | (with_reducible first | assumption | exact Ne.symm (by assumption) | exact bdA (by assumption) | exact bdB (by assumption) (by k_dflt rfl) | exact bdC (by assumption) | exact bdD (by assumption) (by k_dflt rfl) | exact bdE (by assumption) | exact bdF (by assumption) (by k_dflt rfl) | exact bdG (by assumption) (by k_dflt rfl) | exact bdH (by assumption) (by k_dflt rfl) | exact bdI (by assumption) | exact bdJ (by assumption) (by k_dflt rfl) | exact bdK (by assumption) | exact bdO (by assumption) | exact bdP (by assumption) (by k_dflt rfl) | exact bdO0 (by assumption) | exact bdP0 (by assumption) (by k_dflt rfl) | exact bdV (by assumption) | exact bdS0 (by assumption) | exact bdS1 (by assumption) | exact bdS2 (by assumption) | exact bdS3 (by assumption) | exact bdQ (by assumption) (by assumption) (by assumption) | exact bdQ2 (by assumption) (by assumption) (by assumption) (by k_dflt rfl) | exact bdQ3 (by assumption) (by assumption) (by assumption) (by assumption) (by assumption) | exact bdQ4 (by assumption) (by assumption) (by assumption) | exact bdQ5 (by assumption) (by assumption) (by assumption) (by k_dflt rfl) | exact bdNA (by assumption) | exact bdW (by assumption) (by k_dflt rfl) | exact bdX2 (by assumption) (by k_dflt rfl) | exact bdX3 (by assumption) (by k_dflt rfl) | exact bdX4 (by assumption) (by k_dflt rfl) | exact bdX5 (by assumption) (by k_dflt rfl) | exact bdT0 (by assumption) | exact bdT1 (by assumption) | exact bdR2 | exact bdR1 (by assumption) (by k_dflt rfl) | exact Nat.ne_of_lt (by mod_arm) | exact Nat.ne_of_gt (by mod_arm) | exact Ne.symm (by mod_arm) | mod_arm | fail "no") | ((with_reducible refine And.intro ?_ ?_) <;> omega) | ((with_reducible (first | (rename @Ne _ _ _ => hz9; clear hz9) | (rename And (@Ne _ _ _) _ => hz9; clear hz9) | (rename And (And (@Ne _ _ _) _) _ => hz9; clear hz9)); (repeat (with_reducible first | (rename @Ne _ _ _ => hz9; clear hz9) | (rename And (@Ne _ _ _) _ => hz9; clear hz9) | (rename And (And (@Ne _ _ _) _) _ => hz9; clear hz9))); omega)) | fail "no")
  k_with "eval Call" => (refine Call_ ?_)
  k_with "eval Name" => (k_here; k_dflt (refine' nameX_L ?F ?v ?_ ?a ?b; (case F => k_asm); (case a => rfl); (case b => rfl); (case v => first | rfl | exact hr9 _ rfl | exact hr8 _ rfl | exact (hr9 _ rfl).trans (hr8 _ rfl)); k_whole))
  k_with "storeName" => (k_here; dsimp only)
  k_with "newTuple" => (k_here; dsimp only)
  k_with "newList" => (k_here; dsimp only)
  k_with "LeaveK" => (k_here; dsimp only)
  k_with "ite" => (k_here; dsimp only)
  k_with "execs cons" => (k_here; first | k_gentoks | ((try dsimp only); refine execs_cut ?_; intro Q9 hQ9))
  k_with "call ref" => (first | (k_here; k_dflt (refine' useI (gcd_tell _ _ _ _ _ _) ?q1 ?q2 ?q3 ?q4 ?q5 ?q6 ?q7 ?q8 ?_; (case q1 | q2 | q3 | q4 | q5 => k_asm); (case q6 => first | exact rfl | assumption); (case q7 => ktr_room); (case q8 => ktr_units); intro t9 h9 tk9 F9 N9; revert t9 h9 tk9 F9 N9; intros; ((try dsimp only); (try k_sweep)))) | fail "no")
  k_with "call ref" => (first | (k_here; k_dflt (refine' useI (gcd_all_tell _ _ _ _ _ _ ?hl ?hi) ?q1 ?q2 ?q3 ?q4 ?q5 ?q6 ?q7 ?q8 ?_; (case q1 | q2 | q3 | q4 | q5 => k_asm); (case q6 => first | exact rfl | assumption); (case q7 => ktr_room); (case q8 => ktr_units); (case hl => k_mem); (case hi => l_ints); intro t9 h9 tk9 F9 N9; revert t9 h9 tk9 F9 N9; intros; ((try dsimp only); (try k_sweep)))) | fail "no")
  k_with "call ref" => (first | (k_here; k_dflt (refine' useI (lcm_tell _ _ _ _ _ _ ?ha ?hb) ?q1 ?q2 ?q3 ?q4 ?q5 ?q6 ?q7 ?q8 ?_; (case q1 | q2 | q3 | q4 | q5 => k_asm); (case q6 => first | exact rfl | assumption); (case q7 => ktr_room); (case q8 => ktr_units); (case ha | hb => omega); intro t9 h9 tk9 F9 N9; (try simp only [Int.zero_sub, Int.neg_lcm, Int.lcm_neg]); revert t9 h9 tk9 F9 N9; intros; ((try dsimp only); (try k_sweep)))) | fail "no")
  k_with "call ref" => (first | (k_here; k_dflt (refine' useT (ratio_tell _ _ _ _ _ _ ?ha ?hb) ?q1 ?q2 ?q3 ?q4 ?q5 ?q6 ?q7 ?q8 ?_; (case q1 | q2 | q3 | q4 | q5 => k_asm); (case q6 => first | exact rfl | assumption); (case q7 => ktr_room); (case q8 => ktr_units); (case ha | hb => omega); intro D9 p9 q9 t9 u9 h9 tk9 hP9 F9 N9 l9; (have hq9 := hP9.pos); (have hb9 := hP9.dvd); (have hc9 := hP9.bd (by omega)); (try dsimp only [AllLt] at l9); (try revert hc9); (try revert hb9); (try revert hq9); revert D9 p9 q9 t9 u9 h9 tk9 hP9 F9 N9 l9; intros; ((try dsimp only); (try k_sweep)))) | fail "no")
  k_with "call ref" => (first | (k_here; k_dflt (refine' useTE (whole_tell _ _ _ _) ?q1 ?q2 ?q3 ?q4 ?q5 ?q6 ?q7 ?q8 ?_; (case q1 | q2 | q3 | q4 | q5 => k_asm); (case q6 => first | exact rfl | assumption); (case q7 => ktr_room); (case q8 => ktr_units); intro D9 t9 u9 h9 tk9 F9 N9 l9; (try dsimp only [AllLt] at l9); revert D9 t9 u9 h9 tk9 F9 N9 l9; intros; ((try dsimp only); (try k_sweep)))) | fail "no")
  k_with "call ref" => (first | (k_here; k_dflt (refine' useI (floor_tell _ _ _ _ _ _ _ ?hA ?ha ?hb) ?q1 ?q2 ?q3 ?q4 ?q5 ?q6 ?q7 ?q8 ?_; (case q1 | q2 | q3 | q4 | q5 => k_asm); (case q6 => first | exact rfl | assumption); (case q7 => ktr_room); (case q8 => ktr_units); (case hA => k_mem); (case ha | hb => omega); intro t9 h9 tk9 F9 N9; revert t9 h9 tk9 F9 N9; intros; ((try dsimp only); (try k_sweep)))) | fail "no")
  k_with "call ref" => (first | (k_here; k_dflt (refine' useI (ceil_tell _ _ _ _ _ _ _ ?hA ?ha ?hb) ?q1 ?q2 ?q3 ?q4 ?q5 ?q6 ?q7 ?q8 ?_; (case q1 | q2 | q3 | q4 | q5 => k_asm); (case q6 => first | exact rfl | assumption); (case q7 => ktr_room); (case q8 => ktr_units); (case hA => k_mem); (case ha | hb => omega); intro t9 h9 tk9 F9 N9; revert t9 h9 tk9 F9 N9; intros; ((try dsimp only); (try k_sweep)))) | fail "no")
  k_with "call ref" => (first | (k_here; k_dflt (refine' useB (iswhole_tell _ _ _ _ _ _ _ ?hA) ?q1 ?q2 ?q3 ?q4 ?q5 ?q6 ?q7 ?q8 ?_; (case q1 | q2 | q3 | q4 | q5 => k_asm); (case q6 => first | exact rfl | assumption); (case q7 => ktr_room); (case q8 => ktr_units); (case hA => k_mem); intro h9 tk9 F9 N9; revert h9 tk9 F9 N9; intros; ((try dsimp only); (try k_sweep)))) | fail "no")
  k_with "call ref" => (first | (k_here; k_dflt (refine' useI (compare_tell _ _ _ _ _ _ _ _ _ _ _ _ ?hA ?hC ?ha ?hb) ?q1 ?q2 ?q3 ?q4 ?q5 ?q6 ?q7 ?q8 ?_; (case q1 | q2 | q3 | q4 | q5 => k_asm); (case q6 => first | exact rfl | assumption); (case q7 => ktr_room); (case q8 => ktr_units); (case hA | hC => k_mem); (case ha | hb => omega); intro t9 h9 tk9 F9 N9; revert t9 h9 tk9 F9 N9; intros; ((try dsimp only); (try k_sweep)))) | fail "no")
  k_with "call ref" => (first | (k_here; k_dflt (refine' useTE (neg_tell _ _ _ _ _ _ _ ?hA) ?q1 ?q2 ?q3 ?q4 ?q5 ?q6 ?q7 ?q8 ?_; (case q1 | q2 | q3 | q4 | q5 => k_asm); (case q6 => first | exact rfl | assumption); (case q7 => ktr_room); (case q8 => ktr_units); (case hA => k_mem); intro D9 t9 u9 h9 tk9 F9 N9 l9; (try dsimp only [AllLt] at l9); revert D9 t9 u9 h9 tk9 F9 N9 l9; intros; ((try dsimp only); (try k_sweep)))) | fail "no")
  k_with "call ref" => (first | (k_here; k_dflt (refine' useT (add_tell _ _ _ _ _ _ _ _ _ _ _ _ ?hA ?hC ?ha ?hb) ?q1 ?q2 ?q3 ?q4 ?q5 ?q6 ?q7 ?q8 ?_; (case q1 | q2 | q3 | q4 | q5 => k_asm); (case q6 => first | exact rfl | assumption); (case q7 => ktr_room); (case q8 => ktr_units); (case hA | hC => k_mem); (case ha | hb => omega); intro D9 p9 q9 t9 u9 h9 tk9 hP9 F9 N9 l9; (have hq9 := hP9.pos); (have hb9 := hP9.dvd); (try (have hc9 := hP9.bd (by omega))); (try dsimp only [AllLt] at l9); (try revert hc9); (try revert hb9); (try revert hq9); revert D9 p9 q9 t9 u9 h9 tk9 hP9 F9 N9 l9; intros; ((try dsimp only); (try k_sweep)))) | fail "no")
  k_with "call ref" => (first | (k_here; k_dflt (refine' useT (sub_tell _ _ _ _ _ _ _ _ _ _ _ _ ?hA ?hC ?ha ?hb) ?q1 ?q2 ?q3 ?q4 ?q5 ?q6 ?q7 ?q8 ?_; (case q1 | q2 | q3 | q4 | q5 => k_asm); (case q6 => first | exact rfl | assumption); (case q7 => ktr_room); (case q8 => ktr_units); (case hA | hC => k_mem); (case ha | hb => omega); intro D9 p9 q9 t9 u9 h9 tk9 hP9 F9 N9 l9; (have hq9 := hP9.pos); (have hb9 := hP9.dvd); (try (have hc9 := hP9.bd (by omega))); (try dsimp only [AllLt] at l9); (try revert hc9); (try revert hb9); (try revert hq9); revert D9 p9 q9 t9 u9 h9 tk9 hP9 F9 N9 l9; intros; ((try dsimp only); (try k_sweep)))) | fail "no")
  k_with "all" => (first | (first | assumption | exact ne_of_allLt (by assumption) (by first | exact Nat.le_refl _ | exact Nat.le_succ _ | exact bdU2 | exact bdU | omega)) | fail "no")
  k_with "call ref" => (first | (k_here; k_dflt (refine' useN ?ho ?hi ?hlen ?h0 ?hm ?q1 ?q2 ?q3 ?q4 ?q5 ?q6 ?q7 ?q8 ?U ?hne ?hl ?_; (case q1 | q2 | q3 | q4 | q5 => k_asm); (case q6 => first | exact rfl | assumption); (case q7 => ktr_room); (case q8 => ktr_units); (case U => k_updF); (case ho => assumption); (case hne => k_ne); (case hl => k_mem); (case hi => assumption); (case hlen => assumption); (case h0 => omega); (case hm => omega); intro v9 t9 o9 h9 tk9 hv9 hT9 F9 N9; revert v9 t9 o9 h9 tk9 hv9 hT9 F9 N9; intros; ((try dsimp only); (try k_sweep)))) | fail "no")
  k_with "call ref" => (first | (k_here; k_dflt (refine' useI (bottom_tell _ _ _ _ _ _ ?hl ?hp ?hq) ?q1 ?q2 ?q3 ?q4 ?q5 ?q6 ?q7 ?q8 ?_; (case q1 | q2 | q3 | q4 | q5 => k_asm); (case q6 => first | exact rfl | assumption); (case q7 => ktr_room); (case q8 => ktr_units); (case hl => k_mem); (case hp => first | assumption | first | exact PairsAre.nil | (refine' PairsAre.cons ?hmm PairsAre.nil; (case hmm => k_mem))); (case hq => first | assumption | (intro r9 hr9; (simp only [List.mem_cons, List.not_mem_nil, or_false] at hr9); subst hr9; dsimp only; omega)); intro t9 h9 tk9 F9 N9; revert t9 h9 tk9 F9 N9; intros; ((try dsimp only); (try k_sweep)))) | fail "no")
  k_with "call ref" => (first | (k_here; k_dflt (refine' useB (between_tell _ _ _ _ _ _ _ _ _ _ _ _ _ _ ?hA ?hC ?ha ?hb) ?q1 ?q2 ?q3 ?q4 ?q5 ?q6 ?q7 ?q8 ?_; (case q1 | q2 | q3 | q4 | q5 => k_asm); (case q6 => first | exact rfl | assumption); (case q7 => ktr_room); (case q8 => ktr_units); (case hA | hC => k_mem); (case ha | hb => omega); intro h9 tk9 F9 N9; revert h9 tk9 F9 N9; intros; ((try dsimp only); (try k_sweep)))) | fail "no")
  replace N : News h₀ L s.heap ((TP, o) :: (CL, listOf vs.toArray n) :: news) := fun p hp => by
    rcases List.mem_cons.mp hp with h | h
    · exact N p (h ▸ .head _)
    · rcases List.mem_cons.mp h with h | h
      · exact N p (.tail _ (h ▸ hl))
      · exact N p (.tail _ h)
  refine wpAny_call ?_
  k_dflt (refine' code_defC ?k1 ?k2 ?k3 ?k4 ?k5 ?kA ?kF ?kK ?k6 ?k7 ?k8 ?k9 ?kB ?kD ?_ ?c2 ?c3 ?c4; (case kA => exact rfl); (case kF => exact rfl); (case kK => first | exact rfl | assumption); (case k1 => k_asm); (case k2 => k_asm); (case k3 => k_asm); (case k4 => k_asm); (case k5 => k_asm); (case k6 => k_is); (case k7 => k_is); (case k8 => ktr_room); (case k9 => exact BindsTo.of_eq rfl); (case kB => exact rfl); (case kD => decide +kernel); (case c2 => exact rfl); (case c3 => exact rfl); (case c4 => exact rfl); k_whole; intro g' L' h' tk' cells' FG' F' N' Y' B' X' T' l1; (try (replace l1 := allLt_of l1; dsimp only [AllLt] at l1)); k_cells Y'; (try simp only [List.cons_append, List.nil_append] at N'); (try dsimp only); (try k_fold))
  have hAL := l1.2.2
  (rename Fr _ _ _ _ => F0); replace F0 := frAs (fun y => if y = Str.ofString "great" then some (Value.int great tg) else if y = Str.ofString "tape" then some (Value.ref TP) else none) F0 (by with_unfolding_all exact Eq.refl (fun y => if y = Str.ofString "great" then some (Value.int great tg) else if y = Str.ofString "tape" then some (Value.ref TP) else none))
  (refine letA ?_); intro A9
  (repeat' ((fail_if_success (with_reducible first | (show wpAny _ _ (exec (PySem.Stmt.While _ _ _ _) _) _ _ _) | (show wpAny _ _ (exec (PySem.Stmt.For _ _ _ _ _) _) _ _ _) | (show wpAny _ _ (eval (PySem.Expr.ListComp _ _ _ _) _) _ _ _) | (show wpAny _ _ (pyIter (Value.ref _)) _ _ _) | (show LCg.CompSrc _ _ _ _ _ _ _ _ _ _ _ _ _ _) | (show LCt.CompSrcT _ _ _ _ _ _ _ _ _ _ _ _ _ _ _) | (show LCp.SrcLP _ _ _ _ _ _ _ _ _ _ _ _ _ _ _) | (show wpAny _ _ (exec (PySem.Stmt.Assign _ (PySem.Expr.ListComp _ _ _ _) _) _) _ _ _))); first | (k_unfold; (try dsimp only)) | walk1 | (dsimp only; walk1) | (leave1; (try dsimp only)) | (refine Then.next hQ9 ?_; clear hQ9; (try clear Q9)) | (refine Then.ret hQ9 ?_; clear hQ9; (try clear Q9)) | (refine Then.brk hQ9 ?_; clear hQ9; (try clear Q9)) | (refine Then.cont hQ9 ?_; clear hQ9; (try clear Q9)) | fail "no step"))
  rename_i oA oB oC dA dB dC v1 t1 o1 h1 tk1 hv1 hT1 v2 t2 o2 h2 tk2 hv2 hT2 D1 hA1 ltD1 v3 t3 o3 h3 tk3 hv3 hT3 v4 t4 o4 h4 tk4 hv4 hT4 D2 hA2 ltD2 D3 hA3 ltD3 hA4 hA5 oL dL hA6 oH Fc Nc dH
  obtain ⟨nw, hTN, hsub, hAN, Nc⟩ := hide5A (News.tl Nc) l1
  refine LCt.Assign_ListComp_T (F₀ := by k_asm) (by rfl) (by with_unfolding_all rfl) (by with_unfolding_all rfl) (by decide) (by rfl) (by decide) (by rfl) (by rfl) (by rfl) ?_
  (repeat' ((fail_if_success (with_reducible first | (show wpAny _ _ (exec (PySem.Stmt.While _ _ _ _) _) _ _ _) | (show wpAny _ _ (exec (PySem.Stmt.For _ _ _ _ _) _) _ _ _) | (show wpAny _ _ (eval (PySem.Expr.ListComp _ _ _ _) _) _ _ _) | (show wpAny _ _ (pyIter (Value.ref _)) _ _ _) | (show LCg.CompSrc _ _ _ _ _ _ _ _ _ _ _ _ _ _) | (show LCt.CompSrcT _ _ _ _ _ _ _ _ _ _ _ _ _ _ _) | (show LCp.SrcLP _ _ _ _ _ _ _ _ _ _ _ _ _ _ _) | (show wpAny _ _ (exec (PySem.Stmt.Assign _ (PySem.Expr.ListComp _ _ _ _) _) _) _ _ _))); first | (k_unfold; (try dsimp only)) | walk1 | (dsimp only; walk1) | (leave1; (try dsimp only)) | (refine Then.next hQ9 ?_; clear hQ9; (try clear Q9)) | (refine Then.ret hQ9 ?_; clear hQ9; (try clear Q9)) | (refine Then.brk hQ9 ?_; clear hQ9; (try clear Q9)) | (refine Then.cont hQ9 ?_; clear hQ9; (try clear Q9)) | fail "no step"))
  refine LCt.CompSrcT.range (by rfl) (by k_asm) (by k_asm) (by assumption) (by decide) (rangeSize_nat _ _) (by unfold sizeLine; decide) ?_
  intro g
  refine restT_ind (fun i ys nx => nx = _ ∧ IntsAre ys (sel (pcl (v1 - 30) (1 + v2) (v3 - 30) (1 + v4)) i)) ?_ ?_ _ 0 [] _ (Nat.zero_add _) ⟨rfl, .nil⟩
  · rintro i ys nx v I oI C oC D8 m2 h8 tk8 E8 hi ⟨rfl, hys⟩ hP8 hC8 hx8 F8 N8 off8 ne8
    obtain ⟨t8, rfl⟩ := hP8
    have off0 := off8
    dsimp only [LCg.Off3] at off8
    (try dsimp only)
    (repeat' (first | (k_unfold; (try dsimp only)) | walk1 | (dsimp only; walk1) | (leave1; (try dsimp only)) | (refine Then.next hQ9 ?_; clear hQ9; (try clear Q9)) | (refine Then.ret hQ9 ?_; clear hQ9; (try clear Q9)) | (refine Then.brk hQ9 ?_; clear hQ9; (try clear Q9)) | (refine Then.cont hQ9 ?_; clear hQ9; (try clear Q9)) | fail "no step"))
    all_goals refine LCg.CompEnd.intro (by assumption) (by assumption) _ (fun p hp => hp) off0 trivial ⟨rfl, ?_⟩
    all_goals first
      | (rw [sel_yes (pcl_t (by assumption) (by assumption))]; exact hys.append (.cons _ _ .nil))
      | (rw [sel_no (pcl_f1 (by assumption))]; exact hys)
      | (rw [sel_no (pcl_f2 (by assumption))]; exact hys)
  rintro yc nx ⟨rfl, hyc⟩ DC hc1 tkc F8 N8 offC
  dsimp only [LCg.Off1] at offC
  (repeat' ((fail_if_success (with_reducible first | (show wpAny _ _ (exec (PySem.Stmt.While _ _ _ _) _) _ _ _) | (show wpAny _ _ (exec (PySem.Stmt.For _ _ _ _ _) _) _ _ _) | (show wpAny _ _ (eval (PySem.Expr.ListComp _ _ _ _) _) _ _ _) | (show wpAny _ _ (pyIter (Value.ref _)) _ _ _) | (show LCg.CompSrc _ _ _ _ _ _ _ _ _ _ _ _ _ _) | (show LCt.CompSrcT _ _ _ _ _ _ _ _ _ _ _ _ _ _ _) | (show LCp.SrcLP _ _ _ _ _ _ _ _ _ _ _ _ _ _ _) | (show wpAny _ _ (exec (PySem.Stmt.Assign _ (PySem.Expr.ListComp _ _ _ _) _) _) _ _ _))); first | (k_unfold; (try dsimp only)) | walk1 | (dsimp only; walk1) | (leave1; (try dsimp only)) | (refine Then.next hQ9 ?_; clear hQ9; (try clear Q9)) | (refine Then.ret hQ9 ?_; clear hQ9; (try clear Q9)) | (refine Then.brk hQ9 ?_; clear hQ9; (try clear Q9)) | (refine Then.cont hQ9 ?_; clear hQ9; (try clear Q9)) | fail "no step"))
  refine LCt.Assign_ListComp_T (F₀ := by k_asm) (by rfl) (by with_unfolding_all rfl) (by with_unfolding_all rfl) (by decide) (by rfl) (by decide) (by rfl) (by rfl) (by rfl) ?_
  (repeat' ((fail_if_success (with_reducible first | (show wpAny _ _ (exec (PySem.Stmt.While _ _ _ _) _) _ _ _) | (show wpAny _ _ (exec (PySem.Stmt.For _ _ _ _ _) _) _ _ _) | (show wpAny _ _ (eval (PySem.Expr.ListComp _ _ _ _) _) _ _ _) | (show wpAny _ _ (pyIter (Value.ref _)) _ _ _) | (show LCg.CompSrc _ _ _ _ _ _ _ _ _ _ _ _ _ _) | (show LCt.CompSrcT _ _ _ _ _ _ _ _ _ _ _ _ _ _ _) | (show LCp.SrcLP _ _ _ _ _ _ _ _ _ _ _ _ _ _ _) | (show wpAny _ _ (exec (PySem.Stmt.Assign _ (PySem.Expr.ListComp _ _ _ _) _) _) _ _ _))); first | (k_unfold; (try dsimp only)) | walk1 | (dsimp only; walk1) | (leave1; (try dsimp only)) | (refine Then.next hQ9 ?_; clear hQ9; (try clear Q9)) | (refine Then.ret hQ9 ?_; clear hQ9; (try clear Q9)) | (refine Then.brk hQ9 ?_; clear hQ9; (try clear Q9)) | (refine Then.cont hQ9 ?_; clear hQ9; (try clear Q9)) | fail "no step"))
  refine LCt.CompSrcT.range (by rfl) (by k_asm) (by k_asm) (by assumption) (by decide) (rangeSize_nat _ _) (by unfold sizeLine; decide) ?_
  intro g
  refine restT_ind (fun i ys nx => nx = _ ∧ IntsAre ys (sel (pin (v1 - 30) (1 + v2) (v3 - 30) (1 + v4)) i)) ?_ ?_ _ 0 [] _ (Nat.zero_add _) ⟨rfl, .nil⟩
  · rintro i ys nx v I oI C oC D8 m2 h8 tk8 E8 hi ⟨rfl, hys⟩ hP8 hC8 hx8 F8 N8 off8 ne8
    obtain ⟨t8, rfl⟩ := hP8
    have off0 := off8
    dsimp only [LCg.Off3] at off8
    (try dsimp only)
    (repeat' (first | (k_unfold; (try dsimp only)) | walk1 | (dsimp only; walk1) | (leave1; (try dsimp only)) | (refine Then.next hQ9 ?_; clear hQ9; (try clear Q9)) | (refine Then.ret hQ9 ?_; clear hQ9; (try clear Q9)) | (refine Then.brk hQ9 ?_; clear hQ9; (try clear Q9)) | (refine Then.cont hQ9 ?_; clear hQ9; (try clear Q9)) | fail "no step"))
    all_goals refine LCg.CompEnd.intro (by assumption) (by assumption) _ (fun p hp => hp) off0 trivial ⟨rfl, ?_⟩
    all_goals first
      | (rw [sel_yes (pin_t (by assumption) (by assumption))]; exact hys.append (.cons _ _ .nil))
      | (rw [sel_no (pin_f1 (by assumption))]; exact hys)
      | (rw [sel_no (pin_f2 (by assumption))]; exact hys)
  rintro yi nx ⟨rfl, hyi⟩ DI hi1 tki F8 N8 offI
  dsimp only [LCg.Off1] at offI
  (repeat' ((fail_if_success (with_reducible first | (show wpAny _ _ (exec (PySem.Stmt.While _ _ _ _) _) _ _ _) | (show wpAny _ _ (exec (PySem.Stmt.For _ _ _ _ _) _) _ _ _) | (show wpAny _ _ (eval (PySem.Expr.ListComp _ _ _ _) _) _ _ _) | (show wpAny _ _ (pyIter (Value.ref _)) _ _ _) | (show LCg.CompSrc _ _ _ _ _ _ _ _ _ _ _ _ _ _) | (show LCt.CompSrcT _ _ _ _ _ _ _ _ _ _ _ _ _ _ _) | (show LCp.SrcLP _ _ _ _ _ _ _ _ _ _ _ _ _ _ _) | (show wpAny _ _ (exec (PySem.Stmt.Assign _ (PySem.Expr.ListComp _ _ _ _) _) _) _ _ _))); first | (k_unfold; (try dsimp only)) | walk1 | (dsimp only; walk1) | (leave1; (try dsimp only)) | (refine Then.next hQ9 ?_; clear hQ9; (try clear Q9)) | (refine Then.ret hQ9 ?_; clear hQ9; (try clear Q9)) | (refine Then.brk hQ9 ?_; clear hQ9; (try clear Q9)) | (refine Then.cont hQ9 ?_; clear hQ9; (try clear Q9)) | fail "no step"))
  refine LCt.ListComp_T (F₀ := by k_asm) (by with_unfolding_all rfl) (by decide) (by rfl) (by decide) (by rfl) ?_
  (repeat' ((fail_if_success (with_reducible first | (show wpAny _ _ (exec (PySem.Stmt.While _ _ _ _) _) _ _ _) | (show wpAny _ _ (exec (PySem.Stmt.For _ _ _ _ _) _) _ _ _) | (show wpAny _ _ (eval (PySem.Expr.ListComp _ _ _ _) _) _ _ _) | (show wpAny _ _ (pyIter (Value.ref _)) _ _ _) | (show LCg.CompSrc _ _ _ _ _ _ _ _ _ _ _ _ _ _) | (show LCt.CompSrcT _ _ _ _ _ _ _ _ _ _ _ _ _ _ _) | (show LCp.SrcLP _ _ _ _ _ _ _ _ _ _ _ _ _ _ _) | (show wpAny _ _ (exec (PySem.Stmt.Assign _ (PySem.Expr.ListComp _ _ _ _) _) _) _ _ _))); first | (k_unfold; (try dsimp only)) | walk1 | (dsimp only; walk1) | (leave1; (try dsimp only)) | (refine Then.next hQ9 ?_; clear hQ9; (try clear Q9)) | (refine Then.ret hQ9 ?_; clear hQ9; (try clear Q9)) | (refine Then.brk hQ9 ?_; clear hQ9; (try clear Q9)) | (refine Then.cont hQ9 ?_; clear hQ9; (try clear Q9)) | fail "no step"))
  refine LCt.CompSrcT.range (by rfl) (by k_asm) (by k_asm) (by assumption) (by decide) (rangeSize_nat _ _) (by unfold sizeLine; decide) ?_
  intro g
  refine restT_ind (fun i ys nx => nx = _ ∧ IntsAre ys (sel (pin (v1 - 30) (1 + v2) (v3 - 30) (1 + v4)) i)) ?_ ?_ _ 0 [] _ (Nat.zero_add _) ⟨rfl, .nil⟩
  · rintro i ys nx v I oI C oC D8 m2 h8 tk8 E8 hi ⟨rfl, hys⟩ hP8 hC8 hx8 F8 N8 off8 ne8
    obtain ⟨t8, rfl⟩ := hP8
    have off0 := off8
    dsimp only [LCg.Off3] at off8
    (try dsimp only)
    (repeat' (first | (k_unfold; (try dsimp only)) | walk1 | (dsimp only; walk1) | (leave1; (try dsimp only)) | (refine Then.next hQ9 ?_; clear hQ9; (try clear Q9)) | (refine Then.ret hQ9 ?_; clear hQ9; (try clear Q9)) | (refine Then.brk hQ9 ?_; clear hQ9; (try clear Q9)) | (refine Then.cont hQ9 ?_; clear hQ9; (try clear Q9)) | fail "no step"))
    all_goals rename_i p1 q1 u1 w1 g1 k1 P1 lt1 hq1 hb1 hc1 cE1 D6 p2 q2 u2 w2 g2 k2 P2 lt2 hq2 hb2 hc2 g3 k3 F9 N9 hok
    all_goals rw [btw_pin P1 P2 (by omega) (by omega)] at hok
    all_goals refine LCg.CompEnd.intro F9 N9 _ (fun p hp => by repeat (first | exact hp | refine List.Mem.tail _ ?_)) off0 trivial ⟨rfl, ?_⟩
    · rw [sel_yes hok]; exact hys.append (.cons _ _ .nil)
    · rw [sel_no hok]; exact hys
  rintro yb nx ⟨rfl, hyb⟩ DB hb1 tkb F8 N8 offB
  dsimp only [LCg.Off1] at offB
  (repeat' ((fail_if_success (with_reducible first | (show wpAny _ _ (exec (PySem.Stmt.While _ _ _ _) _) _ _ _) | (show wpAny _ _ (exec (PySem.Stmt.For _ _ _ _ _) _) _ _ _) | (show wpAny _ _ (eval (PySem.Expr.ListComp _ _ _ _) _) _ _ _) | (show wpAny _ _ (pyIter (Value.ref _)) _ _ _) | (show LCg.CompSrc _ _ _ _ _ _ _ _ _ _ _ _ _ _) | (show LCt.CompSrcT _ _ _ _ _ _ _ _ _ _ _ _ _ _ _) | (show LCp.SrcLP _ _ _ _ _ _ _ _ _ _ _ _ _ _ _) | (show wpAny _ _ (exec (PySem.Stmt.Assign _ (PySem.Expr.ListComp _ _ _ _) _) _) _ _ _))); first | (k_unfold; (try dsimp only)) | walk1 | (dsimp only; walk1) | (leave1; (try dsimp only)) | (refine Then.next hQ9 ?_; clear hQ9; (try clear Q9)) | (refine Then.ret hQ9 ?_; clear hQ9; (try clear Q9)) | (refine Then.brk hQ9 ?_; clear hQ9; (try clear Q9)) | (refine Then.cont hQ9 ?_; clear hQ9; (try clear Q9)) | fail "no step"))
  refine For_turns (_F := by k_asm) ?_
  (repeat' ((fail_if_success (with_reducible first | (show wpAny _ _ (exec (PySem.Stmt.While _ _ _ _) _) _ _ _) | (show wpAny _ _ (exec (PySem.Stmt.For _ _ _ _ _) _) _ _ _) | (show wpAny _ _ (eval (PySem.Expr.ListComp _ _ _ _) _) _ _ _) | (show wpAny _ _ (pyIter (Value.ref _)) _ _ _) | (show LCg.CompSrc _ _ _ _ _ _ _ _ _ _ _ _ _ _) | (show LCt.CompSrcT _ _ _ _ _ _ _ _ _ _ _ _ _ _ _) | (show LCp.SrcLP _ _ _ _ _ _ _ _ _ _ _ _ _ _ _) | (show wpAny _ _ (exec (PySem.Stmt.Assign _ (PySem.Expr.ListComp _ _ _ _) _) _) _ _ _))); first | (k_unfold; (try dsimp only)) | walk1 | (dsimp only; walk1) | (leave1; (try dsimp only)) | (refine Then.next hQ9 ?_; clear hQ9; (try clear Q9)) | (refine Then.ret hQ9 ?_; clear hQ9; (try clear Q9)) | (refine Then.brk hQ9 ?_; clear hQ9; (try clear Q9)) | (refine Then.cont hQ9 ?_; clear hQ9; (try clear Q9)) | fail "no step"))
  rename_i D9 h9 FT NT lT
  rw [show (32 - -31 : Int).toNat = 63 from rfl, ends_closed (by omega) (by omega) (by omega) (by omega)] at hyc
  rw [show (32 - -31 : Int).toNat = 63 from rfl, ends_inner (by omega) (by omega) (by omega) (by omega)] at hyi
  have hLo := end_lo (a := v1 - 30) (b := 1 + v2) (by omega) (by omega)
  have hHi := end_hi (c := v3 - 30) (d := 1 + v4) (by omega) (by omega)
  have hLo2 := end_lo2 (a := v1 - 30) (b := 1 + v2) (by omega) (by omega)
  have hHi2 := end_hi2 (c := v3 - 30) (d := 1 + v4) (by omega) (by omega)
  with_unfolding_all refine' iter_tupTS (σ := Obj) (fun c => (D9, ({ cls := .type "tuple", data := .seq #[.int 0 tkb, .int great tg, .int (0 - great) (tkb + 1 + 1)] } : Obj)) :: (DI, LCg.lst yi) :: (DC, LCg.lst yc) :: (D2, _) :: (D1, _) :: (L' + 1 + 1 + 1, c) :: (L' + 1 + 1, oH) :: (L' + 1, oL) :: nw) (fun c => []) [Str.ofString "one", Str.ofString "other", Str.ofString "first", Str.ofString "last"] (fun i c => ∃ x, c.data = .cell x) oA rfl (fun c => .head _) FT (News.dropAt (l1 := [_]) NT) ?kk ?kr ?kt ?kd
  case kk => exact Names.nil
  case kr => exact ⟨_, dA⟩
  case kt =>
    rintro I i v c u h tk oI hr8 hv ⟨xc, dc⟩ F1 N1 hn
    replace F1 : Fr g' L' h _ := F1
    replace N1 : News g' L' h _ := N1
    have hIc : @Ne Nat (L' + 1 + 1 + 1) I := hn (L' + 1 + 1 + 1, c) (by simp)
    obtain ⟨f, tf, rfl⟩ : ∃ f t, v = .int f t := by
      have hi : i < 3 := (Array.getElem?_eq_some_iff.mp hv).1
      obtain rfl | rfl | rfl := lt3 hi
      all_goals exact ⟨_, _, (Option.some.inj hv).symm⟩
    clear hv
    (repeat' ((fail_if_success (with_reducible first | (show wpAny _ _ (exec (PySem.Stmt.While _ _ _ _) _) _ _ _) | (show wpAny _ _ (exec (PySem.Stmt.For _ _ _ _ _) _) _ _ _) | (show wpAny _ _ (eval (PySem.Expr.ListComp _ _ _ _) _) _ _ _) | (show wpAny _ _ (pyIter (Value.ref _)) _ _ _) | (show LCg.CompSrc _ _ _ _ _ _ _ _ _ _ _ _ _ _) | (show LCt.CompSrcT _ _ _ _ _ _ _ _ _ _ _ _ _ _ _) | (show LCp.SrcLP _ _ _ _ _ _ _ _ _ _ _ _ _ _ _) | (show wpAny _ _ (exec (PySem.Stmt.Assign _ (PySem.Expr.ListComp _ _ _ _) _) _) _ _ _))); first | (k_unfold; (try dsimp only)) | walk1 | (dsimp only; walk1) | (leave1; (try dsimp only)) | (refine Then.next hQ9 ?_; clear hQ9; (try clear Q9)) | (refine Then.ret hQ9 ?_; clear hQ9; (try clear Q9)) | (refine Then.brk hQ9 ?_; clear hQ9; (try clear Q9)) | (refine Then.cont hQ9 ?_; clear hQ9; (try clear Q9)) | fail "no step"))
    (rename IsR (v1 - 30 + f * (1 + v2)) _ _ _ => hP1)
    (rename IsR (v3 - 30 + f * (1 + v4)) _ _ _ => hP2)
    have hQ1 := hP1.le (by omega)
    have hQ2 := hP2.le (by omega)
    have hC1 := shift_ceil hP1 (by omega)
    have hF1 := shift_floor hP1 (by omega)
    have hC2 := shift_ceil hP2 (by omega)
    have hF2 := shift_floor hP2 (by omega)
    refine comp_R (_F₀ := by k_asm) (by with_unfolding_all rfl) (by decide) (by rfl) (by decide) (by rfl) ?_
    (repeat' ((fail_if_success (with_reducible first | (show wpAny _ _ (exec (PySem.Stmt.While _ _ _ _) _) _ _ _) | (show wpAny _ _ (exec (PySem.Stmt.For _ _ _ _ _) _) _ _ _) | (show wpAny _ _ (eval (PySem.Expr.ListComp _ _ _ _) _) _ _ _) | (show wpAny _ _ (pyIter (Value.ref _)) _ _ _) | (show LCg.CompSrc _ _ _ _ _ _ _ _ _ _ _ _ _ _) | (show LCt.CompSrcT _ _ _ _ _ _ _ _ _ _ _ _ _ _ _) | (show LCp.SrcLP _ _ _ _ _ _ _ _ _ _ _ _ _ _ _) | (show wpAny _ _ (exec (PySem.Stmt.Assign _ (PySem.Expr.ListComp _ _ _ _) _) _) _ _ _))); first | (k_unfold; (try dsimp only)) | walk1 | (dsimp only; walk1) | (leave1; (try dsimp only)) | (refine Then.next hQ9 ?_; clear hQ9; (try clear Q9)) | (refine Then.ret hQ9 ?_; clear hQ9; (try clear Q9)) | (refine Then.brk hQ9 ?_; clear hQ9; (try clear Q9)) | (refine Then.cont hQ9 ?_; clear hQ9; (try clear Q9)) | fail "no step"))
    refine ⟨_, _, _, _, _, _, _, _, rfl, by rfl, by k_asm, by k_asm, by assumption, rangeSize_nat _ _, by unfold sizeLine; exact Int.toNat_le.mpr (by omega), ?_⟩
    intro g
    refine rest_ind (fun i ys nx => nx = _ ∧ IntsAre ys (seg (-((-(v1 - 30)).fdiv (1 + v2))) i)) ?_ ?_ _ 0 [] _ (Nat.zero_add _) ⟨rfl, .nil⟩
    · rintro i ys nx v I oI C oC D8 m2 h8 tk8 E8 hi ⟨rfl, hys⟩ hP8 hC8 hx8 F8 N8 off8 ne8
      obtain ⟨t8, rfl⟩ := hP8
      have off0 := off8
      dsimp only [LCg.Off3] at off8
      (try dsimp only)
      (repeat' (first | (k_unfold; (try dsimp only)) | walk1 | (dsimp only; walk1) | (leave1; (try dsimp only)) | (refine Then.next hQ9 ?_; clear hQ9; (try clear Q9)) | (refine Then.ret hQ9 ?_; clear hQ9; (try clear Q9)) | (refine Then.brk hQ9 ?_; clear hQ9; (try clear Q9)) | (refine Then.cont hQ9 ?_; clear hQ9; (try clear Q9)) | fail "no step"))
      refine LCg.CompEnd.intro (by assumption) (by assumption) _ (fun p hp => hp) off0 trivial ⟨rfl, ?_⟩
      rw [seg_succ]
      exact ints_snoc hys (by omega)
    rintro y1 nx ⟨rfl, hy1⟩ DX hx1 tkx F8 N8 offX
    rw [show ((Int.fdiv _ _ + 1 - -(Int.fdiv _ _)).toNat) = ((v3 - 30).fdiv (1 + v4) + 1 - -((-(v1 - 30)).fdiv (1 + v2))).toNat from by congr 1; omega] at hy1
    dsimp only [LCg.Off1] at offX
    (repeat' ((fail_if_success (with_reducible first | (show wpAny _ _ (exec (PySem.Stmt.While _ _ _ _) _) _ _ _) | (show wpAny _ _ (exec (PySem.Stmt.For _ _ _ _ _) _) _ _ _) | (show wpAny _ _ (eval (PySem.Expr.ListComp _ _ _ _) _) _ _ _) | (show wpAny _ _ (pyIter (Value.ref _)) _ _ _) | (show LCg.CompSrc _ _ _ _ _ _ _ _ _ _ _ _ _ _) | (show LCt.CompSrcT _ _ _ _ _ _ _ _ _ _ _ _ _ _ _) | (show LCp.SrcLP _ _ _ _ _ _ _ _ _ _ _ _ _ _ _) | (show wpAny _ _ (exec (PySem.Stmt.Assign _ (PySem.Expr.ListComp _ _ _ _) _) _) _ _ _))); first | (k_unfold; (try dsimp only)) | walk1 | (dsimp only; walk1) | (leave1; (try dsimp only)) | (refine Then.next hQ9 ?_; clear hQ9; (try clear Q9)) | (refine Then.ret hQ9 ?_; clear hQ9; (try clear Q9)) | (refine Then.brk hQ9 ?_; clear hQ9; (try clear Q9)) | (refine Then.cont hQ9 ?_; clear hQ9; (try clear Q9)) | fail "no step"))
    refine comp_R (_F₀ := by k_asm) (by with_unfolding_all rfl) (by decide) (by rfl) (by decide) (by rfl) ?_
    (repeat' ((fail_if_success (with_reducible first | (show wpAny _ _ (exec (PySem.Stmt.While _ _ _ _) _) _ _ _) | (show wpAny _ _ (exec (PySem.Stmt.For _ _ _ _ _) _) _ _ _) | (show wpAny _ _ (eval (PySem.Expr.ListComp _ _ _ _) _) _ _ _) | (show wpAny _ _ (pyIter (Value.ref _)) _ _ _) | (show LCg.CompSrc _ _ _ _ _ _ _ _ _ _ _ _ _ _) | (show LCt.CompSrcT _ _ _ _ _ _ _ _ _ _ _ _ _ _ _) | (show LCp.SrcLP _ _ _ _ _ _ _ _ _ _ _ _ _ _ _) | (show wpAny _ _ (exec (PySem.Stmt.Assign _ (PySem.Expr.ListComp _ _ _ _) _) _) _ _ _))); first | (k_unfold; (try dsimp only)) | walk1 | (dsimp only; walk1) | (leave1; (try dsimp only)) | (refine Then.next hQ9 ?_; clear hQ9; (try clear Q9)) | (refine Then.ret hQ9 ?_; clear hQ9; (try clear Q9)) | (refine Then.brk hQ9 ?_; clear hQ9; (try clear Q9)) | (refine Then.cont hQ9 ?_; clear hQ9; (try clear Q9)) | fail "no step"))
    refine ⟨_, _, _, _, _, _, _, _, rfl, by rfl, by k_asm, by k_asm, by assumption, rangeSize_nat _ _, by unfold sizeLine; exact Int.toNat_le.mpr (by omega), ?_⟩
    intro g
    refine rest_ind (fun i ys nx => nx = _ ∧ IntsAre ys (seg ((v1 - 30).fdiv (1 + v2) + 1) i)) ?_ ?_ _ 0 [] _ (Nat.zero_add _) ⟨rfl, .nil⟩
    · rintro i ys nx v I oI C oC D8 m2 h8 tk8 E8 hi ⟨rfl, hys⟩ hP8 hC8 hx8 F8 N8 off8 ne8
      obtain ⟨t8, rfl⟩ := hP8
      have off0 := off8
      dsimp only [LCg.Off3] at off8
      (try dsimp only)
      (repeat' (first | (k_unfold; (try dsimp only)) | walk1 | (dsimp only; walk1) | (leave1; (try dsimp only)) | (refine Then.next hQ9 ?_; clear hQ9; (try clear Q9)) | (refine Then.ret hQ9 ?_; clear hQ9; (try clear Q9)) | (refine Then.brk hQ9 ?_; clear hQ9; (try clear Q9)) | (refine Then.cont hQ9 ?_; clear hQ9; (try clear Q9)) | fail "no step"))
      refine LCg.CompEnd.intro (by assumption) (by assumption) _ (fun p hp => hp) off0 trivial ⟨rfl, ?_⟩
      rw [seg_succ]
      exact ints_snoc hys (by omega)
    rintro y2 nx ⟨rfl, hy2⟩ DY hx2 tky F8 N8 offY
    rw [show ((-(Int.fdiv _ _) - (Int.fdiv _ _ + 1)).toNat) = (-((-(v3 - 30)).fdiv (1 + v4)) - ((v1 - 30).fdiv (1 + v2) + 1)).toNat from by congr 1; omega] at hy2
    dsimp only [LCg.Off1] at offY
    repeat' ((fail_if_success (with_reducible show wpAny _ _ (call (Value.ref 123) _ _) _ _ _)); first | (k_unfold; (try dsimp only)) | walk1 | (dsimp only; walk1) | (leave1; (try dsimp only)) | (refine Then.next hQ9 ?_; clear hQ9; (try clear Q9)) | (refine Then.ret hQ9 ?_; clear hQ9; (try clear Q9)) | (refine Then.brk hQ9 ?_; clear hQ9; (try clear Q9)) | (refine Then.cont hQ9 ?_; clear hQ9; (try clear Q9)) | fail "no step")
    walk1
    repeat' ((fail_if_success (with_reducible show wpAny _ _ (truthy _) _ _ _)); first | (k_unfold; (try dsimp only)) | walk1 | (dsimp only; walk1) | (leave1; (try dsimp only)) | (refine Then.next hQ9 ?_; clear hQ9; (try clear Q9)) | (refine Then.ret hQ9 ?_; clear hQ9; (try clear Q9)) | (refine Then.brk hQ9 ?_; clear hQ9; (try clear Q9)) | (refine Then.cont hQ9 ?_; clear hQ9; (try clear Q9)) | fail "no step")
    rw [ends_ne1]
    repeat' ((fail_if_success (with_reducible show wpAny _ _ (call (Value.ref 130) _ _) _ _ _)); first | (k_unfold; (try dsimp only)) | walk1 | (dsimp only; walk1) | (leave1; (try dsimp only)) | (refine Then.next hQ9 ?_; clear hQ9; (try clear Q9)) | (refine Then.ret hQ9 ?_; clear hQ9; (try clear Q9)) | (refine Then.brk hQ9 ?_; clear hQ9; (try clear Q9)) | (refine Then.cont hQ9 ?_; clear hQ9; (try clear Q9)) | fail "no step")
    walk1
    repeat' ((fail_if_success (with_reducible show wpAny _ _ (truthy _) _ _ _)); first | (k_unfold; (try dsimp only)) | walk1 | (dsimp only; walk1) | (leave1; (try dsimp only)) | (refine Then.next hQ9 ?_; clear hQ9; (try clear Q9)) | (refine Then.ret hQ9 ?_; clear hQ9; (try clear Q9)) | (refine Then.brk hQ9 ?_; clear hQ9; (try clear Q9)) | (refine Then.cont hQ9 ?_; clear hQ9; (try clear Q9)) | fail "no step")
    rw [ends_ne2]
    (repeat' ((fail_if_success (with_reducible first | (show wpAny _ _ (exec (PySem.Stmt.While _ _ _ _) _) _ _ _) | (show wpAny _ _ (exec (PySem.Stmt.For _ _ _ _ _) _) _ _ _) | (show wpAny _ _ (eval (PySem.Expr.ListComp _ _ _ _) _) _ _ _) | (show wpAny _ _ (pyIter (Value.ref _)) _ _ _) | (show LCg.CompSrc _ _ _ _ _ _ _ _ _ _ _ _ _ _) | (show LCt.CompSrcT _ _ _ _ _ _ _ _ _ _ _ _ _ _ _) | (show LCp.SrcLP _ _ _ _ _ _ _ _ _ _ _ _ _ _ _) | (show wpAny _ _ (exec (PySem.Stmt.Assign _ (PySem.Expr.ListComp _ _ _ _) _) _) _ _ _))); first | (k_unfold; (try dsimp only)) | walk1 | (dsimp only; walk1) | (leave1; (try dsimp only)) | (refine Then.next hQ9 ?_; clear hQ9; (try clear Q9)) | (refine Then.ret hQ9 ?_; clear hQ9; (try clear Q9)) | (refine Then.brk hQ9 ?_; clear hQ9; (try clear Q9)) | (refine Then.cont hQ9 ?_; clear hQ9; (try clear Q9)) | fail "no step"))
    refine' turn_endW _ (by assumption) (by assumption) ?sub ?off Names.nil ?hr ⟨_, by assumption⟩
    case sub =>
      intro p hp
      repeat (first | exact hp | refine List.Mem.tail _ ?_)
    case off =>
      repeat (first | refine offM hn (by k_mem) ?_ | refine offCons (by exact hIc) ?_)
      exact fun p hp => hn p (by repeat (first | exact hp | refine List.Mem.tail _ ?_))
    case hr => (first | (((repeat (first | refine RestsW.step (by with_unfolding_all rfl) ?_ | refine RestsW.stepU (by with_unfolding_all rfl) ?_))); first | exact RestsW.of hr9 | exact RestsW.of hr8 | exact RestsW.last | exact RestsW.same | (refine RestsW.via hr9 ?_; ((repeat (first | refine RestsW.step (by with_unfolding_all rfl) ?_ | refine RestsW.stepU (by with_unfolding_all rfl) ?_))); exact RestsW.of hr8) | (refine RestsW.viaS (by with_unfolding_all rfl) hr9 ?_; ((repeat (first | refine RestsW.step (by with_unfolding_all rfl) ?_ | refine RestsW.stepU (by with_unfolding_all rfl) ?_))); exact RestsW.of hr8)) | (intro z9 hz2 hz3; (have hz1 := True.intro); (have hz4 := hz3); (try simp only [List.mem_cons, forall_eq_or_imp, List.not_mem_nil, false_implies, implies_true, and_true, List.mem_singleton, forall_eq, ne_eq] at hz1 hz2); (try simp only [List.contains_cons, List.contains_nil, Bool.or_false, Bool.or_eq_false_iff, beq_eq_false_iff_ne, ne_eq] at hz4); simp only [hz1, hz2, hz3, hz4, kstB, if_false, Bool.false_eq_true, List.contains_nil]))
  case kd =>
    rintro c u0 u h tk hr8 ⟨xc, dc⟩ F1 N1
    (repeat' (first | (k_unfold; (try dsimp only)) | walk1 | (dsimp only; walk1) | (leave1; (try dsimp only)) | (refine Then.next hQ9 ?_; clear hQ9; (try clear Q9)) | (refine Then.ret hQ9 ?_; clear hQ9; (try clear Q9)) | (refine Then.brk hQ9 ?_; clear hQ9; (try clear Q9)) | (refine Then.cont hQ9 ?_; clear hQ9; (try clear Q9)) | fail "no step"))
    exact endL (R := fun o' spot' => Tape w o' CL spot' ∧ spot ≤ spot' ∧ spot' ≤ spot + 4) hret (by assumption) (by assumption) (by repeat (first | exact hTN | refine List.Mem.tail _ ?_)) (fun p hp => by replace hp := hsub p hp; repeat (first | exact hp | refine List.Mem.tail _ ?_)) ⟨hT4, by omega, by omega⟩
theorem gl_go (ns : List Int) : ∀ f : Int, 0 ≤ f → 0 ≤ ns.foldl (fun g n => ((Int.gcd g n : Nat) : Int)) f ∧ ∀ d : Int, (d ∣ ns.foldl (fun g n => ((Int.gcd g n : Nat) : Int)) f ↔ d ∣ f ∧ ∀ n ∈ ns, d ∣ n) := by
  induction ns with
  | nil => intro f hf; exact ⟨hf, fun d => by simp⟩
  | cons n r ih =>
    intro f hf
    obtain ⟨h1, h2⟩ := ih ((Int.gcd f n : Nat) : Int) (Int.natCast_nonneg _)
    refine ⟨h1, fun d => ?_⟩
    rw [List.foldl_cons, h2 d]
    constructor
    · rintro ⟨h3, h4⟩
      refine ⟨Int.dvd_trans h3 (Int.gcd_dvd_left ..), fun x hx => ?_⟩
      rcases List.mem_cons.mp hx with rfl | hx
      · exact Int.dvd_trans h3 (Int.gcd_dvd_right ..)
      · exact h4 x hx
    · rintro ⟨h3, h4⟩
      exact ⟨Int.dvd_coe_gcd h3 (h4 n (.head _)), fun x hx => h4 x (.tail _ hx)⟩
theorem gl_nonneg (ns : List Int) : 0 ≤ gl ns := (gl_go ns 0 (by decide)).1
theorem gl_dvd {ns : List Int} {d : Int} : d ∣ gl ns ↔ ∀ n ∈ ns, d ∣ n := by
  have h := (gl_go ns 0 (by decide)).2 d
  unfold gl
  rw [h]
  exact ⟨fun h => h.2, fun h => ⟨Int.dvd_zero _, h⟩⟩
theorem dvd_eq {a b : Int} (ha : 0 ≤ a) (hb : 0 ≤ b) (h : ∀ d, d ∣ a ↔ d ∣ b) : a = b := Int.dvd_antisymm ha hb ((h a).mp (Int.dvd_refl _)) ((h b).mpr (Int.dvd_refl _))
theorem gl_eq {ns ms : List Int} (h : ∀ d, (∀ n ∈ ns, d ∣ n) ↔ ∀ n ∈ ms, d ∣ n) : gl ns = gl ms :=
  dvd_eq (gl_nonneg _) (gl_nonneg _) fun d => by rw [gl_dvd, gl_dvd, h d]
/-- the rows: in either sequence, doubled, signs turned -/
theorem gl_rev (R : Int) (st : List Int) : gl (st.reverse ++ [R]) = gl (R :: st) := gl_eq fun d => by
  simp only [List.mem_append, List.mem_reverse, List.mem_cons, List.not_mem_nil, or_false]
  exact ⟨fun h n hn => h n (hn.elim .inr .inl), fun h n hn => h n (hn.elim .inr .inl)⟩
theorem gl_neg (R : Int) (st : List Int) : gl (st.map (fun x => 0 - x) ++ [R, 0, R]) = gl (R :: st) := gl_eq fun d => by
  simp only [List.mem_append, List.mem_map, List.mem_cons, List.not_mem_nil, or_false]
  constructor
  · rintro h n (rfl | hn)
    · exact h n (.inr (.inl rfl))
    · have h2 := h (0 - n) (.inl ⟨n, hn, rfl⟩)
      rw [Int.zero_sub] at h2
      exact (Int.dvd_neg).mp h2
  · rintro h n (⟨a, ha, rfl⟩ | rfl | rfl | rfl)
    · rw [Int.zero_sub]
      exact (Int.dvd_neg).mpr (h a (.inr ha))
    · exact h n (.inl rfl)
    · exact Int.dvd_zero _
    · exact h n (.inl rfl)
theorem gl_dbl (R : Int) (st : List Int) : gl (st ++ st ++ [0 - R]) = gl (R :: st) := gl_eq fun d => by
  simp only [List.mem_append, List.mem_cons, List.not_mem_nil, or_false, or_self]
  constructor
  · rintro h n (rfl | hn)
    · have h2 := h (0 - n) (.inr rfl)
      rw [Int.zero_sub] at h2
      exact (Int.dvd_neg).mp h2
    · exact h n (.inl hn)
  · rintro h n (hn | rfl)
    · exact h n (.inr hn)
    · rw [Int.zero_sub]
      exact (Int.dvd_neg).mpr (h R (.inl rfl))
theorem gl_zeros (ns : List Int) (h : ∀ n ∈ ns, n = 0) : gl ns = 0 := by
  have h2 : (0 : Int) ∣ gl ns := gl_dvd.mpr fun n hn => by rw [h n hn]; exact Int.dvd_refl _
  exact Int.zero_dvd.mp h2
theorem gl_two {R : Int} (h : 0 < R) : gl [0, 0 - R] = R := dvd_eq (gl_nonneg _) (by (first | lia | omega)) fun d => by
  rw [gl_dvd]
  simp only [List.mem_cons, List.not_mem_nil, or_false, forall_eq_or_imp, forall_eq, Int.zero_sub]
  exact ⟨fun h => Int.dvd_neg.mp h.2, fun h => ⟨Int.dvd_zero _, Int.dvd_neg.mpr h⟩⟩
theorem gl_ringPos {R : Int} {st : List Int} (h : 0 < R) : 0 < gl (R :: st) ∧ gl (R :: st) ∣ R := by
  have h1 : gl (R :: st) ∣ R := gl_dvd.mp (Int.dvd_refl _) R (.head _)
  refine ⟨?_, h1⟩
  have h2 := gl_nonneg (R :: st)
  have h3 : gl (R :: st) ≠ 0 := fun e => by rw [e] at h1; have := Int.zero_dvd.mp h1; (first | lia | omega)
  (first | lia | omega)
/-- a search between two turns: here is the place in hand (with the steps that it has taken), or none -/
structure Seek (R : Int) (st : List Int) (seen wait : List Int) (hand : Option (Int × List Int)) : Prop where
  r0 : 0 < R
  z : 0 ∈ seen
  bd : ∀ x ∈ seen, 0 ≤ x ∧ x < R
  dv : ∀ x ∈ seen, gl (R :: st) ∣ x
  nd : seen.Nodup
  ws : ∀ x ∈ wait, x ∈ seen
  cl : ∀ x ∈ seen, x ∈ wait ∨ (∃ p, hand = some (x, p)) ∨ ∀ s ∈ st, (x + s).fmod R ∈ seen
  hs : ∀ x p, hand = some (x, p) → x ∈ seen ∧ ∀ s ∈ p, (x + s).fmod R ∈ seen
theorem nodup_len : ∀ {l k : List Int}, l.Nodup → (∀ x ∈ l, x ∈ k) → l.length ≤ k.length
  | [], _, _, _ => Nat.zero_le _
  | a :: l, k, hn, hs => by
    have h1 := List.nodup_cons.mp hn
    have ha := hs a (.head _)
    have h2 : l.length ≤ (k.erase a).length := nodup_len h1.2 fun x hx => by
      have hne : x ≠ a := fun e => h1.1 (e ▸ hx)
      exact (List.mem_erase_of_ne hne).mpr (hs x (.tail _ hx))
    have h3 := List.length_erase_of_mem ha
    have h4 := List.length_pos_of_mem ha
    show l.length + 1 ≤ k.length
    (first | lia | omega)
theorem Seek.room {R : Int} {st seen wait : List Int} {hand : Option (Int × List Int)} (h : Seek R st seen wait hand) : (seen.length : Int) ≤ R := by
  have h1 : seen.length ≤ ((List.range R.toNat).map fun k : Nat => (k : Int)).length := nodup_len h.nd fun x hx => by
    have := h.bd x hx
    exact List.mem_map.mpr ⟨x.toNat, List.mem_range.mpr (by (first | lia | omega)), by (first | lia | omega)⟩
  rw [List.length_map, List.length_range] at h1
  have := h.r0
  (first | lia | omega)
theorem seek_start {R : Int} {st : List Int} (h : 0 < R) : Seek R st [0] [0] none :=
  ⟨h, by simp, by simp; (first | lia | omega), by simp, by simp, by simp, by simp, by simp⟩
theorem seek_pop {R here : Int} {st seen wait : List Int} (h : Seek R st seen (wait ++ [here]) none) : Seek R st seen wait (some (here, [])) := by
  refine ⟨h.r0, h.z, h.bd, h.dv, h.nd, fun x hx => h.ws x (List.mem_append_left _ hx), fun x hx => ?_, ?_⟩
  · rcases h.cl x hx with h1 | ⟨p, h1⟩ | h1
    · rcases List.mem_append.mp h1 with h1 | h1
      · exact .inl h1
      · exact .inr (.inl ⟨[], by rw [List.mem_singleton.mp h1]⟩)
    · exact nomatch h1
    · exact .inr (.inr h1)
  · intro x p e
    have e2 := Option.some.inj e
    have e3 : here = x := congrArg Prod.fst e2
    have e4 : [] = p := congrArg Prod.snd e2
    subst e3 e4
    exact ⟨h.ws _ (by simp), by simp⟩
theorem Seek.late {R here s : Int} {st seen wait pre : List Int} (h : Seek R st seen wait (some (here, pre))) (hs : s ∈ st) : (0 ≤ (here + s).fmod R ∧ (here + s).fmod R < R) ∧ gl (R :: st) ∣ (here + s).fmod R := by
  have h0 := h.r0
  rw [Int.fmod_eq_emod_of_nonneg _ (by (first | lia | omega))]
  refine ⟨⟨Int.emod_nonneg _ (by (first | lia | omega)), Int.emod_lt_of_pos _ h0⟩, ?_⟩
  have h1 : gl (R :: st) ∣ here := h.dv _ (h.hs _ _ rfl).1
  have h2 : gl (R :: st) ∣ s := gl_dvd.mp (Int.dvd_refl _) s (.tail _ hs)
  have h3 : gl (R :: st) ∣ R := gl_dvd.mp (Int.dvd_refl _) R (.head _)
  rw [Int.emod_def]
  exact Int.dvd_sub (Int.dvd_add h1 h2) (Int.dvd_mul_of_dvd_left h3)
theorem seek_old {R here s : Int} {st seen wait pre : List Int} (h : Seek R st seen wait (some (here, pre))) (hl : (here + s).fmod R ∈ seen) : Seek R st seen wait (some (here, pre ++ [s])) := by
  refine ⟨h.r0, h.z, h.bd, h.dv, h.nd, h.ws, fun x hx => ?_, ?_⟩
  · rcases h.cl x hx with h1 | ⟨p, h1⟩ | h1
    · exact .inl h1
    · have e3 : here = x := congrArg Prod.fst (Option.some.inj h1)
      exact .inr (.inl ⟨pre ++ [s], by rw [e3]⟩)
    · exact .inr (.inr h1)
  · intro x p e
    have e2 := Option.some.inj e
    have e3 : here = x := congrArg Prod.fst e2
    have e4 : pre ++ [s] = p := congrArg Prod.snd e2
    subst e3 e4
    obtain ⟨h1, h2⟩ := h.hs _ _ rfl
    refine ⟨h1, fun y hy => ?_⟩
    rcases List.mem_append.mp hy with hy | hy
    · exact h2 y hy
    · rw [List.mem_singleton.mp hy]; exact hl
theorem seek_new {R here s : Int} {st seen wait pre : List Int} (h : Seek R st seen wait (some (here, pre))) (hs : s ∈ st) (hl : (here + s).fmod R ∉ seen) : Seek R st (seen ++ [(here + s).fmod R]) (wait ++ [(here + s).fmod R]) (some (here, pre ++ [s])) := by
  obtain ⟨hb, hd⟩ := h.late hs
  generalize hL : (here + s).fmod R = late at *
  refine ⟨h.r0, List.mem_append_left _ h.z, fun x hx => ?_, fun x hx => ?_, ?_, fun x hx => ?_, fun x hx => ?_, ?_⟩
  · rcases List.mem_append.mp hx with hx | hx
    · exact h.bd x hx
    · rw [List.mem_singleton.mp hx]; exact hb
  · rcases List.mem_append.mp hx with hx | hx
    · exact h.dv x hx
    · rw [List.mem_singleton.mp hx]; exact hd
  · rw [List.nodup_append]
    exact ⟨h.nd, by simp, fun a ha b hb e => hl (by rw [← List.mem_singleton.mp hb, ← e]; exact ha)⟩
  · rcases List.mem_append.mp hx with hx | hx
    · exact List.mem_append_left _ (h.ws x hx)
    · exact List.mem_append_right _ hx
  · rcases List.mem_append.mp hx with hx | hx
    · rcases h.cl x hx with h1 | ⟨p, h1⟩ | h1
      · exact .inl (List.mem_append_left _ h1)
      · have e3 : here = x := congrArg Prod.fst (Option.some.inj h1)
        exact .inr (.inl ⟨pre ++ [s], by rw [e3]⟩)
      · exact .inr (.inr fun s hs => List.mem_append_left _ (h1 s hs))
    · exact .inl (List.mem_append_right _ hx)
  · intro x p e
    have e2 := Option.some.inj e
    have e3 : here = x := congrArg Prod.fst e2
    have e4 : pre ++ [s] = p := congrArg Prod.snd e2
    subst e3 e4
    obtain ⟨h1, h2⟩ := h.hs _ _ rfl
    refine ⟨List.mem_append_left _ h1, fun y hy => ?_⟩
    rcases List.mem_append.mp hy with hy | hy
    · exact List.mem_append_left _ (h2 y hy)
    · rw [List.mem_singleton.mp hy, hL]; exact List.mem_append_right _ (.head _)
theorem seek_done {R here : Int} {st seen wait : List Int} (h : Seek R st seen wait (some (here, st))) : Seek R st seen wait none := by
  refine ⟨h.r0, h.z, h.bd, h.dv, h.nd, h.ws, fun x hx => ?_, fun _ _ e => nomatch e⟩
  rcases h.cl x hx with h1 | ⟨p, h1⟩ | h1
  · exact .inl h1
  · have e3 : here = x := congrArg Prod.fst (Option.some.inj h1)
    exact .inr (.inr (e3 ▸ (h.hs _ _ rfl).2))
  · exact .inr (.inr h1)
/-- what is closed under sums and below-nought is closed under gcd -/
theorem gcd_in {H : Int → Prop} (hadd : ∀ a b, H a → H b → H (a + b)) (hneg : ∀ a, H a → H (-a)) (h0 : H 0) : ∀ m n : Nat, H (m : Int) → H (n : Int) → H ((Nat.gcd m n : Nat) : Int) := by
  have hmul : ∀ (k : Nat) a, H a → H ((k : Int) * a) := fun k a ha => by
    induction k with
    | zero => rw [Int.natCast_zero, Int.zero_mul]; exact h0
    | succ k ih => rw [Int.natCast_add, Int.natCast_one, Int.add_mul, Int.one_mul]; exact hadd _ _ ih ha
  intro m n
  induction m, n using Nat.gcd.induction with
  | H0 n => intro _ hn; rw [Nat.gcd_zero_left]; exact hn
  | H1 m n hm ih =>
    intro h1 h2
    rw [Nat.gcd_rec]
    refine ih ?_ h1
    have e : ((n % m : Nat) : Int) = (n : Int) + -(((n / m : Nat) : Int) * (m : Int)) := by
      have := Nat.div_add_mod n m
      have e2 : (((n / m : Nat) : Int) * (m : Int)) = ((m * (n / m) : Nat) : Int) := by rw [Nat.mul_comm]; exact (Int.natCast_mul _ _).symm
      rw [e2]
      (first | lia | omega)
    rw [e]
    exact hadd _ _ h2 (hneg _ (hmul _ _ h1))
theorem seek_end {R : Int} {st seen : List Int} (h : Seek R st seen [] none) : gl (R :: st) * (seen.length : Int) = R := by
  have h0 := h.r0
  obtain ⟨hg0, k, hk⟩ := gl_ringPos (st := st) h0
  have step : ∀ x ∈ seen, ∀ s ∈ st, (x + s) % R ∈ seen := fun x hx s hs => by
    rcases h.cl x hx with h1 | ⟨p, h1⟩ | h1
    · exact nomatch h1
    · exact nomatch h1
    · have := h1 s hs
      rwa [Int.fmod_eq_emod_of_nonneg _ (by (first | lia | omega))] at this
  let H : Int → Prop := fun z => ∀ x ∈ seen, (x + z) % R ∈ seen
  have hadd : ∀ a b, H a → H b → H (a + b) := fun a b ha hb x hx => by
    have h1 := hb _ (ha x hx)
    rw [Int.emod_add_emod, Int.add_assoc] at h1
    exact h1
  have hz : H 0 := fun x hx => by
    have hb := h.bd x hx
    rw [Int.add_zero, Int.emod_eq_of_lt hb.1 hb.2]
    exact hx
  have hmul : ∀ (k : Nat) a, H a → H ((k : Int) * a) := fun k a ha => by
    induction k with
    | zero => rw [Int.natCast_zero, Int.zero_mul]; exact hz
    | succ k ih => rw [Int.natCast_add, Int.natCast_one, Int.add_mul, Int.one_mul]; exact hadd _ _ ih ha
  have hR : ∀ a j, H a → H (a + R * j) := fun a j ha x hx => by
    rw [← Int.add_assoc, Int.add_mul_emod_self_left]
    exact ha x hx
  have hneg : ∀ a, H a → H (-a) := fun a ha => by
    have h1 := hmul (R - 1).toNat a ha
    rw [show (((R - 1).toNat : Nat) : Int) = R - 1 from by (first | lia | omega)] at h1
    have h2 := hR _ (-a) h1
    rwa [show (R - 1) * a + R * -a = -a from by grind] at h2
  have habs : ∀ a : Int, H a → H ((a.natAbs : Nat) : Int) := fun a ha => by
    by_cases hn : 0 ≤ a
    · rw [Int.natAbs_of_nonneg hn]; exact ha
    · rw [show ((a.natAbs : Nat) : Int) = -a from by (first | lia | omega)]; exact hneg _ ha
  have hgcd : ∀ a b, H a → H b → H ((Int.gcd a b : Nat) : Int) := fun a b ha hb => gcd_in hadd hneg hz _ _ (habs a ha) (habs b hb)
  have hgo : ∀ (l : List Int), (∀ s ∈ l, H s) → ∀ f : Int, H f → H (l.foldl (fun g n => ((Int.gcd g n : Nat) : Int)) f) := by
    intro l
    induction l with
    | nil => intro _ f hf; exact hf
    | cons s r ih => intro hl f hf; exact ih (fun s hs => hl s (.tail _ hs)) _ (hgcd _ _ hf (hl s (.head _)))
  have hG : H (gl (R :: st)) := hgo (R :: st) (fun s hs => by
    rcases List.mem_cons.mp hs with rfl | hs
    · have := hR 0 1 hz
      rwa [Int.mul_one, Int.zero_add] at this
    · exact fun x hx => step x hx s hs) 0 hz
  generalize hg : gl (R :: st) = g at *
  have k0 : 0 < k := by
    by_cases hh : 0 < k
    · exact hh
    · exfalso
      have : g * k ≤ g * 0 := Int.mul_le_mul_of_nonneg_left (by (first | lia | omega)) (by (first | lia | omega))
      (first | lia | omega)
  -- the multiples of g below R
  have l1 : ((List.range k.toNat).map fun i : Nat => (i : Int) * g).length ≤ seen.length := by
    refine nodup_len ?_ fun x hx => ?_
    · refine List.Pairwise.map _ (fun a b hne => ?_) (List.nodup_range (n := k.toNat))
      intro e
      have e2 : (a : Int) * g = (b : Int) * g := e
      have := Int.eq_of_mul_eq_mul_right (by (first | lia | omega)) e2
      (first | lia | omega)
    · obtain ⟨i, hi, rfl⟩ := List.mem_map.mp hx
      have hi := List.mem_range.mp hi
      have h1 := hmul i g hG 0 h.z
      have h2 : (i : Int) * g < R := by
        rw [hk, Int.mul_comm g k]
        exact Int.mul_lt_mul_of_pos_right (by (first | lia | omega)) hg0
      rwa [Int.zero_add, Int.emod_eq_of_lt (Int.mul_nonneg (by (first | lia | omega)) (by (first | lia | omega))) h2] at h1
  have l2 : seen.length ≤ ((List.range k.toNat).map fun i : Nat => (i : Int) * g).length := by
    refine nodup_len h.nd fun x hx => ?_
    have hdx := h.dv x hx
    rw [hg] at hdx
    obtain ⟨j, hj⟩ := hdx
    have hb := h.bd x hx
    have j0 : 0 ≤ j := by
      by_cases hh : 0 ≤ j
      · exact hh
      · exfalso
        have : g * j ≤ g * -1 := Int.mul_le_mul_of_nonneg_left (by (first | lia | omega)) (by (first | lia | omega))
        (first | lia | omega)
    have jk : j < k := by
      by_cases hh : j < k
      · exact hh
      · exfalso
        have : g * k ≤ g * j := Int.mul_le_mul_of_nonneg_left (by (first | lia | omega)) (by (first | lia | omega))
        (first | lia | omega)
    exact List.mem_map.mpr ⟨j.toNat, List.mem_range.mpr (by (first | lia | omega)), by rw [hj, Int.toNat_of_nonneg j0, Int.mul_comm]⟩
  rw [List.length_map, List.length_range] at l1 l2
  have e : (seen.length : Int) = k := by (first | lia | omega)
  rw [e, ← hk]
theorem seek_due {R : Int} {st seen : List Int} (h : Seek R st seen [] none) : R.fdiv (seen.length : Int) = gl (R :: st) := by
  have h1 := seek_end h
  have h2 : seen ≠ [] := fun e => by have := h.z; rw [e] at this; exact nomatch this
  have h3 : 0 < seen.length := by
    cases seen with
    | nil => exact absurd rfl h2
    | cons _ _ => exact Nat.succ_pos _
  rw [Int.fdiv_eq_ediv_of_nonneg _ (by (first | lia | omega))]
  conv => lhs; rw [← h1]
  exact Int.mul_ediv_cancel _ (by (first | lia | omega))
theorem skm {n a b : Nat} (h : a + 1 ≤ n) : 2 * (n - (a + 1)) + (b + 1) ≤ 2 * (n - a) + b := by
  obtain ⟨k, rfl⟩ := Nat.exists_eq_add_of_le h
  rw [Nat.add_sub_cancel_left, show a + 1 + k - a = k + 1 from by rw [Nat.add_assoc, Nat.add_sub_cancel_left, Nat.add_comm], Nat.mul_add, Nat.add_assoc]
  exact Nat.add_le_add_left (by rw [Nat.add_comm]; exact Nat.add_le_add_right (by decide) b) _
theorem skR {R : Int} {a b : Nat} (h : ((a + 1 : Nat) : Int) ≤ R) : 2 * (R.toNat - (a + 1)) + (b + 1) ≤ 2 * (R.toNat - a) + b :=
  skm ((Int.le_toNat (Int.le_trans (Int.natCast_nonneg _) h)).mpr h)
structure SeekS where
  seen : List Int
  wait : List Int
  wv : List Value
  nw : Nat
  od : Obj
/-- the dict of the places seen -/
def Seen (w : World) (o : Obj) (seen : List Int) : Prop :=
  o.IsDictOf (intKind PySem.Challenge.rw_nz0134_01.row.prog w) (seen.map fun k => (k, Value.bool true))
def seekM (R : Int) (c : SeekS) : Nat := 2 * (R.toNat - c.seen.length) + c.wait.length
structure SeekR (w : World) (R : Int) (ns : List Int) (hand : Option (Int × List Int)) (c : SeekS) : Prop where
  sk : Seek R ns c.seen c.wait hand
  iv : IntsAre c.wv c.wait
  sn : Seen w c.od c.seen
theorem last_eq {l : List Int} (h : l ≠ []) : l = l.dropLast ++ [l.getLastD 0] := by
  cases l with
  | nil => exact absurd rfl h
  | cons a r =>
    rw [List.getLastD_eq_getLast?, List.getLast?_eq_some_getLast (by simp), Option.getD_some, List.dropLast_concat_getLast]
theorem seek_popL {R : Int} {st seen wait : List Int} (h : Seek R st seen wait none) (hw : wait ≠ []) : Seek R st seen wait.dropLast (some (wait.getLastD 0, [])) := by
  rw [last_eq hw] at h
  exact seek_pop h
theorem ints_get {vs : List Value} {ns : List Int} (h : IntsAre vs ns) : ∀ {i : Nat} {v : Value}, vs[i]? = some v → ∃ k t, v = .int k t ∧ ns[i]? = some k := by
  induction h with
  | nil => intro i v h; simp at h
  | cons k t _ ih =>
    intro i v h
    cases i with
    | zero => exact ⟨k, t, (Option.some.inj h).symm, rfl⟩
    | succ i =>
      obtain ⟨k', t', e, e2⟩ := ih (i := i) (v := v) (by simpa using h)
      exact ⟨k', t', e, by simpa using e2⟩
theorem seen_in {seen : List Int} {k : Int} : (valueAt (seen.map fun k => (k, Value.bool true)) k).isSome = decide (k ∈ seen) := by
  rw [valueAt_isSome_eq_any, Bool.eq_iff_iff]
  simp
theorem seen_put {w : World} {o : Obj} {seen : List Int} {k : Int} (hk : k ∉ seen) (h : o.IsDictOf (intKind PySem.Challenge.rw_nz0134_01.row.prog w) (stored (seen.map fun k => (k, Value.bool true)) k (.bool true))) : Seen w o (seen ++ [k]) := by
  rw [stored_absent (valueAt_none_of_not_mem (by simpa using hk))] at h
  unfold Seen
  rw [List.map_append]
  exact h
theorem endP {P : Int → Prop} {news nw : List (Addr × Obj)} {h₀ h' : Heap} {L : Addr} {m : Str → Option Value} {s : Shared} {Q : Value → Shared → Prop} {y : Int} {t : Tok} {tk' : Nat} (hret : ∀ r nx h' tk', Fr h₀ L h' m → News h₀ L h' nx → (fun r nx => (∃ k t, P k ∧ r = Value.int k t) ∧ nx = news) r nx → Q r { s with heap := h', toks := tk' })
    (F : Fr h₀ L h' m) (N : News h₀ L h' nw) (sub : ∀ p ∈ news, p ∈ nw) (e : P y) : Q (.int y t) { s with heap := h', toks := tk' } :=
  hret _ _ _ _ F (fun p hp => N p (sub p hp)) ⟨⟨_, t, e, rfl⟩, rfl⟩
theorem useP {w : World} {dep : Nat} {f : Addr} {vs : List Value} {news : List (Addr × Obj)} {mean : ExcName → Option Value} {mg mb : Str → Option Value} {dp un : Nat} {gd : Option (List Code)} {cn : Str} {cs : Scope} {a : Addr} {ccd : Value} {cl : List (Str × Addr)} {outer : List Env} {A₀ : Around} {base h₀ : Heap} {L : Addr} {m : Str → Option Value} {s : Shared} {Q E : Value → Shared → Prop}
    {P : Int → Prop} (h : Tell w dep f vs news (fun r nx => (∃ k t, P k ∧ r = .int k t) ∧ nx = news))
    (p1 : Below A₀ base outer h₀) (p2 : Fr h₀ L s.heap m) (p3 : (hd.heap_39 w.params).In h₀) (p4 : News h₀ L s.heap news) (p5 : Top hd.view_39 (looseW hd.view_39 []) mean mg mb h₀) (p6 : cs.kind = .function) (p7 : dp + dep < recursionLimit) (p8 : un + 20 * dep < cLine)
    (ret : ∀ k t h' tk', P k → Fr h₀ L h' m → News h₀ L h' news → Q (.int k t) { s with heap := h', toks := tk' }) :
    wpAny (model PySem.Challenge.rw_nz0134_01.row.prog w) (ktrTop dp un gd cn cs L a ccd cl outer) (call (.ref f) vs) Q E s :=
  h mean mg mb dp un gd cn cs a ccd cl outer A₀ base h₀ L m s Q E p1 p2 p3 p4 p5 p6 p7 p8 fun r nx h' tk' F' N' hr => by
    obtain ⟨⟨k, t, hp, rfl⟩, rfl⟩ := hr
    exact ret k t h' tk' hp F' N'
theorem reached_tell (w : World) (l : Addr) (R : Int) (tR : Tok) (vs : List Value) (ns : List Int) (n : Nat) (news : List (Addr × Obj)) (hl : (l, listOf vs.toArray n) ∈ news) (hi : IntsAre vs ns) (hR : 0 < R ∧ R ≤ 100) :
    Tell w 5 186 [.int R tR, .ref l] news (fun r nx => (∃ k t, (0 < k ∧ k ≤ R ∧ R.fdiv k = gl (R :: ns)) ∧ r = .int k t) ∧ nx = news) := by
  w_top off
  unfold Tell
  k_fill
  intro mean mg mb dp un gd cn cs ad ccd cl outer A₀ base h₀ L m s Q E B F X N T hk hd hu hret
  k_with_none
  k_with "lt" => ((with_reducible rename ∀ p ∈ (_ : List (Addr × Obj)), p.1 < (_ : Addr) => hlt); replace hlt := allLt_of hlt; (dsimp only [AllLt] at hlt); revert hlt; intros)
  k_with "room" => (k_dflt (first | exact rm2 (by assumption) (by rfl) | exact rm1 (by assumption) (by rfl) | exact rm3 (by assumption) (by rfl) | exact rm0 (by assumption) | fail "no"))
  k_with "arm" => (first | assumption | (with_reducible first | exact arm0 (by assumption) | exact arm1 (by assumption) | exact arm2 (by assumption) | exact arm3 (by assumption) | exact arm4 (by assumption) | exact arm5 (by assumption) | exact arm6 (by assumption) | exact arm7 (by assumption) | exact arm8 (by assumption) | exact arm9 (by assumption) | exact arm10 (by assumption) | exact arm11 (by assumption) | exact arm12 (by assumption) | exact arm13 (by assumption) | exact And.left (arm0 (by assumption)) | exact And.left (And.right (arm0 (by assumption))) | exact And.right (And.right (arm0 (by assumption))) | exact And.left (arm1 (by assumption)) | exact And.left (And.right (arm1 (by assumption))) | exact And.right (And.right (arm1 (by assumption))) | exact And.left (arm2 (by assumption)) | exact And.left (And.right (arm2 (by assumption))) | exact And.right (And.right (arm2 (by assumption))) | exact And.left (arm3 (by assumption)) | exact And.left (And.right (arm3 (by assumption))) | exact And.right (And.right (arm3 (by assumption))) | exact And.left (arm4 (by assumption)) | exact And.left (And.right (arm4 (by assumption))) | exact And.right (And.right (arm4 (by assumption))) | exact And.left (arm5 (by assumption)) | exact And.left (And.right (arm5 (by assumption))) | exact And.right (And.right (arm5 (by assumption))) | exact And.left (arm6 (by assumption)) | exact And.left (And.right (arm6 (by assumption))) | exact And.right (And.right (arm6 (by assumption))) | exact And.left (arm7 (by assumption)) | exact And.left (And.right (arm7 (by assumption))) | exact And.right (And.right (arm7 (by assumption))) | exact Nat.lt_add_one _ | fail "no") | (with_reducible refine Nat.lt_add_right _ ?_; mod_arm) | fail "no")
  k_with "ne" => (k_dflt (first | assumption | exact Ne.symm (by assumption) | (refine neN ?_; (try dsimp only); first | assumption | exact Ne.symm (by assumption) | exact Nat.ne_of_lt (by mod_arm) | exact Nat.ne_of_gt (by mod_arm) | mod_arm | exact Ne.symm (by mod_arm) | fail "no") | fail "no"))
  k_with "om" => (first | (with_reducible first | assumption | exact Ne.symm (by assumption) | exact bdA (by assumption) | exact bdB (by assumption) (by k_dflt rfl) | exact bdC (by assumption) | exact bdD (by assumption) (by k_dflt rfl) | exact bdE (by assumption) | exact bdF (by assumption) (by k_dflt rfl) | exact bdG (by assumption) (by k_dflt rfl) | exact bdH (by assumption) (by k_dflt rfl) | exact bdI (by assumption) | exact bdJ (by assumption) (by k_dflt rfl) | exact bdK (by assumption) | exact bdO (by assumption) | exact bdP (by assumption) (by k_dflt rfl) | exact bdO0 (by assumption) | exact bdP0 (by assumption) (by k_dflt rfl) | exact bdV (by assumption) | exact bdS0 (by assumption) | exact bdS1 (by assumption) | exact bdS2 (by assumption) | exact bdS3 (by assumption) | exact bdQ (by assumption) (by assumption) (by assumption) | exact bdQ2 (by assumption) (by assumption) (by assumption) (by k_dflt rfl) | exact bdQ3 (by assumption) (by assumption) (by assumption) (by assumption) (by assumption) | exact bdQ4 (by assumption) (by assumption) (by assumption) | exact bdQ5 (by assumption) (by assumption) (by assumption) (by k_dflt rfl) | exact bdNA (by assumption) | exact bdW (by assumption) (by k_dflt rfl) | exact bdX2 (by assumption) (by k_dflt rfl) | exact bdX3 (by assumption) (by k_dflt rfl) | exact bdX4 (by assumption) (by k_dflt rfl) | exact bdX5 (by assumption) (by k_dflt rfl) | exact bdT0 (by assumption) | exact bdT1 (by assumption) | exact bdR2 | exact bdR1 (by assumption) (by k_dflt rfl) | exact Nat.ne_of_lt (by mod_arm) | exact Nat.ne_of_gt (by mod_arm) | exact Ne.symm (by mod_arm) | mod_arm | fail "no") | ((with_reducible refine And.intro ?_ ?_) <;> omega) | ((with_reducible (first | (rename @Ne _ _ _ => hz9; clear hz9) | (rename And (@Ne _ _ _) _ => hz9; clear hz9) | (rename And (And (@Ne _ _ _) _) _ => hz9; clear hz9)); (repeat (with_reducible first | (rename @Ne _ _ _ => hz9; clear hz9) | (rename And (@Ne _ _ _) _ => hz9; clear hz9) | (rename And (And (@Ne _ _ _) _) _ => hz9; clear hz9))); omega)) | fail "no")
  k_with "eval Call" => (refine Call_ ?_)
  k_with "eval Name" => (k_here; k_dflt (refine' nameX_L ?F ?v ?_ ?a ?b; (case F => k_asm); (case a => rfl); (case b => rfl); (case v => first | rfl | exact hr9 _ rfl | exact hr8 _ rfl | exact (hr9 _ rfl).trans (hr8 _ rfl)); k_whole))
  k_with "storeName" => (k_here; dsimp only)
  k_with "newTuple" => (k_here; dsimp only)
  k_with "newList" => (k_here; dsimp only)
  k_with "LeaveK" => (k_here; dsimp only)
  k_with "ite" => (k_here; dsimp only)
  k_with "execs cons" => (k_here; first | k_gentoks | ((try dsimp only); refine execs_cut ?_; intro Q9 hQ9))
  k_with "call ref" => (first | (k_here; k_dflt (refine' useI (gcd_tell _ _ _ _ _ _) ?q1 ?q2 ?q3 ?q4 ?q5 ?q6 ?q7 ?q8 ?_; (case q1 | q2 | q3 | q4 | q5 => k_asm); (case q6 => first | exact rfl | assumption); (case q7 => ktr_room); (case q8 => ktr_units); intro t9 h9 tk9 F9 N9; revert t9 h9 tk9 F9 N9; intros; ((try dsimp only); (try k_sweep)))) | fail "no")
  k_with "call ref" => (first | (k_here; k_dflt (refine' useI (gcd_all_tell _ _ _ _ _ _ ?hl ?hi) ?q1 ?q2 ?q3 ?q4 ?q5 ?q6 ?q7 ?q8 ?_; (case q1 | q2 | q3 | q4 | q5 => k_asm); (case q6 => first | exact rfl | assumption); (case q7 => ktr_room); (case q8 => ktr_units); (case hl => k_mem); (case hi => l_ints); intro t9 h9 tk9 F9 N9; revert t9 h9 tk9 F9 N9; intros; ((try dsimp only); (try k_sweep)))) | fail "no")
  k_with "call ref" => (first | (k_here; k_dflt (refine' useI (lcm_tell _ _ _ _ _ _ ?ha ?hb) ?q1 ?q2 ?q3 ?q4 ?q5 ?q6 ?q7 ?q8 ?_; (case q1 | q2 | q3 | q4 | q5 => k_asm); (case q6 => first | exact rfl | assumption); (case q7 => ktr_room); (case q8 => ktr_units); (case ha | hb => omega); intro t9 h9 tk9 F9 N9; (try simp only [Int.zero_sub, Int.neg_lcm, Int.lcm_neg]); revert t9 h9 tk9 F9 N9; intros; ((try dsimp only); (try k_sweep)))) | fail "no")
  k_with "call ref" => (first | (k_here; k_dflt (refine' useT (ratio_tell _ _ _ _ _ _ ?ha ?hb) ?q1 ?q2 ?q3 ?q4 ?q5 ?q6 ?q7 ?q8 ?_; (case q1 | q2 | q3 | q4 | q5 => k_asm); (case q6 => first | exact rfl | assumption); (case q7 => ktr_room); (case q8 => ktr_units); (case ha | hb => omega); intro D9 p9 q9 t9 u9 h9 tk9 hP9 F9 N9 l9; (have hq9 := hP9.pos); (have hb9 := hP9.dvd); (have hc9 := hP9.bd (by omega)); (try dsimp only [AllLt] at l9); (try revert hc9); (try revert hb9); (try revert hq9); revert D9 p9 q9 t9 u9 h9 tk9 hP9 F9 N9 l9; intros; ((try dsimp only); (try k_sweep)))) | fail "no")
  k_with "call ref" => (first | (k_here; k_dflt (refine' useTE (whole_tell _ _ _ _) ?q1 ?q2 ?q3 ?q4 ?q5 ?q6 ?q7 ?q8 ?_; (case q1 | q2 | q3 | q4 | q5 => k_asm); (case q6 => first | exact rfl | assumption); (case q7 => ktr_room); (case q8 => ktr_units); intro D9 t9 u9 h9 tk9 F9 N9 l9; (try dsimp only [AllLt] at l9); revert D9 t9 u9 h9 tk9 F9 N9 l9; intros; ((try dsimp only); (try k_sweep)))) | fail "no")
  k_with "call ref" => (first | (k_here; k_dflt (refine' useI (floor_tell _ _ _ _ _ _ _ ?hA ?ha ?hb) ?q1 ?q2 ?q3 ?q4 ?q5 ?q6 ?q7 ?q8 ?_; (case q1 | q2 | q3 | q4 | q5 => k_asm); (case q6 => first | exact rfl | assumption); (case q7 => ktr_room); (case q8 => ktr_units); (case hA => k_mem); (case ha | hb => omega); intro t9 h9 tk9 F9 N9; revert t9 h9 tk9 F9 N9; intros; ((try dsimp only); (try k_sweep)))) | fail "no")
  k_with "call ref" => (first | (k_here; k_dflt (refine' useI (ceil_tell _ _ _ _ _ _ _ ?hA ?ha ?hb) ?q1 ?q2 ?q3 ?q4 ?q5 ?q6 ?q7 ?q8 ?_; (case q1 | q2 | q3 | q4 | q5 => k_asm); (case q6 => first | exact rfl | assumption); (case q7 => ktr_room); (case q8 => ktr_units); (case hA => k_mem); (case ha | hb => omega); intro t9 h9 tk9 F9 N9; revert t9 h9 tk9 F9 N9; intros; ((try dsimp only); (try k_sweep)))) | fail "no")
  k_with "call ref" => (first | (k_here; k_dflt (refine' useB (iswhole_tell _ _ _ _ _ _ _ ?hA) ?q1 ?q2 ?q3 ?q4 ?q5 ?q6 ?q7 ?q8 ?_; (case q1 | q2 | q3 | q4 | q5 => k_asm); (case q6 => first | exact rfl | assumption); (case q7 => ktr_room); (case q8 => ktr_units); (case hA => k_mem); intro h9 tk9 F9 N9; revert h9 tk9 F9 N9; intros; ((try dsimp only); (try k_sweep)))) | fail "no")
  k_with "call ref" => (first | (k_here; k_dflt (refine' useI (compare_tell _ _ _ _ _ _ _ _ _ _ _ _ ?hA ?hC ?ha ?hb) ?q1 ?q2 ?q3 ?q4 ?q5 ?q6 ?q7 ?q8 ?_; (case q1 | q2 | q3 | q4 | q5 => k_asm); (case q6 => first | exact rfl | assumption); (case q7 => ktr_room); (case q8 => ktr_units); (case hA | hC => k_mem); (case ha | hb => omega); intro t9 h9 tk9 F9 N9; revert t9 h9 tk9 F9 N9; intros; ((try dsimp only); (try k_sweep)))) | fail "no")
  k_with "call ref" => (first | (k_here; k_dflt (refine' useTE (neg_tell _ _ _ _ _ _ _ ?hA) ?q1 ?q2 ?q3 ?q4 ?q5 ?q6 ?q7 ?q8 ?_; (case q1 | q2 | q3 | q4 | q5 => k_asm); (case q6 => first | exact rfl | assumption); (case q7 => ktr_room); (case q8 => ktr_units); (case hA => k_mem); intro D9 t9 u9 h9 tk9 F9 N9 l9; (try dsimp only [AllLt] at l9); revert D9 t9 u9 h9 tk9 F9 N9 l9; intros; ((try dsimp only); (try k_sweep)))) | fail "no")
  k_with "call ref" => (first | (k_here; k_dflt (refine' useT (add_tell _ _ _ _ _ _ _ _ _ _ _ _ ?hA ?hC ?ha ?hb) ?q1 ?q2 ?q3 ?q4 ?q5 ?q6 ?q7 ?q8 ?_; (case q1 | q2 | q3 | q4 | q5 => k_asm); (case q6 => first | exact rfl | assumption); (case q7 => ktr_room); (case q8 => ktr_units); (case hA | hC => k_mem); (case ha | hb => omega); intro D9 p9 q9 t9 u9 h9 tk9 hP9 F9 N9 l9; (have hq9 := hP9.pos); (have hb9 := hP9.dvd); (try (have hc9 := hP9.bd (by omega))); (try dsimp only [AllLt] at l9); (try revert hc9); (try revert hb9); (try revert hq9); revert D9 p9 q9 t9 u9 h9 tk9 hP9 F9 N9 l9; intros; ((try dsimp only); (try k_sweep)))) | fail "no")
  k_with "call ref" => (first | (k_here; k_dflt (refine' useT (sub_tell _ _ _ _ _ _ _ _ _ _ _ _ ?hA ?hC ?ha ?hb) ?q1 ?q2 ?q3 ?q4 ?q5 ?q6 ?q7 ?q8 ?_; (case q1 | q2 | q3 | q4 | q5 => k_asm); (case q6 => first | exact rfl | assumption); (case q7 => ktr_room); (case q8 => ktr_units); (case hA | hC => k_mem); (case ha | hb => omega); intro D9 p9 q9 t9 u9 h9 tk9 hP9 F9 N9 l9; (have hq9 := hP9.pos); (have hb9 := hP9.dvd); (try (have hc9 := hP9.bd (by omega))); (try dsimp only [AllLt] at l9); (try revert hc9); (try revert hb9); (try revert hq9); revert D9 p9 q9 t9 u9 h9 tk9 hP9 F9 N9 l9; intros; ((try dsimp only); (try k_sweep)))) | fail "no")
  k_with "all" => (first | (first | assumption | exact ne_of_allLt (by assumption) (by first | exact Nat.le_refl _ | exact Nat.le_succ _ | exact bdU2 | exact bdU | omega)) | fail "no")
  k_with "call ref" => (first | (k_here; k_dflt (refine' useN ?ho ?hi ?hlen ?h0 ?hm ?q1 ?q2 ?q3 ?q4 ?q5 ?q6 ?q7 ?q8 ?U ?hne ?hl ?_; (case q1 | q2 | q3 | q4 | q5 => k_asm); (case q6 => first | exact rfl | assumption); (case q7 => ktr_room); (case q8 => ktr_units); (case U => k_updF); (case ho => assumption); (case hne => k_ne); (case hl => k_mem); (case hi => assumption); (case hlen => assumption); (case h0 => omega); (case hm => omega); intro v9 t9 o9 h9 tk9 hv9 hT9 F9 N9; revert v9 t9 o9 h9 tk9 hv9 hT9 F9 N9; intros; ((try dsimp only); (try k_sweep)))) | fail "no")
  k_with "call ref" => (first | (k_here; k_dflt (refine' useI (bottom_tell _ _ _ _ _ _ ?hl ?hp ?hq) ?q1 ?q2 ?q3 ?q4 ?q5 ?q6 ?q7 ?q8 ?_; (case q1 | q2 | q3 | q4 | q5 => k_asm); (case q6 => first | exact rfl | assumption); (case q7 => ktr_room); (case q8 => ktr_units); (case hl => k_mem); (case hp => first | assumption | first | exact PairsAre.nil | (refine' PairsAre.cons ?hmm PairsAre.nil; (case hmm => k_mem))); (case hq => first | assumption | (intro r9 hr9; (simp only [List.mem_cons, List.not_mem_nil, or_false] at hr9); subst hr9; dsimp only; omega)); intro t9 h9 tk9 F9 N9; revert t9 h9 tk9 F9 N9; intros; ((try dsimp only); (try k_sweep)))) | fail "no")
  k_with "call ref" => (first | (k_here; k_dflt (refine' useB (between_tell _ _ _ _ _ _ _ _ _ _ _ _ _ _ ?hA ?hC ?ha ?hb) ?q1 ?q2 ?q3 ?q4 ?q5 ?q6 ?q7 ?q8 ?_; (case q1 | q2 | q3 | q4 | q5 => k_asm); (case q6 => first | exact rfl | assumption); (case q7 => ktr_room); (case q8 => ktr_units); (case hA | hC => k_mem); (case ha | hb => omega); intro h9 tk9 F9 N9; revert h9 tk9 F9 N9; intros; ((try dsimp only); (try k_sweep)))) | fail "no")
  replace N := News.dup N hl
  refine wpAny_call ?_
  k_dflt ktr_enter
  (rename Fr _ _ _ _ => F0); replace F0 := frAs (fun y => List.lookup y [(Str.ofString "steps", Value.ref l), (Str.ofString "ring", Value.int R tR)]) F0 (by with_unfolding_all exact Eq.refl (fun y => List.lookup y [(Str.ofString "steps", Value.ref l), (Str.ofString "ring", Value.int R tR)]))
  (refine letA ?_); intro A9
  (repeat' ((fail_if_success (with_reducible first | (show wpAny _ _ (exec (PySem.Stmt.While _ _ _ _) _) _ _ _) | (show wpAny _ _ (exec (PySem.Stmt.For _ _ _ _ _) _) _ _ _) | (show wpAny _ _ (eval (PySem.Expr.ListComp _ _ _ _) _) _ _ _) | (show wpAny _ _ (pyIter (Value.ref _)) _ _ _) | (show LCg.CompSrc _ _ _ _ _ _ _ _ _ _ _ _ _ _) | (show LCt.CompSrcT _ _ _ _ _ _ _ _ _ _ _ _ _ _ _) | (show LCp.SrcLP _ _ _ _ _ _ _ _ _ _ _ _ _ _ _) | (show wpAny _ _ (exec (PySem.Stmt.Assign _ (PySem.Expr.ListComp _ _ _ _) _) _) _ _ _))); first | (k_unfold; (try dsimp only)) | walk1 | (dsimp only; walk1) | (leave1; (try dsimp only)) | (refine Then.next hQ9 ?_; clear hQ9; (try clear Q9)) | (refine Then.ret hQ9 ?_; clear hQ9; (try clear Q9)) | (refine Then.brk hQ9 ?_; clear hQ9; (try clear Q9)) | (refine Then.cont hQ9 ?_; clear hQ9; (try clear Q9)) | fail "no step"))
  rename_i g' L' hB FGB BB XB TB tkq hA o0 lo0 hd0 hf0 ap0 l10 lw h1 l11 DT h2 l12 h3 h4 h5 FW NW
  replace hd0 : Seen w o0 [0] := hd0
  clear hf0
  generalize hB.objs.size = DD at *
  have hI0 : IntsAre [Value.int 0 0] [0] := .cons _ _ .nil
  with_unfolding_all refine' while_S (σ := SeekS) (fun c => (lw, listOf c.wv.toArray c.nw) :: (DD, c.od) :: (l, listOf vs.toArray n) :: news) (fun c => []) [Str.ofString "here", Str.ofString "step", Str.ofString "late"] (fun c => SeekR w R ns none c ∧ seekM R c ≤ 200) (fun c => seekM R c) ⟨[0], [0], _, _, o0⟩ FW (News.tl NW) ?kk ?kr ?kt
  case kk => exact Names.nil
  case kr => exact ⟨⟨seek_start hR.1, .cons _ _ .nil, hd0⟩, by unfold seekM; simp; omega⟩
  case kt =>
    rintro ⟨seen, wait, wv, nw, od⟩ u h tk hr8 ⟨⟨hS, hW, hD⟩, hM⟩ F1 N1
    dsimp only at hS hW hD F1 N1
    have hM2 : 2 * (R.toNat - seen.length) + wait.length ≤ 200 := hM
    have hwl := hW.length
    (repeat' ((fail_if_success (with_reducible first | (show wpAny _ _ (exec (PySem.Stmt.While _ _ _ _) _) _ _ _) | (show wpAny _ _ (exec (PySem.Stmt.For _ _ _ _ _) _) _ _ _) | (show wpAny _ _ (eval (PySem.Expr.ListComp _ _ _ _) _) _ _ _) | (show wpAny _ _ (pyIter (Value.ref _)) _ _ _) | (show LCg.CompSrc _ _ _ _ _ _ _ _ _ _ _ _ _ _) | (show LCt.CompSrcT _ _ _ _ _ _ _ _ _ _ _ _ _ _ _) | (show LCp.SrcLP _ _ _ _ _ _ _ _ _ _ _ _ _ _ _) | (show wpAny _ _ (exec (PySem.Stmt.Assign _ (PySem.Expr.ListComp _ _ _ _) _) _) _ _ _))); first | (k_unfold; (try dsimp only)) | walk1 | (dsimp only; walk1) | (leave1; (try dsimp only)) | (refine Then.next hQ9 ?_; clear hQ9; (try clear Q9)) | (refine Then.ret hQ9 ?_; clear hQ9; (try clear Q9)) | (refine Then.brk hQ9 ?_; clear hQ9; (try clear Q9)) | (refine Then.cont hQ9 ?_; clear hQ9; (try clear Q9)) | fail "no step"))
    · rename_i lE hE FE NE lE1 hok
      have hw : wait = [] := of_decide_eq_true hok
      subst hw
      have hD2 := hD
      unfold Seen at hD2
      have hrm := hS.room
      refine kda_len (knd := intKind _ _) NE (.tail _ (.tail _ (.head _))) hD2 lo0 (by simp only [List.length_map]; omega) ?_
      (repeat' (first | (k_unfold; (try dsimp only)) | walk1 | (dsimp only; walk1) | (leave1; (try dsimp only)) | (refine Then.next hQ9 ?_; clear hQ9; (try clear Q9)) | (refine Then.ret hQ9 ?_; clear hQ9; (try clear Q9)) | (refine Then.brk hQ9 ?_; clear hQ9; (try clear Q9)) | (refine Then.cont hQ9 ?_; clear hQ9; (try clear Q9)) | fail "no step"))
      have h0 : 0 < seen.length := List.length_pos_of_mem hS.z
      refine endP (P := fun k => 0 < k ∧ k ≤ R ∧ R.fdiv k = gl (R :: ns)) hret (by assumption) (by assumption) (fun p hp => by repeat (first | exact hp | refine List.Mem.tail _ ?_)) ⟨?_, ?_, ?_⟩
      all_goals simp only [List.length_map]
      · omega
      · omega
      · exact seek_due hS
    · rename_i lE hE FE NE lE1 hok
      have hw : wait ≠ [] := of_decide_eq_false hok
      have hw2 : 0 < wv.length := by have := List.length_pos_iff.mpr hw; omega
      (repeat' ((fail_if_success (with_reducible first | (show wpAny _ _ (exec (PySem.Stmt.While _ _ _ _) _) _ _ _) | (show wpAny _ _ (exec (PySem.Stmt.For _ _ _ _ _) _) _ _ _) | (show wpAny _ _ (eval (PySem.Expr.ListComp _ _ _ _) _) _ _ _) | (show wpAny _ _ (pyIter (Value.ref _)) _ _ _) | (show LCg.CompSrc _ _ _ _ _ _ _ _ _ _ _ _ _ _) | (show LCt.CompSrcT _ _ _ _ _ _ _ _ _ _ _ _ _ _ _) | (show LCp.SrcLP _ _ _ _ _ _ _ _ _ _ _ _ _ _ _) | (show wpAny _ _ (exec (PySem.Stmt.Assign _ (PySem.Expr.ListComp _ _ _ _) _) _) _ _ _))); first | (k_unfold; (try dsimp only)) | walk1 | (dsimp only; walk1) | (leave1; (try dsimp only)) | (refine Then.next hQ9 ?_; clear hQ9; (try clear Q9)) | (refine Then.ret hQ9 ?_; clear hQ9; (try clear Q9)) | (refine Then.brk hQ9 ?_; clear hQ9; (try clear Q9)) | (refine Then.cont hQ9 ?_; clear hQ9; (try clear Q9)) | fail "no step"))
      rename_i hp1 t0 hI1 hp2 Fp Np
      have hS1 := seek_popL hS hw
      have hM3 : 2 * (R.toNat - seen.length) + wait.dropLast.length < 2 * (R.toNat - seen.length) + wait.length := by
        rw [List.length_dropLast]
        have := List.length_pos_iff.mpr hw
        omega
      generalize wait.getLastD 0 = here at *
      generalize wait.dropLast = wait1 at *
      generalize wv.dropLast = wv1 at *
      (with_unfolding_all refine' For_invVF Fp ?k1 ?k2 ?_; (case k1 => exact rfl); (case k2 => exact rfl))
      (repeat' ((fail_if_success (with_reducible first | (show wpAny _ _ (exec (PySem.Stmt.While _ _ _ _) _) _ _ _) | (show wpAny _ _ (exec (PySem.Stmt.For _ _ _ _ _) _) _ _ _) | (show wpAny _ _ (eval (PySem.Expr.ListComp _ _ _ _) _) _ _ _) | (show wpAny _ _ (pyIter (Value.ref _)) _ _ _) | (show LCg.CompSrc _ _ _ _ _ _ _ _ _ _ _ _ _ _) | (show LCt.CompSrcT _ _ _ _ _ _ _ _ _ _ _ _ _ _ _) | (show LCp.SrcLP _ _ _ _ _ _ _ _ _ _ _ _ _ _ _) | (show wpAny _ _ (exec (PySem.Stmt.Assign _ (PySem.Expr.ListComp _ _ _ _) _) _) _ _ _))); first | (k_unfold; (try dsimp only)) | walk1 | (dsimp only; walk1) | (leave1; (try dsimp only)) | (refine Then.next hQ9 ?_; clear hQ9; (try clear Q9)) | (refine Then.ret hQ9 ?_; clear hQ9; (try clear Q9)) | (refine Then.brk hQ9 ?_; clear hQ9; (try clear Q9)) | (refine Then.cont hQ9 ?_; clear hQ9; (try clear Q9)) | fail "no step"))
      (rename Fr _ _ _ _ => lF9); (rename News _ _ _ _ => lN9)
      with_unfolding_all refine' iter_ledS (σ := SeekS) (its := vs.toArray) (fun c => (lw, listOf c.wv.toArray c.nw) :: (DD, c.od) :: (l, listOf vs.toArray n) :: news) (fun c => []) [Str.ofString "late"] (fun i c => SeekR w R ns (some (here, ns.take i)) c ∧ seekM R c < 2 * (R.toNat - seen.length) + wait.length) ⟨seen, wait1, wv1, nw + 1, od⟩ rfl (fun c => List.Mem.tail _ (List.Mem.tail _ (List.Mem.head _))) lF9 (News.tl lN9) ?kk ?kr ?kt ?kd
      case kk => exact Names.nil
      case kr => exact ⟨⟨hS1, hI1, hD⟩, hM3⟩
      case kt =>
        rintro I i v ⟨seen, wait, wv, nw, od⟩ u h tk oI hr9 hv ⟨⟨hS, hW, hD⟩, hM⟩ F1 N1 hn
        dsimp only at hS hW hD F1 N1 hn
        obtain ⟨s, ts, rfl, hsi⟩ := ints_get hi (i := i) (by simpa using hv)
        have hsm := List.mem_of_getElem? hsi
        have hI1 : @Ne Nat lw I := hn (lw, listOf wv.toArray nw) (.head _)
        have hI2 : @Ne Nat DD I := hn (DD, od) (.tail _ (.head _))
        have hwl2 := hW.length
        have hM5 : 2 * (R.toNat - seen.length) + wait.length < 201 := by
          have hM6 : 2 * (R.toNat - seen.length) + wait.length < _ := hM
          omega
        have hrm := hS.room
        (repeat' ((fail_if_success (with_reducible first | (show wpAny _ _ (exec (PySem.Stmt.While _ _ _ _) _) _ _ _) | (show wpAny _ _ (exec (PySem.Stmt.For _ _ _ _ _) _) _ _ _) | (show wpAny _ _ (eval (PySem.Expr.ListComp _ _ _ _) _) _ _ _) | (show wpAny _ _ (pyIter (Value.ref _)) _ _ _) | (show LCg.CompSrc _ _ _ _ _ _ _ _ _ _ _ _ _ _) | (show LCt.CompSrcT _ _ _ _ _ _ _ _ _ _ _ _ _ _ _) | (show LCp.SrcLP _ _ _ _ _ _ _ _ _ _ _ _ _ _ _) | (show wpAny _ _ (exec (PySem.Stmt.Assign _ (PySem.Expr.ListComp _ _ _ _) _) _) _ _ _))); first | (k_unfold; (try dsimp only)) | walk1 | (dsimp only; walk1) | (leave1; (try dsimp only)) | (refine Then.next hQ9 ?_; clear hQ9; (try clear Q9)) | (refine Then.ret hQ9 ?_; clear hQ9; (try clear Q9)) | (refine Then.brk hQ9 ?_; clear hQ9; (try clear Q9)) | (refine Then.cont hQ9 ?_; clear hQ9; (try clear Q9)) | fail "no step"))
        (rename Fr _ _ _ _ => lF8); (rename News _ _ _ _ => lN8)
        have hD2 := hD
        unfold Seen at hD2
        by_cases hm : (here + s).fmod R ∈ seen
        · refine kdg_notin (knd := intKind _ _) lN8 (.tail _ (.tail _ (.head _))) hD2 lo0 (intKind_is _ _ _ _) true (by rw [seen_in]; exact decide_eq_true hm) ?_
          (try dsimp only [Bool.not_true, Bool.not_false])
          (repeat' ((fail_if_success (with_reducible first | (show wpAny _ _ (exec (PySem.Stmt.While _ _ _ _) _) _ _ _) | (show wpAny _ _ (exec (PySem.Stmt.For _ _ _ _ _) _) _ _ _) | (show wpAny _ _ (eval (PySem.Expr.ListComp _ _ _ _) _) _ _ _) | (show wpAny _ _ (pyIter (Value.ref _)) _ _ _) | (show LCg.CompSrc _ _ _ _ _ _ _ _ _ _ _ _ _ _) | (show LCt.CompSrcT _ _ _ _ _ _ _ _ _ _ _ _ _ _ _) | (show LCp.SrcLP _ _ _ _ _ _ _ _ _ _ _ _ _ _ _) | (show wpAny _ _ (exec (PySem.Stmt.Assign _ (PySem.Expr.ListComp _ _ _ _) _) _) _ _ _))); first | (k_unfold; (try dsimp only)) | walk1 | (dsimp only; walk1) | (leave1; (try dsimp only)) | (refine Then.next hQ9 ?_; clear hQ9; (try clear Q9)) | (refine Then.ret hQ9 ?_; clear hQ9; (try clear Q9)) | (refine Then.brk hQ9 ?_; clear hQ9; (try clear Q9)) | (refine Then.cont hQ9 ?_; clear hQ9; (try clear Q9)) | fail "no step"))
          refine' turn_end ⟨seen, wait, wv, nw, od⟩ (by assumption) (by assumption) (fun p hp => hp) hn ?hk ?hr ⟨⟨?_, hW, hD⟩, hM⟩
          case hk => exact Names.nil
          case hr => (first | (((repeat (first | refine Rests.step (by with_unfolding_all rfl) ?_ | refine Rests.stepU (by with_unfolding_all rfl) ?_))); first | exact Rests.of hr9 | exact Rests.of hr8 | exact Rests.last | exact Rests.same | (refine Rests.via hr9 ?_; ((repeat (first | refine Rests.step (by with_unfolding_all rfl) ?_ | refine Rests.stepU (by with_unfolding_all rfl) ?_))); exact Rests.of hr8) | (refine Rests.viaS (by with_unfolding_all rfl) hr9 ?_; ((repeat (first | refine Rests.step (by with_unfolding_all rfl) ?_ | refine Rests.stepU (by with_unfolding_all rfl) ?_))); exact Rests.of hr8)) | (intro z9 hz1 hz2 hz3; (have hz4 := hz3); (try simp only [List.mem_cons, forall_eq_or_imp, List.not_mem_nil, false_implies, implies_true, and_true, List.mem_singleton, forall_eq, ne_eq] at hz1 hz2); (try simp only [List.contains_cons, List.contains_nil, Bool.or_false, Bool.or_eq_false_iff, beq_eq_false_iff_ne, ne_eq] at hz4); simp only [hz1, hz2, hz3, hz4, kstB, if_false, Bool.false_eq_true, List.contains_nil]))
          rw [List.take_add_one, hsi]
          exact seek_old hS hm
        · refine kdg_notin (knd := intKind _ _) lN8 (.tail _ (.tail _ (.head _))) hD2 lo0 (intKind_is _ _ _ _) false (by rw [seen_in]; exact decide_eq_false hm) ?_
          (try dsimp only [Bool.not_true, Bool.not_false])
          (repeat' ((fail_if_success (with_reducible first | (show wpAny _ _ (exec (PySem.Stmt.While _ _ _ _) _) _ _ _) | (show wpAny _ _ (exec (PySem.Stmt.For _ _ _ _ _) _) _ _ _) | (show wpAny _ _ (eval (PySem.Expr.ListComp _ _ _ _) _) _ _ _) | (show wpAny _ _ (pyIter (Value.ref _)) _ _ _) | (show LCg.CompSrc _ _ _ _ _ _ _ _ _ _ _ _ _ _) | (show LCt.CompSrcT _ _ _ _ _ _ _ _ _ _ _ _ _ _ _) | (show LCp.SrcLP _ _ _ _ _ _ _ _ _ _ _ _ _ _ _) | (show wpAny _ _ (exec (PySem.Stmt.Assign _ (PySem.Expr.ListComp _ _ _ _) _) _) _ _ _))); first | (k_unfold; (try dsimp only)) | walk1 | (dsimp only; walk1) | (leave1; (try dsimp only)) | (refine Then.next hQ9 ?_; clear hQ9; (try clear Q9)) | (refine Then.ret hQ9 ?_; clear hQ9; (try clear Q9)) | (refine Then.brk hQ9 ?_; clear hQ9; (try clear Q9)) | (refine Then.cont hQ9 ?_; clear hQ9; (try clear Q9)) | fail "no step"))
          (rename Fr _ _ _ _ => lF7); (rename News _ _ _ _ => lN7)
          k_dflt (refine kda_set (knd := intKind _ _) lF7 lN7 (by k_updF) hD2 (intKind_is _ _ _ _) (by rw [sizeLine_eq, List.length_map]; omega) ?_; intro hX oX FX NX dX)
          have hD3 := seen_put hm dX
          clear dX
          (repeat' ((fail_if_success (with_reducible first | (show wpAny _ _ (exec (PySem.Stmt.While _ _ _ _) _) _ _ _) | (show wpAny _ _ (exec (PySem.Stmt.For _ _ _ _ _) _) _ _ _) | (show wpAny _ _ (eval (PySem.Expr.ListComp _ _ _ _) _) _ _ _) | (show wpAny _ _ (pyIter (Value.ref _)) _ _ _) | (show LCg.CompSrc _ _ _ _ _ _ _ _ _ _ _ _ _ _) | (show LCt.CompSrcT _ _ _ _ _ _ _ _ _ _ _ _ _ _ _) | (show LCp.SrcLP _ _ _ _ _ _ _ _ _ _ _ _ _ _ _) | (show wpAny _ _ (exec (PySem.Stmt.Assign _ (PySem.Expr.ListComp _ _ _ _) _) _) _ _ _))); first | (k_unfold; (try dsimp only)) | walk1 | (dsimp only; walk1) | (leave1; (try dsimp only)) | (refine Then.next hQ9 ?_; clear hQ9; (try clear Q9)) | (refine Then.ret hQ9 ?_; clear hQ9; (try clear Q9)) | (refine Then.brk hQ9 ?_; clear hQ9; (try clear Q9)) | (refine Then.cont hQ9 ?_; clear hQ9; (try clear Q9)) | fail "no step"))
          (rename Fr _ _ _ _ => lF6); (rename News _ _ _ _ => lN6)
          simp only [List.push_toArray] at lN6
          have hlt : (here + s).fmod R < R := (hS.late hsm).1.2
          have hS2 := seek_new hS hsm hm
          have hrm2 := hS2.room
          refine' turn_end ⟨seen ++ [(here + s).fmod R], wait ++ [(here + s).fmod R], wv ++ [_], nw + 1, oX⟩ lF6 lN6 (fun p hp => hp) ?off ?hk ?hr ?hR
          case hk => exact Names.nil
          case hr => (first | (((repeat (first | refine Rests.step (by with_unfolding_all rfl) ?_ | refine Rests.stepU (by with_unfolding_all rfl) ?_))); first | exact Rests.of hr9 | exact Rests.of hr8 | exact Rests.last | exact Rests.same | (refine Rests.via hr9 ?_; ((repeat (first | refine Rests.step (by with_unfolding_all rfl) ?_ | refine Rests.stepU (by with_unfolding_all rfl) ?_))); exact Rests.of hr8) | (refine Rests.viaS (by with_unfolding_all rfl) hr9 ?_; ((repeat (first | refine Rests.step (by with_unfolding_all rfl) ?_ | refine Rests.stepU (by with_unfolding_all rfl) ?_))); exact Rests.of hr8)) | (intro z9 hz1 hz2 hz3; (have hz4 := hz3); (try simp only [List.mem_cons, forall_eq_or_imp, List.not_mem_nil, false_implies, implies_true, and_true, List.mem_singleton, forall_eq, ne_eq] at hz1 hz2); (try simp only [List.contains_cons, List.contains_nil, Bool.or_false, Bool.or_eq_false_iff, beq_eq_false_iff_ne, ne_eq] at hz4); simp only [hz1, hz2, hz3, hz4, kstB, if_false, Bool.false_eq_true, List.contains_nil]))
          case off =>
            intro p hp
            rcases List.mem_cons.mp hp with e | hp
            · subst e; exact hI1
            rcases List.mem_cons.mp hp with e | hp
            · subst e; exact hI2
            exact hn p (.tail _ (.tail _ hp))
          case hR =>
            refine ⟨⟨?_, hW.append (.cons _ _ .nil), hD3⟩, ?_⟩
            · rw [List.take_add_one, hsi]
              exact hS2
            have hM6 : 2 * (R.toNat - seen.length) + wait.length < _ := hM
            refine Nat.lt_of_le_of_lt ?_ hM6
            show 2 * (R.toNat - (seen ++ [(here + s).fmod R]).length) + (wait ++ [(here + s).fmod R]).length ≤ 2 * (R.toNat - seen.length) + wait.length
            rw [List.length_append, List.length_singleton] at hrm2 ⊢
            rw [List.length_append, List.length_singleton]
            exact skR hrm2
      case kd =>
        rintro ⟨seen2, wait2, wv2, nw2, od2⟩ u0 u h tk hr9 ⟨⟨hS, hW, hD⟩, hM⟩ F1 N1
        dsimp only at hS hW hD F1 N1
        rw [show ns.take vs.toArray.size = ns from List.take_of_length_le (by simp [hi.length])] at hS
        (repeat' ((fail_if_success (with_reducible first | (show wpAny _ _ (exec (PySem.Stmt.While _ _ _ _) _) _ _ _) | (show wpAny _ _ (exec (PySem.Stmt.For _ _ _ _ _) _) _ _ _) | (show wpAny _ _ (eval (PySem.Expr.ListComp _ _ _ _) _) _ _ _) | (show wpAny _ _ (pyIter (Value.ref _)) _ _ _) | (show LCg.CompSrc _ _ _ _ _ _ _ _ _ _ _ _ _ _) | (show LCt.CompSrcT _ _ _ _ _ _ _ _ _ _ _ _ _ _ _) | (show LCp.SrcLP _ _ _ _ _ _ _ _ _ _ _ _ _ _ _) | (show wpAny _ _ (exec (PySem.Stmt.Assign _ (PySem.Expr.ListComp _ _ _ _) _) _) _ _ _))); first | (k_unfold; (try dsimp only)) | walk1 | (dsimp only; walk1) | (leave1; (try dsimp only)) | (refine Then.next hQ9 ?_; clear hQ9; (try clear Q9)) | (refine Then.ret hQ9 ?_; clear hQ9; (try clear Q9)) | (refine Then.brk hQ9 ?_; clear hQ9; (try clear Q9)) | (refine Then.cont hQ9 ?_; clear hQ9; (try clear Q9)) | fail "no step"))
        refine' while_end ⟨seen2, wait2, wv2, nw2, od2⟩ (by assumption) (by assumption) (fun p hp => hp) ?hk ?hr ⟨⟨seek_done hS, hW, hD⟩, ?_⟩ hM
        case hk => exact Names.nil
        case hr => (first | (((repeat (first | refine RestsW.step (by with_unfolding_all rfl) ?_ | refine RestsW.stepU (by with_unfolding_all rfl) ?_))); first | exact RestsW.of hr9 | exact RestsW.of hr8 | exact RestsW.last | exact RestsW.same | (refine RestsW.via hr9 ?_; ((repeat (first | refine RestsW.step (by with_unfolding_all rfl) ?_ | refine RestsW.stepU (by with_unfolding_all rfl) ?_))); exact RestsW.of hr8) | (refine RestsW.viaS (by with_unfolding_all rfl) hr9 ?_; ((repeat (first | refine RestsW.step (by with_unfolding_all rfl) ?_ | refine RestsW.stepU (by with_unfolding_all rfl) ?_))); exact RestsW.of hr8)) | (intro z9 hz2 hz3; (have hz1 := True.intro); (have hz4 := hz3); (try simp only [List.mem_cons, forall_eq_or_imp, List.not_mem_nil, false_implies, implies_true, and_true, List.mem_singleton, forall_eq, ne_eq] at hz1 hz2); (try simp only [List.contains_cons, List.contains_nil, Bool.or_false, Bool.or_eq_false_iff, beq_eq_false_iff_ne, ne_eq] at hz4); simp only [hz1, hz2, hz3, hz4, kstB, if_false, Bool.false_eq_true, List.contains_nil]))
        have hM6 : seekM R ⟨seen2, wait2, wv2, nw2, od2⟩ < 2 * (R.toNat - seen.length) + wait.length := hM
        omega
structure RingS where
  o : Obj
  spot : Int
  sv : List Value
  ss : List Int
  nn : Nat
structure RingR (w : World) (CL : Addr) (spot0 : Int) (i : Nat) (c : RingS) : Prop where
  tape : Tape w c.o CL c.spot
  lo : spot0 ≤ c.spot
  hi : c.spot ≤ spot0 + (i : Int)
  iv : IntsAre c.sv c.ss
  len : c.ss.length = i
theorem RingR.next {w : World} {CL : Addr} {spot0 : Int} {i : Nat} {o o' : Obj} {sp : Int} {sv : List Value} {ss : List Int} {nn : Nat} {x : Int} {t : Tok} (h : RingR w CL spot0 i ⟨o, sp, sv, ss, nn⟩) (hT : Tape w o' CL (sp + 1)) :
    RingR w CL spot0 (i + 1) ⟨o', sp + 1, sv ++ [.int x t], ss ++ [x], nn + 1⟩ := by
  have h1 : spot0 ≤ sp := h.lo
  have h2 : sp ≤ spot0 + (i : Int) := h.hi
  have h3 : ss.length = i := h.len
  exact ⟨hT, by show spot0 ≤ sp + 1; (first | lia | omega), by show sp + 1 ≤ spot0 + ((i + 1 : Nat) : Int); (first | lia | omega), IntsAre.append h.iv (.cons _ _ .nil), by simp [h3]⟩
theorem ring_tell (w : World) (great : Int) (tg : Tok) (TP CL : Addr) (o : Obj) (spot : Int) (vs : List Value) (ns : List Int) (n : Nat) (news : List (Addr × Obj)) (ho : Tape w o CL spot) (hl : (CL, listOf vs.toArray n) ∈ news) (hi : IntsAre vs ns) (hlen : ns.length ≤ 100) (hoff : ∀ p ∈ news, p.1 ≠ TP) (hCL : @Ne Nat CL TP) (h0 : 0 ≤ spot ∧ spot < 1000) :
    Tell w 25 191 [.ref TP, .int great tg] ((TP, o) :: news) (fun r nx => ∃ (o' : Obj) (spot' : Int), r = .bool true ∧ nx = (TP, o') :: news ∧ Tape w o' CL spot' ∧ spot ≤ spot' ∧ spot' ≤ spot + 6) := by
  w_top off
  unfold Tell
  k_fill
  intro mean mg mb dp un gd cn cs ad ccd cl outer A₀ base h₀ L m s Q E B F X N T hk hd hu hret
  k_with_none
  k_with "lt" => ((with_reducible rename ∀ p ∈ (_ : List (Addr × Obj)), p.1 < (_ : Addr) => hlt); replace hlt := allLt_of hlt; (dsimp only [AllLt] at hlt); revert hlt; intros)
  k_with "room" => (k_dflt (first | exact rm2 (by assumption) (by rfl) | exact rm1 (by assumption) (by rfl) | exact rm3 (by assumption) (by rfl) | exact rm0 (by assumption) | fail "no"))
  k_with "arm" => (first | assumption | (with_reducible first | exact arm0 (by assumption) | exact arm1 (by assumption) | exact arm2 (by assumption) | exact arm3 (by assumption) | exact arm4 (by assumption) | exact arm5 (by assumption) | exact arm6 (by assumption) | exact arm7 (by assumption) | exact arm8 (by assumption) | exact arm9 (by assumption) | exact arm10 (by assumption) | exact arm11 (by assumption) | exact arm12 (by assumption) | exact arm13 (by assumption) | exact And.left (arm0 (by assumption)) | exact And.left (And.right (arm0 (by assumption))) | exact And.right (And.right (arm0 (by assumption))) | exact And.left (arm1 (by assumption)) | exact And.left (And.right (arm1 (by assumption))) | exact And.right (And.right (arm1 (by assumption))) | exact And.left (arm2 (by assumption)) | exact And.left (And.right (arm2 (by assumption))) | exact And.right (And.right (arm2 (by assumption))) | exact And.left (arm3 (by assumption)) | exact And.left (And.right (arm3 (by assumption))) | exact And.right (And.right (arm3 (by assumption))) | exact And.left (arm4 (by assumption)) | exact And.left (And.right (arm4 (by assumption))) | exact And.right (And.right (arm4 (by assumption))) | exact And.left (arm5 (by assumption)) | exact And.left (And.right (arm5 (by assumption))) | exact And.right (And.right (arm5 (by assumption))) | exact And.left (arm6 (by assumption)) | exact And.left (And.right (arm6 (by assumption))) | exact And.right (And.right (arm6 (by assumption))) | exact And.left (arm7 (by assumption)) | exact And.left (And.right (arm7 (by assumption))) | exact And.right (And.right (arm7 (by assumption))) | exact Nat.lt_add_one _ | fail "no") | (with_reducible refine Nat.lt_add_right _ ?_; mod_arm) | fail "no")
  k_with "ne" => (k_dflt (first | assumption | exact Ne.symm (by assumption) | (refine neN ?_; (try dsimp only); first | assumption | exact Ne.symm (by assumption) | exact Nat.ne_of_lt (by mod_arm) | exact Nat.ne_of_gt (by mod_arm) | mod_arm | exact Ne.symm (by mod_arm) | fail "no") | fail "no"))
  k_with "om" => (first | (with_reducible first | assumption | exact Ne.symm (by assumption) | exact bdA (by assumption) | exact bdB (by assumption) (by k_dflt rfl) | exact bdC (by assumption) | exact bdD (by assumption) (by k_dflt rfl) | exact bdE (by assumption) | exact bdF (by assumption) (by k_dflt rfl) | exact bdG (by assumption) (by k_dflt rfl) | exact bdH (by assumption) (by k_dflt rfl) | exact bdI (by assumption) | exact bdJ (by assumption) (by k_dflt rfl) | exact bdK (by assumption) | exact bdO (by assumption) | exact bdP (by assumption) (by k_dflt rfl) | exact bdO0 (by assumption) | exact bdP0 (by assumption) (by k_dflt rfl) | exact bdV (by assumption) | exact bdS0 (by assumption) | exact bdS1 (by assumption) | exact bdS2 (by assumption) | exact bdS3 (by assumption) | exact bdQ (by assumption) (by assumption) (by assumption) | exact bdQ2 (by assumption) (by assumption) (by assumption) (by k_dflt rfl) | exact bdQ3 (by assumption) (by assumption) (by assumption) (by assumption) (by assumption) | exact bdQ4 (by assumption) (by assumption) (by assumption) | exact bdQ5 (by assumption) (by assumption) (by assumption) (by k_dflt rfl) | exact bdNA (by assumption) | exact bdW (by assumption) (by k_dflt rfl) | exact bdX2 (by assumption) (by k_dflt rfl) | exact bdX3 (by assumption) (by k_dflt rfl) | exact bdX4 (by assumption) (by k_dflt rfl) | exact bdX5 (by assumption) (by k_dflt rfl) | exact bdT0 (by assumption) | exact bdT1 (by assumption) | exact bdR2 | exact bdR1 (by assumption) (by k_dflt rfl) | exact Nat.ne_of_lt (by mod_arm) | exact Nat.ne_of_gt (by mod_arm) | exact Ne.symm (by mod_arm) | mod_arm | fail "no") | ((with_reducible refine And.intro ?_ ?_) <;> omega) | ((with_reducible (first | (rename @Ne _ _ _ => hz9; clear hz9) | (rename And (@Ne _ _ _) _ => hz9; clear hz9) | (rename And (And (@Ne _ _ _) _) _ => hz9; clear hz9)); (repeat (with_reducible first | (rename @Ne _ _ _ => hz9; clear hz9) | (rename And (@Ne _ _ _) _ => hz9; clear hz9) | (rename And (And (@Ne _ _ _) _) _ => hz9; clear hz9))); omega)) | fail "no")
  k_with "eval Call" => (refine Call_ ?_)
  k_with "eval Name" => (k_here; k_dflt (refine' nameX_L ?F ?v ?_ ?a ?b; (case F => k_asm); (case a => rfl); (case b => rfl); (case v => first | rfl | exact hr9 _ rfl | exact hr8 _ rfl | exact (hr9 _ rfl).trans (hr8 _ rfl)); k_whole))
  k_with "storeName" => (k_here; dsimp only)
  k_with "newTuple" => (k_here; dsimp only)
  k_with "newList" => (k_here; dsimp only)
  k_with "LeaveK" => (k_here; dsimp only)
  k_with "ite" => (k_here; dsimp only)
  k_with "execs cons" => (k_here; first | k_gentoks | ((try dsimp only); refine execs_cut ?_; intro Q9 hQ9))
  k_with "call ref" => (first | (k_here; k_dflt (refine' useI (gcd_tell _ _ _ _ _ _) ?q1 ?q2 ?q3 ?q4 ?q5 ?q6 ?q7 ?q8 ?_; (case q1 | q2 | q3 | q4 | q5 => k_asm); (case q6 => first | exact rfl | assumption); (case q7 => ktr_room); (case q8 => ktr_units); intro t9 h9 tk9 F9 N9; revert t9 h9 tk9 F9 N9; intros; ((try dsimp only); (try k_sweep)))) | fail "no")
  k_with "call ref" => (first | (k_here; k_dflt (refine' useI (gcd_all_tell _ _ _ _ _ _ ?hl ?hi) ?q1 ?q2 ?q3 ?q4 ?q5 ?q6 ?q7 ?q8 ?_; (case q1 | q2 | q3 | q4 | q5 => k_asm); (case q6 => first | exact rfl | assumption); (case q7 => ktr_room); (case q8 => ktr_units); (case hl => k_mem); (case hi => l_ints); intro t9 h9 tk9 F9 N9; revert t9 h9 tk9 F9 N9; intros; ((try dsimp only); (try k_sweep)))) | fail "no")
  k_with "call ref" => (first | (k_here; k_dflt (refine' useI (lcm_tell _ _ _ _ _ _ ?ha ?hb) ?q1 ?q2 ?q3 ?q4 ?q5 ?q6 ?q7 ?q8 ?_; (case q1 | q2 | q3 | q4 | q5 => k_asm); (case q6 => first | exact rfl | assumption); (case q7 => ktr_room); (case q8 => ktr_units); (case ha | hb => omega); intro t9 h9 tk9 F9 N9; (try simp only [Int.zero_sub, Int.neg_lcm, Int.lcm_neg]); revert t9 h9 tk9 F9 N9; intros; ((try dsimp only); (try k_sweep)))) | fail "no")
  k_with "call ref" => (first | (k_here; k_dflt (refine' useT (ratio_tell _ _ _ _ _ _ ?ha ?hb) ?q1 ?q2 ?q3 ?q4 ?q5 ?q6 ?q7 ?q8 ?_; (case q1 | q2 | q3 | q4 | q5 => k_asm); (case q6 => first | exact rfl | assumption); (case q7 => ktr_room); (case q8 => ktr_units); (case ha | hb => omega); intro D9 p9 q9 t9 u9 h9 tk9 hP9 F9 N9 l9; (have hq9 := hP9.pos); (have hb9 := hP9.dvd); (have hc9 := hP9.bd (by omega)); (try dsimp only [AllLt] at l9); (try revert hc9); (try revert hb9); (try revert hq9); revert D9 p9 q9 t9 u9 h9 tk9 hP9 F9 N9 l9; intros; ((try dsimp only); (try k_sweep)))) | fail "no")
  k_with "call ref" => (first | (k_here; k_dflt (refine' useTE (whole_tell _ _ _ _) ?q1 ?q2 ?q3 ?q4 ?q5 ?q6 ?q7 ?q8 ?_; (case q1 | q2 | q3 | q4 | q5 => k_asm); (case q6 => first | exact rfl | assumption); (case q7 => ktr_room); (case q8 => ktr_units); intro D9 t9 u9 h9 tk9 F9 N9 l9; (try dsimp only [AllLt] at l9); revert D9 t9 u9 h9 tk9 F9 N9 l9; intros; ((try dsimp only); (try k_sweep)))) | fail "no")
  k_with "call ref" => (first | (k_here; k_dflt (refine' useI (floor_tell _ _ _ _ _ _ _ ?hA ?ha ?hb) ?q1 ?q2 ?q3 ?q4 ?q5 ?q6 ?q7 ?q8 ?_; (case q1 | q2 | q3 | q4 | q5 => k_asm); (case q6 => first | exact rfl | assumption); (case q7 => ktr_room); (case q8 => ktr_units); (case hA => k_mem); (case ha | hb => omega); intro t9 h9 tk9 F9 N9; revert t9 h9 tk9 F9 N9; intros; ((try dsimp only); (try k_sweep)))) | fail "no")
  k_with "call ref" => (first | (k_here; k_dflt (refine' useI (ceil_tell _ _ _ _ _ _ _ ?hA ?ha ?hb) ?q1 ?q2 ?q3 ?q4 ?q5 ?q6 ?q7 ?q8 ?_; (case q1 | q2 | q3 | q4 | q5 => k_asm); (case q6 => first | exact rfl | assumption); (case q7 => ktr_room); (case q8 => ktr_units); (case hA => k_mem); (case ha | hb => omega); intro t9 h9 tk9 F9 N9; revert t9 h9 tk9 F9 N9; intros; ((try dsimp only); (try k_sweep)))) | fail "no")
  k_with "call ref" => (first | (k_here; k_dflt (refine' useB (iswhole_tell _ _ _ _ _ _ _ ?hA) ?q1 ?q2 ?q3 ?q4 ?q5 ?q6 ?q7 ?q8 ?_; (case q1 | q2 | q3 | q4 | q5 => k_asm); (case q6 => first | exact rfl | assumption); (case q7 => ktr_room); (case q8 => ktr_units); (case hA => k_mem); intro h9 tk9 F9 N9; revert h9 tk9 F9 N9; intros; ((try dsimp only); (try k_sweep)))) | fail "no")
  k_with "call ref" => (first | (k_here; k_dflt (refine' useI (compare_tell _ _ _ _ _ _ _ _ _ _ _ _ ?hA ?hC ?ha ?hb) ?q1 ?q2 ?q3 ?q4 ?q5 ?q6 ?q7 ?q8 ?_; (case q1 | q2 | q3 | q4 | q5 => k_asm); (case q6 => first | exact rfl | assumption); (case q7 => ktr_room); (case q8 => ktr_units); (case hA | hC => k_mem); (case ha | hb => omega); intro t9 h9 tk9 F9 N9; revert t9 h9 tk9 F9 N9; intros; ((try dsimp only); (try k_sweep)))) | fail "no")
  k_with "call ref" => (first | (k_here; k_dflt (refine' useTE (neg_tell _ _ _ _ _ _ _ ?hA) ?q1 ?q2 ?q3 ?q4 ?q5 ?q6 ?q7 ?q8 ?_; (case q1 | q2 | q3 | q4 | q5 => k_asm); (case q6 => first | exact rfl | assumption); (case q7 => ktr_room); (case q8 => ktr_units); (case hA => k_mem); intro D9 t9 u9 h9 tk9 F9 N9 l9; (try dsimp only [AllLt] at l9); revert D9 t9 u9 h9 tk9 F9 N9 l9; intros; ((try dsimp only); (try k_sweep)))) | fail "no")
  k_with "call ref" => (first | (k_here; k_dflt (refine' useT (add_tell _ _ _ _ _ _ _ _ _ _ _ _ ?hA ?hC ?ha ?hb) ?q1 ?q2 ?q3 ?q4 ?q5 ?q6 ?q7 ?q8 ?_; (case q1 | q2 | q3 | q4 | q5 => k_asm); (case q6 => first | exact rfl | assumption); (case q7 => ktr_room); (case q8 => ktr_units); (case hA | hC => k_mem); (case ha | hb => omega); intro D9 p9 q9 t9 u9 h9 tk9 hP9 F9 N9 l9; (have hq9 := hP9.pos); (have hb9 := hP9.dvd); (try (have hc9 := hP9.bd (by omega))); (try dsimp only [AllLt] at l9); (try revert hc9); (try revert hb9); (try revert hq9); revert D9 p9 q9 t9 u9 h9 tk9 hP9 F9 N9 l9; intros; ((try dsimp only); (try k_sweep)))) | fail "no")
  k_with "call ref" => (first | (k_here; k_dflt (refine' useT (sub_tell _ _ _ _ _ _ _ _ _ _ _ _ ?hA ?hC ?ha ?hb) ?q1 ?q2 ?q3 ?q4 ?q5 ?q6 ?q7 ?q8 ?_; (case q1 | q2 | q3 | q4 | q5 => k_asm); (case q6 => first | exact rfl | assumption); (case q7 => ktr_room); (case q8 => ktr_units); (case hA | hC => k_mem); (case ha | hb => omega); intro D9 p9 q9 t9 u9 h9 tk9 hP9 F9 N9 l9; (have hq9 := hP9.pos); (have hb9 := hP9.dvd); (try (have hc9 := hP9.bd (by omega))); (try dsimp only [AllLt] at l9); (try revert hc9); (try revert hb9); (try revert hq9); revert D9 p9 q9 t9 u9 h9 tk9 hP9 F9 N9 l9; intros; ((try dsimp only); (try k_sweep)))) | fail "no")
  k_with "all" => (first | (first | assumption | exact ne_of_allLt (by assumption) (by first | exact Nat.le_refl _ | exact Nat.le_succ _ | exact bdU2 | exact bdU | omega)) | fail "no")
  k_with "call ref" => (first | (k_here; k_dflt (refine' useN ?ho ?hi ?hlen ?h0 ?hm ?q1 ?q2 ?q3 ?q4 ?q5 ?q6 ?q7 ?q8 ?U ?hne ?hl ?_; (case q1 | q2 | q3 | q4 | q5 => k_asm); (case q6 => first | exact rfl | assumption); (case q7 => ktr_room); (case q8 => ktr_units); (case U => k_updF); (case ho => assumption); (case hne => k_ne); (case hl => k_mem); (case hi => assumption); (case hlen => assumption); (case h0 => omega); (case hm => omega); intro v9 t9 o9 h9 tk9 hv9 hT9 F9 N9; revert v9 t9 o9 h9 tk9 hv9 hT9 F9 N9; intros; ((try dsimp only); (try k_sweep)))) | fail "no")
  k_with "call ref" => (first | (k_here; k_dflt (refine' useI (bottom_tell _ _ _ _ _ _ ?hl ?hp ?hq) ?q1 ?q2 ?q3 ?q4 ?q5 ?q6 ?q7 ?q8 ?_; (case q1 | q2 | q3 | q4 | q5 => k_asm); (case q6 => first | exact rfl | assumption); (case q7 => ktr_room); (case q8 => ktr_units); (case hl => k_mem); (case hp => first | assumption | first | exact PairsAre.nil | (refine' PairsAre.cons ?hmm PairsAre.nil; (case hmm => k_mem))); (case hq => first | assumption | (intro r9 hr9; (simp only [List.mem_cons, List.not_mem_nil, or_false] at hr9); subst hr9; dsimp only; omega)); intro t9 h9 tk9 F9 N9; revert t9 h9 tk9 F9 N9; intros; ((try dsimp only); (try k_sweep)))) | fail "no")
  k_with "call ref" => (first | (k_here; k_dflt (refine' useB (between_tell _ _ _ _ _ _ _ _ _ _ _ _ _ _ ?hA ?hC ?ha ?hb) ?q1 ?q2 ?q3 ?q4 ?q5 ?q6 ?q7 ?q8 ?_; (case q1 | q2 | q3 | q4 | q5 => k_asm); (case q6 => first | exact rfl | assumption); (case q7 => ktr_room); (case q8 => ktr_units); (case hA | hC => k_mem); (case ha | hb => omega); intro h9 tk9 F9 N9; revert h9 tk9 F9 N9; intros; ((try dsimp only); (try k_sweep)))) | fail "no")
  k_with "call ref" => (first | (k_here; k_dflt (refine' useP (reached_tell _ _ _ _ _ _ _ _ ?hl ?hi ?hR) ?q1 ?q2 ?q3 ?q4 ?q5 ?q6 ?q7 ?q8 ?_; (case q1 | q2 | q3 | q4 | q5 => k_asm); (case q6 => first | exact rfl | assumption); (case q7 => ktr_room); (case q8 => ktr_units); (case hl => k_mem); (case hi => first | assumption | l_ints); (case hR => omega); intro v9 t9 h9 tk9 hv9 F9 N9; revert v9 t9 h9 tk9 hv9 F9 N9; intros; ((try dsimp only); (try k_sweep)))) | fail "no")
  replace N : News h₀ L s.heap ((TP, o) :: (CL, listOf vs.toArray n) :: news) := fun p hp => by
    rcases List.mem_cons.mp hp with h | h
    · exact N p (h ▸ .head _)
    · rcases List.mem_cons.mp h with h | h
      · exact N p (.tail _ (h ▸ hl))
      · exact N p (.tail _ h)
  refine wpAny_call ?_
  k_dflt (refine' code_defC ?k1 ?k2 ?k3 ?k4 ?k5 ?kA ?kF ?kK ?k6 ?k7 ?k8 ?k9 ?kB ?kD ?_ ?c2 ?c3 ?c4; (case kA => exact rfl); (case kF => exact rfl); (case kK => first | exact rfl | assumption); (case k1 => k_asm); (case k2 => k_asm); (case k3 => k_asm); (case k4 => k_asm); (case k5 => k_asm); (case k6 => k_is); (case k7 => k_is); (case k8 => ktr_room); (case k9 => exact BindsTo.of_eq rfl); (case kB => exact rfl); (case kD => decide +kernel); (case c2 => exact rfl); (case c3 => exact rfl); (case c4 => exact rfl); k_whole; intro g' L' h' tk' cells' FG' F' N' Y' B' X' T' l1; (try (replace l1 := allLt_of l1; dsimp only [AllLt] at l1)); k_cells Y'; (try simp only [List.cons_append, List.nil_append] at N'); (try dsimp only); (try k_fold))
  have hAL := l1.2.2
  (rename Fr _ _ _ _ => F0); replace F0 := frAs (fun y => if y = Str.ofString "great" then some (Value.int great tg) else if y = Str.ofString "tape" then some (Value.ref TP) else none) F0 (by with_unfolding_all exact Eq.refl (fun y => if y = Str.ofString "great" then some (Value.int great tg) else if y = Str.ofString "tape" then some (Value.ref TP) else none))
  (refine letA ?_); intro A9
  (repeat' ((fail_if_success (with_reducible first | (show wpAny _ _ (exec (PySem.Stmt.While _ _ _ _) _) _ _ _) | (show wpAny _ _ (exec (PySem.Stmt.For _ _ _ _ _) _) _ _ _) | (show wpAny _ _ (eval (PySem.Expr.ListComp _ _ _ _) _) _ _ _) | (show wpAny _ _ (pyIter (Value.ref _)) _ _ _) | (show LCg.CompSrc _ _ _ _ _ _ _ _ _ _ _ _ _ _) | (show LCt.CompSrcT _ _ _ _ _ _ _ _ _ _ _ _ _ _ _) | (show LCp.SrcLP _ _ _ _ _ _ _ _ _ _ _ _ _ _ _) | (show wpAny _ _ (exec (PySem.Stmt.Assign _ (PySem.Expr.ListComp _ _ _ _) _) _) _ _ _))); first | (k_unfold; (try dsimp only)) | walk1 | (dsimp only; walk1) | (leave1; (try dsimp only)) | (refine Then.next hQ9 ?_; clear hQ9; (try clear Q9)) | (refine Then.ret hQ9 ?_; clear hQ9; (try clear Q9)) | (refine Then.brk hQ9 ?_; clear hQ9; (try clear Q9)) | (refine Then.cont hQ9 ?_; clear hQ9; (try clear Q9)) | fail "no step"))
  (rename Fr _ _ _ _ => lF)
  (with_unfolding_all refine' For_invVF lF ?k1 ?k2 ?_; (case k1 => exact rfl); (case k2 => exact rfl))
  repeat' ((fail_if_success (with_reducible first | (show wpAny _ _ (call (Value.type "range") _ _) _ _ _) | (show wpAny _ _ (exec (PySem.Stmt.While _ _ _ _) _) _ _ _) | (show wpAny _ _ (exec (PySem.Stmt.For _ _ _ _ _) _) _ _ _) | (show wpAny _ _ (eval (PySem.Expr.ListComp _ _ _ _) _) _ _ _) | (show wpAny _ _ (pyIter (Value.ref _)) _ _ _) | (show LCg.CompSrc _ _ _ _ _ _ _ _ _ _ _ _ _ _) | (show LCt.CompSrcT _ _ _ _ _ _ _ _ _ _ _ _ _ _ _) | (show LCp.SrcLP _ _ _ _ _ _ _ _ _ _ _ _ _ _ _) | (show wpAny _ _ (exec (PySem.Stmt.Assign _ (PySem.Expr.ListComp _ _ _ _) _) _) _ _ _))); first | (k_unfold; (try dsimp only)) | walk1 | (dsimp only; walk1) | (leave1; (try dsimp only)) | (refine Then.next hQ9 ?_; clear hQ9; (try clear Q9)) | (refine Then.ret hQ9 ?_; clear hQ9; (try clear Q9)) | (refine Then.brk hQ9 ?_; clear hQ9; (try clear Q9)) | (refine Then.cont hQ9 ?_; clear hQ9; (try clear Q9)) | fail "no step")
  (rename Fr _ _ _ _ => lF); (rename News _ _ _ _ => lN)
  refine range1_rows lF lN ?_
  intro hR9 tkR9 tR9 uR9 vR9 R9 lF9 lN9 kR9
  (try dsimp only)
  rename_i oc dc v1 t1 o1 h1 tk1 hv1 hT1 S hS1 ltS D2 hS2 ltD h3 h4 h5 v2 t2 o2 h6 tk2 hv2 hT2
  with_unfolding_all refine' iter_rngS (σ := RingS) (fun c => (S, listOf c.sv.toArray c.nn) :: (L' + 1, oc) :: (TP, c.o) :: (CL, listOf vs.toArray n) :: news) (fun c => []) [Str.ofString "step"] (fun i c => RingR w CL (spot + 2) i c) ⟨o2, spot + 2, [], [], 0⟩ rfl R9 (small_one (by omega) (by omega) (by omega) (by omega)) (rangeSize_nat _ _) lF9 (News.tl lN9) ?kk ?kr ?kt ?kd
  case kk => exact Names.nil
  case kr => exact ⟨by rw [show spot + 2 = spot + 1 + 1 from by omega]; exact hT2, Int.le_refl _, by simp, .nil, rfl⟩
  case kt =>
    rintro I i t ⟨o3, sp, sv, ss, nn⟩ u h tk oI hr8 hi hR F1 N1 hn
    have hT3 := hR.tape
    have hlo := hR.lo
    have hhi := hR.hi
    have hiv := hR.iv
    have hlen2 := hR.len
    have hlen3 := hiv.length
    dsimp only at F1 N1 hn hT3 hlo hhi hiv hlen2 hlen3
    have hi3 : i ≤ 4 := by omega
    have hsl : ss.length ≤ 4 := by omega
    have hsl2 : sv.length ≤ 4 := by omega
    have hs2 : 0 ≤ sp ∧ sp < 2000 := ⟨by omega, by omega⟩
    have hI1 : @Ne Nat S I := hn (S, listOf sv.toArray nn) (.head _)
    have hI2 : @Ne Nat (L' + 1) I := hn (_, oc) (.tail _ (.head _))
    have hI3 : @Ne Nat TP I := hn (TP, o3) (.tail _ (.tail _ (.head _)))
    have hI4 : @Ne Nat CL I := hn (CL, listOf vs.toArray n) (.tail _ (.tail _ (.tail _ (.head _))))
    (repeat' ((fail_if_success (with_reducible first | (show wpAny _ _ (exec (PySem.Stmt.While _ _ _ _) _) _ _ _) | (show wpAny _ _ (exec (PySem.Stmt.For _ _ _ _ _) _) _ _ _) | (show wpAny _ _ (eval (PySem.Expr.ListComp _ _ _ _) _) _ _ _) | (show wpAny _ _ (pyIter (Value.ref _)) _ _ _) | (show LCg.CompSrc _ _ _ _ _ _ _ _ _ _ _ _ _ _) | (show LCt.CompSrcT _ _ _ _ _ _ _ _ _ _ _ _ _ _ _) | (show LCp.SrcLP _ _ _ _ _ _ _ _ _ _ _ _ _ _ _) | (show wpAny _ _ (exec (PySem.Stmt.Assign _ (PySem.Expr.ListComp _ _ _ _) _) _) _ _ _))); first | (k_unfold; (try dsimp only)) | walk1 | (dsimp only; walk1) | (leave1; (try dsimp only)) | (refine Then.next hQ9 ?_; clear hQ9; (try clear Q9)) | (refine Then.ret hQ9 ?_; clear hQ9; (try clear Q9)) | (refine Then.brk hQ9 ?_; clear hQ9; (try clear Q9)) | (refine Then.cont hQ9 ?_; clear hQ9; (try clear Q9)) | fail "no step"))
    · rename_i v3 t3 o4 h7 tk3 hv3 hT4 h8 tkS ha h9 F8 N8
      simp only [List.push_toArray] at N8
      obtain ⟨tx, N9⟩ : ∃ tx, News g' L' h9 ((I, oI) :: (S, listOf (sv ++ [Value.int (v3 - 60 + great) tx]).toArray (nn + 1)) :: (L' + 1, oc) :: (TP, o4) :: (CL, listOf vs.toArray n) :: news) := ⟨_, N8⟩
      refine' turn_end ⟨o4, sp + 1, sv ++ [.int (v3 - 60 + great) tx], ss ++ [v3 - 60 + great], nn + 1⟩ F8 N9 (fun p hp => hp) ?off ?hk ?hr (RingR.next (x := v3 - 60 + great) (t := tx) hR hT4)
      case hk => exact Names.nil
      case hr => (first | (((repeat (first | refine Rests.step (by with_unfolding_all rfl) ?_ | refine Rests.stepU (by with_unfolding_all rfl) ?_))); first | exact Rests.of hr9 | exact Rests.of hr8 | exact Rests.last | exact Rests.same | (refine Rests.via hr9 ?_; ((repeat (first | refine Rests.step (by with_unfolding_all rfl) ?_ | refine Rests.stepU (by with_unfolding_all rfl) ?_))); exact Rests.of hr8) | (refine Rests.viaS (by with_unfolding_all rfl) hr9 ?_; ((repeat (first | refine Rests.step (by with_unfolding_all rfl) ?_ | refine Rests.stepU (by with_unfolding_all rfl) ?_))); exact Rests.of hr8)) | (intro z9 hz1 hz2 hz3; (have hz4 := hz3); (try simp only [List.mem_cons, forall_eq_or_imp, List.not_mem_nil, false_implies, implies_true, and_true, List.mem_singleton, forall_eq, ne_eq] at hz1 hz2); (try simp only [List.contains_cons, List.contains_nil, Bool.or_false, Bool.or_eq_false_iff, beq_eq_false_iff_ne, ne_eq] at hz4); simp only [hz1, hz2, hz3, hz4, kstB, if_false, Bool.false_eq_true, List.contains_nil]))
      case off =>
        dsimp only
        repeat (refine offCons (by first | exact hI1 | exact hI2 | exact hI3 | exact hI4) ?_)
        exact fun p hp => hn p (by repeat (first | exact hp | refine List.Mem.tail _ ?_))
    · rename_i v3 t3 o4 h7 tk3 hv3 hT4 h8 tkS ha h9 F8 N8
      simp only [List.push_toArray] at N8
      obtain ⟨tx, N9⟩ : ∃ tx, News g' L' h9 ((I, oI) :: (S, listOf (sv ++ [Value.int (v3 - 60) tx]).toArray (nn + 1)) :: (L' + 1, oc) :: (TP, o4) :: (CL, listOf vs.toArray n) :: news) := ⟨_, N8⟩
      refine' turn_end ⟨o4, sp + 1, sv ++ [.int (v3 - 60) tx], ss ++ [v3 - 60], nn + 1⟩ F8 N9 (fun p hp => hp) ?off ?hk ?hr (RingR.next (x := v3 - 60) (t := tx) hR hT4)
      case hk => exact Names.nil
      case hr => (first | (((repeat (first | refine Rests.step (by with_unfolding_all rfl) ?_ | refine Rests.stepU (by with_unfolding_all rfl) ?_))); first | exact Rests.of hr9 | exact Rests.of hr8 | exact Rests.last | exact Rests.same | (refine Rests.via hr9 ?_; ((repeat (first | refine Rests.step (by with_unfolding_all rfl) ?_ | refine Rests.stepU (by with_unfolding_all rfl) ?_))); exact Rests.of hr8) | (refine Rests.viaS (by with_unfolding_all rfl) hr9 ?_; ((repeat (first | refine Rests.step (by with_unfolding_all rfl) ?_ | refine Rests.stepU (by with_unfolding_all rfl) ?_))); exact Rests.of hr8)) | (intro z9 hz1 hz2 hz3; (have hz4 := hz3); (try simp only [List.mem_cons, forall_eq_or_imp, List.not_mem_nil, false_implies, implies_true, and_true, List.mem_singleton, forall_eq, ne_eq] at hz1 hz2); (try simp only [List.contains_cons, List.contains_nil, Bool.or_false, Bool.or_eq_false_iff, beq_eq_false_iff_ne, ne_eq] at hz4); simp only [hz1, hz2, hz3, hz4, kstB, if_false, Bool.false_eq_true, List.contains_nil]))
      case off =>
        dsimp only
        repeat (refine offCons (by first | exact hI1 | exact hI2 | exact hI3 | exact hI4) ?_)
        exact fun p hp => hn p (by repeat (first | exact hp | refine List.Mem.tail _ ?_))
  case kd =>
    rintro ⟨o3, sp, sv, ss, nn⟩ u0 u h tk hr8 hR F1 N1
    have hT3 := hR.tape
    have hlo := hR.lo
    have hhi := hR.hi
    have hiv := hR.iv
    have hlen2 := hR.len
    have hlen3 := hiv.length
    dsimp only at F1 N1 hT3 hlo hhi hiv hlen2 hlen3
    have hss : ss.length ≤ 4 := by omega
    have hsv : sv.length ≤ 4 := by omega
    have hsp : sp ≤ spot + 6 := by omega
    have hsq : spot ≤ sp := by omega
    clear hlen2 hhi hlo
    replace F1 : Fr g' L' h _ := F1
    replace N1 : News g' L' h _ := N1
    obtain ⟨nw, hTN, hsub, hAN, N1⟩ := hide2A N1 l1
    (repeat' ((fail_if_success (with_reducible first | (show wpAny _ _ (exec (PySem.Stmt.While _ _ _ _) _) _ _ _) | (show wpAny _ _ (exec (PySem.Stmt.For _ _ _ _ _) _) _ _ _) | (show wpAny _ _ (eval (PySem.Expr.ListComp _ _ _ _) _) _ _ _) | (show wpAny _ _ (pyIter (Value.ref _)) _ _ _) | (show LCg.CompSrc _ _ _ _ _ _ _ _ _ _ _ _ _ _) | (show LCt.CompSrcT _ _ _ _ _ _ _ _ _ _ _ _ _ _ _) | (show LCp.SrcLP _ _ _ _ _ _ _ _ _ _ _ _ _ _ _) | (show wpAny _ _ (exec (PySem.Stmt.Assign _ (PySem.Expr.ListComp _ _ _ _) _) _) _ _ _))); first | (k_unfold; (try dsimp only)) | walk1 | (dsimp only; walk1) | (leave1; (try dsimp only)) | (refine Then.next hQ9 ?_; clear hQ9; (try clear Q9)) | (refine Then.ret hQ9 ?_; clear hQ9; (try clear Q9)) | (refine Then.brk hQ9 ?_; clear hQ9; (try clear Q9)) | (refine Then.cont hQ9 ?_; clear hQ9; (try clear Q9)) | fail "no step"))
    refine LCg.ListComp_U (F₀ := by k_asm) (by with_unfolding_all rfl) (by decide) (by rfl) (by decide) (by rfl) ?_
    (repeat' ((fail_if_success (with_reducible first | (show wpAny _ _ (exec (PySem.Stmt.While _ _ _ _) _) _ _ _) | (show wpAny _ _ (exec (PySem.Stmt.For _ _ _ _ _) _) _ _ _) | (show wpAny _ _ (eval (PySem.Expr.ListComp _ _ _ _) _) _ _ _) | (show wpAny _ _ (pyIter (Value.ref _)) _ _ _) | (show LCg.CompSrc _ _ _ _ _ _ _ _ _ _ _ _ _ _) | (show LCt.CompSrcT _ _ _ _ _ _ _ _ _ _ _ _ _ _ _) | (show LCp.SrcLP _ _ _ _ _ _ _ _ _ _ _ _ _ _ _) | (show wpAny _ _ (exec (PySem.Stmt.Assign _ (PySem.Expr.ListComp _ _ _ _) _) _) _ _ _))); first | (k_unfold; (try dsimp only)) | walk1 | (dsimp only; walk1) | (leave1; (try dsimp only)) | (refine Then.next hQ9 ?_; clear hQ9; (try clear Q9)) | (refine Then.ret hQ9 ?_; clear hQ9; (try clear Q9)) | (refine Then.brk hQ9 ?_; clear hQ9; (try clear Q9)) | (refine Then.cont hQ9 ?_; clear hQ9; (try clear Q9)) | fail "no step"))
    refine LCg.CompSrc.ledger (by rfl) (by k_asm) (by k_asm) (ax := S) (its := sv.toArray) (k := nn) (by k_mem) (by unfold sizeLine; simp only [List.size_toArray]; omega) ?_
    intro g
    refine rest_ind (fun i ys nx => nx = _ ∧ IntsAre ys ((ss.take i).map fun x => 0 - x)) ?_ ?_ _ 0 [] _ (Nat.zero_add _) ⟨rfl, .nil⟩
    · rintro i ys nx v I oI C oC D8 m2 h8 tk8 E8 hi ⟨rfl, hys⟩ hP8 hC8 hx8 F8 N8 off8 ne8
      obtain ⟨x, tx, rfl, hxi⟩ := ints_get hiv (i := i) (by simpa using hP8)
      have off0 := off8
      dsimp only [LCg.Off3] at off8
      (try dsimp only)
      (repeat' (first | (k_unfold; (try dsimp only)) | walk1 | (dsimp only; walk1) | (leave1; (try dsimp only)) | (refine Then.next hQ9 ?_; clear hQ9; (try clear Q9)) | (refine Then.ret hQ9 ?_; clear hQ9; (try clear Q9)) | (refine Then.brk hQ9 ?_; clear hQ9; (try clear Q9)) | (refine Then.cont hQ9 ?_; clear hQ9; (try clear Q9)) | fail "no step"))
      refine LCg.CompEnd.intro (by assumption) (by assumption) _ (fun p hp => hp) off0 (Or.inr ⟨_, by k_mem, rfl, _, rfl⟩) ⟨rfl, ?_⟩
      rw [List.take_add_one, hxi, Option.toList_some, List.map_append]
      exact hys.append (.cons _ _ .nil)
    rintro y1 nx ⟨rfl, hy1⟩ DX hx1 tkx F8 N8 offX
    rw [show ss.take sv.toArray.size = ss from List.take_of_length_le (by simp [hlen3])] at hy1
    dsimp only [LCg.Off1] at offX
    (rename _ ∧ _ ∧ _ = gl _ => hv9)
    rw [hv9.2.2] at *
    (repeat' ((fail_if_success (with_reducible first | (show wpAny _ _ (exec (PySem.Stmt.While _ _ _ _) _) _ _ _) | (show wpAny _ _ (exec (PySem.Stmt.For _ _ _ _ _) _) _ _ _) | (show wpAny _ _ (eval (PySem.Expr.ListComp _ _ _ _) _) _ _ _) | (show wpAny _ _ (pyIter (Value.ref _)) _ _ _) | (show LCg.CompSrc _ _ _ _ _ _ _ _ _ _ _ _ _ _) | (show LCt.CompSrcT _ _ _ _ _ _ _ _ _ _ _ _ _ _ _) | (show LCp.SrcLP _ _ _ _ _ _ _ _ _ _ _ _ _ _ _) | (show wpAny _ _ (exec (PySem.Stmt.Assign _ (PySem.Expr.ListComp _ _ _ _) _) _) _ _ _))); first | (k_unfold; (try dsimp only)) | walk1 | (dsimp only; walk1) | (leave1; (try dsimp only)) | (refine Then.next hQ9 ?_; clear hQ9; (try clear Q9)) | (refine Then.ret hQ9 ?_; clear hQ9; (try clear Q9)) | (refine Then.brk hQ9 ?_; clear hQ9; (try clear Q9)) | (refine Then.cont hQ9 ?_; clear hQ9; (try clear Q9)) | fail "no step"))
    refine LCt.ListComp_T (F₀ := by k_asm) (by with_unfolding_all rfl) (by decide) (by rfl) (by decide) (by rfl) ?_
    (repeat' ((fail_if_success (with_reducible first | (show wpAny _ _ (exec (PySem.Stmt.While _ _ _ _) _) _ _ _) | (show wpAny _ _ (exec (PySem.Stmt.For _ _ _ _ _) _) _ _ _) | (show wpAny _ _ (eval (PySem.Expr.ListComp _ _ _ _) _) _ _ _) | (show wpAny _ _ (pyIter (Value.ref _)) _ _ _) | (show LCg.CompSrc _ _ _ _ _ _ _ _ _ _ _ _ _ _) | (show LCt.CompSrcT _ _ _ _ _ _ _ _ _ _ _ _ _ _ _) | (show LCp.SrcLP _ _ _ _ _ _ _ _ _ _ _ _ _ _ _) | (show wpAny _ _ (exec (PySem.Stmt.Assign _ (PySem.Expr.ListComp _ _ _ _) _) _) _ _ _))); first | (k_unfold; (try dsimp only)) | walk1 | (dsimp only; walk1) | (leave1; (try dsimp only)) | (refine Then.next hQ9 ?_; clear hQ9; (try clear Q9)) | (refine Then.ret hQ9 ?_; clear hQ9; (try clear Q9)) | (refine Then.brk hQ9 ?_; clear hQ9; (try clear Q9)) | (refine Then.cont hQ9 ?_; clear hQ9; (try clear Q9)) | fail "no step"))
    refine LCt.CompSrcT.ledger (by rfl) (by k_asm) (by k_asm) (by k_mem) (by exact Nat.le_of_ble_eq_true rfl) ?_
    intro g
    refine restT_ind (fun i ys nx => ys = [] ∧ nx = _) ?_ ?_ _ 0 [] _ (Nat.zero_add _) ⟨rfl, rfl⟩
    · rintro i ys nx v I oI C oC D8 m2 h8 tk8 E8 hi ⟨rfl, rfl⟩ hP8 hC8 hx8 F8 N8 off8 ne8
      have off0 := off8
      dsimp only [LCg.Off3] at off8
      (try dsimp only)
      have hi4 : i < 4 := hi
      obtain rfl | rfl | rfl | rfl := lt4 hi4
      all_goals lcg_open hP8
      all_goals (repeat' (first | (k_unfold; (try dsimp only)) | walk1 | (dsimp only; walk1) | (leave1; (try dsimp only)) | (refine Then.next hQ9 ?_; clear hQ9; (try clear Q9)) | (refine Then.ret hQ9 ?_; clear hQ9; (try clear Q9)) | (refine Then.brk hQ9 ?_; clear hQ9; (try clear Q9)) | (refine Then.cont hQ9 ?_; clear hQ9; (try clear Q9)) | fail "no step"))
      all_goals first
        | exact absurd (rfl : gl ([1 + v1] ++ ss) = gl ((1 + v1) :: ss)) (by assumption)
        | exact absurd (gl_rev _ _) (by assumption)
        | exact absurd (gl_neg _ _) (by assumption)
        | exact absurd (gl_dbl _ _) (by assumption)
        | (refine LCg.CompEnd.intro (by assumption) (by assumption) _ (fun p hp => hp) off0 (Or.inr ⟨_, by k_mem, rfl, _, rfl⟩) ⟨rfl, rfl⟩)
    · rintro ys nx ⟨rfl, rfl⟩ D8 h8 tk8 F8 N8 off8
      (repeat' (first | (k_unfold; (try dsimp only)) | walk1 | (dsimp only; walk1) | (leave1; (try dsimp only)) | (refine Then.next hQ9 ?_; clear hQ9; (try clear Q9)) | (refine Then.ret hQ9 ?_; clear hQ9; (try clear Q9)) | (refine Then.brk hQ9 ?_; clear hQ9; (try clear Q9)) | (refine Then.cont hQ9 ?_; clear hQ9; (try clear Q9)) | fail "no step"))
      · k_dflt (refine' useI (gcd_all_tell _ _ [.int 0 _, .int (0 - (1 + v1)) _] [0, 0 - (1 + v1)] _ _ ?hl ?hi) ?q1 ?q2 ?q3 ?q4 ?q5 ?q6 ?q7 ?q8 ?_; (case q1 | q2 | q3 | q4 | q5 => k_asm); (case q6 => first | exact rfl | assumption); (case q7 => ktr_room); (case q8 => ktr_units); (case hl => k_mem); (case hi => exact .cons _ _ (.cons _ _ .nil)); intro t9 h9 tk9 F9 N9; ((try dsimp only); (try k_sweep)))
        rw [gl_two (by omega)]
        (repeat' (first | (k_unfold; (try dsimp only)) | walk1 | (dsimp only; walk1) | (leave1; (try dsimp only)) | (refine Then.next hQ9 ?_; clear hQ9; (try clear Q9)) | (refine Then.ret hQ9 ?_; clear hQ9; (try clear Q9)) | (refine Then.brk hQ9 ?_; clear hQ9; (try clear Q9)) | (refine Then.cont hQ9 ?_; clear hQ9; (try clear Q9)) | fail "no step"))
        rw [show (1 + v1 == 1 + v1) = true from beq_self_eq_true _]
        exact endL (R := fun o' spot' => Tape w o' CL spot' ∧ spot ≤ spot' ∧ spot' ≤ spot + 6) hret (by assumption) (by assumption) (by repeat (first | exact hTN | refine List.Mem.tail _ ?_)) (fun p hp => by replace hp := hsub p hp; repeat (first | exact hp | refine List.Mem.tail _ ?_)) ⟨hT3, by omega, by omega⟩
      · refine absurd (gl_zeros _ ?_) (by assumption)
        intro x hx
        simp only [List.mem_flatten, List.mem_replicate] at hx
        obtain ⟨l, ⟨_, rfl⟩, hx⟩ := hx
        exact List.mem_singleton.mp hx
section
variable {w : World} {dep : Nat} {f : Addr} {as : List Value} {news : List (Addr × Obj)} {mean : ExcName → Option Value} {mg mb : Str → Option Value} {dp un : Nat} {gd : Option (List Code)} {cn : Str} {cs : Scope} {a : Addr} {ccd : Value} {cl : List (Str × Addr)} {outer : List Env} {A₀ : Around} {base h₀ : Heap} {L : Addr} {m : Str → Option Value} {s : Shared} {Q E : Value → Shared → Prop}
/-- a law's part: True, the tape turned on -/
theorem useL {k : Int} {TP CL : Addr} {o : Obj} {spot : Int} (h : Tell w dep f as ((TP, o) :: news) (fun r nx => ∃ (o' : Obj) (spot' : Int), r = .bool true ∧ nx = (TP, o') :: news ∧ Tape w o' CL spot' ∧ spot ≤ spot' ∧ spot' ≤ spot + k))
    (p1 : Below A₀ base outer h₀) (p2 : Fr h₀ L s.heap m) (p3 : (hd.heap_39 w.params).In h₀) (p4 : News h₀ L s.heap ((TP, o) :: news)) (p5 : Top hd.view_39 (looseW hd.view_39 []) mean mg mb h₀) (p6 : cs.kind = .function) (p7 : dp + dep < recursionLimit) (p8 : un + 20 * dep < cLine)
    (ret : ∀ o' spot' h' tk', Tape w o' CL spot' → spot ≤ spot' → spot' ≤ spot + k → Fr h₀ L h' m → News h₀ L h' ((TP, o') :: news) → Q (.bool true) { s with heap := h', toks := tk' }) :
    wpAny (model PySem.Challenge.rw_nz0134_01.row.prog w) (ktrTop dp un gd cn cs L a ccd cl outer) (call (.ref f) as) Q E s :=
  h mean mg mb dp un gd cn cs a ccd cl outer A₀ base h₀ L m s Q E p1 p2 p3 p4 p5 p6 p7 p8 fun r nx h' tk' F' N' hr => by
    obtain ⟨o', spot', rfl, rfl, hT, h1, h2⟩ := hr
    exact ret o' spot' h' tk' hT h1 h2 F' N'
end
theorem tape_key {w : World} {h₀ h : Heap} {L d CL : Addr} {o : Obj} {led : List (Addr × Obj)} {vs : List Value} {ns : List Int} {n : Nat} {t : Tok} (N : News h₀ L h led) (hd : o.IsDictOf (strKind PySem.Challenge.rw_nz0134_01.row.prog w) [(Str.ofString "cells", Value.ref CL), (Str.ofString "spot", Value.int 0 t)])
    (hi : IntsAre vs ns) (hlen : ns.length ≤ 100) (hne : @Ne Nat CL d) (m1 : (d, o) ∈ led) (m2 : (CL, listOf vs.toArray n) ∈ led) :
    ∃ (CL : Addr) (vs : List Value) (ns : List Int) (n : Nat), News h₀ L h [(d, o), (CL, listOf vs.toArray n)] ∧ Tape w o CL 0 ∧ IntsAre vs ns ∧ ns.length ≤ 100 ∧ @Ne Nat CL d := by
  refine ⟨CL, vs, ns, n, fun p hp => N p ?_, ⟨_, hd⟩, hi, hlen, hne⟩
  simp only [List.mem_cons, List.not_mem_nil, or_false] at hp
  rcases hp with e | e
  · rw [e]; exact m1
  · rw [e]; exact m2
/-- both ways to the tape meet -/
theorem via_tape {w : World} {A : Around} {t : Sem Flow} {E : Value → Shared → Prop} {Q9 : Flow → Shared → Prop} {h₀ h : Heap} {L : Addr} {m : Str → Option Value} {led : List (Addr × Obj)} {G D O T} (nm : Str) (_F : Fr h₀ L h m) (_N : News h₀ L h led)
    (ways : ∀ Q8 : Flow → Shared → Prop, (∀ h' tk' d o CL vs ns n, Fr h₀ L h' (fun y => if y = nm then some (.ref d) else m y) → News h₀ L h' [(d, o), (CL, listOf vs.toArray n)] → Tape w o CL 0 → IntsAre vs ns → ns.length ≤ 100 → @Ne Nat CL d → Q8 .next ⟨h', G, D, tk', O⟩) → wpAny (model PySem.Challenge.rw_nz0134_01.row.prog w) A t Q8 E ⟨h, G, D, T, O⟩)
    (tail : ∀ h' tk' d o CL vs ns n, Fr h₀ L h' (fun y => if y = nm then some (.ref d) else m y) → News h₀ L h' [(d, o), (CL, listOf vs.toArray n)] → Tape w o CL 0 → IntsAre vs ns → ns.length ≤ 100 → @Ne Nat CL d → Q9 .next ⟨h', G, D, tk', O⟩) : wpAny (model PySem.Challenge.rw_nz0134_01.row.prog w) A t Q9 E ⟨h, G, D, T, O⟩ := ways Q9 tail
theorem law_holds : PySem.Challenge.rw_nz0134_01.Holds := hd (by
  k_with_none
  k_with "lt" => ((with_reducible rename ∀ p ∈ (_ : List (Addr × Obj)), p.1 < (_ : Addr) => hlt); replace hlt := allLt_of hlt; (dsimp only [AllLt] at hlt); revert hlt; intros)
  k_with "room" => (k_dflt (first | exact rm2 (by assumption) (by rfl) | exact rm1 (by assumption) (by rfl) | exact rm3 (by assumption) (by rfl) | exact rm0 (by assumption) | fail "no"))
  k_with "arm" => (first | assumption | (with_reducible first | exact arm0 (by assumption) | exact arm1 (by assumption) | exact arm2 (by assumption) | exact arm3 (by assumption) | exact arm4 (by assumption) | exact arm5 (by assumption) | exact arm6 (by assumption) | exact arm7 (by assumption) | exact arm8 (by assumption) | exact arm9 (by assumption) | exact arm10 (by assumption) | exact arm11 (by assumption) | exact arm12 (by assumption) | exact arm13 (by assumption) | exact And.left (arm0 (by assumption)) | exact And.left (And.right (arm0 (by assumption))) | exact And.right (And.right (arm0 (by assumption))) | exact And.left (arm1 (by assumption)) | exact And.left (And.right (arm1 (by assumption))) | exact And.right (And.right (arm1 (by assumption))) | exact And.left (arm2 (by assumption)) | exact And.left (And.right (arm2 (by assumption))) | exact And.right (And.right (arm2 (by assumption))) | exact And.left (arm3 (by assumption)) | exact And.left (And.right (arm3 (by assumption))) | exact And.right (And.right (arm3 (by assumption))) | exact And.left (arm4 (by assumption)) | exact And.left (And.right (arm4 (by assumption))) | exact And.right (And.right (arm4 (by assumption))) | exact And.left (arm5 (by assumption)) | exact And.left (And.right (arm5 (by assumption))) | exact And.right (And.right (arm5 (by assumption))) | exact And.left (arm6 (by assumption)) | exact And.left (And.right (arm6 (by assumption))) | exact And.right (And.right (arm6 (by assumption))) | exact And.left (arm7 (by assumption)) | exact And.left (And.right (arm7 (by assumption))) | exact And.right (And.right (arm7 (by assumption))) | exact Nat.lt_add_one _ | fail "no") | (with_reducible refine Nat.lt_add_right _ ?_; mod_arm) | fail "no")
  k_with "ne" => (k_dflt (first | assumption | exact Ne.symm (by assumption) | (refine neN ?_; (try dsimp only); first | assumption | exact Ne.symm (by assumption) | exact Nat.ne_of_lt (by mod_arm) | exact Nat.ne_of_gt (by mod_arm) | mod_arm | exact Ne.symm (by mod_arm) | fail "no") | fail "no"))
  k_with "om" => (first | (with_reducible first | assumption | exact Ne.symm (by assumption) | exact bdA (by assumption) | exact bdB (by assumption) (by k_dflt rfl) | exact bdC (by assumption) | exact bdD (by assumption) (by k_dflt rfl) | exact bdE (by assumption) | exact bdF (by assumption) (by k_dflt rfl) | exact bdG (by assumption) (by k_dflt rfl) | exact bdH (by assumption) (by k_dflt rfl) | exact bdI (by assumption) | exact bdJ (by assumption) (by k_dflt rfl) | exact bdK (by assumption) | exact bdO (by assumption) | exact bdP (by assumption) (by k_dflt rfl) | exact bdO0 (by assumption) | exact bdP0 (by assumption) (by k_dflt rfl) | exact bdV (by assumption) | exact bdS0 (by assumption) | exact bdS1 (by assumption) | exact bdS2 (by assumption) | exact bdS3 (by assumption) | exact bdQ (by assumption) (by assumption) (by assumption) | exact bdQ2 (by assumption) (by assumption) (by assumption) (by k_dflt rfl) | exact bdQ3 (by assumption) (by assumption) (by assumption) (by assumption) (by assumption) | exact bdQ4 (by assumption) (by assumption) (by assumption) | exact bdQ5 (by assumption) (by assumption) (by assumption) (by k_dflt rfl) | exact bdNA (by assumption) | exact bdW (by assumption) (by k_dflt rfl) | exact bdX2 (by assumption) (by k_dflt rfl) | exact bdX3 (by assumption) (by k_dflt rfl) | exact bdX4 (by assumption) (by k_dflt rfl) | exact bdX5 (by assumption) (by k_dflt rfl) | exact bdT0 (by assumption) | exact bdT1 (by assumption) | exact bdR2 | exact bdR1 (by assumption) (by k_dflt rfl) | exact Nat.ne_of_lt (by mod_arm) | exact Nat.ne_of_gt (by mod_arm) | exact Ne.symm (by mod_arm) | mod_arm | fail "no") | ((with_reducible refine And.intro ?_ ?_) <;> omega) | ((with_reducible (first | (rename @Ne _ _ _ => hz9; clear hz9) | (rename And (@Ne _ _ _) _ => hz9; clear hz9) | (rename And (And (@Ne _ _ _) _) _ => hz9; clear hz9)); (repeat (with_reducible first | (rename @Ne _ _ _ => hz9; clear hz9) | (rename And (@Ne _ _ _) _ => hz9; clear hz9) | (rename And (And (@Ne _ _ _) _) _ => hz9; clear hz9))); omega)) | fail "no")
  k_with "eval Call" => (refine Call_ ?_)
  k_with "eval Name" => (k_here; k_dflt (refine' nameX_L ?F ?v ?_ ?a ?b; (case F => k_asm); (case a => rfl); (case b => rfl); (case v => first | rfl | exact hr9 _ rfl | exact hr8 _ rfl | exact (hr9 _ rfl).trans (hr8 _ rfl)); k_whole))
  k_with "storeName" => (k_here; dsimp only)
  k_with "newTuple" => (k_here; dsimp only)
  k_with "newList" => (k_here; dsimp only)
  k_with "LeaveK" => (k_here; dsimp only)
  k_with "ite" => (k_here; dsimp only)
  k_with "execs cons" => (k_here; first | k_gentoks | ((try dsimp only); refine execs_cut ?_; intro Q9 hQ9))
  k_with "call ref" => (first | (k_here; k_dflt (refine' useI (gcd_tell _ _ _ _ _ _) ?q1 ?q2 ?q3 ?q4 ?q5 ?q6 ?q7 ?q8 ?_; (case q1 | q2 | q3 | q4 | q5 => k_asm); (case q6 => first | exact rfl | assumption); (case q7 => ktr_room); (case q8 => ktr_units); intro t9 h9 tk9 F9 N9; revert t9 h9 tk9 F9 N9; intros; ((try dsimp only); (try k_sweep)))) | fail "no")
  k_with "call ref" => (first | (k_here; k_dflt (refine' useI (gcd_all_tell _ _ _ _ _ _ ?hl ?hi) ?q1 ?q2 ?q3 ?q4 ?q5 ?q6 ?q7 ?q8 ?_; (case q1 | q2 | q3 | q4 | q5 => k_asm); (case q6 => first | exact rfl | assumption); (case q7 => ktr_room); (case q8 => ktr_units); (case hl => k_mem); (case hi => l_ints); intro t9 h9 tk9 F9 N9; revert t9 h9 tk9 F9 N9; intros; ((try dsimp only); (try k_sweep)))) | fail "no")
  k_with "call ref" => (first | (k_here; k_dflt (refine' useI (lcm_tell _ _ _ _ _ _ ?ha ?hb) ?q1 ?q2 ?q3 ?q4 ?q5 ?q6 ?q7 ?q8 ?_; (case q1 | q2 | q3 | q4 | q5 => k_asm); (case q6 => first | exact rfl | assumption); (case q7 => ktr_room); (case q8 => ktr_units); (case ha | hb => omega); intro t9 h9 tk9 F9 N9; (try simp only [Int.zero_sub, Int.neg_lcm, Int.lcm_neg]); revert t9 h9 tk9 F9 N9; intros; ((try dsimp only); (try k_sweep)))) | fail "no")
  k_with "call ref" => (first | (k_here; k_dflt (refine' useT (ratio_tell _ _ _ _ _ _ ?ha ?hb) ?q1 ?q2 ?q3 ?q4 ?q5 ?q6 ?q7 ?q8 ?_; (case q1 | q2 | q3 | q4 | q5 => k_asm); (case q6 => first | exact rfl | assumption); (case q7 => ktr_room); (case q8 => ktr_units); (case ha | hb => omega); intro D9 p9 q9 t9 u9 h9 tk9 hP9 F9 N9 l9; (have hq9 := hP9.pos); (have hb9 := hP9.dvd); (have hc9 := hP9.bd (by omega)); (try dsimp only [AllLt] at l9); (try revert hc9); (try revert hb9); (try revert hq9); revert D9 p9 q9 t9 u9 h9 tk9 hP9 F9 N9 l9; intros; ((try dsimp only); (try k_sweep)))) | fail "no")
  k_with "call ref" => (first | (k_here; k_dflt (refine' useTE (whole_tell _ _ _ _) ?q1 ?q2 ?q3 ?q4 ?q5 ?q6 ?q7 ?q8 ?_; (case q1 | q2 | q3 | q4 | q5 => k_asm); (case q6 => first | exact rfl | assumption); (case q7 => ktr_room); (case q8 => ktr_units); intro D9 t9 u9 h9 tk9 F9 N9 l9; (try dsimp only [AllLt] at l9); revert D9 t9 u9 h9 tk9 F9 N9 l9; intros; ((try dsimp only); (try k_sweep)))) | fail "no")
  k_with "call ref" => (first | (k_here; k_dflt (refine' useI (floor_tell _ _ _ _ _ _ _ ?hA ?ha ?hb) ?q1 ?q2 ?q3 ?q4 ?q5 ?q6 ?q7 ?q8 ?_; (case q1 | q2 | q3 | q4 | q5 => k_asm); (case q6 => first | exact rfl | assumption); (case q7 => ktr_room); (case q8 => ktr_units); (case hA => k_mem); (case ha | hb => omega); intro t9 h9 tk9 F9 N9; revert t9 h9 tk9 F9 N9; intros; ((try dsimp only); (try k_sweep)))) | fail "no")
  k_with "call ref" => (first | (k_here; k_dflt (refine' useI (ceil_tell _ _ _ _ _ _ _ ?hA ?ha ?hb) ?q1 ?q2 ?q3 ?q4 ?q5 ?q6 ?q7 ?q8 ?_; (case q1 | q2 | q3 | q4 | q5 => k_asm); (case q6 => first | exact rfl | assumption); (case q7 => ktr_room); (case q8 => ktr_units); (case hA => k_mem); (case ha | hb => omega); intro t9 h9 tk9 F9 N9; revert t9 h9 tk9 F9 N9; intros; ((try dsimp only); (try k_sweep)))) | fail "no")
  k_with "call ref" => (first | (k_here; k_dflt (refine' useB (iswhole_tell _ _ _ _ _ _ _ ?hA) ?q1 ?q2 ?q3 ?q4 ?q5 ?q6 ?q7 ?q8 ?_; (case q1 | q2 | q3 | q4 | q5 => k_asm); (case q6 => first | exact rfl | assumption); (case q7 => ktr_room); (case q8 => ktr_units); (case hA => k_mem); intro h9 tk9 F9 N9; revert h9 tk9 F9 N9; intros; ((try dsimp only); (try k_sweep)))) | fail "no")
  k_with "call ref" => (first | (k_here; k_dflt (refine' useI (compare_tell _ _ _ _ _ _ _ _ _ _ _ _ ?hA ?hC ?ha ?hb) ?q1 ?q2 ?q3 ?q4 ?q5 ?q6 ?q7 ?q8 ?_; (case q1 | q2 | q3 | q4 | q5 => k_asm); (case q6 => first | exact rfl | assumption); (case q7 => ktr_room); (case q8 => ktr_units); (case hA | hC => k_mem); (case ha | hb => omega); intro t9 h9 tk9 F9 N9; revert t9 h9 tk9 F9 N9; intros; ((try dsimp only); (try k_sweep)))) | fail "no")
  k_with "call ref" => (first | (k_here; k_dflt (refine' useTE (neg_tell _ _ _ _ _ _ _ ?hA) ?q1 ?q2 ?q3 ?q4 ?q5 ?q6 ?q7 ?q8 ?_; (case q1 | q2 | q3 | q4 | q5 => k_asm); (case q6 => first | exact rfl | assumption); (case q7 => ktr_room); (case q8 => ktr_units); (case hA => k_mem); intro D9 t9 u9 h9 tk9 F9 N9 l9; (try dsimp only [AllLt] at l9); revert D9 t9 u9 h9 tk9 F9 N9 l9; intros; ((try dsimp only); (try k_sweep)))) | fail "no")
  k_with "call ref" => (first | (k_here; k_dflt (refine' useT (add_tell _ _ _ _ _ _ _ _ _ _ _ _ ?hA ?hC ?ha ?hb) ?q1 ?q2 ?q3 ?q4 ?q5 ?q6 ?q7 ?q8 ?_; (case q1 | q2 | q3 | q4 | q5 => k_asm); (case q6 => first | exact rfl | assumption); (case q7 => ktr_room); (case q8 => ktr_units); (case hA | hC => k_mem); (case ha | hb => omega); intro D9 p9 q9 t9 u9 h9 tk9 hP9 F9 N9 l9; (have hq9 := hP9.pos); (have hb9 := hP9.dvd); (try (have hc9 := hP9.bd (by omega))); (try dsimp only [AllLt] at l9); (try revert hc9); (try revert hb9); (try revert hq9); revert D9 p9 q9 t9 u9 h9 tk9 hP9 F9 N9 l9; intros; ((try dsimp only); (try k_sweep)))) | fail "no")
  k_with "call ref" => (first | (k_here; k_dflt (refine' useT (sub_tell _ _ _ _ _ _ _ _ _ _ _ _ ?hA ?hC ?ha ?hb) ?q1 ?q2 ?q3 ?q4 ?q5 ?q6 ?q7 ?q8 ?_; (case q1 | q2 | q3 | q4 | q5 => k_asm); (case q6 => first | exact rfl | assumption); (case q7 => ktr_room); (case q8 => ktr_units); (case hA | hC => k_mem); (case ha | hb => omega); intro D9 p9 q9 t9 u9 h9 tk9 hP9 F9 N9 l9; (have hq9 := hP9.pos); (have hb9 := hP9.dvd); (try (have hc9 := hP9.bd (by omega))); (try dsimp only [AllLt] at l9); (try revert hc9); (try revert hb9); (try revert hq9); revert D9 p9 q9 t9 u9 h9 tk9 hP9 F9 N9 l9; intros; ((try dsimp only); (try k_sweep)))) | fail "no")
  k_with "all" => (first | (first | assumption | exact ne_of_allLt (by assumption) (by first | exact Nat.le_refl _ | exact Nat.le_succ _ | exact bdU2 | exact bdU | omega)) | fail "no")
  k_with "call ref" => (first | (k_here; k_dflt (refine' useN ?ho ?hi ?hlen ?h0 ?hm ?q1 ?q2 ?q3 ?q4 ?q5 ?q6 ?q7 ?q8 ?U ?hne ?hl ?_; (case q1 | q2 | q3 | q4 | q5 => k_asm); (case q6 => first | exact rfl | assumption); (case q7 => ktr_room); (case q8 => ktr_units); (case U => k_updF); (case ho => assumption); (case hne => k_ne); (case hl => k_mem); (case hi => assumption); (case hlen => assumption); (case h0 => omega); (case hm => omega); intro v9 t9 o9 h9 tk9 hv9 hT9 F9 N9; revert v9 t9 o9 h9 tk9 hv9 hT9 F9 N9; intros; ((try dsimp only); (try k_sweep)))) | fail "no")
  k_with "call ref" => (first | (k_here; k_dflt (refine' useI (bottom_tell _ _ _ _ _ _ ?hl ?hp ?hq) ?q1 ?q2 ?q3 ?q4 ?q5 ?q6 ?q7 ?q8 ?_; (case q1 | q2 | q3 | q4 | q5 => k_asm); (case q6 => first | exact rfl | assumption); (case q7 => ktr_room); (case q8 => ktr_units); (case hl => k_mem); (case hp => first | assumption | first | exact PairsAre.nil | (refine' PairsAre.cons ?hmm PairsAre.nil; (case hmm => k_mem))); (case hq => first | assumption | (intro r9 hr9; (simp only [List.mem_cons, List.not_mem_nil, or_false] at hr9); subst hr9; dsimp only; omega)); intro t9 h9 tk9 F9 N9; revert t9 h9 tk9 F9 N9; intros; ((try dsimp only); (try k_sweep)))) | fail "no")
  k_with "call ref" => (first | (k_here; k_dflt (refine' useB (between_tell _ _ _ _ _ _ _ _ _ _ _ _ _ _ ?hA ?hC ?ha ?hb) ?q1 ?q2 ?q3 ?q4 ?q5 ?q6 ?q7 ?q8 ?_; (case q1 | q2 | q3 | q4 | q5 => k_asm); (case q6 => first | exact rfl | assumption); (case q7 => ktr_room); (case q8 => ktr_units); (case hA | hC => k_mem); (case ha | hb => omega); intro h9 tk9 F9 N9; revert h9 tk9 F9 N9; intros; ((try dsimp only); (try k_sweep)))) | fail "no")
  k_with "call ref" => (first | (k_here; k_dflt (refine' useP (reached_tell _ _ _ _ _ _ _ _ ?hl ?hi ?hR) ?q1 ?q2 ?q3 ?q4 ?q5 ?q6 ?q7 ?q8 ?_; (case q1 | q2 | q3 | q4 | q5 => k_asm); (case q6 => first | exact rfl | assumption); (case q7 => ktr_room); (case q8 => ktr_units); (case hl => k_mem); (case hi => first | assumption | l_ints); (case hR => omega); intro v9 t9 h9 tk9 hv9 F9 N9; revert v9 t9 h9 tk9 hv9 F9 N9; intros; ((try dsimp only); (try k_sweep)))) | fail "no")
  k_go0
  (all_goals try k_fold)
  (repeat' ((fail_if_success (with_reducible first | (show wpAny _ _ (exec (PySem.Stmt.While _ _ _ _) _) _ _ _) | (show wpAny _ _ (exec (PySem.Stmt.For _ _ _ _ _) _) _ _ _) | (show wpAny _ _ (eval (PySem.Expr.ListComp _ _ _ _) _) _ _ _) | (show wpAny _ _ (pyIter (Value.ref _)) _ _ _) | (show LCg.CompSrc _ _ _ _ _ _ _ _ _ _ _ _ _ _) | (show LCt.CompSrcT _ _ _ _ _ _ _ _ _ _ _ _ _ _ _) | (show LCp.SrcLP _ _ _ _ _ _ _ _ _ _ _ _ _ _ _) | (show wpAny _ _ (exec (PySem.Stmt.Assign _ (PySem.Expr.ListComp _ _ _ _) _) _) _ _ _))); first | (k_unfold; (try dsimp only)) | walk1 | (dsimp only; walk1) | (leave1; (try dsimp only)) | (refine Then.next hQ9 ?_; clear hQ9; (try clear Q9)) | (refine Then.ret hQ9 ?_; clear hQ9; (try clear Q9)) | (refine Then.brk hQ9 ?_; clear hQ9; (try clear Q9)) | (refine Then.cont hQ9 ?_; clear hQ9; (try clear Q9)) | fail "no step"))
  refine LCg.Assign_ListComp_U (F₀ := by k_asm) (by rfl) (by with_unfolding_all rfl) (by with_unfolding_all rfl) (by decide) (by rfl) (by decide) (by rfl) (by rfl) (by rfl) ?_
  (repeat' ((fail_if_success (with_reducible first | (show wpAny _ _ (exec (PySem.Stmt.While _ _ _ _) _) _ _ _) | (show wpAny _ _ (exec (PySem.Stmt.For _ _ _ _ _) _) _ _ _) | (show wpAny _ _ (eval (PySem.Expr.ListComp _ _ _ _) _) _ _ _) | (show wpAny _ _ (pyIter (Value.ref _)) _ _ _) | (show LCg.CompSrc _ _ _ _ _ _ _ _ _ _ _ _ _ _) | (show LCt.CompSrcT _ _ _ _ _ _ _ _ _ _ _ _ _ _ _) | (show LCp.SrcLP _ _ _ _ _ _ _ _ _ _ _ _ _ _ _) | (show wpAny _ _ (exec (PySem.Stmt.Assign _ (PySem.Expr.ListComp _ _ _ _) _) _) _ _ _))); first | (k_unfold; (try dsimp only)) | walk1 | (dsimp only; walk1) | (leave1; (try dsimp only)) | (refine Then.next hQ9 ?_; clear hQ9; (try clear Q9)) | (refine Then.ret hQ9 ?_; clear hQ9; (try clear Q9)) | (refine Then.brk hQ9 ?_; clear hQ9; (try clear Q9)) | (refine Then.cont hQ9 ?_; clear hQ9; (try clear Q9)) | fail "no step"))
  rename_i D0 ws0 hh0 F0 N0 hI0 hC0 hL0 l0
  refine LCg.CompSrc.ledger (by rfl) F0 N0 (.head _) (by have := hI0.length; unfold sizeLine; simp only [List.size_toArray]; omega) ?_
  intro g
  refine rest_ind (fun i ys nx => nx = _ ∧ ∃ zs : List Int, IntsAre ys zs ∧ zs.length = i) ?_ ?_ _ 0 [] _ (Nat.zero_add _) ⟨rfl, [], .nil, rfl⟩
  · rintro i ys nx v I oI C oC D8 m2 h8 tk8 E8 hi ⟨rfl, zs, hys, hzl⟩ hP8 hC8 hx8 F8 N8 off8 ne8
    obtain ⟨x, tx, rfl, hxi⟩ := ints_get hI0 (i := i) (by simpa using hP8)
    have off0 := off8
    dsimp only [LCg.Off3] at off8
    (try dsimp only)
    (repeat' (first | (k_unfold; (try dsimp only)) | walk1 | (dsimp only; walk1) | (leave1; (try dsimp only)) | (refine Then.next hQ9 ?_; clear hQ9; (try clear Q9)) | (refine Then.ret hQ9 ?_; clear hQ9; (try clear Q9)) | (refine Then.brk hQ9 ?_; clear hQ9; (try clear Q9)) | (refine Then.cont hQ9 ?_; clear hQ9; (try clear Q9)) | fail "no step"))
    · exact hys.append (.cons _ _ .nil)
    · simp [hzl]
  rintro yc nx ⟨rfl, zs, hyc, hzl⟩ DC hc1 tkc F8 N8 offC
  dsimp only [LCg.Off1] at offC
  have hzl2 : zs.length ≤ 40 := by
    have := hI0.length
    simp only [List.size_toArray] at hzl
    omega
  clear hI0
  repeat' ((fail_if_success (with_reducible show wpAny _ _ (exec (PySem.Stmt.Assign _ (PySem.Expr.Dict _ _ _) _) _) _ _ _)); first | (k_unfold; (try dsimp only)) | walk1 | (dsimp only; walk1) | (leave1; (try dsimp only)) | (refine Then.next hQ9 ?_; clear hQ9; (try clear Q9)) | (refine Then.ret hQ9 ?_; clear hQ9; (try clear Q9)) | (refine Then.brk hQ9 ?_; clear hQ9; (try clear Q9)) | (refine Then.cont hQ9 ?_; clear hQ9; (try clear Q9)) | fail "no step")
  (rename Fr _ _ _ _ => FI); (rename News _ _ _ _ => NI)
  refine via_tape (Str.ofString "tape") FI NI ?_ ?_
  · clear hQ9 Q9
    intro Q8 go
    (repeat' ((fail_if_success (with_reducible first | (show wpAny _ _ (exec (PySem.Stmt.While _ _ _ _) _) _ _ _) | (show wpAny _ _ (exec (PySem.Stmt.For _ _ _ _ _) _) _ _ _) | (show wpAny _ _ (eval (PySem.Expr.ListComp _ _ _ _) _) _ _ _) | (show wpAny _ _ (pyIter (Value.ref _)) _ _ _) | (show LCg.CompSrc _ _ _ _ _ _ _ _ _ _ _ _ _ _) | (show LCt.CompSrcT _ _ _ _ _ _ _ _ _ _ _ _ _ _ _) | (show LCp.SrcLP _ _ _ _ _ _ _ _ _ _ _ _ _ _ _) | (show wpAny _ _ (exec (PySem.Stmt.Assign _ (PySem.Expr.ListComp _ _ _ _) _) _) _ _ _))); first | (k_unfold; (try dsimp only)) | walk1 | (dsimp only; walk1) | (leave1; (try dsimp only)) | (refine Then.next hQ9 ?_; clear hQ9; (try clear Q9)) | (refine Then.ret hQ9 ?_; clear hQ9; (try clear Q9)) | (refine Then.brk hQ9 ?_; clear hQ9; (try clear Q9)) | (refine Then.cont hQ9 ?_; clear hQ9; (try clear Q9)) | fail "no step"))
    · rename_i d h1 o1 lo hd1 l1 le h2 l2 ha ll h3 l3 h4 o2 hd2 h5 FT NT
      obtain ⟨CL, vs, ns, n, N2, hT, hi, hlen, hCL⟩ := tape_key NT hd2 (vs := [.int 0 _, .int 0 _, .int 0 _, .int 0 _, .int 2 _, .int 21 _, .int 1 _, .int 21 _, .int 3 _]) (.cons _ _ (.cons _ _ (.cons _ _ (.cons _ _ (.cons _ _ (.cons _ _ (.cons _ _ (.cons _ _ (.cons _ _ .nil))))))))) (by decide) (by show @Ne Nat _ _; omega) (.tail _ (.tail _ (.head _))) (.head _)
      exact go _ _ _ _ CL vs ns n FT N2 hT hi hlen hCL
    · rename_i d h1 o1 lo hd1 l1 le h2 l2 ha h4 o2 hd2 h5 FT NT
      obtain ⟨CL, vs, ns, n, N2, hT, hi, hlen, hCL⟩ := tape_key NT hd2 hyc (by omega) (by show @Ne Nat _ _; omega) (.tail _ (.head _)) (.tail _ (.tail _ (.head _)))
      exact go _ _ _ _ CL vs ns n FT N2 hT hi hlen hCL
  · intro h9 tk9 d o2 CL vs ns n FT N2 hT hi hlen hCL
    refine Then.next hQ9 ?_
    clear hQ9
    have hl : (CL, listOf vs.toArray n) ∈ [(CL, listOf vs.toArray n)] := .head _
    have hoff : ∀ p ∈ [(CL, listOf vs.toArray n)], p.1 ≠ d := by
      intro p hp
      rw [List.mem_singleton.mp hp]
      exact hCL
    have hb : 0 ≤ (0 : Int) ∧ (0 : Int) ≤ 0 := ⟨Int.le_refl _, Int.le_refl _⟩
    repeat' ((fail_if_success (with_reducible show wpAny _ _ (call (Value.ref 191) _ _) _ _ _)); first | (k_unfold; (try dsimp only)) | walk1 | (dsimp only; walk1) | (leave1; (try dsimp only)) | (refine Then.next hQ9 ?_; clear hQ9; (try clear Q9)) | (refine Then.ret hQ9 ?_; clear hQ9; (try clear Q9)) | (refine Then.brk hQ9 ?_; clear hQ9; (try clear Q9)) | (refine Then.cont hQ9 ?_; clear hQ9; (try clear Q9)) | fail "no step")
    refine' useL (ring_tell _ _ _ _ _ _ _ _ _ _ _  hT hl hi hlen hoff hCL ?h0) ?q1 ?q2 ?q3 ?q4 ?q5 ?q6 ?q7 ?q8 ?_; (case q1 | q2 | q3 | q4 | q5 => k_asm); (case q6 => exact rfl); (case q7 => decide); (case q8 => decide); (case h0 => exact ⟨hb.1, Int.lt_of_le_of_lt hb.2 (by decide)⟩)
    clear hT
    intro o9 p191 h9 tk9 hT hp191 hq191 F9 N9
    replace hb := And.intro (Int.le_trans hb.1 hp191) (Int.le_trans hq191 (Int.add_le_add_right hb.2 _))
    (try dsimp only)
    repeat' ((fail_if_success (with_reducible show wpAny _ _ (call (Value.ref 196) _ _) _ _ _)); first | (k_unfold; (try dsimp only)) | walk1 | (dsimp only; walk1) | (leave1; (try dsimp only)) | (refine Then.next hQ9 ?_; clear hQ9; (try clear Q9)) | (refine Then.ret hQ9 ?_; clear hQ9; (try clear Q9)) | (refine Then.brk hQ9 ?_; clear hQ9; (try clear Q9)) | (refine Then.cont hQ9 ?_; clear hQ9; (try clear Q9)) | fail "no step")
    refine' useL (clocks_tell _ _ _ _ _ _ _ _ _  hT hl hi hlen hoff hCL ?h0) ?q1 ?q2 ?q3 ?q4 ?q5 ?q6 ?q7 ?q8 ?_; (case q1 | q2 | q3 | q4 | q5 => k_asm); (case q6 => exact rfl); (case q7 => decide); (case q8 => decide); (case h0 => exact ⟨hb.1, Int.lt_of_le_of_lt hb.2 (by decide)⟩)
    clear hT
    intro o9 p196 h9 tk9 hT hp196 hq196 F9 N9
    replace hb := And.intro (Int.le_trans hb.1 hp196) (Int.le_trans hq196 (Int.add_le_add_right hb.2 _))
    (try dsimp only)
    repeat' ((fail_if_success (with_reducible show wpAny _ _ (call (Value.ref 201) _ _) _ _ _)); first | (k_unfold; (try dsimp only)) | walk1 | (dsimp only; walk1) | (leave1; (try dsimp only)) | (refine Then.next hQ9 ?_; clear hQ9; (try clear Q9)) | (refine Then.ret hQ9 ?_; clear hQ9; (try clear Q9)) | (refine Then.brk hQ9 ?_; clear hQ9; (try clear Q9)) | (refine Then.cont hQ9 ?_; clear hQ9; (try clear Q9)) | fail "no step")
    refine' useL (laps_tell _ _ _ _ _ _ _ _ _  hT hl hi hlen hoff hCL ?h0) ?q1 ?q2 ?q3 ?q4 ?q5 ?q6 ?q7 ?q8 ?_; (case q1 | q2 | q3 | q4 | q5 => k_asm); (case q6 => exact rfl); (case q7 => decide); (case q8 => decide); (case h0 => exact ⟨hb.1, Int.lt_of_le_of_lt hb.2 (by decide)⟩)
    clear hT
    intro o9 p201 h9 tk9 hT hp201 hq201 F9 N9
    replace hb := And.intro (Int.le_trans hb.1 hp201) (Int.le_trans hq201 (Int.add_le_add_right hb.2 _))
    (try dsimp only)
    repeat' ((fail_if_success (with_reducible show wpAny _ _ (call (Value.ref 206) _ _) _ _ _)); first | (k_unfold; (try dsimp only)) | walk1 | (dsimp only; walk1) | (leave1; (try dsimp only)) | (refine Then.next hQ9 ?_; clear hQ9; (try clear Q9)) | (refine Then.ret hQ9 ?_; clear hQ9; (try clear Q9)) | (refine Then.brk hQ9 ?_; clear hQ9; (try clear Q9)) | (refine Then.cont hQ9 ?_; clear hQ9; (try clear Q9)) | fail "no step")
    refine' useL (ends_tell _ _ _ _ _ _ _ _ _ _ _  hT hl hi hlen hoff hCL ?h0) ?q1 ?q2 ?q3 ?q4 ?q5 ?q6 ?q7 ?q8 ?_; (case q1 | q2 | q3 | q4 | q5 => k_asm); (case q6 => exact rfl); (case q7 => decide); (case q8 => decide); (case h0 => exact ⟨hb.1, Int.lt_of_le_of_lt hb.2 (by decide)⟩)
    clear hT
    intro o9 p206 h9 tk9 hT hp206 hq206 F9 N9
    replace hb := And.intro (Int.le_trans hb.1 hp206) (Int.le_trans hq206 (Int.add_le_add_right hb.2 _))
    (try dsimp only)
    repeat' ((fail_if_success (with_reducible show wpAny _ _ (call (Value.ref 213) _ _) _ _ _)); first | (k_unfold; (try dsimp only)) | walk1 | (dsimp only; walk1) | (leave1; (try dsimp only)) | (refine Then.next hQ9 ?_; clear hQ9; (try clear Q9)) | (refine Then.ret hQ9 ?_; clear hQ9; (try clear Q9)) | (refine Then.brk hQ9 ?_; clear hQ9; (try clear Q9)) | (refine Then.cont hQ9 ?_; clear hQ9; (try clear Q9)) | fail "no step")
    refine' useL (hand_tell _ _ _ _ _ _ _ _ _  hT hl hi hlen hoff hCL ?h0) ?q1 ?q2 ?q3 ?q4 ?q5 ?q6 ?q7 ?q8 ?_; (case q1 | q2 | q3 | q4 | q5 => k_asm); (case q6 => exact rfl); (case q7 => decide); (case q8 => decide); (case h0 => exact ⟨hb.1, Int.lt_of_le_of_lt hb.2 (by decide)⟩)
    clear hT
    intro o9 p213 h9 tk9 hT hp213 hq213 F9 N9
    replace hb := And.intro (Int.le_trans hb.1 hp213) (Int.le_trans hq213 (Int.add_le_add_right hb.2 _))
    (try dsimp only)
    repeat' ((fail_if_success (with_reducible show wpAny _ _ (call (Value.ref 225) _ _) _ _ _)); first | (k_unfold; (try dsimp only)) | walk1 | (dsimp only; walk1) | (leave1; (try dsimp only)) | (refine Then.next hQ9 ?_; clear hQ9; (try clear Q9)) | (refine Then.ret hQ9 ?_; clear hQ9; (try clear Q9)) | (refine Then.brk hQ9 ?_; clear hQ9; (try clear Q9)) | (refine Then.cont hQ9 ?_; clear hQ9; (try clear Q9)) | fail "no step")
    refine' useL (stairs_tell _ _ _ _ _ _ _ _ _  hT hl hi hlen hoff hCL ?h0) ?q1 ?q2 ?q3 ?q4 ?q5 ?q6 ?q7 ?q8 ?_; (case q1 | q2 | q3 | q4 | q5 => k_asm); (case q6 => exact rfl); (case q7 => decide); (case q8 => decide); (case h0 => exact ⟨hb.1, Int.lt_of_le_of_lt hb.2 (by decide)⟩)
    clear hT
    intro o9 p225 h9 tk9 hT hp225 hq225 F9 N9
    replace hb := And.intro (Int.le_trans hb.1 hp225) (Int.le_trans hq225 (Int.add_le_add_right hb.2 _))
    (try dsimp only)
    (repeat' (first | (k_unfold; (try dsimp only)) | walk1 | (dsimp only; walk1) | (leave1; (try dsimp only)) | (refine Then.next hQ9 ?_; clear hQ9; (try clear Q9)) | (refine Then.ret hQ9 ?_; clear hQ9; (try clear Q9)) | (refine Then.brk hQ9 ?_; clear hQ9; (try clear Q9)) | (refine Then.cont hQ9 ?_; clear hQ9; (try clear Q9)) | fail "no step"))
    all_goals k_steps)
end Mine
theorem PySem.Challenge.cw_nz0134_01_holds : PySem.Challenge.rw_nz0134_01.Holds := by
  exact Mine.law_holds
