import PyProof.Rows.All
import Wide.All
import OpenK.AllK
import Wide.FinOn
import PySem.Challenge.RW_np0010_01
open PySem PySem.W PyProof.Rows
set_option Elab.async false
set_option linter.unusedVariables false
set_option compiler.extract_closed false
set_option linter.unusedSimpArgs false
set_option maxRecDepth 100000
set_option maxHeartbeats 8000000
namespace Mine
open_top hd for PySem.Challenge.rw_np0010_01
set_option rowWalk.seconds 0
set_option maxHeartbeats 2000000
section
abbrev Led := List (Addr × Obj)

/-- a call's contract: from a ledger, by its values, to a value and a ledger -/
def Con (w : World) (f : Addr) (args : List Value) (dn un' : Nat) (led : Led) (post : Value → Led → Prop) : Prop :=
  ∀ (mean : ExcName → Option Value) (mg mb : Str → Option Value) (dp un : Nat) (gd : Option (List Code)) (cn : Str) (cs : Scope) (a : Addr) (ccd : Value) (cl : List (Str × Addr)) (outer : List Env) (A₀ : Around) (base h₀ : Heap) (L : Addr) (m : Str → Option Value) (s : Shared)
    (Q E : Value → Shared → Prop),
    Below A₀ base outer h₀ → Fr h₀ L s.heap m → (hd.heap_39 w.params).In h₀ → News h₀ L s.heap led → Top hd.view_39 (looseW hd.view_39 [Str.ofString "NIL", Str.ofString "list_of"]) mean mg mb h₀ → cs.kind = .function →
    dp + dn < recursionLimit → un + un' < cLine →
    (∀ r led' h' tk', Fr h₀ L h' m → News h₀ L h' led' → post r led' → Q r { s with heap := h', toks := tk' }) →
    wpAny (model PySem.Challenge.rw_np0010_01.row.prog w) (ktrTop dp un gd cn cs L a ccd cl outer) (call (.ref f) args) Q E s

theorem Con.use {w : World} {f : Addr} {args : List Value} {dn un' : Nat} {led : Led} {post : Value → Led → Prop} (C : Con w f args dn un' led post)
    {mean : ExcName → Option Value} {mg mb : Str → Option Value} {dp un : Nat} {gd : Option (List Code)} {cn : Str} {cs : Scope} {a : Addr} {ccd : Value} {cl : List (Str × Addr)} {outer : List Env} {A₀ : Around} {base h₀ : Heap} {L : Addr} {m : Str → Option Value} {s : Shared} {Q E : Value → Shared → Prop}
    (B : Below A₀ base outer h₀) (F : Fr h₀ L s.heap m) (X : (hd.heap_39 w.params).In h₀) (N : News h₀ L s.heap led) (T : Top hd.view_39 (looseW hd.view_39 [Str.ofString "NIL", Str.ofString "list_of"]) mean mg mb h₀) (hk : cs.kind = .function)
    (hdn : dp + dn < recursionLimit) (hun : un + un' < cLine)
    (ret : ∀ r led' h' tk', Fr h₀ L h' m → News h₀ L h' led' → post r led' → Q r { s with heap := h', toks := tk' }) :
    wpAny (model PySem.Challenge.rw_np0010_01.row.prog w) (ktrTop dp un gd cn cs L a ccd cl outer) (call (.ref f) args) Q E s :=
  C _ _ _ _ _ _ _ _ _ _ _ _ _ _ _ _ _ _ _ _ B F X N T hk hdn hun ret

theorem toFill (w : World) : ∀ h, (hd.heap_39 w.params).In h → PySem.Challenge.rw_np0010_01 = PySem.Challenge.rw_np0010_01 := fun _ _ => rfl

section
variable {prog : Program} {w : World} {A : Around} {E : Value → Shared → Prop} {s : Shared} {a b : Int} {t u : Tok} {Q : Value → Shared → Prop}
theorem mod_gen (hb : 0 < b) (h : ∀ x, 0 ≤ x → x < b → Q (.int x s.toks) { s with toks := s.toks + 1 }) : wpAny (model prog w) A (binaryOp .Mod (.int a t) (.int b u)) Q E s :=
  mod_int' (by omega) (h _ (by rw [Int.fmod_eq_emod_of_nonneg _ (by omega)]; exact Int.emod_nonneg _ (by omega)) (by rw [Int.fmod_eq_emod_of_nonneg _ (by omega)]; exact Int.emod_lt_of_pos _ hb))
theorem mod_em (hb : 0 < b) (h : Q (.int (a % b) s.toks) { s with toks := s.toks + 1 }) : wpAny (model prog w) A (binaryOp .Mod (.int a t) (.int b u)) Q E s :=
  mod_int' (by omega) (by rw [Int.fmod_eq_emod_of_nonneg _ (by omega)]; exact h)
theorem mod_is {r : Int} (hb : 0 < b) (hr : a % b = r) (h : Q (.int r s.toks) { s with toks := s.toks + 1 }) : wpAny (model prog w) A (binaryOp .Mod (.int a t) (.int b u)) Q E s :=
  mod_em hb (by rw [hr]; exact h)
theorem mul_gen (h1 : -(2 ^ 64) < b) (h2 : b < 2 ^ 64) (h : ∀ x, Q (.int x s.toks) { s with toks := s.toks + 1 }) : wpAny (model prog w) A (binaryOp .Mult (.int a t) (.int b u)) Q E s :=
  PyProof.Rows.mul_int (h _) (IntMulOk.of_right (intBits_le_64 h1 h2))
theorem div_gen (hb : b ≠ 0) (hb' : b.natAbs < 1073741824) (h : ∀ x, Q (.int x s.toks) { s with toks := s.toks + 1 }) : wpAny (model prog w) A (binaryOp .FloorDiv (.int a t) (.int b u)) Q E s :=
  PyProof.Rows.floordiv_int hb (h _) (Or.inl (PyProof.noPylong_small hb'))
end
theorem allNe {d : Addr} : ∀ {l : Led}, AllLt d l → ∀ p ∈ l, p.1 ≠ d
  | [], _, _, hp => (nomatch hp)
  | q :: r, h, p, hp => by
    rcases List.mem_cons.mp hp with rfl | hp
    · exact Nat.ne_of_lt h.1
    · exact allNe h.2 p hp
theorem allLt {d : Addr} : ∀ {l : Led}, AllLt d l → ∀ p ∈ l, p.1 < d
  | [], _, _, hp => (nomatch hp)
  | q :: r, h, p, hp => by
    rcases List.mem_cons.mp hp with rfl | hp
    · exact h.1
    · exact allLt h.2 p hp
theorem dnle {a n b : Nat} (h : a + n < recursionLimit) (hb : 1 + b ≤ n) : a + 1 + b < recursionLimit := by omega
theorem unle {u n b : Nat} (h : u + n < cLine) (hb : 3 + b ≤ n) : u + 3 + b < cLine := by omega
theorem roomle {d n : Nat} (h : d + n < recursionLimit) : d < recursionLimit := by omega
theorem exE2 {P : Prop} {a1 a2 : Type} {p : a1 → a2 → Prop} (h : ∃ x1 x2, p x1 x2) (f : ∀ x1 x2, p x1 x2 → P) : P := by
  obtain ⟨x1, x2, h⟩ := h
  exact f x1 x2 h
theorem exE3 {P : Prop} {a1 a2 a3 : Type} {p : a1 → a2 → a3 → Prop} (h : ∃ x1 x2 x3, p x1 x2 x3) (f : ∀ x1 x2 x3, p x1 x2 x3 → P) : P := by
  obtain ⟨x1, x2, x3, h⟩ := h
  exact f x1 x2 x3 h
theorem exE4 {P : Prop} {a1 a2 a3 a4 : Type} {p : a1 → a2 → a3 → a4 → Prop} (h : ∃ x1 x2 x3 x4, p x1 x2 x3 x4) (f : ∀ x1 x2 x3 x4, p x1 x2 x3 x4 → P) : P := by
  obtain ⟨x1, x2, x3, x4, h⟩ := h
  exact f x1 x2 x3 x4 h
theorem exE5 {P : Prop} {a1 a2 a3 a4 a5 : Type} {p : a1 → a2 → a3 → a4 → a5 → Prop} (h : ∃ x1 x2 x3 x4 x5, p x1 x2 x3 x4 x5) (f : ∀ x1 x2 x3 x4 x5, p x1 x2 x3 x4 x5 → P) : P := by
  obtain ⟨x1, x2, x3, x4, x5, h⟩ := h
  exact f x1 x2 x3 x4 x5 h
theorem exE6 {P : Prop} {a1 a2 a3 a4 a5 a6 : Type} {p : a1 → a2 → a3 → a4 → a5 → a6 → Prop} (h : ∃ x1 x2 x3 x4 x5 x6, p x1 x2 x3 x4 x5 x6) (f : ∀ x1 x2 x3 x4 x5 x6, p x1 x2 x3 x4 x5 x6 → P) : P := by
  obtain ⟨x1, x2, x3, x4, x5, x6, h⟩ := h
  exact f x1 x2 x3 x4 x5 x6 h
theorem exE7 {P : Prop} {a1 a2 a3 a4 a5 a6 a7 : Type} {p : a1 → a2 → a3 → a4 → a5 → a6 → a7 → Prop} (h : ∃ x1 x2 x3 x4 x5 x6 x7, p x1 x2 x3 x4 x5 x6 x7) (f : ∀ x1 x2 x3 x4 x5 x6 x7, p x1 x2 x3 x4 x5 x6 x7 → P) : P := by
  obtain ⟨x1, x2, x3, x4, x5, x6, x7, h⟩ := h
  exact f x1 x2 x3 x4 x5 x6 x7 h
theorem exE8 {P : Prop} {a1 a2 a3 a4 a5 a6 a7 a8 : Type} {p : a1 → a2 → a3 → a4 → a5 → a6 → a7 → a8 → Prop} (h : ∃ x1 x2 x3 x4 x5 x6 x7 x8, p x1 x2 x3 x4 x5 x6 x7 x8) (f : ∀ x1 x2 x3 x4 x5 x6 x7 x8, p x1 x2 x3 x4 x5 x6 x7 x8 → P) : P := by
  obtain ⟨x1, x2, x3, x4, x5, x6, x7, x8, h⟩ := h
  exact f x1 x2 x3 x4 x5 x6 x7 x8 h
theorem exE10 {P : Prop} {a1 a2 a3 a4 a5 a6 a7 a8 a9 a10 : Type} {p : a1 → a2 → a3 → a4 → a5 → a6 → a7 → a8 → a9 → a10 → Prop} (h : ∃ x1 x2 x3 x4 x5 x6 x7 x8 x9 x10, p x1 x2 x3 x4 x5 x6 x7 x8 x9 x10) (f : ∀ x1 x2 x3 x4 x5 x6 x7 x8 x9 x10, p x1 x2 x3 x4 x5 x6 x7 x8 x9 x10 → P) : P := by
  obtain ⟨x1, x2, x3, x4, x5, x6, x7, x8, x9, x10, h⟩ := h
  exact f x1 x2 x3 x4 x5 x6 x7 x8 x9 x10 h
theorem andE3 {P q1 q2 q3 : Prop} (h : q1 ∧ q2 ∧ q3) (f : q1 → q2 → q3 → P) : P := f (h.1) (h.2.1) (h.2.2)
theorem andE4 {P q1 q2 q3 q4 : Prop} (h : q1 ∧ q2 ∧ q3 ∧ q4) (f : q1 → q2 → q3 → q4 → P) : P := f (h.1) (h.2.1) (h.2.2.1) (h.2.2.2)
theorem andE5 {P q1 q2 q3 q4 q5 : Prop} (h : q1 ∧ q2 ∧ q3 ∧ q4 ∧ q5) (f : q1 → q2 → q3 → q4 → q5 → P) : P := f (h.1) (h.2.1) (h.2.2.1) (h.2.2.2.1) (h.2.2.2.2)
theorem andE7 {P q1 q2 q3 q4 q5 q6 q7 : Prop} (h : q1 ∧ q2 ∧ q3 ∧ q4 ∧ q5 ∧ q6 ∧ q7) (f : q1 → q2 → q3 → q4 → q5 → q6 → q7 → P) : P := f (h.1) (h.2.1) (h.2.2.1) (h.2.2.2.1) (h.2.2.2.2.1) (h.2.2.2.2.2.1) (h.2.2.2.2.2.2)
theorem andE8 {P q1 q2 q3 q4 q5 q6 q7 q8 : Prop} (h : q1 ∧ q2 ∧ q3 ∧ q4 ∧ q5 ∧ q6 ∧ q7 ∧ q8) (f : q1 → q2 → q3 → q4 → q5 → q6 → q7 → q8 → P) : P := f (h.1) (h.2.1) (h.2.2.1) (h.2.2.2.1) (h.2.2.2.2.1) (h.2.2.2.2.2.1) (h.2.2.2.2.2.2.1) (h.2.2.2.2.2.2.2)
theorem andE9 {P q1 q2 q3 q4 q5 q6 q7 q8 q9 : Prop} (h : q1 ∧ q2 ∧ q3 ∧ q4 ∧ q5 ∧ q6 ∧ q7 ∧ q8 ∧ q9) (f : q1 → q2 → q3 → q4 → q5 → q6 → q7 → q8 → q9 → P) : P := f (h.1) (h.2.1) (h.2.2.1) (h.2.2.2.1) (h.2.2.2.2.1) (h.2.2.2.2.2.1) (h.2.2.2.2.2.2.1) (h.2.2.2.2.2.2.2.1) (h.2.2.2.2.2.2.2.2)
theorem andE10 {P q1 q2 q3 q4 q5 q6 q7 q8 q9 q10 : Prop} (h : q1 ∧ q2 ∧ q3 ∧ q4 ∧ q5 ∧ q6 ∧ q7 ∧ q8 ∧ q9 ∧ q10) (f : q1 → q2 → q3 → q4 → q5 → q6 → q7 → q8 → q9 → q10 → P) : P := f (h.1) (h.2.1) (h.2.2.1) (h.2.2.2.1) (h.2.2.2.2.1) (h.2.2.2.2.2.1) (h.2.2.2.2.2.2.1) (h.2.2.2.2.2.2.2.1) (h.2.2.2.2.2.2.2.2.1) (h.2.2.2.2.2.2.2.2.2)
theorem andE16 {P q1 q2 q3 q4 q5 q6 q7 q8 q9 q10 q11 q12 q13 q14 q15 q16 : Prop} (h : q1 ∧ q2 ∧ q3 ∧ q4 ∧ q5 ∧ q6 ∧ q7 ∧ q8 ∧ q9 ∧ q10 ∧ q11 ∧ q12 ∧ q13 ∧ q14 ∧ q15 ∧ q16) (f : q1 → q2 → q3 → q4 → q5 → q6 → q7 → q8 → q9 → q10 → q11 → q12 → q13 → q14 → q15 → q16 → P) : P := f (h.1) (h.2.1) (h.2.2.1) (h.2.2.2.1) (h.2.2.2.2.1) (h.2.2.2.2.2.1) (h.2.2.2.2.2.2.1) (h.2.2.2.2.2.2.2.1) (h.2.2.2.2.2.2.2.2.1) (h.2.2.2.2.2.2.2.2.2.1) (h.2.2.2.2.2.2.2.2.2.2.1) (h.2.2.2.2.2.2.2.2.2.2.2.1) (h.2.2.2.2.2.2.2.2.2.2.2.2.1) (h.2.2.2.2.2.2.2.2.2.2.2.2.2.1) (h.2.2.2.2.2.2.2.2.2.2.2.2.2.2.1) (h.2.2.2.2.2.2.2.2.2.2.2.2.2.2.2)
theorem andE21 {P q1 q2 q3 q4 q5 q6 q7 q8 q9 q10 q11 q12 q13 q14 q15 q16 q17 q18 q19 q20 q21 : Prop} (h : q1 ∧ q2 ∧ q3 ∧ q4 ∧ q5 ∧ q6 ∧ q7 ∧ q8 ∧ q9 ∧ q10 ∧ q11 ∧ q12 ∧ q13 ∧ q14 ∧ q15 ∧ q16 ∧ q17 ∧ q18 ∧ q19 ∧ q20 ∧ q21) (f : q1 → q2 → q3 → q4 → q5 → q6 → q7 → q8 → q9 → q10 → q11 → q12 → q13 → q14 → q15 → q16 → q17 → q18 → q19 → q20 → q21 → P) : P := f (h.1) (h.2.1) (h.2.2.1) (h.2.2.2.1) (h.2.2.2.2.1) (h.2.2.2.2.2.1) (h.2.2.2.2.2.2.1) (h.2.2.2.2.2.2.2.1) (h.2.2.2.2.2.2.2.2.1) (h.2.2.2.2.2.2.2.2.2.1) (h.2.2.2.2.2.2.2.2.2.2.1) (h.2.2.2.2.2.2.2.2.2.2.2.1) (h.2.2.2.2.2.2.2.2.2.2.2.2.1) (h.2.2.2.2.2.2.2.2.2.2.2.2.2.1) (h.2.2.2.2.2.2.2.2.2.2.2.2.2.2.1) (h.2.2.2.2.2.2.2.2.2.2.2.2.2.2.2.1) (h.2.2.2.2.2.2.2.2.2.2.2.2.2.2.2.2.1) (h.2.2.2.2.2.2.2.2.2.2.2.2.2.2.2.2.2.1) (h.2.2.2.2.2.2.2.2.2.2.2.2.2.2.2.2.2.2.1) (h.2.2.2.2.2.2.2.2.2.2.2.2.2.2.2.2.2.2.2.1) (h.2.2.2.2.2.2.2.2.2.2.2.2.2.2.2.2.2.2.2.2)
end
section
theorem stopHere {P : Prop} (h : id P) : P := h

theorem mem2 {α : Type} {p a b : α} {l : List α} (h : p ∈ l) : p ∈ a :: b :: l := .tail _ (.tail _ h)
theorem mem3 {α : Type} {p a b c : α} {l : List α} (h : p ∈ l) : p ∈ a :: b :: c :: l := .tail _ (mem2 h)
theorem mem4 {α : Type} {p a b c d : α} {l : List α} (h : p ∈ l) : p ∈ a :: b :: c :: d :: l := .tail _ (mem3 h)
theorem mem5 {α : Type} {p a b c d e : α} {l : List α} (h : p ∈ l) : p ∈ a :: b :: c :: d :: e :: l := .tail _ (mem4 h)
/-- the dict of one cell -/
abbrev consD (w : World) (x : Value) (v : Value) (t1 t2 : Tok) : Obj :=
  dictOf [⟨PyData.keyHash w.params (Str.ofString "car"), .str (Str.ofString "car") t1, x⟩, ⟨PyData.keyHash w.params (Str.ofString "cdr"), .str (Str.ofString "cdr") t2, v⟩] 2

structure Cell where
  a : Addr
  d : Addr
  x : Int

/-- the ledger bears the chain c at v -/
inductive ChainIn (w : World) (led : Led) : Value → List Cell → Prop
  | nil : ChainIn w led (.ref 64) []
  | cons {a d : Addr} {x : Int} {tx : Tok} {v : Value} {t1 t2 : Tok} {c : List Cell} :
      (a, instObj 82 d) ∈ led → (d, consD w (.int x tx) v t1 t2) ∈ led → ChainIn w led v c → ChainIn w led (.ref a) (⟨a, d, x⟩ :: c)

theorem ChainIn.mono {w : World} {led led' : Led} {v : Value} {c : List Cell} (h : ChainIn w led v c) (hs : ∀ p ∈ led, p ∈ led') : ChainIn w led' v c := by
  induction h with
  | nil => exact .nil
  | cons h1 h2 _ ih => exact .cons (hs _ h1) (hs _ h2) ih

theorem ChainIn.ref {w : World} {led : Led} {v : Value} {c : List Cell} (h : ChainIn w led v c) : ∃ a, v = .ref a := by
  cases h <;> exact ⟨_, rfl⟩

theorem ChainIn.uncons {w : World} {led : Led} {v : Value} {q : Cell} {c : List Cell} (h : ChainIn w led v (q :: c)) :
    v = .ref q.a ∧ ∃ v' tx t1 t2, (q.a, instObj 82 q.d) ∈ led ∧ (q.d, consD w (.int q.x tx) v' t1 t2) ∈ led ∧ ChainIn w led v' c := by
  cases h with
  | cons h1 h2 h3 => exact ⟨rfl, _, _, _, _, h1, h2, h3⟩

theorem ChainIn.drop {w : World} {led : Led} : ∀ {c : List Cell} {v : Value} (n : Nat), ChainIn w led v c → n ≤ c.length → ∃ v', ChainIn w led v' (c.drop n)
  | _, v, 0, h, _ => ⟨v, h⟩
  | [], _, n + 1, _, hn => by simp at hn
  | _ :: c, _, n + 1, h, hn => by
    obtain ⟨_, v', _, _, _, _, _, h3⟩ := h.uncons
    exact h3.drop n (by simpa using hn)

/-- a name's map, with some of its values written out -/
def bnd (ps : List (Str × Value)) (m : Str → Option Value) : Str → Option Value := fun z =>
  match ps.lookup z with
  | some v => some v
  | none => m z

theorem bnd_eq {ps : List (Str × Value)} {m : Str → Option Value} (h : ∀ p ∈ ps, m p.1 = some p.2) : bnd ps m = m := by
  funext z
  unfold bnd
  cases e : ps.lookup z with
  | none => rfl
  | some v =>
    have : (z, v) ∈ ps := by
      clear h
      induction ps with
      | nil => simp at e
      | cons p r ih =>
        obtain ⟨k, u⟩ := p
        rw [List.lookup_cons] at e
        by_cases hk : z == k
        · simp only [hk] at e
          have := eq_of_beq hk
          subst this
          cases e
          exact .head _
        · simp only [hk] at e
          exact .tail _ (ih e)
    exact (h _ this).symm

theorem Fr.bnd {h₀ h : Heap} {L : Addr} {m : Str → Option Value} (F : Fr h₀ L h m) (ps : List (Str × Value)) (hp : ∀ p ∈ ps, m p.1 = some p.2) : Fr h₀ L h (bnd ps m) := by
  rw [bnd_eq hp]; exact F

theorem News.sub {h₀ h : Heap} {L : Addr} {l l' : Led} (N : News h₀ L h l) (hs : ∀ p ∈ l', p ∈ l) : News h₀ L h l' := fun p hp => N p (hs p hp)

theorem News.same {h₀ h : Heap} {L a : Addr} {o o' : Obj} {l : Led} (N : News h₀ L h l) (h1 : (a, o) ∈ l) (h2 : (a, o') ∈ l) : o = o' := by
  have e1 := (N _ h1).1
  have e2 := (N _ h2).1
  rw [e1] at e2
  exact Option.some.inj e2
/-- what no ledger of objects says twice -/
def Fun1 (led : Led) : Prop := ∀ a o o', (a, o) ∈ led → (a, o') ∈ led → o = o'
theorem News.fun1 {h₀ h : Heap} {L : Addr} {l : Led} (N : News h₀ L h l) : Fun1 l := fun _ _ _ h1 h2 => News.same N h1 h2

theorem ChainIn.det {w : World} {led : Led} (hf : Fun1 led) (hn : ∀ d, (64, instObj 82 d) ∉ led) : ∀ {c c' : List Cell} {v : Value}, ChainIn w led v c → ChainIn w led v c' → c = c' := by
  intro c c' v h
  induction h generalizing c' with
  | nil =>
    intro h'
    cases h' with
    | nil => rfl
    | cons h1 _ _ => exact absurd h1 (hn _)
  | @cons a d x tx v t1 t2 c h1 h2 h3 ih =>
    intro h'
    cases h' with
    | nil => exact absurd h1 (hn _)
    | @cons _ d' x' tx' v' t1' t2' c'' g1 g2 g3 =>
      have e := hf _ _ _ h1 g1
      have ed : d = d' := by
        have := congrArg Obj.dict e
        simpa using this
      subst ed
      have e2 := hf _ _ _ h2 g2
      have e3 := congrArg Obj.data e2
      injection e3 with e4 _
      have e5 := congrArg Array.toList e4
      simp only [List.cons.injEq, DictEntry.mk.injEq, Value.int.injEq, true_and, and_true] at e5
      obtain ⟨⟨_, hx, _⟩, _, hv⟩ := e5
      subst hx
      subst hv
      rw [ih g3]

def SolidAt (h : Heap) (a : Addr) : Prop := ∃ o, h.get? a = some o ∧ o.cls ≠ .type "tuple"
section
variable {M : Model} {A : Around} {E : Value → Shared → Prop} {s : Shared} {Q : Value → Shared → Prop} {x y : Addr}
theorem is_two (h1 : SolidAt s.heap x) (h2 : SolidAt s.heap y) (ht : x = y → Q (.bool true) s) (hf : x ≠ y → Q (.bool false) s) : wpAny M A (compareOp .Is (.ref x) (.ref y)) Q E s := by
  by_cases e : x = y
  · subst e
    exact wpAny_is_ref_self (ht rfl)
  · obtain ⟨o1, a1, b1⟩ := h1
    obtain ⟨o2, a2, b2⟩ := h2
    exact wpAny_is_ref_other e a1 a2 b1 (hf e)
theorem isNot_two (h1 : SolidAt s.heap x) (h2 : SolidAt s.heap y) (ht : x = y → Q (.bool false) s) (hf : x ≠ y → Q (.bool true) s) : wpAny M A (compareOp .IsNot (.ref x) (.ref y)) Q E s := by
  by_cases e : x = y
  · subst e
    exact wpAny_isNot_ref_self (ht rfl)
  · obtain ⟨o1, a1, b1⟩ := h1
    obtain ⟨o2, a2, b2⟩ := h2
    exact wpAny_isNot_ref_other e a1 a2 b1 (hf e)
end
theorem nilObj (P : Params) : ∃ o, (hd.heap_39 P).lookup 64 = some o ∧ o.cls ≠ .type "tuple" := ⟨_, rfl, by intro e; cases e⟩
theorem SolidAt.nil {w : World} {h : Heap} (X : (hd.heap_39 w.params).In h) : SolidAt h 64 := by
  obtain ⟨o, h1, h2⟩ := nilObj w.params
  exact ⟨o, X _ _ h1, h2⟩
theorem SolidAt.news {h₀ h : Heap} {L a : Addr} {o : Obj} {l : Led} (N : News h₀ L h l) (hm : (a, o) ∈ l) (ho : o.cls ≠ .type "tuple") : SolidAt h a := ⟨o, (N _ hm).1, ho⟩
theorem ChainIn.solid {w : World} {h₀ h : Heap} {L a : Addr} {l l' : Led} {c : List Cell} (H : ChainIn w l (.ref a) c) (N : News h₀ L h l') (X : (hd.heap_39 w.params).In h) (hs : ∀ p ∈ l, p ∈ l') : SolidAt h a := by
  cases H with
  | nil => exact .nil X
  | cons h1 _ _ => exact .news N (hs _ h1) (by intro e; cases e)
theorem noNil {w : World} {h₀ h : Heap} {L : Addr} {l : Led} (N : News h₀ L h l) (X : (hd.heap_39 w.params).In h₀) : ∀ d, (64, instObj 82 d) ∉ l := by
  intro d hm
  obtain ⟨o, h1, _⟩ := nilObj w.params
  have := (N _ hm).2.2
  rw [X _ _ h1] at this
  cases this
theorem ChainIn.at {w : World} {led : Led} {v : Value} {c : List Cell} (h : ChainIn w led v c) : ∀ {i : Nat} {q : Cell}, c[i]? = some q →
    ∃ v' tx t1 t2, (q.a, instObj 82 q.d) ∈ led ∧ (q.d, consD w (.int q.x tx) v' t1 t2) ∈ led ∧ ChainIn w led v' (c.drop (i + 1)) := by
  induction h with
  | nil => intro i q e; simp at e
  | cons h1 h2 h3 ih =>
    intro i q e
    cases i with
    | zero =>
      simp only [List.getElem?_cons_zero, Option.some.injEq] at e
      subst e
      exact ⟨_, _, _, _, h1, h2, h3⟩
    | succ i =>
      simp only [List.getElem?_cons_succ] at e
      exact ih e
theorem my_item {prog : Program} {w : World} {A : Around} {E : Value → Shared → Prop} {s : Shared} {value slice : PySem.Expr} {l : Addr} {vs : Array Value} {k : Int} {u : Tok} {v : Value} {Q : Value → Shared → Prop}
    (hl : s.heap.IsList l vs) (h0 : 0 ≤ k) (hhi : k < 2 ^ 63) (hx : vs[k.toNat]? = some v) (h : Q v s)
    (hs : subscripted slice false (.ref l) (.int k u) = operate [.ref l, .int k u] (getItem (.ref l) (.int k u)) := by with_unfolding_all rfl) :
    wpAny (model prog w) A (subscriptTail value slice (.ref l) (.int k u)) Q E s :=
  tail_any hl.typeIs slot_list_getitem.lookup (wpAny_getItem_list hl h0 hhi (by simpa using hx) h) hs
theorem ChainIn.mem {w : World} {led : Led} {v : Value} {c : List Cell} (h : ChainIn w led v c) : ∀ e ∈ c, (e.a, instObj 82 e.d) ∈ led ∧ ∃ o, (e.d, o) ∈ led := by
  induction h with
  | nil => intro e he; simp at he
  | cons h1 h2 _ ih =>
    intro e he
    rcases List.mem_cons.mp he with rfl | he
    · exact ⟨h1, _, h2⟩
    · exact ih e he
theorem swap3 {α : Type} {a b c : α} (l : List α) : ∀ p ∈ c :: a :: b :: l, p ∈ a :: b :: c :: l := by
  intro p hp
  simp only [List.mem_cons] at hp ⊢
  rcases hp with h | h | h | h <;> simp [h]
theorem my_itemL {prog : Program} {w : World} {A : Around} {E : Value → Shared → Prop} {s : Shared} {value slice : PySem.Expr} {l : Addr} {vs : Array Value} {k : Int} {u : Tok} {v : Value} {Q : Value → Shared → Prop}
    (hl : s.heap.IsList l vs) (h0 : 0 ≤ k) (hhi : k < 2 ^ 63) (hx : vs.toList[k.toNat]? = some v) (h : Q v s)
    (hs : subscripted slice false (.ref l) (.int k u) = operate [.ref l, .int k u] (getItem (.ref l) (.int k u)) := by with_unfolding_all rfl) :
    wpAny (model prog w) A (subscriptTail value slice (.ref l) (.int k u)) Q E s :=
  my_item hl h0 hhi (by rw [← Array.getElem?_toList]; exact hx) h hs
end
section
def LpEnd (h₀ : Heap) (L I : Addr) (oI : Obj) (J : (Str → Option Value) → Led → Prop) (s₁ s₂ : Shared) : Prop :=
  ∃ h' tk m' nx, s₂ = { s₁ with heap := h', toks := tk } ∧ Fr h₀ L h' m' ∧ News h₀ L h' ((I, oI) :: nx) ∧ (∀ p ∈ nx, p.1 ≠ I) ∧ J m' nx
def LpPost (h₀ : Heap) (L I : Addr) (oI : Obj) (J : (Str → Option Value) → Led → Prop) (s₁ : Shared) (Q : Flow → Shared → Prop) (f : Flow) (s₂ : Shared) : Prop :=
  match f with
  | .ret v => Q (.ret v) s₂
  | .brk => Q .next s₂
  | _ => LpEnd h₀ L I oI J s₁ s₂
section
variable {prog : Program} {w : World} {A : Around} {E : Value → Shared → Prop} {s : Shared} {env : Env} {h₀ : Heap} {x : Str} {body : List Stmt} {Q : Flow → Shared → Prop}
theorem range_inv {r : Addr} {a₀ b₀ st : Int} {t₀ u₀ v₀ : Tok} {n : Nat} {m₀ : Str → Option Value} {news : Led} (J : Nat → (Str → Option Value) → Led → Prop)
    (hh : A.handled = none) (hr : IsRange s.heap r a₀ b₀ st t₀ u₀ v₀) (hsmall : Builtin.Range.small a₀ b₀ st = true) (hn : Builtin.Range.rangeSize a₀ b₀ st = (n : Int)) (F : Fr h₀ env.locals s.heap m₀) (N : News h₀ env.locals s.heap news) (hj : J 0 m₀ news)
    (turn : ∀ I oI (i : Nat) t m₁ nx h tk, i < n → J i m₁ nx → (∀ p ∈ nx, p.1 ≠ I) → Fr h₀ env.locals h (fun y => if y = x then some (.int (a₀ + i * st) t) else m₁ y) → News h₀ env.locals h ((I, oI) :: nx) →
      wpAny (model prog w) A (execs body env) (LpPost h₀ env.locals I oI (J (i + 1)) { s with heap := h, toks := tk } Q) E { s with heap := h, toks := tk })
    (done : ∀ m₁ nx h tk, J n m₁ nx → Fr h₀ env.locals h m₁ → News h₀ env.locals h nx → Q .next { s with heap := h, toks := tk }) :
    wpAny (model prog w) A (pyIter (.ref r)) (fun it s₂ => LoopAtV prog w A h₀ env x body Q E it s₂) E s := by
  refine wpAny_pyIter_range hr hsmall ?_
  have W : Walks prog w A s.heap.objs.size [s.heap.objs.size] [s.heap.objs.size] n (fun i v => i < n ∧ ∃ t, v = .int (a₀ + i * st) t)
      (fun i h => IsRangeIter h s.heap.objs.size (a₀ + (i : Nat) * st) ((n : Int) - (i : Nat)) st) := (Walks.range hh _ a₀ st n).bound
  refine ⟨_, _, _, n, _, _, m₀, news, J, rfl, W, ?_, ?_, ?_, ?_, F.push _, (fun p hp => ⟨Heap.get?_push_of_some _ (N p hp).1, (N p hp).2⟩), hj, ?_, ?_⟩
  · intro hm
    exact absurd F.ns.lt ((List.mem_singleton.mp hm) ▸ Nat.lt_irrefl _)
  · intro b hb
    rw [List.mem_singleton.mp hb]
    exact next_is_new F
  · intro p hp hI
    exact absurd (Heap.lt_size (N p hp).1) ((List.mem_singleton.mp hI) ▸ Nat.lt_irrefl _)
  · show IsRangeIter _ _ _ _ _
    rw [hn]
    simpa using Heap.get?_push_size _ rfl
  · rintro i v m₁ news₁ s₁ own ⟨hh', tk', rfl⟩ hin ⟨_, t, rfl⟩ hJ hoff hown hget hmem hst F₁ N₁
    obtain ⟨oi, hst'⟩ : ∃ oi, hh'.get? s.heap.objs.size = some oi := ⟨_, hst⟩
    have hI : (s.heap.objs.size, oi) ∈ own := hmem _ (.head _) (next_is_new F) _ hst'
    have hsub : ∀ p ∈ own, p = (s.heap.objs.size, oi) := fun p hp => by
      have h1 := List.mem_singleton.mp (hown p hp)
      have h2 := hget p hp
      rw [h1] at h2
      simp only at h2
      rw [hst'] at h2
      obtain ⟨p1, p2⟩ := p
      simp only at h1 h2
      rw [h1, ← Option.some.inj h2]
    have N₂ : News h₀ env.locals hh' ((s.heap.objs.size, oi) :: news₁) := fun p hp => by
      rcases List.mem_cons.mp hp with rfl | hp
      · exact N₁ _ (List.mem_append.mpr (.inl hI))
      · exact N₁ _ (List.mem_append.mpr (.inr hp))
    refine wpAny_mono (turn s.heap.objs.size oi i t m₁ news₁ hh' tk' hin hJ (fun p hp q => hoff p hp (List.mem_singleton.mpr q)) F₁ N₂) (fun f s₂ p => ?_) fun _ _ e => e
    have fin : LpEnd h₀ env.locals s.heap.objs.size oi (J (i + 1)) { s with heap := hh', toks := tk' } s₂ → LoopStepU h₀ env.locals [s.heap.objs.size] own (J (i + 1)) { s with heap := hh', toks := tk' } .next s₂ := by
      rintro ⟨h', tk, m', nx, e, F', N', ha, hm⟩
      refine ⟨rfl, h', tk, m', nx, e, F', fun p hp => ?_, fun p hp hq => ha p hp (List.mem_singleton.mp hq), hm⟩
      rcases List.mem_append.mp hp with hp | hp
      · rw [hsub p hp]; exact N' _ (.head _)
      · exact N' _ (.tail _ hp)
    cases f with
    | ret v => exact .ret p
    | brk => exact .brk p
    | next => exact .next (fin p)
    | cont => exact .cont (fin p)
  · rintro h' tk m' news' F' N' _ hJ
    exact done m' news' h' tk hJ F' N'
end
end
local macro_rules | `(tactic| k_room) => `(tactic| ktr_room)
local macro_rules | `(tactic| k_all) => `(tactic| first | assumption | exact allNe (by assumption))
local macro_rules | `(tactic| k_mem) => `(tactic| first | ktr_member | (refine' List.mem_cons_of_mem _ ?_; ktr_member) | (refine' mem2 ?_; ktr_member) | (refine' mem3 ?_; ktr_member) | (refine' mem4 ?_; ktr_member) | (refine' mem5 ?_; ktr_member))
local macro_rules | `(tactic| walk_at "call ref") => `(tactic| k_dflt (k_extra "call ref"))
local macro_rules | `(tactic| walk_at "call builtin:len") => `(tactic| k_dflt (k_extra "call builtin:len"))
local macro_rules | `(tactic| walk_at "binaryOp Mod int int") => `(tactic| k_dflt (k_extra "binaryOp Mod int int"))
local macro_rules | `(tactic| walk_at "pyIter ref") => `(tactic| k_dflt (k_extra "pyIter ref"))
local macro_rules | `(tactic| walk_at "subscriptTail") => `(tactic| k_dflt (k_extra "subscriptTail"))
section
local macro_rules | `(tactic| k_room) => `(tactic| exact roomle (by assumption))
local macro_rules | `(tactic| units_room) => `(tactic| exact unle (by assumption) (by decide))
local macro_rules | `(tactic| size_fits) => `(tactic| exact Nat.le_of_ble_eq_true rfl)
section
theorem draw_con (w : World) (D C : Addr) (k : Int) (t : Tok) (n n' : Nat) (vs : List Value) (ns : List Int) (many : Int) (tm : Tok) (led : Led)
    (hv : IntsAre vs ns) (hk : 0 ≤ k) (hk' : k < 1000) (hm : 0 < many) (hm' : many < 100)
    (hl0 : 0 < ns.length) (hlen : ns.length ≤ 64) (hDC : @Ne Nat C D) (hoff : ∀ p ∈ led, p.1 ≠ D) :
    Con w 155 [.ref D, .int many tm] 5 40 ((D, listOf #[.ref C, .int k t] n) :: (C, listOf vs.toArray n') :: led)
      (fun r led' => ∃ x tx t' n2, r = .int x tx ∧ 0 ≤ x ∧ x < many ∧ led' = (D, listOf #[.ref C, .int (k + 1) t'] n2) :: (C, listOf vs.toArray n') :: led) := by
  have hll := hv.length
  k_with_none
  unfold Con
  intro mean mg mb dp un gd cn cs a ccd cl outer A₀ base h₀ L m s Q E B F X N T hk9 hd9 hu9 hret
  refine wpAny_call ?_
  k_dflt ktr_enter
  k_with "binaryOp Mod int int" => (with_reducible refine mod_gen ?hb ?_); (case hb => omega); intro x9 hx9 hy9
  k_with "binaryOp Mult int int" => (with_reducible refine mul_gen ?h1 ?h2 ?_); (case h1 => omega); (case h2 => omega); intro x9
  k_with "binaryOp FloorDiv int int" => (with_reducible refine div_gen (by decide) (by decide) ?_); intro x9
  (repeat' (first | (k_unfold; (try dsimp only)) | (k_end; wrow_close) | (walk1; (all_goals (try dsimp only))) | (dsimp only; walk1) | ((simp only [List.cons_append, List.nil_append]); walk1) | (leave1; walk_say "STEP leave1"; try dsimp only) | fail "no step"))
  all_goals exact hret _ _ _ _ (by assumption) (by assumption) ⟨_, _, _, _, rfl, by assumption, by assumption, rfl⟩
end
section
theorem split_con (w : World) (led : Led) (v : Value) (c : List Cell) (hc : ChainIn w led v c) (hlen : c.length ≤ 99)
    (ha : (c.map (·.a)).Nodup) :
    Con w 101 [v] 5 40 led
      (fun r led' => ∃ T X vals n n', r = .ref T ∧ led' = (T, ({ cls := .type "tuple", data := .seq #[.ref X, .ref 64] n } : Obj)) :: (X, listOf vals.toArray n') :: led ∧ IntsAre vals (c.map (·.x))) := by
  k_with_none
  unfold Con
  intro mean mg mb dp un gd cn cs a ccd cl outer A₀ base h₀ L m s Q E B F X N T hk9 hd9 hu9 hret
  refine wpAny_call ?_
  k_dflt ktr_enter
  k_with "exec While Call cons nil" => refine stopHere ?_
  (repeat' (first | (k_unfold; (try dsimp only)) | (k_end; wrow_close) | (walk1; (all_goals (try dsimp only))) | (dsimp only; walk1) | ((simp only [List.cons_append, List.nil_append]); walk1) | (leave1; walk_say "STEP leave1"; try dsimp only) | fail "no step"))
  unfold id
  rename_i tk0 X1 h1 hlt h2 tk2 h3 tk3 h' F' N'
  have hne : ∀ p ∈ led, p.1 ≠ X1 := fun p hp => Nat.ne_of_lt (hlt p hp)
  refine While_inv2 (fun n m₁ news₁ => ∃ (k : Nat) (va vs : Value) (vals : List Value) (nn : Nat), news₁ = (X1, listOf vals.toArray nn) :: led ∧ k + n = c.length ∧ m₁ (Str.ofString "at") = some va ∧ m₁ (Str.ofString "slow") = some vs ∧ m₁ (Str.ofString "things") = some (.ref X1) ∧ ChainIn w led va (c.drop k) ∧ ChainIn w led vs (c.drop (k / 2)) ∧ IntsAre vals ((c.take k).map (·.x))) F' N' (n₀ := c.length) ⟨0, v, v, [], 0, rfl, by omega, rfl, rfl, rfl, hc, (by simpa using hc), .nil⟩ ?_
  intro n m₁ news₁ h₁ tk₁ F₁ N₁ hP9
  refine exE5 hP9 ?_
  clear hP9
  intro k va vs vals nn hP9
  refine andE8 hP9 ?_
  clear hP9
  rintro rfl hkn h1 h2 h3 hA hS hI
  replace F₁ := Fr.bnd F₁ [(Str.ofString "at", va), (Str.ofString "slow", vs), (Str.ofString "things", .ref X1)] (by simp [h1, h2, h3])
  have hno : ∀ d, (64, instObj 82 d) ∉ led := noNil N X
  have hf1 : Fun1 led := News.fun1 N
  rcases n with _ | n
  · have e : c.drop k = [] := by rw [List.drop_eq_nil_iff]; omega
    have e2 : c.take k = c := by rw [List.take_of_length_le]; omega
    rw [e2] at hI
    rw [e] at hA
    cases hA
    (repeat' (first | (k_unfold; (try dsimp only)) | (k_end; wrow_close) | (walk1; (all_goals (try dsimp only))) | (dsimp only; walk1) | ((simp only [List.cons_append, List.nil_append]); walk1) | (leave1; walk_say "STEP leave1"; try dsimp only) | fail "no step"))
    exact hret _ _ _ _ (by assumption) (by assumption) ⟨_, _, _, _, _, rfl, rfl, hI⟩
  · obtain ⟨q, hq⟩ : ∃ q, c.drop k = q :: c.drop (k + 1) := ⟨_, List.drop_eq_getElem_cons (by omega)⟩
    rw [hq] at hA
    obtain ⟨rfl, va', tx, t1, t2, hm1, hm2, hA'⟩ := hA.uncons
    obtain ⟨b1, rfl⟩ := hA'.ref
    obtain ⟨q2, hq2⟩ : ∃ q, c.drop (k / 2) = q :: c.drop (k / 2 + 1) := ⟨_, List.drop_eq_getElem_cons (by omega)⟩
    have hS0 := hS
    rw [hq2] at hS
    obtain ⟨rfl, vs', tx2, t3, t4, hm3, hm4, hS'⟩ := hS.uncons
    obtain ⟨b2, rfl⟩ := hS'.ref
    have hlv := hI.length
    have hlk : ((c.take k).map (·.x)).length = k := by simp; omega
    have hI' : IntsAre (vals ++ [.int q.x tx]) ((c.take (k + 1)).map (·.x)) := by
      have e : c.take (k + 1) = c.take k ++ [q] := by
        rw [List.take_add_one]
        have : c[k]? = some q := by rw [← List.head?_drop, hq]; rfl
        rw [this]; rfl
      rw [e, List.map_append]
      exact hI.append (.cons _ _ .nil)
    have hz9 : vals.toArray.size ≤ sizeLine := by rw [sizeLine_eq, List.size_toArray]; omega
    k_with "call builtin:len" => k_dflt (refine' kun_lenL (k := (k : Int) + 1) ?k1 ?k2 ?k3 ?_; (case k1 => exact News.isList (by k_asm) (by k_mem)); (case k2 => (simp; omega)); (case k3 => omega))
    k_with "binaryOp Mod int int" => (with_reducible refine mod_em ?hb ?_); (case hb => omega)
    k_with "compareOp Is ref ref" => ((refine is_two ?s1 ?s2 ?ht ?_); (case s1 => exact hA'.solid (by k_asm) (by k_in) (by (first | exact fun _ h => h | exact fun _ h => .tail _ h | exact fun _ h => .tail _ (.tail _ h) | exact fun _ h => .tail _ (.tail _ (.tail _ h)) | exact fun _ h => .tail _ (.tail _ (.tail _ (.tail _ h))) | exact fun _ h => .tail _ (.tail _ (.tail _ (.tail _ (.tail _ h)))) | exact fun _ h => .tail _ (.tail _ (.tail _ (.tail _ (.tail _ (.tail _ h))))) | exact fun _ h => .tail _ (.tail _ (.tail _ (.tail _ (.tail _ (.tail _ (.tail _ h)))))) | exact fun _ h => .tail _ (.tail _ (.tail _ (.tail _ (.tail _ (.tail _ (.tail _ (.tail _ h))))))) | exact fun _ h => .tail _ (.tail _ (.tail _ (.tail _ (.tail _ (.tail _ (.tail _ (.tail _ (.tail _ h)))))))) | exact fun _ h => .tail _ (.tail _ (.tail _ (.tail _ (.tail _ (.tail _ (.tail _ (.tail _ (.tail _ (.tail _ h))))))))) | exact fun _ h => .tail _ (.tail _ (.tail _ (.tail _ (.tail _ (.tail _ (.tail _ (.tail _ (.tail _ (.tail _ (.tail _ h)))))))))) | exact fun _ h => .tail _ (.tail _ (.tail _ (.tail _ (.tail _ (.tail _ (.tail _ (.tail _ (.tail _ (.tail _ (.tail _ (.tail _ h))))))))))) | exact fun _ h => .tail _ (.tail _ (.tail _ (.tail _ (.tail _ (.tail _ (.tail _ (.tail _ (.tail _ (.tail _ (.tail _ (.tail _ (.tail _ h)))))))))))) | exact fun _ h => .tail _ (.tail _ (.tail _ (.tail _ (.tail _ (.tail _ (.tail _ (.tail _ (.tail _ (.tail _ (.tail _ (.tail _ (.tail _ (.tail _ h))))))))))))) | (intro p hp; simp [hp])))); (case s2 => exact hS'.solid (by k_asm) (by k_in) (by (first | exact fun _ h => h | exact fun _ h => .tail _ h | exact fun _ h => .tail _ (.tail _ h) | exact fun _ h => .tail _ (.tail _ (.tail _ h)) | exact fun _ h => .tail _ (.tail _ (.tail _ (.tail _ h))) | exact fun _ h => .tail _ (.tail _ (.tail _ (.tail _ (.tail _ h)))) | exact fun _ h => .tail _ (.tail _ (.tail _ (.tail _ (.tail _ (.tail _ h))))) | exact fun _ h => .tail _ (.tail _ (.tail _ (.tail _ (.tail _ (.tail _ (.tail _ h)))))) | exact fun _ h => .tail _ (.tail _ (.tail _ (.tail _ (.tail _ (.tail _ (.tail _ (.tail _ h))))))) | exact fun _ h => .tail _ (.tail _ (.tail _ (.tail _ (.tail _ (.tail _ (.tail _ (.tail _ (.tail _ h)))))))) | exact fun _ h => .tail _ (.tail _ (.tail _ (.tail _ (.tail _ (.tail _ (.tail _ (.tail _ (.tail _ (.tail _ h))))))))) | exact fun _ h => .tail _ (.tail _ (.tail _ (.tail _ (.tail _ (.tail _ (.tail _ (.tail _ (.tail _ (.tail _ (.tail _ h)))))))))) | exact fun _ h => .tail _ (.tail _ (.tail _ (.tail _ (.tail _ (.tail _ (.tail _ (.tail _ (.tail _ (.tail _ (.tail _ (.tail _ h))))))))))) | exact fun _ h => .tail _ (.tail _ (.tail _ (.tail _ (.tail _ (.tail _ (.tail _ (.tail _ (.tail _ (.tail _ (.tail _ (.tail _ (.tail _ h)))))))))))) | exact fun _ h => .tail _ (.tail _ (.tail _ (.tail _ (.tail _ (.tail _ (.tail _ (.tail _ (.tail _ (.tail _ (.tail _ (.tail _ (.tail _ (.tail _ h))))))))))))) | (intro p hp; simp [hp])))); (case ht => (intro e9; exfalso; subst e9; (have e8 := congrArg List.length (hA'.det hf1 hno hS')); simp only [List.length_drop] at e8; omega)); intro e9)
    (repeat' (first | (k_unfold; (try dsimp only)) | (k_end; wrow_close) | (walk1; (all_goals (try dsimp only))) | (dsimp only; walk1) | ((simp only [List.cons_append, List.nil_append]); walk1) | (leave1; walk_say "STEP leave1"; try dsimp only) | fail "no step"))
    · rename News _ _ _ ((X1, _) :: led) => N9
      simp only [List.push_toArray] at N9
      refine ⟨_, _, _, _, n, rfl, by assumption, N9, by omega, k + 1, .ref b1, .ref b2, vals ++ [.int q.x tx], _, rfl, by omega, rfl, rfl, rfl, hA', ?_, hI'⟩
      rw [show (k + 1) / 2 = k / 2 + 1 by omega]
      exact hS'
    · rename News _ _ _ ((X1, _) :: led) => N9
      simp only [List.push_toArray] at N9
      refine ⟨_, _, _, _, n, rfl, by assumption, N9, by omega, k + 1, .ref b1, .ref q2.a, vals ++ [.int q.x tx], _, rfl, by omega, rfl, rfl, rfl, hA', ?_, hI'⟩
      rw [show (k + 1) / 2 = k / 2 by omega, hq2]
      exact hS
end
section
theorem whole_con (w : World) (led : Led) (x : Int) (tx : Tok) :
    Con w 108 [.int x tx] 3 20 led (fun r led' => led = led' ∧ r = .bool true) := by
  k_with_none
  unfold Con
  intro mean mg mb dp un gd cn cs a ccd cl outer A₀ base h₀ L m s Q E B F X N T hk9 hd9 hu9 hret
  refine wpAny_call ?_
  k_dflt ktr_enter
  (repeat' (first | (k_unfold; (try dsimp only)) | (k_end; wrow_close) | (walk1; (all_goals (try dsimp only))) | (dsimp only; walk1) | ((simp only [List.cons_append, List.nil_append]); walk1) | (leave1; walk_say "STEP leave1"; try dsimp only) | fail "no step"))
  all_goals exact hret _ _ _ _ (by assumption) (by assumption) ⟨rfl, rfl⟩
theorem eq_con (w : World) (led : Led) (x y : Int) (tx ty : Tok) :
    Con w 115 [.int x tx, .int y ty] 5 40 led (fun r led' => led = led' ∧ r = .bool (x == y)) := by
  k_with_none
  unfold Con
  intro mean mg mb dp un gd cn cs a ccd cl outer A₀ base h₀ L m s Q E B F X N T hk9 hd9 hu9 hret
  refine wpAny_call ?_
  k_dflt ktr_enter
  k_with "call ref" => ((refine' Con.use (whole_con w _ _ _) ?B ?F ?X ?N ?T ?hk ?hd ?hu ?_); (((case B => k_asm); (case F => k_asm); (case X => k_asm); (case N => k_asm); (case T => k_asm); (case hk => rfl); (case hd => first | exact dnle (by assumption) (by decide) | ((try simp only [depth_deeper]); (try dsimp only [ktrTop]); omega)); (case hu => first | exact unle (by assumption) (by decide) | ((try simp only [units_deeper]); (try dsimp only [ktrTop]); omega)))); rintro r9 led9 h9 tk9 F9 N9 ⟨e9, rfl⟩; subst e9)
  (repeat' (first | (k_unfold; (try dsimp only)) | (k_end; wrow_close) | (walk1; (all_goals (try dsimp only))) | (dsimp only; walk1) | ((simp only [List.cons_append, List.nil_append]); walk1) | (leave1; walk_say "STEP leave1"; try dsimp only) | fail "no step"))
  all_goals exact hret _ _ _ _ (by assumption) (by assumption) ⟨rfl, rfl⟩
end
section
theorem cons_con (w : World) (led : Led) (x : Int) (tx : Tok) (b : Addr) :
    Con w 82 [.int x tx, .ref b] 6 60 led
      (fun r led' => ∃ a d t1 t2, r = .ref a ∧ led' = (a, instObj 82 d) :: (d, consD w (.int x tx) (.ref b) t1 t2) :: led ∧ (∀ p ∈ led, p.1 < d) ∧ d < a) := by
  k_with_none
  unfold Con
  intro mean mg mb dp un gd cn cs a ccd cl outer A₀ base h₀ L m s Q E B F X N T hk9 hd9 hu9 hret
  k_dflt (refine' call_cls ?k1 ?k2 ?k3 ?k4 ?k5 ?k6 ?_; (case k1 => k_asm); (case k2 => k_asm); (case k3 => k_asm); (case k4 => k_is); (case k5 => k_is); (case k6 => k_is); k_whole; intro x' d' h' F' N' l1 l2; (try k_lt l1); (try k_lt2 l2); (try k_sweep))
  ((k_dflt (refine' code_def ?k1 ?k2 ?k3 ?k4 ?k5 ?kA ?kF ?kK ?k6 ?k7 ?k8 ?k9 ?kB ?_ ?c2 ?c3 ?c4 ?c5; (case kA => exact rfl); (case kF => exact rfl); (case kK => first | exact rfl | assumption); (case k1 => k_asm); (case k2 => k_asm); (case k3 => k_asm); (case k4 => k_asm); (case k5 => k_asm); (case k6 => k_is); (case k7 => k_is); (case k8 => k_room); (case k9 => first | exact BindsTo.of_eq rfl | exact binds_K (by k_in) rfl (by k_is) rfl rfl rfl); (case c5 => decide); (case kB => exact locs rfl); (case c2 => exact rfl); (case c3 => exact rfl); (case c4 => exact rfl); k_whole; intro _ _ _ _ _ _ _ _ _; (try dsimp only); (try k_fold))))
  (repeat' (first | (k_unfold; (try dsimp only)) | (k_end; wrow_close) | (walk1; (all_goals (try dsimp only))) | (dsimp only; walk1) | ((simp only [List.cons_append, List.nil_append]); walk1) | (leave1; walk_say "STEP leave1"; try dsimp only) | fail "no step"))
  exact hret _ _ _ _ (by assumption) (by assumption) ⟨_, _, _, _, rfl, rfl, l1, l2⟩
end
section
theorem pairs_con (w : World) (led : Led) (va : Addr) (c : List Cell) (hc : ChainIn w led (.ref va) c) (hlen : c.length < 99) :
    Con w 162 [.ref va] 5 40 led
      (fun r led' => ∃ P n, r = .ref P ∧ led' = (P, listOf (c.map fun e => Value.ref e.a).toArray n) :: led ∧ ∀ p ∈ led, p.1 < P) := by
  k_with_none
  unfold Con
  intro mean mg mb dp un gd cn cs a ccd cl outer A₀ base h₀ L m s Q E B F X N T hk9 hd9 hu9 hret
  refine wpAny_call ?_
  ((k_dflt (refine' code_def ?k1 ?k2 ?k3 ?k4 ?k5 ?kA ?kF ?kK ?k6 ?k7 ?k8 ?k9 ?kB ?_ ?c2 ?c3 ?c4 ?c5; (case kA => exact rfl); (case kF => exact rfl); (case kK => first | exact rfl | assumption); (case k1 => k_asm); (case k2 => k_asm); (case k3 => k_asm); (case k4 => k_asm); (case k5 => k_asm); (case k6 => k_is); (case k7 => k_is); (case k8 => k_room); (case k9 => first | exact BindsTo.of_eq rfl | exact binds_K (by k_in) rfl (by k_is) rfl rfl rfl); (case c5 => decide); (case kB => exact locs rfl); (case c2 => exact rfl); (case c3 => exact rfl); (case c4 => exact rfl); k_whole; intro _ _ _ _ _ _ _ _ _; (try dsimp only); (try k_fold))))
  k_with "exec While BoolOp cons nil" => refine stopHere ?_
  (repeat' (first | (k_unfold; (try dsimp only)) | (k_end; wrow_close) | (walk1; (all_goals (try dsimp only))) | (dsimp only; walk1) | ((simp only [List.cons_append, List.nil_append]); walk1) | (leave1; walk_say "STEP leave1"; try dsimp only) | fail "no step"))
  unfold id
  rename_i X1 h1 hlt h2 F' N'
  have hne : ∀ p ∈ led, p.1 ≠ X1 := fun p hp => Nat.ne_of_lt (hlt p hp)
  refine While_inv2 (fun n m₁ news₁ => ∃ (k : Nat) (va : Value) (nn : Nat), news₁ = (X1, listOf ((c.take k).map fun e => Value.ref e.a).toArray nn) :: led ∧ k + n = c.length ∧ m₁ (Str.ofString "value") = some va ∧ m₁ (Str.ofString "found") = some (.ref X1) ∧ ChainIn w led va (c.drop k)) F' N' (n₀ := c.length) ⟨0, _, 0, rfl, by omega, rfl, rfl, hc⟩ ?_
  intro n m₁ news₁ h₁ tk₁ F₁ N₁ hP9
  refine exE3 hP9 ?_
  clear hP9
  intro k va9 nn hP9
  refine andE5 hP9 ?_
  clear hP9
  rintro rfl hkn h1 h2 hA
  replace F₁ := Fr.bnd F₁ [(Str.ofString "value", va9), (Str.ofString "found", .ref X1)] (by simp [h1, h2])
  k_with "call builtin:len" => k_dflt (refine' kun_lenL (k := (k : Int)) ?k1 ?k2 ?k3 ?_; (case k1 => exact News.isList (by k_asm) (by k_mem)); (case k2 => (simp; omega)); (case k3 => omega))
  rcases n with _ | n
  · have e : c.drop k = [] := by rw [List.drop_eq_nil_iff]; omega
    have e2 : c.take k = c := by rw [List.take_of_length_le]; omega
    rw [e2] at N₁
    rw [e] at hA
    cases hA
    (repeat' (first | (k_unfold; (try dsimp only)) | (k_end; wrow_close) | (walk1; (all_goals (try dsimp only))) | (dsimp only; walk1) | ((simp only [List.cons_append, List.nil_append]); walk1) | (leave1; walk_say "STEP leave1"; try dsimp only) | fail "no step"))
    exact hret _ _ _ _ (by assumption) (by assumption) ⟨_, _, rfl, rfl, hlt⟩
  · obtain ⟨q, hq⟩ : ∃ q, c.drop k = q :: c.drop (k + 1) := ⟨_, List.drop_eq_getElem_cons (by omega)⟩
    rw [hq] at hA
    obtain ⟨rfl, va', tx, t1, t2, hm1, hm2, hA'⟩ := hA.uncons
    obtain ⟨b1, rfl⟩ := hA'.ref
    have e : (c.take (k + 1)).map (fun e => Value.ref e.a) = (c.take k).map (fun e => Value.ref e.a) ++ [.ref q.a] := by
      have e : c.take (k + 1) = c.take k ++ [q] := by
        rw [List.take_add_one]
        have : c[k]? = some q := by rw [← List.head?_drop, hq]; rfl
        rw [this]; rfl
      rw [e, List.map_append]
      rfl
    have hz9 : ((c.take k).map fun e => Value.ref e.a).toArray.size ≤ sizeLine := by rw [sizeLine_eq]; simp; omega
    (repeat' (first | (k_unfold; (try dsimp only)) | (k_end; wrow_close) | (walk1; (all_goals (try dsimp only))) | (dsimp only; walk1) | ((simp only [List.cons_append, List.nil_append]); walk1) | (leave1; walk_say "STEP leave1"; try dsimp only) | fail "no step"))
    rename News _ _ _ ((X1, _) :: led) => N9
    rw [List.push_toArray, ← e] at N9
    exact ⟨_, _, _, _, n, rfl, by assumption, N9, by omega, k + 1, .ref b1, _, rfl, by omega, rfl, rfl, hA'⟩
end
section
/-- a ledger without an address -/
def wo (d : Addr) (led : Led) : Led := led.filter fun p => p.1 != d
theorem mem_wo {d : Addr} {led : Led} {p : Addr × Obj} (h : p ∈ led) (hn : p.1 ≠ d) : p ∈ wo d led := by
  unfold wo
  rw [List.mem_filter]
  exact ⟨h, by simpa using hn⟩
theorem wo_sub {d : Addr} {led : Led} {p : Addr × Obj} (h : p ∈ wo d led) : p ∈ led := by
  unfold wo at h
  exact (List.mem_filter.mp h).1
theorem wo_ne {d : Addr} {led : Led} : ∀ p ∈ wo d led, p.1 ≠ d := by
  intro p h
  unfold wo at h
  simpa using (List.mem_filter.mp h).2
theorem News.wo {h₀ h : Heap} {L d : Addr} {o : Obj} {led : Led} (N : News h₀ L h led) (hm : (d, o) ∈ led) : News h₀ L h ((d, o) :: wo d led) := by
  intro p hp
  rcases List.mem_cons.mp hp with rfl | hp
  · exact N _ hm
  · exact N _ (wo_sub hp)
theorem inst_ne_dict {led : Led} (hf : Fun1 led) {a d dx : Addr} {es : List DictEntry} {n : Nat} (h1 : (a, instObj 82 dx) ∈ led) (h2 : (d, dictOf es n) ∈ led) : a ≠ d := by
  intro e
  subst e
  have := hf _ _ _ h1 h2
  have := congrArg Obj.data this
  cases this
theorem list_ne_dict {led : Led} (hf : Fun1 led) {a d : Addr} {its : Array Value} {m : Nat} {es : List DictEntry} {n : Nat} (h1 : (a, listOf its m) ∈ led) (h2 : (d, dictOf es n) ∈ led) : a ≠ d := by
  intro e
  subst e
  have := hf _ _ _ h1 h2
  have := congrArg Obj.data this
  cases this
theorem ChainIn.off {w : World} {led led' : Led} {v : Value} {c : List Cell} (h : ChainIn w led v c) (d : Addr) (hs : ∀ p ∈ led, p.1 ≠ d → p ∈ led') (ha : ∀ e ∈ c, e.a ≠ d) (hd : ∀ e ∈ c, e.d ≠ d) : ChainIn w led' v c := by
  induction h with
  | nil => exact .nil
  | cons h1 h2 _ ih =>
    exact .cons (hs _ h1 (ha _ (.head _))) (hs _ h2 (hd _ (.head _))) (ih (fun e he => ha e (.tail _ he)) (fun e he => hd e (.tail _ he)))
theorem ChainIn.aNeD {w : World} {led : Led} {v : Value} {c : List Cell} (hf : Fun1 led) (h : ChainIn w led v c) {d : Addr} {es : List DictEntry} {n : Nat} (h2 : (d, dictOf es n) ∈ led) : ∀ e ∈ c, e.a ≠ d :=
  fun e he => inst_ne_dict hf (h.mem e he).1 h2
theorem ChainIn.setAt {w : World} {led : Led} (hf : Fun1 led) {v : Value} {c : List Cell} (h : ChainIn w led v c) : ∀ {i : Nat} {q : Cell} {v' : Value} {x0 : Value} {t1 t2 : Tok} {nx : Int} {tn : Tok}, c[i]? = some q → (c.map (·.d)).Nodup →
    (q.d, consD w x0 v' t1 t2) ∈ led → ChainIn w ((q.d, consD w (.int nx tn) v' t1 t2) :: wo q.d led) v (c.set i ⟨q.a, q.d, nx⟩) := by
  induction h with
  | nil => intro i q _ _ _ _ _ _ e; simp at e
  | @cons a d x tx v t1 t2 c h1 h2 h3 ih =>
    intro i q v' x0 s1 s2 nx tn e hnd hm
    simp only [List.map_cons, List.nodup_cons] at hnd
    cases i with
    | zero =>
      simp only [List.getElem?_cons_zero, Option.some.injEq] at e
      subst e
      have e2 := congrArg Obj.data (hf _ _ _ h2 hm)
      injection e2 with e3 _
      have e4 := congrArg Array.toList e3
      simp only [List.cons.injEq, DictEntry.mk.injEq, Value.str.injEq, true_and, and_true] at e4
      obtain ⟨_, _, rfl⟩ := e4
      refine .cons (.tail _ (mem_wo h1 (inst_ne_dict hf h1 h2))) (.head _) (h3.off d (fun p hp hn => .tail _ (mem_wo hp hn)) (h3.aNeD hf h2) fun e he hh => hnd.1 (hh ▸ List.mem_map_of_mem he))
    | succ i =>
      simp only [List.getElem?_cons_succ] at e
      have hq : q ∈ c := List.mem_of_getElem? e
      have hdq : d ≠ q.d := fun hh => hnd.1 (hh ▸ List.mem_map_of_mem hq)
      have := ih (nx := nx) (tn := tn) e hnd.2 hm
      exact .cons (.tail _ (mem_wo h1 (inst_ne_dict hf h1 hm))) (.tail _ (mem_wo h2 hdq)) this
theorem ChainIn.join {w : World} {led : Led} (hf : Fun1 led) {v : Value} {c : List Cell} (h : ChainIn w led v c) : ∀ {i : Nat} {q : Cell} {x0 : Value} {t1 t2 : Tok} {vf : Value} {c2 : List Cell}, c[i]? = some q → i + 1 = c.length → (c.map (·.d)).Nodup →
    (q.d, consD w x0 (.ref 64) t1 t2) ∈ led → ChainIn w led vf c2 → (∀ e ∈ c2, e.d ≠ q.d) → ChainIn w ((q.d, consD w x0 vf t1 t2) :: wo q.d led) v (c ++ c2) := by
  induction h with
  | nil => intro i q _ _ _ _ _ e; simp at e
  | @cons a d x tx v t1 t2 c h1 h2 h3 ih =>
    intro i q x0 s1 s2 vf c2 e hi hnd hm hC2 hd2
    simp only [List.map_cons, List.nodup_cons] at hnd
    simp only [List.length_cons] at hi
    cases i with
    | zero =>
      simp only [List.getElem?_cons_zero, Option.some.injEq] at e
      subst e
      have hc0 : c = [] := List.length_eq_zero_iff.mp (by omega)
      subst hc0
      have e2 := congrArg Obj.data (hf _ _ _ h2 hm)
      injection e2 with e3 _
      have e4 := congrArg Array.toList e3
      simp only [List.cons.injEq, DictEntry.mk.injEq, Value.str.injEq, true_and, and_true] at e4
      obtain ⟨⟨rfl, rfl⟩, rfl, _⟩ := e4
      exact .cons (.tail _ (mem_wo h1 (inst_ne_dict hf h1 h2))) (.head _) (hC2.off d (fun p hp hn => .tail _ (mem_wo hp hn)) (hC2.aNeD hf h2) hd2)
    | succ i =>
      simp only [List.getElem?_cons_succ] at e
      have hq : q ∈ c := List.mem_of_getElem? e
      have hdq : d ≠ q.d := fun hh => hnd.1 (hh ▸ List.mem_map_of_mem hq)
      have := ih e (by omega) hnd.2 hm hC2 hd2
      exact .cons (.tail _ (mem_wo h1 (inst_ne_dict hf h1 hm))) (.tail _ (mem_wo h2 hdq)) this
end
section
section
open LCg
variable {prog : Program} {w : World} {A : Around} {E : Value → Shared → Prop} {s : Shared} {h₀ : Heap} {L : Addr} {m : Str → Option Value} {env : Env}
/-- a zip of two lists, before its i-th item -/
def ZipSt (z TI TO i1 i2 l1 l2 : Addr) (xs ys : Array Value) (i : Nat) (h : Heap) : Prop :=
  IsZip h z TI TO .none ∧ IsPair h TI (.ref i1) (.ref i2) ∧ (∃ a b, IsPair h TO a b) ∧ h.IsListIter i1 l1 i ∧ h.IsListIter i2 l2 i ∧ h.IsList l1 xs ∧ h.IsList l2 ys
theorem zip_block {elt iter c : PySem.Expr} {a b : Str} {pa pb tp : Pos} {kk : Nat} {scope : Scope} {cl : List (Str × Addr)} {pos : Pos} {s₂ : Shared} {z TI TO i1 i2 l1 l2 : Addr} {xs ys : Array Value} {news : Led} {RR : Value → Addr → Result → Shared → Prop}
    (hh : A.handled = none) (D : ZipApart z TI TO i1 i2 l1 l2) (hst : ZipSt z TI TO i1 i2 l1 l2 xs ys 0 s₂.heap)
    (hcell : ∀ y ∈ scope.names, y.2 ≠ .cell) (hkind : scope.kind = .function) (hxa : scope.names.lookup a = some .local) (hxb : scope.names.lookup b = some .local) (hab : ¬ a = b)
    (F : Fr h₀ L s₂.heap m) (N : News h₀ L s₂.heap news) (hwr : ∀ q ∈ [z, TO, i1, i2], h₀.get? q = none ∧ q ≠ L ∧ ∀ p ∈ news, p.1 ≠ q)
    (turn : ∀ (i : Nat) x y C oC m₂ h tk (E' : Value → Shared → Prop), xs[i]? = some x → ys[i]? = some y → NsObj oC m₂ → m₂ a = some x → m₂ b = some y → Fr h₀ L h m → News h₀ L h ((C, oC) :: news) → (∀ p ∈ news, p.1 ≠ C) →
      wpAny (model prog w) A (isTrue c (compEnvC scope cl C env) (eval c (compEnvC scope cl C env))) (fun ok s' => ok = false ∧ ∃ tk', s' = { s₂ with heap := h, toks := tk' }) E' { s₂ with heap := h, toks := tk })
    (hRR : ∀ D C h tk m', Fr h₀ L h m → News h₀ L h ((D, lst []) :: news) → h.Ns C m' → h₀.get? C = none → C ≠ L → C ≠ D → (∀ p ∈ news, p.1 ≠ C) → RR (.ref D) C (.ok .next) { s₂ with heap := h, toks := tk }) :
    wpAny (model prog w) A (newList []) (fun acc s₃ => wpAny (model prog w) A (newFunctionEnv scope env.globals cl [] env.qual none .none (some env)) (fun cenv s₄ =>
      codeAny (model prog w) A (.compStart (.ListComp elt [⟨.Tuple [.Name a pa, .Name b pb] kk tp, iter, [c], 0⟩] scope pos) 0 (.ref z) acc { cenv with scope := relabel scope env }) (RR acc cenv.locals) s₄) E s₃) E s₂ := by
  refine wpAny_newObj_type (wpAny_newFunctionEnv hcell (by intro y hy; simp at hy) (fun h₁ hns₁ hsb₁ => ?_) hkind)
  dsimp only at hns₁ hsb₁ ⊢
  generalize hH2 : s₂.heap.push { cls := .type "list", dict := none, data := .seq ([] : List Value).toArray } = H2 at hns₁ hsb₁ ⊢
  have hC : H2.objs.size = s₂.heap.objs.size + 1 := by rw [← hH2, Heap.size_push]
  have below : ∀ q, q < s₂.heap.objs.size → q ≠ H2.objs.size ∧ q ≠ s₂.heap.objs.size := fun q hq => ⟨by rw [hC]; exact Nat.ne_of_lt (Nat.lt_succ_of_lt hq), Nat.ne_of_lt hq⟩
  have hDC : s₂.heap.objs.size ≠ H2.objs.size := by rw [hC]; exact Nat.ne_of_lt (Nat.lt_succ_self _)
  have old : ∀ q o, s₂.heap.get? q = some o → h₁.get? q = some o := fun q o e => hsb₁.extBut q o (below q (Heap.lt_size e)).1 (Heap.get?_push_of_some _ (hH2 ▸ Heap.get?_push_of_some _ e))
  have hacc : h₁.get? s₂.heap.objs.size = some (lst []) := hsb₁.extBut _ _ hDC (Heap.get?_push_of_some _ (hH2 ▸ Heap.get?_push_size _ rfl))
  have fresh₀ : ∀ q, s₂.heap.objs.size ≤ q → h₀.get? q = none := fun q hq => by
    cases e : h₀.get? q with
    | none => rfl
    | some o => exact absurd (Heap.lt_size (F.keep q o e)) (Nat.not_lt.mpr hq)
  have hD₀ : h₀.get? s₂.heap.objs.size = none := fresh₀ _ (Nat.le_refl _)
  have hC₀ : h₀.get? H2.objs.size = none := fresh₀ _ (by rw [hC]; exact Nat.le_succ _)
  have hLlt : L < s₂.heap.objs.size := F.ns.lt
  have hDL : s₂.heap.objs.size ≠ L := Ne.symm (below L hLlt).2
  have hCL : H2.objs.size ≠ L := Ne.symm (below L hLlt).1
  have hfp : ∀ q ∈ [z, TI, TO, i1, i2, l1, l2], q < s₂.heap.objs.size := by
    obtain ⟨g1, g2, ⟨_, _, g3⟩, ⟨_, g4, _⟩, ⟨_, g5, _⟩, ⟨_, g6, _⟩, ⟨_, g7, _⟩⟩ := hst
    intro q hq
    simp only [List.mem_cons, List.not_mem_nil, or_false] at hq
    rcases hq with rfl | rfl | rfl | rfl | rfl | rfl | rfl
    · exact Heap.lt_size g1
    · exact Heap.lt_size g2
    · exact Heap.lt_size g3
    · exact Heap.lt_size g4
    · exact Heap.lt_size g5
    · exact Heap.lt_size g6
    · exact Heap.lt_size g7
  have W := KTurns.ofWalksU (elts := [.Name a pa, .Name b pb]) (k := kk) (pos := tp) (WalksT.zip2 (prog := prog) (w := w) hh z TI TO i1 i2 l1 l2 D xs ys).toU
  have hwfp : ∀ q ∈ [z, TO, i1, i2], q ∈ [z, TI, TO, i1, i2, l1, l2] := W.sub
  have hCw : H2.objs.size ∉ [z, TO, i1, i2] := fun hq => (below _ (hfp _ (hwfp _ hq))).1 rfl
  have hDw : s₂.heap.objs.size ∉ [z, TO, i1, i2] := fun hq => (below _ (hfp _ (hwfp _ hq))).2 rfl
  have offC : ∀ p ∈ news, p.1 ≠ H2.objs.size := fun p hp => (below _ (Heap.lt_size (N p hp).1)).1
  have loop : ∀ s₃ : Shared, s₃ = { s₂ with heap := h₁, toks := s₂.toks + ([] : List (Str × Value)).length } →
      codeAny (model prog w) A (.compLoop (.ListComp elt [⟨.Tuple [.Name a pa, .Name b pb] kk tp, iter, [c], 0⟩] scope pos) 0 (.ref z) (.ref s₂.heap.objs.size) (compEnvC scope cl H2.objs.size env))
        (RR (.ref s₂.heap.objs.size) H2.objs.size) s₃ := by
    rintro s₃ rfl
    refine kct_loop
      (fun k s' => ∃ h' tk i m', s' = { s₂ with heap := h', toks := tk } ∧ i ≤ min xs.size ys.size ∧ k = min xs.size ys.size + 1 - i ∧ ZipSt z TI TO i1 i2 l1 l2 xs ys i h' ∧ Fr h₀ L h' m ∧ h'.Ns H2.objs.size m' ∧ News h₀ L h' ((s₂.heap.objs.size, lst []) :: news)) ?_ (min xs.size ys.size + 1)
      ⟨h₁, _, 0, _, rfl, Nat.zero_le _, rfl, W.frame _ _ _ hst fun q hq o e => old q o e, F.keeps old, hns₁, fun p hp => ?_⟩
    · rintro k s' ⟨h', tk, i, m', rfl, hi, rfl, hst', F', hn', N'⟩
      have next : ∀ h₃ : Heap, (∀ q o, q ∉ [z, TO, i1, i2] → h'.get? q = some o → h₃.get? q = some o) → Fr h₀ L h₃ m ∧ News h₀ L h₃ ((s₂.heap.objs.size, lst []) :: news) := fun h₃ hk => by
        refine ⟨⟨F'.ns.at' fun o e => hk _ o (fun hq => (hwr _ hq).2.1 rfl) e, fun q o e => hk q o (fun hq => by rw [(hwr _ hq).1] at e; cases e) (F'.keep q o e), F'.above⟩, fun p hp => ⟨hk _ _ (fun hq => ?_) (N' p hp).1, (N' p hp).2⟩⟩
        rcases List.mem_cons.mp hp with rfl | hp
        · exact hDw hq
        · exact (hwr _ hq).2.2 p hp rfl
      by_cases hlt : i < min xs.size ys.size
      · refine W.item i _ _ _ hlt hst' fun v h₂ tk₂ hMd hk₂ => ?_
        refine W.go i v _ _ _ hMd fun h₃ hP hst₃ hk₃ => ?_
        obtain ⟨T, vals, rfl, ⟨x, y, hx, hy, rfl⟩, hT⟩ := hP
        have up₃ : ∀ q o, q ∉ [z, TO, i1, i2] → h'.get? q = some o → h₃.get? q = some o := fun q o hq e => hk₃ q o hq (hk₂ q o hq e)
        refine kcp_assign (env := compEnvC scope cl H2.objs.size env) hh hT (lookup_relabel_local hxa) (lookup_relabel_local hxb) (by simp [compEnvC, relabel, hkind]) (hn'.at' fun o e => up₃ _ o hCw e) fun h₄ tk₄ hn₄ hs₄ => ?_
        obtain ⟨F₃, N₃⟩ := next h₃ up₃
        have F₄ : Fr h₀ L h₄ m := ⟨F₃.ns.at' fun o e => hs₄ _ o (Ne.symm hCL) e, fun q o e => hs₄ q o (fun zz => by rw [zz] at e; exact absurd (hC₀.symm.trans e) (by simp)) (F₃.keep q o e), F₃.above⟩
        have N₄ : News h₀ L h₄ ((s₂.heap.objs.size, lst []) :: news) := fun p hp => by
          refine ⟨hs₄ _ _ ?_ (N₃ p hp).1, (N₃ p hp).2⟩
          rcases List.mem_cons.mp hp with rfl | hp
          · exact hDC
          · exact offC p hp
        obtain ⟨oC, heC, hoC⟩ := ns_obj hn₄
        have N₅ : News h₀ L h₄ ((H2.objs.size, oC) :: news) := fun p hp => by
          rcases List.mem_cons.mp hp with rfl | hp
          · exact ⟨heC, hCL, hC₀⟩
          · exact N₄ p (.tail _ hp)
        refine wpAny_mono (turn i x y H2.objs.size oC _ h₄ tk₄ _ hx hy hoC (by simp [hab]) (by simp) F₄ N₅ offC) (fun ok s₅ h₅ => ?_) fun _ _ e => e
        obtain ⟨rfl, tk', rfl⟩ := h₅
        simp only [Bool.false_eq_true, if_false]
        exact ⟨min xs.size ys.size + 1 - (i + 1), by omega, h₄, tk', i + 1, _, rfl, hlt, rfl, W.frame _ _ _ hst₃ fun q hq o e => hs₄ q o (fun zz => by have := (below q (hfp q hq)).1; exact this zz) e, F₄, hn₄, N₄⟩
      · obtain rfl : i = min xs.size ys.size := Nat.le_antisymm hi (Nat.not_lt.mp hlt)
        refine W.done _ _ _ hst' fun h₂ tk₂ hk₂ => ?_
        obtain ⟨F₂, N₂⟩ := next h₂ hk₂
        exact hRR _ _ h₂ tk₂ _ F₂ N₂ (hn'.at' fun o e => hk₂ _ o hCw e) hC₀ hCL (Ne.symm hDC) offC
    · rcases List.mem_cons.mp hp with rfl | hp
      · exact ⟨hacc, hDL, hD₀⟩
      · exact ⟨old _ _ (N p hp).1, (N p hp).2⟩
  exact codeAny_compStart_list (loop _ rfl) (wpAny_pyIter_zip (TI := TI) (TO := TO) (f0 := .none) (old _ _ hst.1) (loop _ rfl))

/-- a source: a zip of two lists of the ledger; the test holds nowhere -/
def ZipSrc (prog : Program) (w : World) (A : Around) (h₀ : Heap) (L : Addr) (m : Str → Option Value) (env : Env) (c : PySem.Expr) (a b : Str) (scope : Scope) (cl : List (Str × Addr)) (Q : Value → Shared → Prop) (xv : Value) (s₁ : Shared) : Prop :=
  ∃ (z TI TO i1 i2 l1 l2 : Addr) (xs ys : Array Value) (news : Led), xv = .ref z ∧ A.handled = none ∧ ZipApart z TI TO i1 i2 l1 l2 ∧ ZipSt z TI TO i1 i2 l1 l2 xs ys 0 s₁.heap ∧ Fr h₀ L s₁.heap m ∧ News h₀ L s₁.heap news ∧
    (∀ q ∈ [z, TO, i1, i2], h₀.get? q = none ∧ q ≠ L ∧ ∀ p ∈ news, p.1 ≠ q) ∧
    (∀ (i : Nat) x y C oC m₂ h tk (E' : Value → Shared → Prop), xs[i]? = some x → ys[i]? = some y → NsObj oC m₂ → m₂ a = some x → m₂ b = some y → Fr h₀ L h m → News h₀ L h ((C, oC) :: news) → (∀ p ∈ news, p.1 ≠ C) →
      wpAny (model prog w) A (isTrue c (compEnvC scope cl C env) (eval c (compEnvC scope cl C env))) (fun ok s' => ok = false ∧ ∃ tk', s' = { s₁ with heap := h, toks := tk' }) E' { s₁ with heap := h, toks := tk }) ∧
    (∀ D h tk, Fr h₀ L h m → News h₀ L h ((D, lst []) :: news) → Q (.ref D) { s₁ with heap := h, toks := tk })
theorem comp_zip {elt iter c : PySem.Expr} {a b : Str} {pa pb tp : Pos} {kk : Nat} {scope : Scope} {cl : List (Str × Addr)} {pos : Pos} {Q : Value → Shared → Prop} (F₀ : Fr h₀ L s.heap m)
    (hclos : closureFor scope env = pure cl) (hcell : ∀ y ∈ scope.names, y.2 ≠ .cell) (hkind : scope.kind = .function)
    (hnames : ∀ y ∈ scope.names, y.2 = .local → scope.names.lookup y.1 = some .local) (hxa : scope.names.lookup a = some .local) (hxb : scope.names.lookup b = some .local) (hab : ¬ a = b)
    (h : wpAny (model prog w) A (eval iter env) (ZipSrc prog w A h₀ L m env c a b scope cl Q) E s)
    (hs : ∀ x, foldedSetIterable iter env x = pure x := by intro _; rfl) :
    wpAny (model prog w) A (eval (.ListComp elt [⟨.Tuple [.Name a pa, .Name b pb] kk tp, iter, [c], 0⟩] scope pos) env) Q E s := by
  rw [eval_ListComp]
  refine wpAny_comprehension_free (use := none) rfl hs hclos hkind hnames (wpAny_mono h (fun xv s₁ h₁ => ?_) fun _ _ e => e)
  obtain ⟨z, TI, TO, i1, i2, l1, l2, xs, ys, news, rfl, hh, D, hst, F, N, hwr, turn, fin⟩ := h₁
  refine wpAny_pyIter_zip hst.1 ?_
  refine zip_block hh D hst hcell hkind hxa hxb hab F N hwr turn ?_
  intro D C h tk m' F' N' hn hC₀ hCL hCD offC
  refine ⟨m', hn, fun h'' hs'' => fin D h'' tk (F'.change hs'' hCL hC₀) (fun p hp => ?_)⟩
  refine ⟨hs''.extBut _ _ ?_ (N' p hp).1, (N' p hp).2⟩
  rcases List.mem_cons.mp hp with rfl | hp
  · exact Ne.symm hCD
  · exact offC p hp
end
end
section
/-- the text's own exception class, as the head leaves it -/
abbrev lsCls : Obj := excClassObj (Str.ofString "LispSignal") (Str.ofString "LispSignal") 31 30 [.type "Exception"] [.type "Exception", .type "BaseException", .type "object"] true [] [] false none none (some (.ref 15)) none (some (.str (Str.ofString "LispSignal") 189)) (some (.str (Str.ofString "LispSignal") 197)) (some (.bool true)) "Exception.__new__"
theorem ls_cls (P : Params) : (hd.heap_39 P).lookup 31 = some lsCls := rfl
theorem ls_init (P : Params) : ∃ o, (hd.heap_39 P).lookup 28 = some o ∧ o.cls = .type "function" := ⟨_, rfl, rfl⟩
theorem ls_dict (P : Params) : ∃ es n, (hd.heap_39 P).lookup 30 = some ⟨.type "dict", none, .dict es n, #[]⟩ ∧ es.all (fun e => match e.key with | .str _ _ => true | _ => false) = true ∧ nsFind es "__init__" = some (.ref 28) ∧ nsFind es "__setattr__" = none ∧ nsFind es "__getattribute__" = none ∧ nsFind es "__getattr__" = none ∧ nsFind es "symbol" = none ∧ nsFind es "data" = none :=
  ⟨_, _, rfl, by kernel_rfl, by kernel_rfl, by kernel_rfl, by kernel_rfl, by kernel_rfl, by kernel_rfl, by kernel_rfl⟩
structure LsNs (h : Heap) (m : Str → Option Value) : Prop where
  ns : h.Ns 30 m
  init : m "__init__" = some (.ref 28)
  setattr : m "__setattr__" = none
  ga : m "__getattribute__" = none
  gah : m "__getattr__" = none
  symbol : m "symbol" = none
  data : m "data" = none
theorem ls_ns {w : World} {h : Heap} (X : (hd.heap_39 w.params).In h) : LsNs h (h.nsMap 30) := by
  obtain ⟨es, n, h1, h2, h3, h4, h5, h6, h7, h8⟩ := ls_dict w.params
  have h9 := X _ _ h1
  have e : ∀ x, h.nsMap 30 x = nsFind es x := fun x => by unfold Heap.nsMap; rw [h9]
  have g : h.isNs 30 = true := by unfold Heap.isNs; rw [h9]; exact h2
  exact ⟨.of_isNs g, (e _).trans h3, (e _).trans h4, (e _).trans h5, (e _).trans h6, (e _).trans h7, (e _).trans h8⟩
/-- a dict that says a map of names -/
def SaysD (oD : Obj) (mA : Str → Option Value) : Prop := ∃ es ep, oD.data = .dict es ep ∧ StrKeys es ∧ UniqKeys es ∧ ∀ name, nsFind es name = mA name
/-- an object of the text's own exception class, made and not yet raised -/
structure ExcO (oE : Obj) (t : Addr) : Prop where
  cls : oE.cls = .ref 31
  data : oE.data = .fields #[.ref t, .none, .none, .none, .bool false, .none]

section
open Builtin Builtin.ObjectAttr
variable {prog : Program} {w : World} {A : Around} {E : Value → Shared → Prop} {h : Heap} {g : Array GenState} {d : Drawn} {t : Nat} {os : OsState} {x : Addr} {mN : Str → Option Value} {name : Str} {v : Value} {o : Obj} {vs : Array Value}
theorem exc_store0 {tk : Tok} {Q : Fin → Shared → Prop} (hC : h.get? 31 = some lsCls) (hn : h.Ns 30 mN) (hna : mN name = none) (hB : typeLookup (.type "Exception") name = pure none)
    (hx : h.get? x = some o) (hc : o.cls = .ref 31) (hdn : o.dict = none) (hdt : o.data = .fields vs)
    (hq : ∀ h' tk' oD, h'.get? x = some { o with dict := some h.objs.size } → h'.get? h.objs.size = some oD → SaysD oD (fun y => if y = name then some v else none) → (∀ b ob, b ≠ x → h.get? b = some ob → h'.get? b = some ob) → Q (.done (.ret .none)) ⟨h', g, d, tk', os⟩) :
    wpAny (model prog w) A (Builtin.«object.__setattr__» ⟨[.ref x, .str name tk, v], []⟩) Q E ⟨h, g, d, t, os⟩ := by
  have SF := PySem.F.store_Exception
  have hpass := SF.passes (.ref x)
  unfold Builtin.«object.__setattr__»
  repeat (first | rw [refuse_eq] | (rw [refuseLoop_ref, hpass]) | (with_reducible refine wpAny_loadPart_at hx ?_; rw [hc]) | with_reducible refine wpAny_mroOf_exc hC ?_ | (with_reducible refine wpAny_typeLookup_exc hC hn SF.mro hB ?_; rw [hna]) | wp_step)
  rw [hdn, if_neg (by simp [typeHasDict]), hdt]
  have hx1 : (h.push { cls := .type "dict", data := .dict #[] }).get? x = some o := Heap.get?_push_of_some _ hx
  have hxs : x ≠ h.objs.size := Nat.ne_of_lt (Heap.lt_size hx)
  refine wpAny_bind (wpAny_alloc' (wpAny_bind (wpAny_update' hx1 (wpAny_pure ?_))))
  have hfree : ({ o with dict := some h.objs.size } : Obj).isFreed = false := Obj.isFreed_of_fields hdt
  have hx2 := Heap.get?_update_self (fun o : Obj => { o with dict := some h.objs.size }) hx1 hfree
  have hg2 : ((h.push { cls := .type "dict", data := .dict #[] }).update x fun o => { o with dict := some h.objs.size }).get? h.objs.size = some { cls := .type "dict", data := .dict #[] } :=
    (Heap.get?_update_ne _ _ _ _ hxs.symm).trans (Heap.get?_push_at rfl rfl)
  have hnd : ((h.push { cls := .type "dict", data := .dict #[] }).update x fun o => { o with dict := some h.objs.size }).Ns h.objs.size (fun _ => none) := ⟨_, #[], _, hg2, rfl, fun e he => absurd he (by simp), fun _ => rfl⟩
  show wpAny _ _ (storeInDict h.objs.size (.str name tk) name v) _ _ _
  unfold storeInDict newKeyGuard
  refine wpAny_bind (wpAny_pure (wpAny_bind (wpAny_nsSet1 (Heap.Ns1.of_empty hnd) fun h' hn' hs => ?_)))
  obtain ⟨oD, esD, epD, hoD, hdD, hcD⟩ := hn'.count (Within.cons name v Within.nil)
  refine wpAny_bind (wpAny_lookBehind hoD (by rw [hdD]; exact pastItsLine_dict (Nat.le_trans hcD (by rw [List.length_cons, List.length_nil, sizeLine_eq]; omega))) ?_)
  wp_walk
  obtain ⟨o2, es2, ep2, e1, r2⟩ := hn'
  refine hq h' _ o2 ((hs.2 x hxs).trans hx2) e1 ⟨es2, ep2, r2⟩ fun b ob hbx hb => ?_
  exact (hs.2 b (Nat.ne_of_lt (Heap.lt_size hb))).trans ((Heap.get?_update_ne _ _ _ _ hbx).trans (Heap.get?_push_of_some _ hb))
theorem exc_call0 {sa owner : String} {tk : Tok} {R : Result → Shared → Prop} (SF : StoreFacts "Exception" [.type "Exception", .type "BaseException", .type "object"] sa owner) (hC : h.get? 31 = some lsCls) (hn : h.Ns 30 mN) (hna : mN name = none) (hB : typeLookup (.type "Exception") name = pure none)
    (hx : h.get? x = some o) (hc : o.cls = .ref 31) (hdn : o.dict = none) (hdt : o.data = .fields vs)
    (hq : ∀ h' tk' oD, h'.get? x = some { o with dict := some h.objs.size } → h'.get? h.objs.size = some oD → SaysD oD (fun y => if y = name then some v else none) → (∀ b ob, b ≠ x → h.get? b = some ob → h'.get? b = some ob) → R (.ok (.ret .none)) ⟨h', g, d, tk', os⟩) :
    codeAny (model prog w) A (.call (.builtin sa) ⟨[.ref x, .str name tk, v], []⟩) R ⟨h, g, d, t, os⟩ :=
  codeAny_call_builtin SF.slot.plain SF.entry (wpAny_check_sa SF hC hx hc (exc_store0 hC hn hna hB hx hc hdn hdt hq))
theorem exc_set0 {Q : Unit → Shared → Prop} (hC : h.get? 31 = some lsCls) (hn : LsNs h mN) (hna : mN name = none) (hB : typeLookup (.type "Exception") name = pure none)
    (hx : h.get? x = some o) (hc : o.cls = .ref 31) (hdn : o.dict = none) (hdt : o.data = .fields vs)
    (hq : ∀ h' tk' oD, h'.get? x = some { o with dict := some h.objs.size } → h'.get? h.objs.size = some oD → SaysD oD (fun y => if y = name then some v else none) → (∀ b ob, b ≠ x → h.get? b = some ob → h'.get? b = some ob) → Q () ⟨h', g, d, tk', os⟩) :
    wpAny (model prog w) A (setAttr (.ref x) name v) Q E ⟨h, g, d, t, os⟩ := by
  have SF := PySem.F.store_Exception
  have f3 := SF.slot.bind (.ref x)
  unfold setAttr callSpecial? specialOf
  repeat (any_goals (first | assumption | (with_reducible refine wpAny_loadPart_at hx ?_; rw [hc]) | (with_reducible refine wpAny_typeLookup_exc hC hn.ns SF.mro SF.slot.lookup ?_; rw [hn.setattr]) | wp_step))
  refine exc_call0 SF hC hn.ns hna hB hx hc hdn hdt fun h' tk' oD a1 a2 a3 a4 => ?_
  repeat (any_goals (first | assumption | wp_step))
  exact hq h' tk' oD a1 a2 a3 a4
end
theorem lk_symbol : typeLookup (.type "Exception") (Str.ofString "symbol") = pure none := by rw [typeLookup_type, builtinLookup_eq_fast]; kernel_rfl
theorem lk_data : typeLookup (.type "Exception") (Str.ofString "data") = pure none := by rw [typeLookup_type, builtinLookup_eq_fast]; kernel_rfl
section
open Builtin Builtin.ObjectAttr
variable {prog : Program} {w : World} {A : Around} {E : Value → Shared → Prop} {h : Heap} {g : Array GenState} {d : Drawn} {t : Nat} {os : OsState} {x D : Addr} {mN mA : Str → Option Value} {name : Str} {v : Value} {o oD : Obj} {vs : Array Value}
theorem exc_set1 {Q : Unit → Shared → Prop} {ns : List Str} (hC : h.get? 31 = some lsCls) (hn : LsNs h mN) (hna : mN name = none) (hB : typeLookup (.type "Exception") name = pure none) (hxC : x ≠ 31)
    (hx : h.get? x = some o) (hc : o.cls = .ref 31) (hd : o.dict = some D) (hne : D ≠ x) (hdt : o.data = .fields vs) (hD : h.get? D = some oD) (hs : SaysD oD mA) (hw : Within mA ns) (hsz : ns.length ≤ sizeLine)
    (hq : ∀ h' tk' oD', h'.get? x = some o → h'.get? D = some oD' → SaysD oD' (fun y => if y = name then some v else mA y) → (∀ b ob, b ≠ x → b ≠ D → h.get? b = some ob → h'.get? b = some ob) → Q () ⟨h', g, d, tk', os⟩) :
    wpAny (model prog w) A (setAttr (.ref x) name v) Q E ⟨h, g, d, t, os⟩ := by
  obtain ⟨es, ep, s1, s2, s3, s4⟩ := hs
  have I : h.Inst x 31 mA := ⟨o, hx, hc, (fun c e => by rw [hdt] at e; cases e), .inr ⟨D, hd, hne, oD, es, ep, hD, s1, s2, s3, s4⟩⟩
  refine store_attr PySem.F.store_Exception hC hn.ns hn.setattr hna hB hxC I (fun h' tk' I' k1 k2 => ?_) hw hsz
  obtain ⟨o1, e1, e2, e3, e4, e5⟩ := k2 o hx
  obtain ⟨o2, f1, f2, f3, f4⟩ := I'
  obtain rfl : o1 = o2 := Option.some.inj (e1.symm.trans f1)
  have e6 := e5 D hd
  have ho : o1 = o := by
    obtain ⟨a1, a2, a3, a4⟩ := o1
    obtain ⟨b1, b2, b3, b4⟩ := o
    simp only at e2 e3 e4 e6 hd
    subst e2 e3 e4 e6 hd
    rfl
  subst ho
  rcases f4 with ⟨f5, _⟩ | ⟨D', f5, _, oD', es', ep', g1, g2⟩
  · rw [hd] at f5; cases f5
  · obtain rfl : D = D' := Option.some.inj (hd.symm.trans f5)
    exact hq h' tk' oD' e1 g1 ⟨es', ep', g2⟩ fun b ob hb hbD hob => k1 b ob hb (fun o0 dx h0 h1 => by rw [hx] at h0; cases h0; rw [hd] at h1; cases h1; exact hbD) hob

theorem exc_ga_check {M : Model} {nameV : Value} {Q : Unit → Shared → Prop} (hC : h.get? 31 = some lsCls) (hx : h.get? x = some o) (hc : o.cls = .ref 31) (hq : Q () ⟨h, g, d, t, os⟩) :
    wpAny M A (checkBuiltinCall "BaseException.__getattribute__" ⟨[.ref x, nameV], []⟩) Q E ⟨h, g, d, t, os⟩ := by
  have hk : builtinKind "BaseException.__getattribute__" = some .slot := by decide +kernel
  have hsplit : splitId "BaseException.__getattribute__" = some ("BaseException", "__getattribute__") := by decide +kernel
  have hcB : (Value.ref 31 :: [Value.type "Exception", .type "BaseException", .type "object"]).contains (.type "BaseException") = true := by decide +kernel
  have ha := F.args_bexc_ga (.ref x) nameV
  simp only [checkBuiltinCall, hk, hsplit]
  refine wpAny_bind ?_
  unfold isInstance
  repeat (first | (with_reducible refine wpAny_loadPart_at hx ?_; rw [hc]) | (with_reducible refine wpAny_isSubtype_exc hC ?_; rw [hcB]) | wp_step)
  exact hq
theorem exc_ga_entry {tk : Tok} {Q : Fin → Shared → Prop} (hC : h.get? 31 = some lsCls) (hn : LsNs h mN) (hna : mN name = none) (hB : typeLookup (.type "Exception") name = pure none)
    (hx : h.get? x = some o) (hc : o.cls = .ref 31) (hd : o.dict = some D) (hdt : o.data = .fields vs) (hD : h.get? D = some oD) (hs : SaysD oD mA) (hv : mA name = some v) (hq : Q (.done (.ret v)) ⟨h, g, d, t, os⟩) :
    wpAny (model prog w) A (Builtin.«object.__getattribute__» ⟨[.ref x, .str name tk], []⟩) Q E ⟨h, g, d, t, os⟩ := by
  obtain ⟨es, ep, s1, s2, s3, s4⟩ := hs
  have FB := PySem.F.attrBase_Exception
  have hns : h.Ns D mA := ⟨oD, es, ep, hD, s1, s2, s4⟩
  unfold Builtin.«object.__getattribute__»
  repeat (first | (with_reducible refine wpAny_loadPart_at hx ?_; rw [hc]) | (with_reducible refine wpAny_typeLookup_exc hC hn.ns FB.mro hB ?_; rw [hna]) | wp_step)
  rw [hdt]
  unfold instanceDict
  repeat (first | (with_reducible refine wpAny_loadPart_at hx ?_; rw [hc]) | with_reducible refine wpAny_loadPart_at hC ?_ | wp_step)
  rw [hd]
  repeat (first | (with_reducible refine wpAny_nsGet hns ?_; rw [hv]) | wp_step)
  exact hq
theorem exc_ga_call {tk : Tok} {R : Result → Shared → Prop} (hC : h.get? 31 = some lsCls) (hn : LsNs h mN) (hna : mN name = none) (hB : typeLookup (.type "Exception") name = pure none)
    (hx : h.get? x = some o) (hc : o.cls = .ref 31) (hd : o.dict = some D) (hdt : o.data = .fields vs) (hD : h.get? D = some oD) (hs : SaysD oD mA) (hv : mA name = some v) (hq : R (.ok (.ret v)) ⟨h, g, d, t, os⟩) :
    codeAny (model prog w) A (.call (.builtin "BaseException.__getattribute__") ⟨[.ref x, .str name tk], []⟩) R ⟨h, g, d, t, os⟩ :=
  codeAny_call_builtin PySem.F.attrBase_Exception.ga.plain F.entry_bexc_ga (exc_ga_check hC hx hc (exc_ga_entry hC hn hna hB hx hc hd hdt hD hs hv hq))
theorem exc_get {expr : Bool} {Q : Value → Shared → Prop} (hC : h.get? 31 = some lsCls) (hn : LsNs h mN) (hna : mN name = none) (hB : typeLookup (.type "Exception") name = pure none)
    (hx : h.get? x = some o) (hc : o.cls = .ref 31) (hd : o.dict = some D) (hdt : o.data = .fields vs) (hD : h.get? D = some oD) (hs : SaysD oD mA) (hv : mA name = some v) (hh : handedOut v = pure v)
    (hq : Q v ⟨h, g, d, t + 1, os⟩) : wpAny (model prog w) A (getAttr (.ref x) name expr) Q E ⟨h, g, d, t, os⟩ := by
  have FB := PySem.F.attrBase_Exception
  have f3 := FB.ga.bind (.ref x)
  have hx0 : (expr && onTheHeap (Value.builtin "BaseException.__getattribute__")) = false := by cases expr <;> rfl
  have hx2 : (Value.builtin "BaseException.__getattribute__" == Value.builtin "object.__getattribute__") = false := by decide +kernel
  have hx1 : (onTheHeap (Value.ref 31) && Value.builtin "BaseException.__getattribute__" == Value.builtin "object.__getattribute__") = false := by rw [hx2]; rfl
  unfold getAttr
  repeat (any_goals (first | assumption | (with_reducible refine wpAny_loadPart_at hx ?_; rw [hc]) | (with_reducible refine wpAny_typeLookup_exc hC hn.ns FB.mro FB.ga.lookup ?_; rw [hn.ga]) | (with_reducible refine wpAny_typeLookup_exc hC hn.ns FB.mro FB.noGetattr ?_; rw [hn.gah]) | wp_step))
  refine exc_ga_call hC hn hna hB hx hc hd hdt hD hs hv ?_
  repeat (any_goals (first | assumption | wp_step))
end
section
variable {prog : Program} {w : World} {A : Around} {E : Value → Shared → Prop} {s : Shared} {h₀ : Heap} {L e t D : Addr} {m mA : Str → Option Value} {led : Led} {oE oD : Obj} {name : Str} {v : Value}
theorem Fr.past {h h' : Heap} (F : Fr h₀ L h m) (k : ∀ b o, h.get? b = some o → (b = L ∨ ∃ o, h₀.get? b = some o) → h'.get? b = some o) : Fr h₀ L h' m := by
  obtain ⟨⟨oL, es, ep, hL, r⟩, fk, fa⟩ := F
  exact ⟨⟨oL, es, ep, k _ _ hL (.inl rfl), r⟩, fun b o hb => k _ _ (fk b o hb) (.inr ⟨o, hb⟩), fa⟩
theorem exc_set0_led {Q : Unit → Shared → Prop} (F : Fr h₀ L s.heap m) (X : (hd.heap_39 w.params).In s.heap) (N : News h₀ L s.heap ((e, oE) :: led)) (hE : ExcO oE t) (hdn : oE.dict = none) (hoff : ∀ p ∈ led, p.1 ≠ e)
    (hname : name = Str.ofString "symbol" ∨ name = Str.ofString "data")
    (h : ∀ h' tk' oE' D oD, Fr h₀ L h' m → News h₀ L h' ((e, oE') :: (D, oD) :: led) → ExcO oE' t → oE'.dict = some D → SaysD oD (fun y => if y = name then some v else none) → D ≠ e → (∀ p ∈ led, p.1 ≠ D) → Q () { s with heap := h', toks := tk' }) :
    wpAny (model prog w) A (setAttr (.ref e) name v) Q E s := by
  obtain ⟨hp, g, dr, tk, os⟩ := s
  have hn := ls_ns X
  obtain ⟨n1, n2, n3⟩ := N _ (.head _)
  simp only at n1 n2 n3 F N X h
  have hDl : ∀ b o, hp.get? b = some o → b ≠ hp.objs.size := fun b o q => Nat.ne_of_lt (Heap.lt_size q)
  refine exc_set0 (X _ _ (ls_cls _)) hn (by rcases hname with rfl | rfl; exact hn.symbol; exact hn.data) (by rcases hname with rfl | rfl; exact lk_symbol; exact lk_data) n1 hE.cls hdn hE.data fun h' tk' oD a1 a2 a3 a4 => ?_
  refine h h' tk' { oE with dict := some hp.objs.size } hp.objs.size oD (Fr.past F fun b o q r => a4 b o (fun z => ?_) q) ?_ ⟨hE.cls, hE.data⟩ rfl a3 (fun z => hDl _ _ n1 z.symm) fun p hp' => hDl _ _ (N p (.tail _ hp')).1
  · subst z
    rcases r with r | ⟨o', r⟩
    · exact n2 r
    · rw [n3] at r; cases r
  · intro p hp'
    rcases List.mem_cons.mp hp' with rfl | hp'
    · exact ⟨a1, n2, n3⟩
    rcases List.mem_cons.mp hp' with rfl | hp'
    · refine ⟨a2, fun z => ?_, ?_⟩
      · obtain ⟨oL, _, _, hL, _⟩ := F.ns
        exact hDl _ _ hL z.symm
      · cases q : h₀.get? hp.objs.size with
        | none => rfl
        | some o => exact absurd rfl (hDl _ _ (F.keep _ _ q))
    · obtain ⟨m1, m2, m3⟩ := N p (.tail _ hp')
      exact ⟨a4 _ _ (hoff p hp') m1, m2, m3⟩
theorem exc_set1_led {Q : Unit → Shared → Prop} {ns : List Str} (F : Fr h₀ L s.heap m) (X : (hd.heap_39 w.params).In s.heap) (N : News h₀ L s.heap ((e, oE) :: (D, oD) :: led)) (hE : ExcO oE t) (hdd : oE.dict = some D) (hs : SaysD oD mA) (hDe : D ≠ e) (hoff : ∀ p ∈ led, p.1 ≠ e) (hoffD : ∀ p ∈ led, p.1 ≠ D)
    (hname : name = Str.ofString "symbol" ∨ name = Str.ofString "data") (hX31 : (hd.heap_39 w.params).In h₀) (hw : Within mA ns) (hsz : ns.length ≤ sizeLine)
    (h : ∀ h' tk' oD', Fr h₀ L h' m → News h₀ L h' ((e, oE) :: (D, oD') :: led) → SaysD oD' (fun y => if y = name then some v else mA y) → Q () { s with heap := h', toks := tk' }) :
    wpAny (model prog w) A (setAttr (.ref e) name v) Q E s := by
  obtain ⟨hp, g, dr, tk, os⟩ := s
  have hn := ls_ns X
  obtain ⟨n1, n2, n3⟩ := N _ (.head _)
  obtain ⟨p1, p2, p3⟩ := N _ (.tail _ (.head _))
  simp only at n1 n2 n3 p1 p2 p3 F N X h
  have h31 : e ≠ 31 := fun z => by have := hX31 _ _ (ls_cls _); rw [z] at n3; rw [n3] at this; cases this
  refine exc_set1 (X _ _ (ls_cls _)) hn (by rcases hname with rfl | rfl; exact hn.symbol; exact hn.data) (by rcases hname with rfl | rfl; exact lk_symbol; exact lk_data) h31 n1 hE.cls hdd hDe hE.data p1 hs hw hsz fun h' tk' oD' a1 a2 a3 a4 => ?_
  refine h h' tk' oD' (Fr.past F fun b o q r => a4 b o (fun z => ?_) (fun z => ?_) q) ?_ a3
  · subst z
    rcases r with r | ⟨o', r⟩
    · exact n2 r
    · rw [n3] at r; cases r
  · subst z
    rcases r with r | ⟨o', r⟩
    · exact p2 r
    · rw [p3] at r; cases r
  · intro p hp'
    rcases List.mem_cons.mp hp' with rfl | hp'
    · exact ⟨a1, n2, n3⟩
    rcases List.mem_cons.mp hp' with rfl | hp'
    · exact ⟨a2, p2, p3⟩
    · obtain ⟨m1, m2, m3⟩ := N p (.tail _ (.tail _ hp'))
      exact ⟨a4 _ _ (hoff p hp') (hoffD p hp') m1, m2, m3⟩
theorem exc_make {Q : Value → Shared → Prop} {rest : List Value} (F : Fr h₀ L s.heap m) (X : (hd.heap_39 w.params).In s.heap) (N : News h₀ L s.heap led) (hrest : rest.length ≤ sizeLine)
    (h : ∀ h' e t oT, Fr h₀ L h' m → News h₀ L h' ((e, ⟨.ref 31, none, .fields #[.ref t, .none, .none, .none, .bool false, .none], #[]⟩) :: (t, oT) :: led) → (∀ p ∈ (t, oT) :: led, p.1 ≠ e) →
      wpAny (model prog w) (A.under (.builtin "type.__call__" ⟨.ref 31 :: rest, []⟩)) (call (.ref 28) (.ref e :: rest)) (fun r s' => r = .none ∧ Q (.ref e) s') E { s with heap := h' }) :
    wpAny (model prog w) A (call (.ref 31) rest) Q E s := by
  obtain ⟨hp, g, dr, tk, os⟩ := s
  have hn := ls_ns X
  obtain ⟨oI, i1, i2⟩ := ls_init w.params
  refine wpAny_call_exc_init PySem.F.excBase_Exception (X _ _ (ls_cls _)) hn.ns hn.init (X _ _ i1) i2 (fun h' e hm => ?_) hrest
  obtain ⟨k1, k2, t, k3, k4, k5⟩ := hm
  simp only at F N X h
  have fresh : ∀ b, hp.get? b = none → b ≠ L ∧ h₀.get? b = none := fun b q => by
    refine ⟨fun z => ?_, ?_⟩
    · obtain ⟨oL, _, _, hL, _⟩ := F.ns
      rw [z, hL] at q; cases q
    · cases r : h₀.get? b with
      | none => rfl
      | some o => rw [F.keep _ _ r] at q; cases q
  have hte : t ≠ e := fun z => by rw [z, k3] at k5; cases k5
  refine h h' e t { cls := .type "tuple", data := .seq rest.toArray } (Fr.past F fun b o q _ => k1 b o q) ?_ ?_
  · intro p hp'
    rcases List.mem_cons.mp hp' with rfl | hp'
    · exact ⟨k3, fresh _ k2⟩
    rcases List.mem_cons.mp hp' with rfl | hp'
    · exact ⟨k5, fresh _ k4⟩
    · exact ⟨k1 _ _ (N p hp').1, (N p hp').2⟩
  · intro p hp'
    rcases List.mem_cons.mp hp' with rfl | hp'
    · exact hte
    · intro z
      have := (N p hp').1
      rw [z, k2] at this; cases this
end
theorem ls_con (w : World) (led : Led) (sy : Str) (tk : Tok) (b : Addr) :
    Con w 31 [.str sy tk, .ref b] 6 60 led
      (fun r led' => ∃ e t D oE oD oT mA, r = .ref e ∧ led' = (e, oE) :: (D, oD) :: (t, oT) :: led ∧ ExcO oE t ∧ oE.dict = some D ∧ SaysD oD mA ∧ mA (Str.ofString "symbol") = some (.str sy tk) ∧ ∀ p ∈ (D, oD) :: (t, oT) :: led, p.1 ≠ e) := by
  k_with_none
  unfold Con
  intro mean mg mb dp un gd cn cs a ccd cl outer A₀ base h₀ L m s Q E B F X N T hk9 hd9 hu9 hret
  refine exc_make F (X.keeps F.keep) N (by size_fits) fun h1 e1 t1 oT1 F1 N1 hoff1 => ?_
  clear F N
  have hE1 : ExcO ⟨.ref 31, none, .fields #[.ref t1, .none, .none, .none, .bool false, .none], #[]⟩ t1 := ⟨rfl, rfl⟩
  refine wpAny_call ?_
  ((k_dflt (refine' code_def ?k1 ?k2 ?k3 ?k4 ?k5 ?kA ?kF ?kK ?k6 ?k7 ?k8 ?k9 ?kB ?_ ?c2 ?c3 ?c4 ?c5; (case kA => exact rfl); (case kF => exact rfl); (case kK => first | exact rfl | assumption); (case k1 => k_asm); (case k2 => k_asm); (case k3 => k_asm); (case k4 => k_asm); (case k5 => k_asm); (case k6 => k_is); (case k7 => k_is); (case k8 => k_room); (case k9 => first | exact BindsTo.of_eq rfl | exact binds_K (by k_in) rfl (by k_is) rfl rfl rfl); (case c5 => decide); (case kB => exact locs rfl); (case c2 => exact rfl); (case c3 => exact rfl); (case c4 => exact rfl); k_whole; intro _ _ _ _ _ _ _ _ _; (try dsimp only); (try k_fold))))
  k_with "setAttr ref" => (first
    | (refine' exc_set0_led ?F ?X ?N hE1 rfl hoff1 (.inl rfl) ?_; (case F => k_asm); (case X => k_in); (case N => k_asm); intro h9 tk9 oE9 D9 oD9 F9 N9 E9 d9 s9 n9 o9)
    | (refine' exc_set1_led (ns := [Str.ofString "symbol"]) ?F ?X ?N E9 d9 s9 n9 hoff1 o9 (.inr rfl) ?X0 ?hw (by size_fits) ?_; (case F => k_asm); (case X => k_in); (case N => k_asm); (case X0 => k_asm); (case hw => exact Within.cons _ _ Within.nil); intro h8 tk8 oD8 F8 N8 s8))
  (repeat' (first | (k_unfold; (try dsimp only)) | (k_end; wrow_close) | (walk1; (all_goals (try dsimp only))) | (dsimp only; walk1) | ((simp only [List.cons_append, List.nil_append]); walk1) | (leave1; walk_say "STEP leave1"; try dsimp only) | fail "no step"))
  refine hret _ _ _ _ (by assumption) (by assumption) ⟨_, _, _, _, _, _, _, rfl, rfl, E9, d9, s8, rfl, ?_⟩
  intro p hp
  rcases List.mem_cons.mp hp with rfl | hp
  · exact n9
  · exact hoff1 p hp
/-- a made, unraised exception of the text's own class that says one symbol, upon a ledger -/
def ExcMade (w : World) (sy : Str) (e : Addr) (led led' : Led) : Prop :=
  ∃ t D oE oD oT mA tk, led' = (e, oE) :: (D, oD) :: (t, oT) :: led ∧ ExcO oE t ∧ oE.dict = some D ∧ SaysD oD mA ∧ mA (Str.ofString "symbol") = some (.str sy tk) ∧ ∀ p ∈ (D, oD) :: (t, oT) :: led, p.1 ≠ e
theorem wrong_con (w : World) (led : Led) (sy : Str) (tk : Tok) (b : Addr) :
    Con w 41 [.str sy tk, .ref b] 9 90 led
      (fun r led' => ∃ e l, r = .ref e ∧ ExcMade w (Str.ofString "wrong-type-argument") e (l :: led) led') := by
  k_with_none
  unfold Con
  intro mean mg mb dp un gd cn cs a ccd cl outer A₀ base h₀ L m s Q E B F X N T hk9 hd9 hu9 hret
  refine wpAny_call ?_
  ((k_dflt (refine' code_def ?k1 ?k2 ?k3 ?k4 ?k5 ?kA ?kF ?kK ?k6 ?k7 ?k8 ?k9 ?kB ?_ ?c2 ?c3 ?c4 ?c5; (case kA => exact rfl); (case kF => exact rfl); (case kK => first | exact rfl | assumption); (case k1 => k_asm); (case k2 => k_asm); (case k3 => k_asm); (case k4 => k_asm); (case k5 => k_asm); (case k6 => k_is); (case k7 => k_is); (case k8 => k_room); (case k9 => first | exact BindsTo.of_eq rfl | exact binds_K (by k_in) rfl (by k_is) rfl rfl rfl); (case c5 => decide); (case kB => exact locs rfl); (case c2 => exact rfl); (case c3 => exact rfl); (case c4 => exact rfl); k_whole; intro _ _ _ _ _ _ _ _ _; (try dsimp only); (try k_fold))))
  k_with "call ref" => ((refine' Con.use (ls_con w _ _ _ _) ?B ?F ?X ?N ?T ?hk ?hd ?hu ?_); (((case B => k_asm); (case F => k_asm); (case X => k_asm); (case N => k_asm); (case T => k_asm); (case hk => rfl); (case hd => first | exact dnle (by assumption) (by decide) | ((try simp only [depth_deeper]); (try dsimp only [ktrTop]); omega)); (case hu => first | exact unle (by assumption) (by decide) | ((try simp only [units_deeper]); (try dsimp only [ktrTop]); omega)))); rintro r9 led9 h9 tk9 F9 N9 ⟨e9, t9, D9, oE9, oD9, oT9, mA9, rfl, rfl, a9, b9, c9, d9, f9⟩)
  (repeat' (first | (k_unfold; (try dsimp only)) | (k_end; wrow_close) | (walk1; (all_goals (try dsimp only))) | (dsimp only; walk1) | ((simp only [List.cons_append, List.nil_append]); walk1) | (leave1; walk_say "STEP leave1"; try dsimp only) | fail "no step"))
  exact hret _ _ _ _ (by assumption) (by assumption) ⟨_, _, rfl, _, _, _, _, _, _, _, rfl, a9, b9, c9, d9, f9⟩
theorem exc_get_led {prog : Program} {w : World} {A : Around} {E : Value → Shared → Prop} {s : Shared} {h₀ : Heap} {L e D : Addr} {news : Led} {oe oD : Obj} {vs : Array Value} {mA : Str → Option Value} {sy : Str} {tk : Tok} {expr : Bool} {Q : Value → Shared → Prop}
    (X : (hd.heap_39 w.params).In s.heap) (N : News h₀ L s.heap news) (h1 : (e, oe) ∈ news) (h2 : (D, oD) ∈ news) (hc : oe.cls = .ref 31) (hdd : oe.dict = some D) (hdt : oe.data = .fields vs) (hs : SaysD oD mA) (hv : mA (Str.ofString "symbol") = some (.str sy tk))
    (hq : Q (.str sy tk) { s with toks := s.toks + 1 }) : wpAny (model prog w) A (getAttr (.ref e) (Str.ofString "symbol") expr) Q E s := by
  obtain ⟨hp, g, dr, t, os⟩ := s
  have hn := ls_ns X
  exact exc_get (X _ _ (ls_cls _)) hn hn.symbol lk_symbol (N _ h1).1 hc hdd hdt (N _ h2).1 hs hv rfl hq
end
section
/-- the place of a name's first pair -/
def place : List Int → Int → Option Nat
  | x :: _ :: r, nm => if x = nm then some 0 else (place r nm).map (· + 2)
  | _, _ => none
theorem place_short {l : List Int} (nm : Int) (h : l.length < 2) : place l nm = none := by
  match l, h with
  | [], _ => rfl
  | [_], _ => rfl
  | _ :: _ :: _, h => simp at h; omega
theorem place_cons {x y nm : Int} {r : List Int} : place (x :: y :: r) nm = if x = nm then some 0 else (place r nm).map (· + 2) := by rw [place]

theorem pair_con (w : World) (led : Led) (v : Value) (c : List Cell) (nm : Int) (tn : Tok) (hc : ChainIn w led v c) (hlen : c.length ≤ 99)
    (ha : (c.map (·.a)).Nodup) :
    Con w 122 [v, .int nm tn] 7 60 led
      (fun r led' => led = led' ∧ ((place (c.map (·.x)) nm = none ∧ r = .none) ∨ ∃ p q, place (c.map (·.x)) nm = some p ∧ c[p + 1]? = some q ∧ r = .ref q.a)) := by
  k_with_none
  unfold Con
  intro mean mg mb dp un gd cn cs a ccd cl outer A₀ base h₀ L m s Q E B F X N T hk9 hd9 hu9 hret
  refine wpAny_call ?_
  k_dflt ktr_enter
  k_with "call ref" => ((refine' Con.use (split_con w _ _ _ hc hlen ha) ?B ?F ?X ?N ?T ?hk ?hd ?hu ?_); (((case B => k_asm); (case F => k_asm); (case X => k_asm); (case N => k_asm); (case T => k_asm); (case hk => rfl); (case hd => first | exact dnle (by assumption) (by decide) | ((try simp only [depth_deeper]); (try dsimp only [ktrTop]); omega)); (case hu => first | exact unle (by assumption) (by decide) | ((try simp only [units_deeper]); (try dsimp only [ktrTop]); omega)))); intro r9 led9 h9 tk9 F9 N9 hP9; refine exE5 hP9 ?_; clear hP9; intro T9 X9 vals n8 n9 hP9; refine andE3 hP9 ?_; clear hP9; rintro rfl rfl hvals; have hlv := hvals.length)
  k_with "call builtin:len" => k_dflt (refine' kun_lenL (k := (c.length : Int)) ?k1 ?k2 ?k3 ?_; (case k1 => exact News.isList (by k_asm) (by k_mem)); (case k2 => (simp at hlv ⊢; omega)); (case k3 => omega))
  k_with "exec While BoolOp cons nil" => refine stopHere ?_
  (repeat' (first | (k_unfold; (try dsimp only)) | (k_end; wrow_close) | (walk1; (all_goals (try dsimp only))) | (dsimp only; walk1) | ((simp only [List.cons_append, List.nil_append]); walk1) | (leave1; walk_say "STEP leave1"; try dsimp only) | fail "no step"))
  unfold id
  rename_i D9 h91 l91 h92 h93 h' F' N'
  replace N' := News.sub (l' := led) N' (by (first | exact fun _ h => h | exact fun _ h => .tail _ h | exact fun _ h => .tail _ (.tail _ h) | exact fun _ h => .tail _ (.tail _ (.tail _ h)) | exact fun _ h => .tail _ (.tail _ (.tail _ (.tail _ h))) | exact fun _ h => .tail _ (.tail _ (.tail _ (.tail _ (.tail _ h)))) | exact fun _ h => .tail _ (.tail _ (.tail _ (.tail _ (.tail _ (.tail _ h))))) | exact fun _ h => .tail _ (.tail _ (.tail _ (.tail _ (.tail _ (.tail _ (.tail _ h)))))) | exact fun _ h => .tail _ (.tail _ (.tail _ (.tail _ (.tail _ (.tail _ (.tail _ (.tail _ h))))))) | exact fun _ h => .tail _ (.tail _ (.tail _ (.tail _ (.tail _ (.tail _ (.tail _ (.tail _ (.tail _ h)))))))) | exact fun _ h => .tail _ (.tail _ (.tail _ (.tail _ (.tail _ (.tail _ (.tail _ (.tail _ (.tail _ (.tail _ h))))))))) | exact fun _ h => .tail _ (.tail _ (.tail _ (.tail _ (.tail _ (.tail _ (.tail _ (.tail _ (.tail _ (.tail _ (.tail _ h)))))))))) | exact fun _ h => .tail _ (.tail _ (.tail _ (.tail _ (.tail _ (.tail _ (.tail _ (.tail _ (.tail _ (.tail _ (.tail _ (.tail _ h))))))))))) | exact fun _ h => .tail _ (.tail _ (.tail _ (.tail _ (.tail _ (.tail _ (.tail _ (.tail _ (.tail _ (.tail _ (.tail _ (.tail _ (.tail _ h)))))))))))) | exact fun _ h => .tail _ (.tail _ (.tail _ (.tail _ (.tail _ (.tail _ (.tail _ (.tail _ (.tail _ (.tail _ (.tail _ (.tail _ (.tail _ (.tail _ h))))))))))))) | (intro p hp; simp [hp])))
  k_with "call ref" => ((refine' Con.use (eq_con w _ _ _ _ _) ?B ?F ?X ?N ?T ?hk ?hd ?hu ?_); (((case B => k_asm); (case F => k_asm); (case X => k_asm); (case N => k_asm); (case T => k_asm); (case hk => rfl); (case hd => first | exact dnle (by assumption) (by decide) | ((try simp only [depth_deeper]); (try dsimp only [ktrTop]); omega)); (case hu => first | exact unle (by assumption) (by decide) | ((try simp only [units_deeper]); (try dsimp only [ktrTop]); omega)))); rintro r9 led9 h9 tk9 F9 N9 ⟨e9, rfl⟩; subst e9)
  refine While_inv2 (fun n m₁ news₁ => ∃ (k : Nat) (va : Value) (tl : Tok), news₁ = led ∧ k + n = c.length ∧ m₁ (Str.ofString "here") = some va ∧ m₁ (Str.ofString "left") = some (.int ((c.length : Int) - k) tl) ∧ m₁ (Str.ofString "name") = some (.int nm tn) ∧ ChainIn w led va (c.drop k) ∧ place (c.map (·.x)) nm = (place ((c.drop k).map (·.x)) nm).map (· + k)) F' N' (n₀ := c.length) ⟨0, v, _, rfl, by omega, rfl, rfl, rfl, hc, by simp⟩ ?_
  intro n m₁ news₁ h₁ tk₁ F₁ N₁ hP9
  refine exE3 hP9 ?_
  clear hP9
  intro k va tl hP9
  refine andE7 hP9 ?_
  clear hP9
  rintro rfl hkn h1 h2 h3 hA hP
  replace F₁ := Fr.bnd F₁ [(Str.ofString "here", va), (Str.ofString "left", .int ((c.length : Int) - k) tl), (Str.ofString "name", .int nm tn)] (by simp [h1, h2, h3])
  have hno : ∀ d, (64, instObj 82 d) ∉ news₁ := noNil N X
  have hf1 : Fun1 news₁ := News.fun1 N
  rcases n with _ | _ | n
  · have e : c.drop k = [] := by rw [List.drop_eq_nil_iff]; omega
    rw [e] at hA hP
    cases hA
    (repeat' (first | (k_unfold; (try dsimp only)) | (k_end; wrow_close) | (walk1; (all_goals (try dsimp only))) | (dsimp only; walk1) | ((simp only [List.cons_append, List.nil_append]); walk1) | (leave1; walk_say "STEP leave1"; try dsimp only) | fail "no step"))
    exact hret _ _ _ _ (by assumption) (News.sub (by assumption) (fun _ h => h)) ⟨rfl, .inl ⟨by rw [hP]; rfl, rfl⟩⟩
  · obtain ⟨q, hq⟩ : ∃ q, c.drop k = q :: c.drop (k + 1) := ⟨_, List.drop_eq_getElem_cons (by omega)⟩
    have e : c.drop (k + 1) = [] := by rw [List.drop_eq_nil_iff]; omega
    rw [hq, e] at hA hP
    obtain ⟨rfl, va', tx, t1, t2, hm1, hm2, hA'⟩ := hA.uncons
    cases hA'
    (repeat' (first | (k_unfold; (try dsimp only)) | (k_end; wrow_close) | (walk1; (all_goals (try dsimp only))) | (dsimp only; walk1) | ((simp only [List.cons_append, List.nil_append]); walk1) | (leave1; walk_say "STEP leave1"; try dsimp only) | fail "no step"))
    exact hret _ _ _ _ (by assumption) (by assumption) ⟨rfl, .inl ⟨by rw [hP]; rfl, rfl⟩⟩
  · obtain ⟨q, hq⟩ : ∃ q, c.drop k = q :: c.drop (k + 1) := ⟨_, List.drop_eq_getElem_cons (by omega)⟩
    obtain ⟨q2, hq2⟩ : ∃ q, c.drop (k + 1) = q :: c.drop (k + 2) := ⟨_, List.drop_eq_getElem_cons (by omega)⟩
    rw [hq, hq2] at hA hP
    obtain ⟨rfl, va', tx, t1, t2, hm1, hm2, hA'⟩ := hA.uncons
    obtain ⟨rfl, va2, tx2, t3, t4, hm3, hm4, hA2⟩ := hA'.uncons
    obtain ⟨b1, rfl⟩ := hA2.ref
    have e2 : c[k + 1]? = some q2 := by rw [← List.head?_drop, hq2]; rfl
    (repeat' (first | (k_unfold; (try dsimp only)) | (k_end; wrow_close) | (walk1; (all_goals (try dsimp only))) | (dsimp only; walk1) | ((simp only [List.cons_append, List.nil_append]); walk1) | (leave1; walk_say "STEP leave1"; try dsimp only) | fail "no step"))
    · simp only [WhileStep2]
      (repeat' (first | (k_unfold; (try dsimp only)) | (k_end; wrow_close) | (walk1; (all_goals (try dsimp only))) | (dsimp only; walk1) | ((simp only [List.cons_append, List.nil_append]); walk1) | (leave1; walk_say "STEP leave1"; try dsimp only) | fail "no step"))
      exact hret _ _ _ _ (by assumption) (by assumption) ⟨rfl, .inr ⟨k, q2, by rw [hP]; simp only [List.map_cons, place_cons, if_pos (show q.x = nm by assumption), Option.map_some, Nat.zero_add], e2, rfl⟩⟩
    · have e9 : (c.length : Int) - ((k + 2 : Nat) : Int) = (c.length : Int) - k - 2 := by omega
      refine ⟨_, _, _, _, n, rfl, by assumption, News.sub (by assumption) (by (first | exact fun _ h => h | exact fun _ h => .tail _ h | exact fun _ h => .tail _ (.tail _ h) | exact fun _ h => .tail _ (.tail _ (.tail _ h)) | exact fun _ h => .tail _ (.tail _ (.tail _ (.tail _ h))) | exact fun _ h => .tail _ (.tail _ (.tail _ (.tail _ (.tail _ h)))) | exact fun _ h => .tail _ (.tail _ (.tail _ (.tail _ (.tail _ (.tail _ h))))) | exact fun _ h => .tail _ (.tail _ (.tail _ (.tail _ (.tail _ (.tail _ (.tail _ h)))))) | exact fun _ h => .tail _ (.tail _ (.tail _ (.tail _ (.tail _ (.tail _ (.tail _ (.tail _ h))))))) | exact fun _ h => .tail _ (.tail _ (.tail _ (.tail _ (.tail _ (.tail _ (.tail _ (.tail _ (.tail _ h)))))))) | exact fun _ h => .tail _ (.tail _ (.tail _ (.tail _ (.tail _ (.tail _ (.tail _ (.tail _ (.tail _ (.tail _ h))))))))) | exact fun _ h => .tail _ (.tail _ (.tail _ (.tail _ (.tail _ (.tail _ (.tail _ (.tail _ (.tail _ (.tail _ (.tail _ h)))))))))) | exact fun _ h => .tail _ (.tail _ (.tail _ (.tail _ (.tail _ (.tail _ (.tail _ (.tail _ (.tail _ (.tail _ (.tail _ (.tail _ h))))))))))) | exact fun _ h => .tail _ (.tail _ (.tail _ (.tail _ (.tail _ (.tail _ (.tail _ (.tail _ (.tail _ (.tail _ (.tail _ (.tail _ (.tail _ h)))))))))))) | exact fun _ h => .tail _ (.tail _ (.tail _ (.tail _ (.tail _ (.tail _ (.tail _ (.tail _ (.tail _ (.tail _ (.tail _ (.tail _ (.tail _ (.tail _ h))))))))))))) | (intro p hp; simp [hp]))), by omega, k + 2, .ref b1, _, rfl, by omega, rfl, by rw [e9]; rfl, rfl, hA2, ?_⟩
      rw [hP]
      simp only [List.map_cons, place_cons, if_neg (show ¬ q.x = nm by assumption), Option.map_map]
      congr 1
      funext j
      simp only [Function.comp]
      omega
end
section
/-- the place from where a name's rest begins -/
def mplace : List Int → Int → Option Nat
  | x :: _ :: r, nm => if x = nm then some 0 else (mplace r nm).map (· + 2)
  | [x], nm => if x = nm then some 0 else none
  | [], _ => none

theorem member_con (w : World) (led : Led) (va AR : Addr) (c : List Cell) (nm : Int) (tn : Tok) (nA : Nat) (hc : ChainIn w led (.ref va) c) (hlen : c.length ≤ 99)
    (ha : (c.map (·.a)).Nodup) (hAR : (AR, listOf #[.ref va, .int nm tn] nA) ∈ led) :
    Con w 136 [.none, .ref AR] 9 80 led
      (fun r led' => led = led' ∧ ((mplace (c.map (·.x)) nm = none ∧ r = .ref 64) ∨ ∃ p q, mplace (c.map (·.x)) nm = some p ∧ c[p]? = some q ∧ r = .ref q.a)) := by
  k_with_none
  unfold Con
  intro mean mg mb dp un gd cn cs a ccd cl outer A₀ base h₀ L m s Q E B F X N T hk9 hd9 hu9 hret
  refine wpAny_call ?_
  k_dflt ktr_enter
  k_with "call ref" => ((refine' Con.use (split_con w _ _ _ hc hlen ha) ?B ?F ?X ?N ?T ?hk ?hd ?hu ?_); (((case B => k_asm); (case F => k_asm); (case X => k_asm); (case N => k_asm); (case T => k_asm); (case hk => rfl); (case hd => first | exact dnle (by assumption) (by decide) | ((try simp only [depth_deeper]); (try dsimp only [ktrTop]); omega)); (case hu => first | exact unle (by assumption) (by decide) | ((try simp only [units_deeper]); (try dsimp only [ktrTop]); omega)))); intro r9 led9 h9 tk9 F9 N9 hP9; refine exE5 hP9 ?_; clear hP9; intro T9 X9 vals n8 n9 hP9; refine andE3 hP9 ?_; clear hP9; rintro rfl rfl hvals; have hlv := hvals.length)
  k_with "call builtin:len" => k_dflt (refine' kun_lenL (k := (c.length : Int)) ?k1 ?k2 ?k3 ?_; (case k1 => exact News.isList (by k_asm) (by k_mem)); (case k2 => (simp at hlv ⊢; omega)); (case k3 => omega))
  k_with "subscriptTail" => (((with_reducible show wpAny _ _ (subscriptTail _ _ (Value.ref _) (Value.int _ _)) _ _ _); k_dflt (refine' my_itemL (News.isList ?mN ?mM) ?m0 ?mh ?mx ?_ ?ms; (case mN => k_asm); (case mM => k_mem); (case m0 => decide); (case mh => decide); (case mx => rfl); (case ms => with_unfolding_all rfl))))
  k_with "exec While BoolOp cons nil" => refine stopHere ?_
  (repeat' (first | (k_unfold; (try dsimp only)) | (k_end; wrow_close) | (walk1; (all_goals (try dsimp only))) | (dsimp only; walk1) | ((simp only [List.cons_append, List.nil_append]); walk1) | (leave1; walk_say "STEP leave1"; try dsimp only) | fail "no step"))
  unfold id
  rename_i D9 h91 l91 h92 h93 h' F' N'
  replace N' := News.sub (l' := led) N' (by (first | exact fun _ h => h | exact fun _ h => .tail _ h | exact fun _ h => .tail _ (.tail _ h) | exact fun _ h => .tail _ (.tail _ (.tail _ h)) | exact fun _ h => .tail _ (.tail _ (.tail _ (.tail _ h))) | exact fun _ h => .tail _ (.tail _ (.tail _ (.tail _ (.tail _ h)))) | exact fun _ h => .tail _ (.tail _ (.tail _ (.tail _ (.tail _ (.tail _ h))))) | exact fun _ h => .tail _ (.tail _ (.tail _ (.tail _ (.tail _ (.tail _ (.tail _ h)))))) | exact fun _ h => .tail _ (.tail _ (.tail _ (.tail _ (.tail _ (.tail _ (.tail _ (.tail _ h))))))) | exact fun _ h => .tail _ (.tail _ (.tail _ (.tail _ (.tail _ (.tail _ (.tail _ (.tail _ (.tail _ h)))))))) | exact fun _ h => .tail _ (.tail _ (.tail _ (.tail _ (.tail _ (.tail _ (.tail _ (.tail _ (.tail _ (.tail _ h))))))))) | exact fun _ h => .tail _ (.tail _ (.tail _ (.tail _ (.tail _ (.tail _ (.tail _ (.tail _ (.tail _ (.tail _ (.tail _ h)))))))))) | exact fun _ h => .tail _ (.tail _ (.tail _ (.tail _ (.tail _ (.tail _ (.tail _ (.tail _ (.tail _ (.tail _ (.tail _ (.tail _ h))))))))))) | exact fun _ h => .tail _ (.tail _ (.tail _ (.tail _ (.tail _ (.tail _ (.tail _ (.tail _ (.tail _ (.tail _ (.tail _ (.tail _ (.tail _ h)))))))))))) | exact fun _ h => .tail _ (.tail _ (.tail _ (.tail _ (.tail _ (.tail _ (.tail _ (.tail _ (.tail _ (.tail _ (.tail _ (.tail _ (.tail _ (.tail _ h))))))))))))) | (intro p hp; simp [hp])))
  k_with "call ref" => ((refine' Con.use (eq_con w _ _ _ _ _) ?B ?F ?X ?N ?T ?hk ?hd ?hu ?_); (((case B => k_asm); (case F => k_asm); (case X => k_asm); (case N => k_asm); (case T => k_asm); (case hk => rfl); (case hd => first | exact dnle (by assumption) (by decide) | ((try simp only [depth_deeper]); (try dsimp only [ktrTop]); omega)); (case hu => first | exact unle (by assumption) (by decide) | ((try simp only [units_deeper]); (try dsimp only [ktrTop]); omega)))); rintro r9 led9 h9 tk9 F9 N9 ⟨e9, rfl⟩; subst e9)
  refine While_inv2 (fun n m₁ news₁ => ∃ (k : Nat) (va : Value) (tl : Tok), news₁ = led ∧ k + n = c.length + 1 ∧ m₁ (Str.ofString "here") = some va ∧ m₁ (Str.ofString "left") = some (.int ((c.length : Int) - k) tl) ∧ m₁ (Str.ofString "args") = some (.ref AR) ∧ ChainIn w led va (c.drop k) ∧ mplace (c.map (·.x)) nm = (mplace ((c.drop k).map (·.x)) nm).map (· + k)) F' N' (n₀ := c.length + 1) ⟨0, _, _, rfl, by omega, rfl, rfl, rfl, hc, by simp⟩ ?_
  intro n m₁ news₁ h₁ tk₁ F₁ N₁ hP9
  refine exE3 hP9 ?_
  clear hP9
  intro k va9 tl hP9
  refine andE7 hP9 ?_
  clear hP9
  rintro e9 hkn h1 h2 h3 hA hP
  subst e9
  replace F₁ := Fr.bnd F₁ [(Str.ofString "here", va9), (Str.ofString "left", .int ((c.length : Int) - k) tl), (Str.ofString "args", .ref AR)] (by simp [h1, h2, h3])
  by_cases hk0 : c.length ≤ k
  · have e : c.drop k = [] := by rw [List.drop_eq_nil_iff]; omega
    rw [e] at hA hP
    cases hA
    (repeat' (first | (k_unfold; (try dsimp only)) | (k_end; wrow_close) | (walk1; (all_goals (try dsimp only))) | (dsimp only; walk1) | ((simp only [List.cons_append, List.nil_append]); walk1) | (leave1; walk_say "STEP leave1"; try dsimp only) | fail "no step"))
    exact hret _ _ _ _ (by assumption) (by assumption) ⟨rfl, .inl ⟨by rw [hP]; rfl, rfl⟩⟩
  obtain ⟨q, hq⟩ : ∃ q, c.drop k = q :: c.drop (k + 1) := ⟨_, List.drop_eq_getElem_cons (by omega)⟩
  have e2 : c[k]? = some q := by rw [← List.head?_drop, hq]; rfl
  by_cases hk1 : c.length ≤ k + 1
  · have e : c.drop (k + 1) = [] := by rw [List.drop_eq_nil_iff]; omega
    rw [hq, e] at hA hP
    obtain ⟨rfl, va', tx, t1, t2, hm1, hm2, hA'⟩ := hA.uncons
    cases hA'
    (repeat' (first | (k_unfold; (try dsimp only)) | (k_end; wrow_close) | (walk1; (all_goals (try dsimp only))) | (dsimp only; walk1) | ((simp only [List.cons_append, List.nil_append]); walk1) | (leave1; walk_say "STEP leave1"; try dsimp only) | fail "no step"))
    · simp only [WhileStep2]
      (repeat' (first | (k_unfold; (try dsimp only)) | (k_end; wrow_close) | (walk1; (all_goals (try dsimp only))) | (dsimp only; walk1) | ((simp only [List.cons_append, List.nil_append]); walk1) | (leave1; walk_say "STEP leave1"; try dsimp only) | fail "no step"))
      exact hret _ _ _ _ (by assumption) (by assumption) ⟨rfl, .inr ⟨k, q, by rw [hP]; simp only [List.map_cons, List.map_nil, mplace, if_pos (show q.x = nm by assumption), Option.map_some, Nat.zero_add], e2, rfl⟩⟩
    · have e9 : (c.length : Int) - ((k + 2 : Nat) : Int) = (c.length : Int) - k - 2 := by omega
      refine ⟨_, _, _, _, n - 2, rfl, by assumption, News.sub (by assumption) (by (first | exact fun _ h => h | exact fun _ h => .tail _ h | exact fun _ h => .tail _ (.tail _ h) | exact fun _ h => .tail _ (.tail _ (.tail _ h)) | exact fun _ h => .tail _ (.tail _ (.tail _ (.tail _ h))) | exact fun _ h => .tail _ (.tail _ (.tail _ (.tail _ (.tail _ h)))) | exact fun _ h => .tail _ (.tail _ (.tail _ (.tail _ (.tail _ (.tail _ h))))) | exact fun _ h => .tail _ (.tail _ (.tail _ (.tail _ (.tail _ (.tail _ (.tail _ h)))))) | exact fun _ h => .tail _ (.tail _ (.tail _ (.tail _ (.tail _ (.tail _ (.tail _ (.tail _ h))))))) | exact fun _ h => .tail _ (.tail _ (.tail _ (.tail _ (.tail _ (.tail _ (.tail _ (.tail _ (.tail _ h)))))))) | exact fun _ h => .tail _ (.tail _ (.tail _ (.tail _ (.tail _ (.tail _ (.tail _ (.tail _ (.tail _ (.tail _ h))))))))) | exact fun _ h => .tail _ (.tail _ (.tail _ (.tail _ (.tail _ (.tail _ (.tail _ (.tail _ (.tail _ (.tail _ (.tail _ h)))))))))) | exact fun _ h => .tail _ (.tail _ (.tail _ (.tail _ (.tail _ (.tail _ (.tail _ (.tail _ (.tail _ (.tail _ (.tail _ (.tail _ h))))))))))) | exact fun _ h => .tail _ (.tail _ (.tail _ (.tail _ (.tail _ (.tail _ (.tail _ (.tail _ (.tail _ (.tail _ (.tail _ (.tail _ (.tail _ h)))))))))))) | exact fun _ h => .tail _ (.tail _ (.tail _ (.tail _ (.tail _ (.tail _ (.tail _ (.tail _ (.tail _ (.tail _ (.tail _ (.tail _ (.tail _ (.tail _ h))))))))))))) | (intro p hp; simp [hp]))), by omega, k + 2, .ref 64, _, rfl, by omega, rfl, by rw [e9]; rfl, rfl, ?_, ?_⟩
      · rw [show c.drop (k + 2) = [] by rw [List.drop_eq_nil_iff]; omega]; exact .nil
      · rw [hP, show c.drop (k + 2) = [] by rw [List.drop_eq_nil_iff]; omega]
        simp only [List.map_cons, List.map_nil, mplace, if_neg (show ¬ q.x = nm by assumption), Option.map_none]
  · obtain ⟨q2, hq2⟩ : ∃ q, c.drop (k + 1) = q :: c.drop (k + 2) := ⟨_, List.drop_eq_getElem_cons (by omega)⟩
    rw [hq, hq2] at hA hP
    obtain ⟨rfl, va', tx, t1, t2, hm1, hm2, hA'⟩ := hA.uncons
    obtain ⟨rfl, va2, tx2, t3, t4, hm3, hm4, hA2⟩ := hA'.uncons
    obtain ⟨b1, rfl⟩ := hA2.ref
    (repeat' (first | (k_unfold; (try dsimp only)) | (k_end; wrow_close) | (walk1; (all_goals (try dsimp only))) | (dsimp only; walk1) | ((simp only [List.cons_append, List.nil_append]); walk1) | (leave1; walk_say "STEP leave1"; try dsimp only) | fail "no step"))
    · simp only [WhileStep2]
      (repeat' (first | (k_unfold; (try dsimp only)) | (k_end; wrow_close) | (walk1; (all_goals (try dsimp only))) | (dsimp only; walk1) | ((simp only [List.cons_append, List.nil_append]); walk1) | (leave1; walk_say "STEP leave1"; try dsimp only) | fail "no step"))
      exact hret _ _ _ _ (by assumption) (by assumption) ⟨rfl, .inr ⟨k, q, by rw [hP]; simp only [List.map_cons, List.map_nil, mplace, if_pos (show q.x = nm by assumption), Option.map_some, Nat.zero_add], e2, rfl⟩⟩
    · have e9 : (c.length : Int) - ((k + 2 : Nat) : Int) = (c.length : Int) - k - 2 := by omega
      refine ⟨_, _, _, _, n - 2, rfl, by assumption, News.sub (by assumption) (by (first | exact fun _ h => h | exact fun _ h => .tail _ h | exact fun _ h => .tail _ (.tail _ h) | exact fun _ h => .tail _ (.tail _ (.tail _ h)) | exact fun _ h => .tail _ (.tail _ (.tail _ (.tail _ h))) | exact fun _ h => .tail _ (.tail _ (.tail _ (.tail _ (.tail _ h)))) | exact fun _ h => .tail _ (.tail _ (.tail _ (.tail _ (.tail _ (.tail _ h))))) | exact fun _ h => .tail _ (.tail _ (.tail _ (.tail _ (.tail _ (.tail _ (.tail _ h)))))) | exact fun _ h => .tail _ (.tail _ (.tail _ (.tail _ (.tail _ (.tail _ (.tail _ (.tail _ h))))))) | exact fun _ h => .tail _ (.tail _ (.tail _ (.tail _ (.tail _ (.tail _ (.tail _ (.tail _ (.tail _ h)))))))) | exact fun _ h => .tail _ (.tail _ (.tail _ (.tail _ (.tail _ (.tail _ (.tail _ (.tail _ (.tail _ (.tail _ h))))))))) | exact fun _ h => .tail _ (.tail _ (.tail _ (.tail _ (.tail _ (.tail _ (.tail _ (.tail _ (.tail _ (.tail _ (.tail _ h)))))))))) | exact fun _ h => .tail _ (.tail _ (.tail _ (.tail _ (.tail _ (.tail _ (.tail _ (.tail _ (.tail _ (.tail _ (.tail _ (.tail _ h))))))))))) | exact fun _ h => .tail _ (.tail _ (.tail _ (.tail _ (.tail _ (.tail _ (.tail _ (.tail _ (.tail _ (.tail _ (.tail _ (.tail _ (.tail _ h)))))))))))) | exact fun _ h => .tail _ (.tail _ (.tail _ (.tail _ (.tail _ (.tail _ (.tail _ (.tail _ (.tail _ (.tail _ (.tail _ (.tail _ (.tail _ (.tail _ h))))))))))))) | (intro p hp; simp [hp]))), by omega, k + 2, .ref b1, _, rfl, by omega, rfl, by rw [e9]; rfl, rfl, hA2, ?_⟩
      rw [hP]
      simp only [List.map_cons, mplace, if_neg (show ¬ q.x = nm by assumption), Option.map_map]
      congr 1
      funext j
      simp only [Function.comp]
      omega
end
section
theorem list_con (w : World) (led : Led) (TH : Addr) (vals : List Value) (xs : List Int) (n : Nat) (hI : IntsAre vals xs) (hTH : (TH, listOf vals.toArray n) ∈ led) (hlen : xs.length ≤ 99) :
    Con w 94 [.ref TH] 9 90 led
      (fun r led' => ∃ cn c, led' = cn ++ led ∧ ChainIn w (cn ++ led) r c ∧ c.map (·.x) = xs ∧ (c.map (·.a)).Nodup ∧ (c.map (·.d)).Nodup ∧ (∀ q ∈ led, ∀ p ∈ cn, q.1 < p.1) ∧ ∀ q ∈ led, ∀ e ∈ c, q.1 < e.d ∧ q.1 < e.a) := by
  have hll := hI.length
  k_with_none
  unfold Con
  intro mean mg mb dp un gd cn cs a ccd cl outer A₀ base h₀ L m s Q E B F X N T hk9 hd9 hu9 hret
  refine wpAny_call ?_
  ((k_dflt (refine' code_def ?k1 ?k2 ?k3 ?k4 ?k5 ?kA ?kF ?kK ?k6 ?k7 ?k8 ?k9 ?kB ?_ ?c2 ?c3 ?c4 ?c5; (case kA => exact rfl); (case kF => exact rfl); (case kK => first | exact rfl | assumption); (case k1 => k_asm); (case k2 => k_asm); (case k3 => k_asm); (case k4 => k_asm); (case k5 => k_asm); (case k6 => k_is); (case k7 => k_is); (case k8 => k_room); (case k9 => first | exact BindsTo.of_eq rfl | exact binds_K (by k_in) rfl (by k_is) rfl rfl rfl); (case c5 => decide); (case kB => exact locs rfl); (case c2 => exact rfl); (case c3 => exact rfl); (case c4 => exact rfl); k_whole; intro _ _ _ _ _ _ _ _ _; (try dsimp only); (try k_fold))))
  k_with "call builtin:len" => k_dflt (refine' kun_lenL (k := (xs.length : Int)) ?k1 ?k2 ?k3 ?_; (case k1 => exact News.isList (by k_asm) (by k_mem)); (case k2 => (simp; omega)); (case k3 => omega))
  k_with "pyIter ref" => refine stopHere ?_
  (repeat' (first | (k_unfold; (try dsimp only)) | (k_end; wrow_close) | (walk1; (all_goals (try dsimp only))) | (dsimp only; walk1) | ((simp only [List.cons_append, List.nil_append]); walk1) | (leave1; walk_say "STEP leave1"; try dsimp only) | fail "no step"))
  unfold id
  rename_i hr F' N' hkp
  refine range_inv (x := Str.ofString "place") (n := xs.length) (fun i m nx => ∃ cn v c, nx = cn ++ led ∧ m (Str.ofString "found") = some (.ref v) ∧ m (Str.ofString "things") = some (.ref TH) ∧ ChainIn w (cn ++ led) (.ref v) c ∧ c.map (·.x) = xs.drop (xs.length - i) ∧ (c.map (·.a)).Nodup ∧ (c.map (·.d)).Nodup ∧ (∀ q ∈ led, ∀ p ∈ cn, q.1 < p.1) ∧ ∀ q ∈ led, ∀ e ∈ c, q.1 < e.d ∧ q.1 < e.a) rfl hr (small_down (by omega) (by omega) (by omega) (by omega)) (by rw [rangeSize_downNat]; omega) F' N' ⟨[], 64, [], rfl, rfl, rfl, .nil, by simp, .nil, .nil, by simp, by simp⟩ ?_ ?_
  · intro I oI i t m₁ nx h₁ tk₁ hi hP9
    refine exE3 hP9 ?_
    clear hP9
    intro cn v c hP9
    refine andE9 hP9 ?_
    clear hP9
    rintro rfl e1 e2 hC hx hna hnd hfr hfc hoff F₁ N₁
    have hTH' : (TH, listOf vals.toArray n) ∈ (I, oI) :: (cn ++ led) := by simp [hTH]
    rw [← bnd_eq (m := m₁) (ps := [(Str.ofString "found", .ref v), (Str.ofString "things", .ref TH)]) (by simp [e1, e2])] at F₁
    k_with "call ref" => ((refine' Con.use (cons_con w _ _ _ _) ?B ?F ?X ?N ?T ?hk ?hd ?hu ?_); (((case B => k_asm); (case F => k_asm); (case X => k_asm); (case N => k_asm); (case T => k_asm); (case hk => rfl); (case hd => first | exact dnle (by assumption) (by decide) | ((try simp only [depth_deeper]); (try dsimp only [ktrTop]); omega)); (case hu => first | exact unle (by assumption) (by decide) | ((try simp only [units_deeper]); (try dsimp only [ktrTop]); omega)))); rintro r9 led9 h9 tk9 F9 N9 ⟨a9, d9, t9, t8, rfl, rfl, l9, l8⟩)
    (repeat' (first | (k_unfold; (try dsimp only)) | (k_end; wrow_close) | (walk1; (all_goals (try dsimp only))) | (dsimp only; walk1) | ((simp only [List.cons_append, List.nil_append]); walk1) | (leave1; walk_say "STEP leave1"; try dsimp only) | fail "no step"))
    have hI0 : I < d9 := l9 (I, oI) (.head _)
    have hl9 : ∀ p ∈ cn ++ led, p.1 < d9 := fun p hp => l9 p (.tail _ hp)
    have hm := hC.mem
    rename News _ _ _ (_ :: _ :: (I, oI) :: _) => N9
    refine ⟨_, _, _, _ :: _ :: (cn ++ led), rfl, by assumption, News.sub N9 (swap3 (cn ++ led)), ?_, _ :: _ :: cn, a9, ⟨a9, d9, _⟩ :: c, rfl, rfl, rfl, .cons (.head _) (.tail _ (.head _)) (hC.mono fun p hp => .tail _ (.tail _ hp)), ?_, ?_, ?_, ?_, ?_⟩
    · intro p hp
      rcases List.mem_cons.mp hp with rfl | hp
      · exact Nat.ne_of_gt (Nat.lt_trans hI0 l8)
      rcases List.mem_cons.mp hp with rfl | hp
      · exact Nat.ne_of_gt hI0
      · exact hoff p hp
    · simp only [List.map_cons, hx]
      have e3 : ((xs.length : Int) - 1 + (i : Int) * -1).toNat = xs.length - (i + 1) := by omega
      rw [e3]
      have e4 : xs.length - i = xs.length - (i + 1) + 1 := by omega
      rw [e4, List.drop_eq_getElem_cons (i := xs.length - (i + 1)) (by omega)]
      simp [List.getD_eq_getElem?_getD, List.getElem?_eq_getElem (show xs.length - (i + 1) < xs.length by omega)]
    · simp only [List.map_cons, List.nodup_cons]
      refine ⟨fun hh => ?_, hna⟩
      obtain ⟨e, he, h1⟩ := List.mem_map.mp hh
      have h2 := hl9 _ (hm e he).1
      exact absurd (Nat.lt_trans h2 l8) (by rw [h1]; exact Nat.lt_irrefl _)
    · simp only [List.map_cons, List.nodup_cons]
      refine ⟨fun hh => ?_, hnd⟩
      obtain ⟨e, he, h1⟩ := List.mem_map.mp hh
      obtain ⟨o, ho⟩ := (hm e he).2
      have h2 := hl9 _ ho
      exact absurd h2 (by rw [h1]; exact Nat.lt_irrefl _)
    · intro q hq p hp
      have h2 : q.1 < d9 := hl9 q (List.mem_append.mpr (.inr hq))
      rcases List.mem_cons.mp hp with rfl | hp
      · exact Nat.lt_trans h2 l8
      rcases List.mem_cons.mp hp with rfl | hp
      · exact h2
      · exact hfr q hq p hp
    · intro q hq e he
      have h2 : q.1 < d9 := hl9 q (List.mem_append.mpr (.inr hq))
      rcases List.mem_cons.mp he with rfl | he
      · exact ⟨h2, Nat.lt_trans h2 l8⟩
      · exact hfc q hq e he
  · intro m₁ nx h₁ tk₁ hP9
    refine exE3 hP9 ?_
    clear hP9
    intro cn v c hP9
    refine andE9 hP9 ?_
    clear hP9
    rintro rfl e1 e2 hC hx hna hnd hfr hfc F₁ N₁
    have F₂ := Fr.bnd F₁ [(Str.ofString "found", .ref v)] (by simp [e1])
    clear F₁
    (repeat' (first | (k_unfold; (try dsimp only)) | (k_end; wrow_close) | (walk1; (all_goals (try dsimp only))) | (dsimp only; walk1) | ((simp only [List.cons_append, List.nil_append]); walk1) | (leave1; walk_say "STEP leave1"; try dsimp only) | fail "no step"))
    exact hret _ _ _ _ (by assumption) (by assumption) ⟨cn, c, rfl, hC, by rw [hx]; simp, hna, hnd, hfr, hfc⟩
end
section
theorem get_con (w : World) (led : Led) (va AR : Addr) (c : List Cell) (nm : Int) (tn : Tok) (nA : Nat) (hc : ChainIn w led (.ref va) c) (hlen : c.length ≤ 99)
    (ha : (c.map (·.a)).Nodup) (hAR : (AR, listOf #[.ref va, .int nm tn] nA) ∈ led) :
    Con w 129 [.none, .ref AR] 9 80 led
      (fun r led' => led = led' ∧ ((place (c.map (·.x)) nm = none ∧ r = .ref 64) ∨ ∃ p q t, place (c.map (·.x)) nm = some p ∧ c[p + 1]? = some q ∧ r = .int q.x t)) := by
  k_with_none
  unfold Con
  intro mean mg mb dp un gd cn cs a ccd cl outer A₀ base h₀ L m s Q E B F X N T hk9 hd9 hu9 hret
  refine wpAny_call ?_
  k_dflt ktr_enter
  k_with "call ref" => ((refine' Con.use (pair_con w _ _ _ _ _ hc hlen ha) ?B ?F ?X ?N ?T ?hk ?hd ?hu ?_); (((case B => k_asm); (case F => k_asm); (case X => k_asm); (case N => k_asm); (case T => k_asm); (case hk => rfl); (case hd => first | exact dnle (by assumption) (by decide) | ((try simp only [depth_deeper]); (try dsimp only [ktrTop]); omega)); (case hu => first | exact unle (by assumption) (by decide) | ((try simp only [units_deeper]); (try dsimp only [ktrTop]); omega)))); rintro r9 led9 h9 tk9 F9 N9 ⟨e9, ⟨hp9, rfl⟩ | ⟨p9, q9, hp9, hq9, rfl⟩⟩; (all_goals subst e9); rotate_left; (obtain ⟨v9, tx9, t9, t8, hm8, hm9, hA9⟩ := hc.at hq9); (obtain ⟨b9, rfl⟩ := hA9.ref); rotate_right)
  k_with "subscriptTail" => (((with_reducible show wpAny _ _ (subscriptTail _ _ (Value.ref _) (Value.int _ _)) _ _ _); k_dflt (refine' my_itemL (News.isList ?mN ?mM) ?m0 ?mh ?mx ?_ ?ms; (case mN => k_asm); (case mM => k_mem); (case m0 => decide); (case mh => decide); (case mx => rfl); (case ms => with_unfolding_all rfl))))
  (repeat' (first | (k_unfold; (try dsimp only)) | (k_end; wrow_close) | (walk1; (all_goals (try dsimp only))) | (dsimp only; walk1) | ((simp only [List.cons_append, List.nil_append]); walk1) | (leave1; walk_say "STEP leave1"; try dsimp only) | fail "no step"))
  · exact hret _ _ _ _ (by assumption) (by assumption) ⟨rfl, .inl ⟨by assumption, rfl⟩⟩
  · exact hret _ _ _ _ (by assumption) (by assumption) ⟨rfl, .inr ⟨_, _, _, by assumption, by assumption, rfl⟩⟩
end
section
theorem rangeSize_two (b : Int) : Builtin.Range.rangeSize 0 b 2 = ((b + 1).toNat / 2 : Nat) := by
  unfold Builtin.Range.rangeSize
  simp only [show (2 : Int) > 0 by decide, if_true]
  split <;> omega
theorem place_con (w : World) (led : Led) (R : Addr) (vals : List Value) (xs : List Int) (n : Nat) (nm : Int) (tn : Tok) (hI : IntsAre vals xs) (hR : (R, listOf vals.toArray n) ∈ led) (hlen : xs.length ≤ 99) :
    Con w 176 [.ref R, .int nm tn] 5 40 led
      (fun r led' => led = led' ∧ ∃ t, r = .int (match place xs nm with | some p => (p : Int) | none => -1) t) := by
  have hll := hI.length
  k_with_none
  unfold Con
  intro mean mg mb dp un gd cn cs a ccd cl outer A₀ base h₀ L m s Q E B F X N T hk9 hd9 hu9 hret
  refine wpAny_call ?_
  ((k_dflt (refine' code_def ?k1 ?k2 ?k3 ?k4 ?k5 ?kA ?kF ?kK ?k6 ?k7 ?k8 ?k9 ?kB ?_ ?c2 ?c3 ?c4 ?c5; (case kA => exact rfl); (case kF => exact rfl); (case kK => first | exact rfl | assumption); (case k1 => k_asm); (case k2 => k_asm); (case k3 => k_asm); (case k4 => k_asm); (case k5 => k_asm); (case k6 => k_is); (case k7 => k_is); (case k8 => k_room); (case k9 => first | exact BindsTo.of_eq rfl | exact binds_K (by k_in) rfl (by k_is) rfl rfl rfl); (case c5 => decide); (case kB => exact locs rfl); (case c2 => exact rfl); (case c3 => exact rfl); (case c4 => exact rfl); k_whole; intro _ _ _ _ _ _ _ _ _; (try dsimp only); (try k_fold))))
  k_with "call builtin:len" => k_dflt (refine' kun_lenL (k := (xs.length : Int)) ?k1 ?k2 ?k3 ?_; (case k1 => exact News.isList (by k_asm) (by k_mem)); (case k2 => (simp; omega)); (case k3 => omega))
  k_with "pyIter ref" => refine stopHere ?_
  (repeat' (first | (k_unfold; (try dsimp only)) | (k_end; wrow_close) | (walk1; (all_goals (try dsimp only))) | (dsimp only; walk1) | ((simp only [List.cons_append, List.nil_append]); walk1) | (leave1; walk_say "STEP leave1"; try dsimp only) | fail "no step"))
  unfold id
  rename_i hr F' N' hkp
  refine range_inv (x := Str.ofString "place") (n := xs.length / 2) (fun i m nx => nx = led ∧ m (Str.ofString "row") = some (.ref R) ∧ m (Str.ofString "name") = some (.int nm tn) ∧ place xs nm = (place (xs.drop (2 * i)) nm).map (· + 2 * i)) rfl hr ?small ?size F' N' ⟨rfl, rfl, rfl, by simp⟩ ?_ ?_
  case small => 
    have e9 := rangeSize_two ((xs.length : Int) - 1)
    unfold Builtin.Range.small
    rw [e9]
    simp [Builtin.Range.rangeFitsLong]
    omega
  case size => 
    rw [rangeSize_two]
    omega
  · rintro I oI i t m₁ nx h₁ tk₁ hi ⟨rfl, e1, e2, hp⟩ hoff F₁ N₁
    rw [← bnd_eq (m := m₁) (ps := [(Str.ofString "row", .ref R), (Str.ofString "name", .int nm tn)]) (by simp [e1, e2])] at F₁
    obtain ⟨x0, y0, hd⟩ : ∃ x0 y0, xs.drop (2 * i) = x0 :: y0 :: xs.drop (2 * i + 2) := ⟨_, _, by rw [List.drop_eq_getElem_cons (i := 2 * i) (by omega), List.drop_eq_getElem_cons (i := 2 * i + 1) (by omega)]⟩
    have hx0 : xs.getD (0 + (i : Int) * 2).toNat 0 = x0 := by
      rw [show (0 + (i : Int) * 2).toNat = 2 * i by omega, List.getD_eq_getElem?_getD, ← List.head?_drop, hd]
      rfl
    have hR' : (R, listOf vals.toArray n) ∈ (I, oI) :: nx := .tail _ hR
    (repeat' (first | (k_unfold; (try dsimp only)) | (k_end; wrow_close) | (walk1; (all_goals (try dsimp only))) | (dsimp only; walk1) | ((simp only [List.cons_append, List.nil_append]); walk1) | (leave1; walk_say "STEP leave1"; try dsimp only) | fail "no step"))
    · simp only [LpPost]
      (repeat' (first | (k_unfold; (try dsimp only)) | (k_end; wrow_close) | (walk1; (all_goals (try dsimp only))) | (dsimp only; walk1) | ((simp only [List.cons_append, List.nil_append]); walk1) | (leave1; walk_say "STEP leave1"; try dsimp only) | fail "no step"))
      have e8 : place xs nm = some (2 * i) := by
        rw [hp, hd, place_cons, if_pos (by rw [← hx0]; assumption)]
        simp
      exact hret _ _ _ _ (by assumption) (News.sub (by assumption) (by (first | exact fun _ h => h | exact fun _ h => .tail _ h | exact fun _ h => .tail _ (.tail _ h) | exact fun _ h => .tail _ (.tail _ (.tail _ h)) | exact fun _ h => .tail _ (.tail _ (.tail _ (.tail _ h))) | exact fun _ h => .tail _ (.tail _ (.tail _ (.tail _ (.tail _ h)))) | exact fun _ h => .tail _ (.tail _ (.tail _ (.tail _ (.tail _ (.tail _ h))))) | exact fun _ h => .tail _ (.tail _ (.tail _ (.tail _ (.tail _ (.tail _ (.tail _ h)))))) | exact fun _ h => .tail _ (.tail _ (.tail _ (.tail _ (.tail _ (.tail _ (.tail _ (.tail _ h))))))) | exact fun _ h => .tail _ (.tail _ (.tail _ (.tail _ (.tail _ (.tail _ (.tail _ (.tail _ (.tail _ h)))))))) | exact fun _ h => .tail _ (.tail _ (.tail _ (.tail _ (.tail _ (.tail _ (.tail _ (.tail _ (.tail _ (.tail _ h))))))))) | exact fun _ h => .tail _ (.tail _ (.tail _ (.tail _ (.tail _ (.tail _ (.tail _ (.tail _ (.tail _ (.tail _ (.tail _ h)))))))))) | exact fun _ h => .tail _ (.tail _ (.tail _ (.tail _ (.tail _ (.tail _ (.tail _ (.tail _ (.tail _ (.tail _ (.tail _ (.tail _ h))))))))))) | exact fun _ h => .tail _ (.tail _ (.tail _ (.tail _ (.tail _ (.tail _ (.tail _ (.tail _ (.tail _ (.tail _ (.tail _ (.tail _ (.tail _ h)))))))))))) | exact fun _ h => .tail _ (.tail _ (.tail _ (.tail _ (.tail _ (.tail _ (.tail _ (.tail _ (.tail _ (.tail _ (.tail _ (.tail _ (.tail _ (.tail _ h))))))))))))) | (intro p hp; simp [hp])))) ⟨rfl, t, by rw [e8]; congr 1; simp; omega⟩
    · refine ⟨_, _, _, nx, rfl, by assumption, by assumption, hoff, rfl, rfl, rfl, ?_⟩
      rw [hp, hd, place_cons, if_neg (by rw [← hx0]; assumption), Option.map_map]
      rw [show 2 * (i + 1) = 2 * i + 2 by omega]
      congr 1
      funext j
      simp only [Function.comp]
      omega
  · rintro m₁ nx h₁ tk₁ ⟨rfl, e1, e2, hp⟩ F₁ N₁
    (repeat' (first | (k_unfold; (try dsimp only)) | (k_end; wrow_close) | (walk1; (all_goals (try dsimp only))) | (dsimp only; walk1) | ((simp only [List.cons_append, List.nil_append]); walk1) | (leave1; walk_say "STEP leave1"; try dsimp only) | fail "no step"))
    have e8 : place xs nm = none := by rw [hp, place_short nm (by simp; omega)]; rfl
    exact hret _ _ _ _ (by assumption) (by assumption) ⟨rfl, _, by rw [e8]⟩
end
section
theorem putF_con (w : World) (led : Led) (va AR : Addr) (c : List Cell) (nm new : Int) (tn tw : Tok) (nA : Nat) (p : Nat) (q : Cell) (hc : ChainIn w led (.ref va) c) (hlen : c.length ≤ 99)
    (ha : (c.map (·.a)).Nodup) (hd : (c.map (·.d)).Nodup) (hAR : (AR, listOf #[.ref va, .int nm tn, .int new tw] nA) ∈ led) (hp : place (c.map (·.x)) nm = some p) (hq : c[p + 1]? = some q) :
    Con w 143 [.none, .ref AR] 9 80 led
      (fun r led' => r = .ref va ∧ ChainIn w led' (.ref va) (c.set (p + 1) ⟨q.a, q.d, new⟩) ∧ ∀ e ∈ led, e.1 ≠ q.d → e ∈ led') := by
  k_with_none
  unfold Con
  intro mean mg mb dp un gd cn cs a ccd cl outer A₀ base h₀ L m s Q E B F X N T hk9 hd9 hu9 hret
  have hf1 := News.fun1 N
  obtain ⟨v9, tx9, t9, t8, hm8, hm9, hA9⟩ := hc.at hq
  obtain ⟨b9, rfl⟩ := hA9.ref
  have hm8' : (q.a, instObj 82 q.d) ∈ wo q.d led := mem_wo hm8 (inst_ne_dict hf1 hm8 hm9)
  have hAR' := mem_wo (d := q.d) hAR (list_ne_dict hf1 hAR hm9)
  have hall := wo_ne (d := q.d) (led := led)
  refine wpAny_call ?_
  ((k_dflt (refine' code_def ?k1 ?k2 ?k3 ?k4 ?k5 ?kA ?kF ?kK ?k6 ?k7 ?k8 ?k9 ?kB ?_ ?c2 ?c3 ?c4 ?c5; (case kA => exact rfl); (case kF => exact rfl); (case kK => first | exact rfl | assumption); (case k1 => k_asm); (case k2 => k_asm); (case k3 => k_asm); (case k4 => k_asm); (case k5 => k_asm); (case k6 => k_is); (case k7 => k_is); (case k8 => k_room); (case k9 => first | exact BindsTo.of_eq rfl | exact binds_K (by k_in) rfl (by k_is) rfl rfl rfl); (case c5 => decide); (case kB => exact locs rfl); (case c2 => exact rfl); (case c3 => exact rfl); (case c4 => exact rfl); k_whole; intro _ _ _ _ _ _ _ _ _; (try dsimp only); (try k_fold))))
  k_with "call ref" => ((refine' Con.use (pair_con w _ _ _ _ _ hc hlen ha) ?B ?F ?X ?N ?T ?hk ?hd ?hu ?_); (((case B => k_asm); (case F => k_asm); (case X => k_asm); (case N => k_asm); (case T => k_asm); (case hk => rfl); (case hd => first | exact dnle (by assumption) (by decide) | ((try simp only [depth_deeper]); (try dsimp only [ktrTop]); omega)); (case hu => first | exact unle (by assumption) (by decide) | ((try simp only [units_deeper]); (try dsimp only [ktrTop]); omega)))); rintro r9 led9 h9 tk9 F9 N9 ⟨e9, ⟨hp9, rfl⟩ | ⟨p9, q9, hp9, hq9, rfl⟩⟩; (exfalso; rw [hp] at hp9; cases hp9); subst e9; (obtain rfl : p = p9 := Option.some.inj (hp.symm.trans hp9)); (obtain rfl : q = q9 := Option.some.inj (hq.symm.trans hq9)); (replace N9 := News.wo N9 hm9))
  k_with "subscriptTail" => (((with_reducible show wpAny _ _ (subscriptTail _ _ (Value.ref _) (Value.int _ _)) _ _ _); k_dflt (refine' my_itemL (News.isList ?mN ?mM) ?m0 ?mh ?mx ?_ ?ms; (case mN => k_asm); (case mM => k_mem); (case m0 => decide); (case mh => decide); (case mx => rfl); (case ms => with_unfolding_all rfl))))
  (repeat' (first | (k_unfold; (try dsimp only)) | (k_end; wrow_close) | (walk1; (all_goals (try dsimp only))) | (dsimp only; walk1) | ((simp only [List.cons_append, List.nil_append]); walk1) | (leave1; walk_say "STEP leave1"; try dsimp only) | fail "no step"))
  exact hret _ _ _ _ (by assumption) (by assumption) ⟨rfl, hc.setAt hf1 hq hd hm9, fun e he hn => .tail _ (mem_wo he hn)⟩
end
section
/-- the text's own exception under way: base B stands, its object keeps its dict -/
structure FlyX (B : Heap) (l : List Env) (e D : Addr) (fl : Value) (h : Heap) : Prop where
  stays : B.StaysIn h
  new : B.get? e = none
  frames : h.FunFrames B l
  there : ∃ oe vs T oT ts, h.get? e = some oe ∧ oe.cls = .ref 31 ∧ oe.dict = some D ∧ oe.data = .fields vs ∧ vs[1]? = some (.ref T) ∧ B.get? T = none ∧ T ≠ e ∧ h.get? T = some oT ∧ oT.data = .fields ts ∧ ts[3]? = some fl

theorem flyX_push {B h : Heap} {l : List Env} {e D : Addr} {oe ot : Obj} {vs ts : Array Value} {fl : Value} (hk : B.StaysIn h) (hen : B.get? e = none) (hl : h.FunFrames B l) (he : h.get? e = some oe) (hc : oe.cls = .ref 31) (hD : oe.dict = some D) (hdt : oe.data = .fields vs) (hsz : 1 < vs.size) (ht : ot.data = .fields ts) (h3 : ts[3]? = some fl) :
    FlyX B l e D fl ((h.push ot).update e (Obj.mapFields (·.setIfInBounds 1 (.ref h.objs.size)))) ∧ h.UpToSlots ((h.push ot).update e (Obj.mapFields (·.setIfInBounds 1 (.ref h.objs.size)))) := by
  have hT : h.objs.size ≠ e := Nat.ne_of_gt (Heap.lt_size he)
  have he2 := Heap.get?_push_of_some (h := h) ot he
  have hd3 := Obj.data_mapFields hdt (·.setIfInBounds 1 (Value.ref h.objs.size))
  have he3 := Heap.get?_update_self (Obj.mapFields (·.setIfInBounds 1 (Value.ref h.objs.size))) he2 (Obj.isFreed_of_fields hd3)
  have hT3 := (Heap.get?_update_other (h.push ot) (Obj.mapFields (·.setIfInBounds 1 (Value.ref h.objs.size))) (Ne.symm hT)).trans (Heap.get?_push_size h (Obj.isFreed_of_fields ht))
  have keep : ∀ b o, b ≠ e → h.get? b = some o → ((h.push ot).update e (Obj.mapFields (·.setIfInBounds 1 (.ref h.objs.size)))).get? b = some o := fun b o hb q => by
    rw [Heap.get?_update_other _ _ (Ne.symm hb)]
    exact Heap.get?_push_of_some _ q
  have other : ∀ b o, h.get? b = some o → (∀ vs, o.data ≠ .fields vs) → b ≠ e := fun b o q hn z => by
    rw [z, he] at q; cases q; exact hn _ hdt
  refine ⟨⟨fun b o q => keep b o (fun z => by rw [z, hen] at q; cases q) (hk b o q), hen, hl.of_keeps fun b o q hn => ⟨o, keep b o (other b o q hn) q, rfl⟩, ?_⟩, fun b o q hn => ⟨o.slots, keep b o (other b o q hn) q⟩⟩
  exact ⟨_, _, _, ot, ts, he3, (Obj.cls_mapFields _ _).trans hc, by rw [← hD]; unfold Obj.mapFields; split <;> rfl, hd3, by simp [hsz], hk.fresh, hT, hT3, ht, h3⟩

section
variable {M : Model} {A : Around} {E : Value → Shared → Prop} {s : Shared} {B : Heap} {env : Env} {outer : List Env} {L e D : Addr} {Q : Unit → Shared → Prop}
theorem entryX {oe : Obj} {vs : Array Value} {head : Value} {hadNext : Bool} (hfr : A.frames = some (env :: outer)) (hl : s.heap.FunFrames B (env :: outer)) (hf : env.frame = some L) (hk : B.StaysIn s.heap) (hen : B.get? e = none)
    (he : s.heap.get? e = some oe) (hc : oe.cls = .ref 31) (hD : oe.dict = some D) (hdt : oe.data = .fields vs) (hsz : 1 < vs.size)
    (h : ∀ h', FlyX B (env :: outer) e D (rawInt L) h' → s.heap.UpToSlots h' → Q () { s with heap := h' }) :
    wpAny M A (do let a ← frameOf env; let pl ← entryPlaceOf L hadNext; let b ← EntryCells.newEntry head a .none (rawInt L) .none pl; setField (.ref e) 1 b) Q E s := by
  have hene : e ∉ (env :: outer).filterMap (·.frame) := fun hm => by
    obtain ⟨_, o, ho, hn⟩ := hl.mem hm
    rw [he] at ho; cases ho; exact hn _ hdt
  refine wpAny_bind (wpAny_frameOf_fun hfr hl hf fun h1 hs => ?_)
  refine wpAny_bind (wpAny_entryPlaceOf fun pl hpl => ?_)
  unfold EntryCells.newEntry newFields
  refine wpAny_bind (wpAny_newObj_type ?_ (hpl.sizeOk5 _ _ _ _ _))
  have he1 : h1.get? e = some oe := (hs.2.1 e hene).trans he
  have hk1 : B.StaysIn h1 := fun b o q => (hs.2.1 b fun hm => by rw [(hl.mem hm).1] at q; cases q).trans (hk b o q)
  have hu1 : s.heap.UpToSlots h1 := fun b o q _ => hs.2.2 b o q
  have hl1 : h1.FunFrames B (env :: outer) := hl.of_keeps fun b o q _ => by
    obtain ⟨sl, z⟩ := hs.2.2 b o q
    exact ⟨_, z, rfl⟩
  obtain ⟨P1, P2⟩ := flyX_push (ot := { cls := .type "traceback", dict := none, data := .fields ([head, .ref L, .none, rawInt L, .none] ++ (if pl.isEmpty then List.replicate 6 Value.none else pl)).toArray }) (fl := rawInt L) hk1 hen hl1 he1 hc hD hdt hsz rfl (by first | (simp; done) | (rcases hpl with rfl | ⟨_, _, _, _, _, _, _, rfl⟩ <;> simp))
  exact wpAny_setField (Heap.get?_push_of_some _ he1) hdt hsz (h _ P1 (hu1.trans P2))

theorem noteX_first {oe : Obj} {vs : Array Value} (hfr : A.frames = some (env :: outer)) (hl : s.heap.FunFrames B (env :: outer)) (hf : env.frame = some L) (hk : B.StaysIn s.heap) (hen : B.get? e = none)
    (he : s.heap.get? e = some oe) (hc : oe.cls = .ref 31) (hD : oe.dict = some D) (hdt : oe.data = .fields vs) (h1 : vs[1]? = some .none)
    (h : ∀ h', FlyX B (env :: outer) e D (rawInt L) h' → s.heap.UpToSlots h' → Q () { s with heap := h' }) : wpAny M A (noteFrame (.ref e) env) Q E s := by
  unfold noteFrame
  simp only [hf]
  refine wpAny_bind (wpAny_field he hdt h1 ?_)
  rw [if_neg (by decide)]
  exact entryX hfr hl hf hk hen he hc hD hdt (Array.getElem?_eq_some_iff.mp h1).1 h

theorem upd_fields {h : Heap} {T : Addr} {oT : Obj} {ts : Array Value} (f : Array Value → Array Value) (hT : h.get? T = some oT) (hdT : oT.data = .fields ts) : h.UpToSlots (h.update T (Obj.mapFields f)) := fun b o q hn =>
  ⟨o.slots, (Heap.get?_update_other _ _ (fun z : T = b => by rw [← z, hT] at q; cases q; exact hn _ hdT)).trans q⟩

theorem FlyX.setT {fl : Value} {h : Heap} (X : FlyX B outer e D fl h) : ∃ oe vs T oT ts, h.get? e = some oe ∧ oe.cls = .ref 31 ∧ oe.dict = some D ∧ oe.data = .fields vs ∧ vs[1]? = some (.ref T) ∧ h.get? T = some oT ∧ oT.data = .fields ts ∧ ts[3]? = some fl ∧
    ∀ v, FlyX B outer e D v (h.update T (Obj.mapFields (·.setIfInBounds 3 v))) ∧ h.UpToSlots (h.update T (Obj.mapFields (·.setIfInBounds 3 v))) := by
  obtain ⟨k1, k2, k3, oe, vs, T, oT, ts, he, hc, hD, hd, h1, hnT, hTe, hT, hdT, h3⟩ := X
  refine ⟨oe, vs, T, oT, ts, he, hc, hD, hd, h1, hT, hdT, h3, fun v => ?_⟩
  have hsz : 3 < ts.size := (Array.getElem?_eq_some_iff.mp h3).1
  have hd3 := Obj.data_mapFields hdT (·.setIfInBounds 3 v)
  have other : ∀ b, b ≠ T → (h.update T (Obj.mapFields (·.setIfInBounds 3 v))).get? b = h.get? b := fun b hb => Heap.get?_update_other _ _ (Ne.symm hb)
  refine ⟨⟨fun b o q => (other b fun z => by rw [z, hnT] at q; cases q).trans (k1 b o q), k2, k3.of_keeps fun b o q hn => ⟨o, (other b fun z => by rw [z, hT] at q; cases q; exact hn _ hdT).trans q, rfl⟩, ?_⟩, upd_fields _ hT hdT⟩
  exact ⟨oe, vs, T, _, _, (other e (Ne.symm hTe)).trans he, hc, hD, hd, h1, hnT, hTe, Heap.get?_update_self _ hT (Obj.isFreed_of_fields hd3), hd3, by simp [hsz]⟩

theorem setFlightX {fl : Value} (X : FlyX B outer e D fl s.heap) (h : ∀ h', FlyX B outer e D .none h' → s.heap.UpToSlots h' → Q () { s with heap := h' }) : wpAny M A (setFlight (.ref e) none) Q E s := by
  obtain ⟨oe, vs, T, oT, ts, he, hc, hD, hd, h1, hT, hdT, h3, k⟩ := X.setT
  unfold setFlight
  refine wpAny_bind (wpAny_field he hd h1 ?_)
  rw [if_pos (show (Value.ref T != Value.none) = true from by simp)]
  exact wpAny_setField hT hdT (Array.getElem?_eq_some_iff.mp h3).1 (h _ (k .none).1 (k .none).2)

theorem noteX_on (hfr : A.frames = some (env :: outer)) (hf : env.frame = some L) (X : FlyX B (env :: outer) e D .none s.heap)
    (h : ∀ h', FlyX B (env :: outer) e D (rawInt L) h' → s.heap.UpToSlots h' → Q () { s with heap := h' }) : wpAny M A (noteFrame (.ref e) env) Q E s := by
  obtain ⟨oe, vs, T, oT, ts, he, hc, hD, hd, h1, hT, hdT, h3, k⟩ := X.setT
  obtain ⟨X2, U2⟩ := k .none
  unfold noteFrame
  simp only [hf]
  refine wpAny_bind (wpAny_field he hd h1 ?_)
  rw [if_pos (show (Value.ref T != Value.none) = true from by simp)]
  refine wpAny_bind (wpAny_field hT hdT h3 ?_)
  rw [if_neg (show ¬ ((Value.none == rawInt L) = true) from by simp [rawInt])]
  refine wpAny_bind (wpAny_setField hT hdT (Array.getElem?_eq_some_iff.mp h3).1 ?_)
  obtain ⟨k1, k2, k3, oe', vs', T', oT', ts', he', hc', hD', hd', h1', _⟩ := X2
  exact entryX hfr k3 hf k1 k2 he' hc' hD' hd' (Array.getElem?_eq_some_iff.mp h1').1 fun h' X' U' => h h' X' (U2.trans U')
end
/-- raised out of a frame: a base that bears the ground G (but for the frames), the ledger and the flight -/
def RaisedX (base G : Heap) (l : List Env) (e D : Addr) (news : Led) (h : Heap) : Prop :=
  ∃ B, base.StaysIn B ∧ (∀ b o, G.get? b = some o → b ∉ l.filterMap (·.frame) → B.get? b = some o) ∧ (∀ q ∈ news, B.get? q.1 = some q.2 ∧ G.get? q.1 = none) ∧ G.get? e = none ∧ FlyX B l e D .none h
section
variable {M : Model} {A : Around} {E : Value → Shared → Prop} {s : Shared} {base g : Heap} {outer : List Env} {L a e D t : Addr} {m : Str → Option Value} {name : Str} {scope : Scope} {cd : Value} {Q : Unit → Shared → Prop} {news : Led} {oE : Obj}
theorem leaveX (K : Below A base outer g) (F : Fr g L s.heap m) (N : News g L s.heap ((e, oE) :: news)) (hoff : ∀ p ∈ news, p.1 ≠ e) (hE : ExcO oE t) (hD : oE.dict = some D)
    (hQ : ∀ h', RaisedX base g outer e D news h' → g.UpToSlots h' → Q () { s with heap := h' }) (hk : scope.kind = .function := by rfl) :
    wpAny M (A.deeper (envOf name scope L a cd)) (leaving (envOf name scope L a cd) (.ref e)) Q E s := by
  have K' := K.push (name := name) (a := a) (cd := cd) F hk
  obtain ⟨n1, n2, n3⟩ := N _ (.head _)
  simp only at n1 n2 n3
  have hb : base.get? e = none := fresh_of_stays K.stays n3
  have hin : ∀ env ∈ (envOf name scope L a cd :: outer), ∀ b, env.frame = some b → b ∈ e :: (envOf name scope L a cd :: outer).filterMap (·.frame) := fun env he b hb => .tail _ (List.mem_filterMap.mpr ⟨env, he, hb⟩)
  have st : base.StaysIn (hideAll s.heap (e :: (envOf name scope L a cd :: outer).filterMap (·.frame))) := fun b o q => hideAll_get _ (K'.stays b o q) fun hm => by
    rcases List.mem_cons.mp hm with rfl | hm
    · rw [hb] at q; cases q
    · rw [(K'.frames.mem hm).1] at q; cases q
  have sg : ∀ b o, g.get? b = some o → b ∉ outer.filterMap (·.frame) → (hideAll s.heap (e :: (envOf name scope L a cd :: outer).filterMap (·.frame))).get? b = some o := fun b o q nm => hideAll_get _ (F.keep b o q) fun hm => by
    rcases List.mem_cons.mp hm with rfl | hm
    · rw [n3] at q; cases q
    rcases kts_mem hm with z | z
    · rw [z, kts_self F] at q; cases q
    · exact nm z
  have hl : ∀ q ∈ news, (hideAll s.heap (e :: (envOf name scope L a cd :: outer).filterMap (·.frame))).get? q.1 = some q.2 ∧ g.get? q.1 = none := fun q hq => by
    obtain ⟨m1, m2, m3⟩ := N q (.tail _ hq)
    refine ⟨hideAll_get _ m1 fun hm => ?_, m3⟩
    rcases List.mem_cons.mp hm with z | hm
    · exact hoff q hq z
    rcases kts_mem hm with z | z
    · exact m2 z
    · obtain ⟨o, ho, _⟩ := (K.frames.mem z).2
      rw [m3] at ho; cases ho
  have hen : (hideAll s.heap (e :: (envOf name scope L a cd :: outer).filterMap (·.frame))).get? e = none := hideAll_none _ (.head _)
  unfold leaving
  refine wpAny_bind (noteX_first K'.stack (funFrames_hide K'.frames hin) rfl (fun b o q => of_hideAll _ q) hen n1 hE.cls hD hE.data rfl fun h1 X1 U1 => ?_)
  refine setFlightX X1 fun h2 X2 U2 => hQ h2 ⟨_, st, sg, hl, n3, ⟨X2.stays, X2.new, X2.frames.2.2, X2.there⟩⟩ ((Heap.UpToSlots.of_keeps F.keep).trans (U1.trans U2))
end
section
variable {w : World} {A₀ : Around} {E : Value → Shared → Prop} {s' : Shared} {base g G : Heap} {outer : List Env} {L a e D : Addr} {m : Str → Option Value} {name : Str} {scope : Scope} {cd : Value}
  {n : Str} {b₀ : Stmt} {suite : List Stmt} {pos np : Pos} {rest : List ExceptHandler} {Q : Flow → Shared → Prop} {news : Led} {loose : List Str} {mean : ExcName → Option Value} {mg mb : Str → Option Value} {prog : Program}
theorem caughtX (R : RaisedX base G (envOf name scope L a cd :: outer) e D news s'.heap) (F : Fr g L G m) (K : Below A₀ base outer g) (hsm : G.UpToSlots s'.heap) (XB : (hd.heap_39 w.params).In base) (TB : Top hd.view_39 loose mean mg mb base)
    (ex : nsIn (hd.heap_39 w.params) mainGlobals (Str.ofString "LispSignal") = some (some (.ref 31)))
    (k : ∀ h' g' oe vs tk, KtsTurn (outer.filterMap (·.frame)) g g' → Fr g' L h' (fun y => if y = n then some (.ref e) else m y) → News g' L h' ((e, oe) :: news) → oe.cls = .ref 31 → oe.dict = some D → oe.data = .fields vs → Below A₀ base outer g' → (hd.heap_39 w.params).In g' → Top hd.view_39 loose mean mg mb g' →
      wpAny (model prog w) ((A₀.deeper (envOf name scope L a cd)).mark (some (.ref e))) (execs (b₀ :: suite) (envOf name scope L a cd))
        (fun f s₄ => wpAny (model prog w) (A₀.deeper (envOf name scope L a cd)) (do bindName (envOf name scope L a cd) n .none; unbindBehindTheSuite (envOf name scope L a cd) n pos) (fun _ s₅ => Q f s₅) E s₄)
        (AsSuiteRaised (model prog w) ((A₀.deeper (envOf name scope L a cd)).mark (some (.ref e))) (envOf name scope L a cd) n pos (notedBy (model prog w) ((A₀.deeper (envOf name scope L a cd)).mark (some (.ref e))) (envOf name scope L a cd) (cameBackBy (model prog w) (A₀.deeper (envOf name scope L a cd)) (envOf name scope L a cd) E)))
        { s' with heap := h', toks := tk })
    (hk : scope.kind = .function := by rfl) (hlo : (envOf name scope L a cd).kindOf n = some .local := by rfl) (hx : (envOf name scope L a cd).kindOf (Str.ofString "LispSignal") = some .globalImplicit := by rfl) :
    wpAny (model prog w) (A₀.deeper (envOf name scope L a cd)) (noteFrame (.ref e) (envOf name scope L a cd))
      (fun _ s₂ => wpAny (model prog w) (A₀.deeper (envOf name scope L a cd)) (setFlight (.ref e) none) (fun _ s₃ =>
        wpAny (model prog w) (A₀.deeper (envOf name scope L a cd)) (handleBy (.ref e) (envOf name scope L a cd) (.ExceptHandler (some (.Name (Str.ofString "LispSignal") np)) (some n) (b₀ :: suite) pos :: rest)) Q E s₃) E s₂) E s' := by
  obtain ⟨B, hB, hBG, hl, hGe, hfl⟩ := R
  have hL : B.get? L = none := by
    obtain ⟨_, ⟨L', _, hf, hn', _⟩, _⟩ := hfl.frames
    obtain rfl : L = L' := Option.some.inj hf
    exact hn'
  refine noteX_on (Around.frames_deeper K.stack) rfl hfl fun h4 X4 U4 => ?_
  refine setFlightX X4 fun h5 X5 U5 => ?_
  have U45 := hsm.trans (U4.trans U5)
  obtain ⟨g5, T5, F5, K5⟩ := kts_ground K F hBG X5.stays U45
  have XX5 := XB.keeps K5.stays
  obtain ⟨oe5, _, _, _, _, he5, hc5, _⟩ := X5.there
  have hC5 := F5.keep _ _ (XX5 _ _ (ls_cls _))
  refine wpAny_handleBy_cons (codeAny_handlers_test (name_K F5 XX5 (topRead_of (TB.keeps K5.stays)) ex ?_ hk hx (by decide))) (by intro q; cases q)
  refine wpAny_excMatches_sub_self hC5 he5 hc5 (by decide +kernel) (codeAny_handlers_suite_as ?_)
  refine setFlightX X5 fun h6 X6 U6 => ?_
  obtain ⟨g6, T6, F6, K6⟩ := kts_ground K F hBG X6.stays (U45.trans U6)
  obtain ⟨oe, vs, _, _, _, he6, hc6, hd6, hv6, _⟩ := X6.there
  have N6 : News g6 L h6 ((e, oe) :: news) := fun q hq => by
    rcases List.mem_cons.mp hq with rfl | hq
    · refine ⟨he6, fun z => ?_, T6.none_ _ (kts_none F.keep hGe)⟩
      simp only at z
      obtain ⟨oL, _, _, hoL, hdL, _⟩ := F6.ns
      rw [← z, he6] at hoL
      cases hoL
      rw [hv6] at hdL
      cases hdL
    · exact ⟨X6.stays _ _ (hl q hq).1, (fun z => by have := (hl q hq).1; rw [z, hL] at this; cases this), T6.none_ _ (kts_none F.keep (hl q hq).2)⟩
  exact stN F6 N6 (fun h7 F7 N7 => k h7 g6 oe vs _ T6 F7 N7 hc6 hd6 hv6 K6 (XB.keeps K6.stays) (TB.keeps K6.stays)) hk hlo
end
/-- what a raise wants of its value -/
def RaiseEnd (E : Value → Shared → Prop) (v : Value) (s₁ : Shared) : Prop := ∃ e oE t, v = .ref e ∧ s₁.heap.get? 31 = some lsCls ∧ s₁.heap.get? e = some oE ∧ ExcO oE t ∧ E (.ref e) s₁
section
variable {M : Model} {A : Around} {E : Value → Shared → Prop} {s : Shared} {env : Env} {Q : Flow → Shared → Prop}
theorem raise_stmt {x : Sem Value} (hh : A.handled = none)
    (h : wpAny M A x (RaiseEnd E) E s) : wpAny M A (raiseStmt env (some x) none) Q E s := by
  have hcB : (Value.ref 31 :: [Value.type "Exception", .type "BaseException", .type "object"]).contains (.type "BaseException") = true := by decide +kernel
  unfold raiseStmt
  refine wpAny_bind (wpAny_mono h (fun v s₁ h₁ => ?_) fun _ _ x => x)
  obtain ⟨e, oE, t, rfl, hC, he, ⟨hc, hdt⟩, hE⟩ := h₁
  obtain ⟨hp, g, d, tk, os⟩ := s₁
  obtain ⟨oc, od, odt, osl⟩ := oE
  simp only at hc hdt
  subst hc hdt
  repeat (first | with_reducible refine wpAny_loadPart_at he ?_ | with_reducible refine wpAny_loadPart_at hC ?_ | (with_reducible refine wpAny_isSubtype_exc hC ?_; rw [hcB]) | wp_step)
  exact wpAny_raiseNew_none hh hE
theorem raise_made {x : Expr} {pos : Pos} (hh : A.handled = none)
    (h : wpAny M A (eval x env) (RaiseEnd E) E s) : wpAny M A (exec (.Raise (some x) none pos) env) Q E s := by
  rw [arm_exec_Raise]
  refine wpAny_bind (wpAny_standAt (raise_stmt hh ?_))
  exact wpAny_bind (wpAny_mono h (fun v s₁ h₁ => wpAny_bind (wpAny_standAt (wpAny_pure h₁))) fun _ _ x => x)
end
end
section
section
open LCg LCt
variable {prog : Program} {w : World} {A : Around} {E : Value → Shared → Prop} {s : Shared} {h₀ : Heap} {L : Addr} {m : Str → Option Value} {env : Env}
theorem rangeIter_st {I : Addr} {a st : Int} {n : Nat} : ∀ i (h h' : Heap) (o : Obj) (nw : Led), IsRangeIter h I (a + (i : Nat) * st) ((n : Int) - (i : Nat)) st → h.get? I = some o → h'.get? I = some o → (∀ b o, h₀.get? b = some o → h'.get? b = some o) → News h₀ L h' nw → True → IsRangeIter h' I (a + (i : Nat) * st) ((n : Int) - (i : Nat)) st :=
  fun i h h' o nw hs e e' _ _ _ => by
    have hs' : h.get? I = some _ := hs
    show h'.get? I = some _
    rw [e', ← e]
    exact hs'
/-- a source: a range of any step -/
def SrcStep (prog : Program) (w : World) (A : Around) (h₀ : Heap) (L : Addr) (m : Str → Option Value) (env : Env) (ct elt : Expr) (x : Str) (scope : Scope) (cl : List (Str × Addr)) (Fin : Shared → List Value → Led → Prop) (xv : Value) (s₁ : Shared) : Prop :=
  ∃ r a b st t u v n news, xv = .ref r ∧ A.handled = none ∧ Fr h₀ L s₁.heap m ∧ News h₀ L s₁.heap news ∧ IsRange s₁.heap r a b st t u v ∧ Builtin.Range.small a b st = true ∧ Builtin.Range.rangeSize a b st = ((n : Nat) : Int) ∧ n ≤ sizeLine ∧
    ∀ s₂ : Shared, (∃ h, s₂ = { s₁ with heap := h }) → CompRestT prog w A h₀ L m env ct elt x scope cl s₂ (fun _ => True) (fun i v => ∃ t, v = .int (a + i * st) t) (Fin s₂) n 0 [] news
theorem assign_step {ct elt iter : Expr} {x y : Str} {px py : Pos} {scope : Scope} {cl : List (Str × Addr)} {pos spos : Pos} {Q : Flow → Shared → Prop} (F₀ : Fr h₀ L s.heap m) (hLe : env.locals = L)
    (hsw : swapsWith (.ListComp elt [⟨.Name x px, iter, [ct], 0⟩] scope pos) (some (.Name y py)) spos.line env = pure true)
    (hclos : closureFor scope env = pure cl) (hcell : ∀ z ∈ scope.names, z.2 ≠ .cell) (hkind : scope.kind = .function)
    (hnames : ∀ z ∈ scope.names, z.2 = .local → scope.names.lookup z.1 = some .local) (hx : scope.names.lookup x = some .local)
    (hy : env.kindOf y = some .local) (hp : (env.scope.kind == .class || (env.scope.kind == .module && env.locals != env.globals)) = false)
    (h : wpAny (model prog w) A (eval iter env) (SrcStep prog w A h₀ L m env ct elt x scope cl (fun s₂ => FinA h₀ L m s₂ y Q)) E s)
    (hs : ∀ x, foldedSetIterable iter env x = pure x := by intro _; rfl) :
    wpAny (model prog w) A (exec (.Assign [.Name y py] (.ListComp elt [⟨.Name x px, iter, [ct], 0⟩] scope pos) spos) env) Q E s := by
  subst hLe
  rw [exec_Assign_Name_used _ _ _ _ hsw]
  refine wpAny_bind (wpAny_standAt (wpAny_bind ?_))
  show wpAny _ A (do let _ ← comprehension (.ListComp elt [⟨.Name x px, iter, [ct], 0⟩] scope pos) scope env _ (newList []) false (eval iter env) (some (assign (.Name y py) env))) _ _ s
  refine wpAny_bind (wpAny_mono (wpAny_comprehension_free (use := some (assign (.Name y py) env)) (Q := fun _ s' => Q .next s') rfl hs hclos hkind hnames
    (wpAny_mono h (fun xv s₁ h₁ => ?_) fun _ _ e => e)) (fun _ s' hq => wpAny_pure (wpAny_pure hq)) fun _ _ e => e)
  obtain ⟨r, a, b, st, t, u, v, n, news, rfl, hh, F, N, hr, hsm, hn, hsz, R⟩ := h₁
  refine wpAny_pyIter_range hr hsm ?_
  refine block_T (Walks.range hh _ a st n) hsz (fun i h q => ⟨_, q⟩) rangeIter_st hcell hkind hx (by show IsRangeIter _ _ _ _ _; rw [hn]; simpa using Heap.get?_push_size _ rfl) (fun b hb => ?_)
    (F.keeps fun _ _ e => Heap.get?_push_of_some _ e) (N.grown fun _ _ e => Heap.get?_push_of_some _ e) (Nat.ne_of_lt F.ns.lt) (next_is_new F) (fun p hp => Nat.ne_of_lt (Heap.lt_size (N p hp).1)) trivial (R _ ⟨_, rfl⟩) ?_
  · rw [List.mem_singleton.mp hb]
    show s₁.heap.objs.size < (s₁.heap.push _).objs.size
    rw [Heap.size_push]
    exact Nat.lt_succ_self _
  · intro D C h' tk m' ys news' F' N' o1 hn' hC₀ hD₀ hCL hDL hCD offC fin
    show wpAny _ A (assign (.Name y py) env (.ref D)) _ _ _
    refine wpAny_assign_Name (wpAny_storeName_local hy F'.ns (fun h₂ hn₂ hs₂ => ?_) hp)
    have hL₀ : h₀.get? env.locals = none := Heap.get?_none_of_le F'.above
    have F₂ : Fr h₀ env.locals h₂ (fun z => if z = y then some (.ref D) else m z) := ⟨hn₂, fun b o e => hs₂.extBut b o (fun q => by rw [q, hL₀] at e; cases e) (F'.keep b o e), F'.above⟩
    refine ⟨m', hn'.sameBut hs₂ hCL, fun h'' hs'' => fin D h'' _ (F₂.change hs'' hCL hC₀) (fun p hp => ?_) o1⟩
    have z : h₂.get? p.1 = some p.2 := hs₂.extBut _ _ (N' p hp).2.1 (N' p hp).1
    refine ⟨hs''.extBut _ _ ?_ z, (N' p hp).2⟩
    rcases List.mem_cons.mp hp with rfl | hp
    · exact Ne.symm hCD
    · exact offC p hp
end
/-- the even places of a name -/
def evFrom : Nat → List Int → Int → List Int
  | k, x :: _ :: r, nm => if x = nm then (k : Int) :: evFrom (k + 2) r nm else evFrom (k + 2) r nm
  | k, [x], nm => if x = nm then [(k : Int)] else []
  | _, [], _ => []
section
open LCg LCt
variable {prog : Program} {w : World} {A : Around} {s : Shared} {h₀ : Heap} {L : Addr} {m : Str → Option Value} {env : Env} {ct elt : Expr} {x : Str} {scope : Scope} {cl : List (Str × Addr)} {S : Led → Prop} {P : Nat → Value → Prop} {Fin : List Value → Led → Prop}
/-- a comprehension with one test over a ledger that stays, by what holds of the list so far -/
theorem restT_inv {n : Nat} {news : Led} (J : Nat → List Value → Prop)
    (turn : ∀ i ys v I oI C oC D m₂ h tk (E' : Value → Shared → Prop), i < n → J i ys → P i v → NsObj oC m₂ → m₂ x = some v → Fr h₀ L h m → News h₀ L h ((I, oI) :: (C, oC) :: (D, lst ys) :: news) → Off3 I C D news → ((@Ne Nat I C) ∧ (@Ne Nat I D) ∧ (@Ne Nat C D)) →
      wpAny (model prog w) A (isTrue ct (compEnvC scope cl C env) (eval ct (compEnvC scope cl C env))) (fun ok s' => if ok = true then
        wpAny (model prog w) A (eval elt (compEnvC scope cl C env)) (CompEnd h₀ L m { s with heap := h, toks := tk } I oI C oC D (lst ys) S (fun y news' => news' = news ∧ J (i + 1) (ys ++ [y]))) E' s'
        else CompEnd h₀ L m { s with heap := h, toks := tk } I oI C oC D (lst ys) S (fun _ news' => news' = news ∧ J (i + 1) ys) Value.none s') E' { s with heap := h, toks := tk })
    (fin : ∀ ys, J n ys → Fin ys news) (h0 : J 0 []) : CompRestT prog w A h₀ L m env ct elt x scope cl s S P Fin n 0 [] news := by
  have key : ∀ (j i : Nat) (ys : List Value), i + j = n → J i ys → CompRestT prog w A h₀ L m env ct elt x scope cl s S P Fin j i ys news := by
    intro j
    induction j with
    | zero =>
      intro i ys hi hy
      obtain rfl : i = n := by omega
      exact CompRestT.zero (fin ys hy)
    | succ j ih =>
      intro i ys hi hy
      refine CompRestT.succ fun v I oI C oC D m₂ h tk E' hv hC hx F N off ne => ?_
      refine wpAny_mono (turn i ys v I oI C oC D m₂ h tk E' (by omega) hy hv hC hx F N off ne) (fun b s₂ hq => ?_) fun _ _ e => e
      have up : ∀ (zs : List Value) y s₃, CompEnd h₀ L m { s with heap := h, toks := tk } I oI C oC D (lst ys) S (fun y' news' => news' = news ∧ J (i + 1) zs) y s₃ →
          CompEnd h₀ L m { s with heap := h, toks := tk } I oI C oC D (lst ys) S (fun y' news' => CompRestT prog w A h₀ L m env ct elt x scope cl s S P Fin j (i + 1) zs news') y s₃ := by
        rintro zs y s₃ ⟨h', tk', nw, e, F', N', off', hS, rfl, hJ⟩
        exact ⟨h', tk', _, e, F', N', off', hS, ih (i + 1) zs (by omega) hJ⟩
      cases b with
      | true =>
        simp only [if_true] at hq ⊢
        refine wpAny_mono hq (fun y s₃ hr => ?_) fun _ _ e => e
        obtain ⟨h', tk', nw, e, F', N', off', hS, rfl, hJ⟩ := hr
        exact ⟨h', tk', _, e, F', N', off', hS, ih (i + 1) _ (by omega) hJ⟩
      | false =>
        simp only [Bool.false_eq_true, if_false] at hq ⊢
        exact up ys _ _ hq
  exact key n 0 [] (by omega) h0
theorem rest_inv {n : Nat} {news : Led} (J : Nat → List Value → Prop)
    (turn : ∀ i ys v I oI C oC D m₂ h tk (E' : Value → Shared → Prop), i < n → J i ys → P i v → NsObj oC m₂ → m₂ x = some v → Fr h₀ L h m → News h₀ L h ((I, oI) :: (C, oC) :: (D, lst ys) :: news) → Off3 I C D news → ((@Ne Nat I C) ∧ (@Ne Nat I D) ∧ (@Ne Nat C D)) →
      wpAny (model prog w) A (eval elt (compEnvC scope cl C env)) (CompEnd h₀ L m { s with heap := h, toks := tk } I oI C oC D (lst ys) S (fun y news' => news' = news ∧ J (i + 1) (ys ++ [y]))) E' { s with heap := h, toks := tk })
    (fin : ∀ ys, J n ys → Fin ys news) (h0 : J 0 []) : CompRest prog w A h₀ L m env elt x scope cl s S P Fin n 0 [] news := by
  have key : ∀ (j i : Nat) (ys : List Value), i + j = n → J i ys → CompRest prog w A h₀ L m env elt x scope cl s S P Fin j i ys news := by
    intro j
    induction j with
    | zero =>
      intro i ys hi hy
      obtain rfl : i = n := by omega
      exact CompRest.zero (fin ys hy)
    | succ j ih =>
      intro i ys hi hy
      refine CompRest.succ fun v I oI C oC D m₂ h tk E' hv hC hx F N off ne => ?_
      refine wpAny_mono (turn i ys v I oI C oC D m₂ h tk E' (by omega) hy hv hC hx F N off ne) (fun y s₃ hr => ?_) fun _ _ e => e
      obtain ⟨h', tk', nw, e, F', N', off', hS, rfl, hJ⟩ := hr
      exact ⟨h', tk', _, e, F', N', off', hS, ih (i + 1) _ (by omega) hJ⟩
  exact key n 0 [] (by omega) h0
end
theorem ev_none : ∀ (k : Nat) (xs : List Int) (nm : Int), mplace xs nm = none → evFrom k xs nm = []
  | _, [], _, _ => rfl
  | k, [x], nm, h => by
    simp only [mplace] at h
    split at h
    · cases h
    · rename_i e; simp only [evFrom, if_neg e]
  | k, x :: y :: r, nm, h => by
    simp only [mplace] at h
    split at h
    · cases h
    · rename_i e
      rw [Option.map_eq_none_iff] at h
      simp only [evFrom, if_neg e]
      exact ev_none _ r nm h
theorem ev_some : ∀ (k : Nat) (xs : List Int) (nm : Int) (p : Nat), mplace xs nm = some p → ∃ r, evFrom k xs nm = ((k + p : Nat) : Int) :: r
  | _, [], _, _, h => by cases h
  | k, [x], nm, p, h => by
    simp only [mplace] at h
    split at h
    · rename_i e
      cases h
      exact ⟨[], by simp only [evFrom, if_pos e]; rfl⟩
    · cases h
  | k, x :: y :: r, nm, p, h => by
    simp only [mplace] at h
    split at h
    · rename_i e
      cases h
      exact ⟨_, by simp only [evFrom, if_pos e]; rfl⟩
    · rename_i e
      obtain ⟨q, hq, rfl⟩ := Option.map_eq_some_iff.mp h
      obtain ⟨r', hr⟩ := ev_some (k + 2) r nm q hq
      refine ⟨r', ?_⟩
      simp only [evFrom, if_neg e, hr]
      congr 1
      omega
theorem ev_step (xs : List Int) (nm : Int) (i : Nat) (h : 2 * i < xs.length) : evFrom (2 * i) (xs.drop (2 * i)) nm = (if xs.getD (2 * i) 0 = nm then [((2 * i : Nat) : Int)] else []) ++ evFrom (2 * (i + 1)) (xs.drop (2 * (i + 1))) nm := by
  have hx : xs.getD (2 * i) 0 = xs[2 * i] := by simp [List.getD_eq_getElem?_getD, List.getElem?_eq_getElem h]
  rw [hx, List.drop_eq_getElem_cons h]
  by_cases h2 : 2 * i + 1 < xs.length
  · rw [List.drop_eq_getElem_cons h2]
    simp only [evFrom, show 2 * (i + 1) = 2 * i + 1 + 1 by omega]
    split <;> simp
  · rw [show xs.drop (2 * i + 1) = [] by rw [List.drop_eq_nil_iff]; omega, show xs.drop (2 * (i + 1)) = [] by rw [List.drop_eq_nil_iff]; omega]
    simp only [evFrom]
    split <;> simp
theorem mplace_lt : ∀ (xs : List Int) (nm : Int) (p : Nat), mplace xs nm = some p → p < xs.length
  | [], _, _, h => by cases h
  | [x], nm, p, h => by
    simp only [mplace] at h
    split at h
    · cases h; simp
    · cases h
  | x :: y :: r, nm, p, h => by
    simp only [mplace] at h
    split at h
    · cases h; simp
    · obtain ⟨q, hq, rfl⟩ := Option.map_eq_some_iff.mp h
      have := mplace_lt r nm q hq
      simp
      omega
theorem pair_lt : ∀ (xs : List Int) (nm : Int) (p : Nat), place xs nm = some p → p + 1 < xs.length
  | [], _, _, h => by cases h
  | [_], _, _, h => by cases h
  | x :: y :: r, nm, p, h => by
    rw [place_cons] at h
    split at h
    · cases h; simp
    · obtain ⟨q, hq, rfl⟩ := Option.map_eq_some_iff.mp h
      have := pair_lt r nm q hq
      simp
      omega
theorem my_ints_get {vs : List Value} {xs : List Int} (h : IntsAre vs xs) : ∀ {i : Nat} {x : Int}, xs[i]? = some x → ∃ t, vs[i]? = some (.int x t) := by
  induction h with
  | nil => intro i x e; simp at e
  | cons a t _ ih =>
    intro i x e
    cases i with
    | zero => simp only [List.getElem?_cons_zero, Option.some.injEq] at e; subst e; exact ⟨t, rfl⟩
    | succ i => simp only [List.getElem?_cons_succ] at e ⊢; exact ih e
end
section
theorem rot1 {α : Type} {a d c : α} {l : List α} : ∀ p ∈ d :: c :: a :: l, p ∈ a :: d :: c :: l := by
  intro p hp
  simp only [List.mem_cons] at hp ⊢
  rcases hp with h | h | h | h <;> simp [h]
theorem rot2 {α : Type} {a b d c : α} {l : List α} : ∀ p ∈ d :: c :: a :: b :: l, p ∈ a :: b :: d :: c :: l := by
  intro p hp
  simp only [List.mem_cons] at hp ⊢
  rcases hp with h | h | h | h | h <;> simp [h]
theorem rot3 {α : Type} {a b e d c : α} {l : List α} : ∀ p ∈ d :: c :: a :: b :: e :: l, p ∈ a :: b :: e :: d :: c :: l := by
  intro p hp
  simp only [List.mem_cons] at hp ⊢
  rcases hp with h | h | h | h | h | h <;> simp [h]
theorem rangeSize_one (b : Int) : Builtin.Range.rangeSize 0 b 1 = (b.toNat : Nat) := by
  unfold Builtin.Range.rangeSize
  simp only [show (1 : Int) > 0 by decide, if_true]
  split <;> omega
theorem small_one {b : Int} (h0 : 0 ≤ b) (h : b < 1000) : Builtin.Range.small 0 b 1 = true := by
  have e9 := rangeSize_one b
  unfold Builtin.Range.small
  rw [e9]
  simp [Builtin.Range.rangeFitsLong]
  omega
theorem offNil {D : Addr} : ∀ p ∈ ([] : Led), p.1 ≠ D := fun _ h => nomatch h
theorem offCons {D : Addr} {a : Addr × Obj} {l : Led} (h : @Ne Nat a.1 D) (hl : ∀ p ∈ l, p.1 ≠ D) : ∀ p ∈ a :: l, p.1 ≠ D := by
  intro p hp
  rcases List.mem_cons.mp hp with rfl | hp
  · exact h
  · exact hl p hp
theorem keep3 {α : Type} {d c r : α} {l : List α} : ∀ p ∈ [d, c, r], p ∈ r :: d :: c :: l := by
  intro p hp
  simp only [List.mem_cons, List.not_mem_nil, or_false] at hp ⊢
  rcases hp with h | h | h <;> simp [h]
theorem pickT {α : Type} {i d c r l : α} {x : List α} : ∀ p ∈ [i, d, c, r], p ∈ r :: l :: d :: c :: i :: x := by
  intro p hp
  simp only [List.mem_cons, List.not_mem_nil, or_false] at hp ⊢
  rcases hp with h | h | h | h <;> simp [h]
/-- the end of a statement that goes on: what holds of the names and the ledger -/
def StEnd (h₀ : Heap) (L : Addr) (J : (Str → Option Value) → Led → Prop) (s₁ : Shared) (f : Flow) (s₂ : Shared) : Prop :=
  f = .next ∧ ∃ h' tk m' nx, s₂ = { s₁ with heap := h', toks := tk } ∧ Fr h₀ L h' m' ∧ News h₀ L h' nx ∧ J m' nx
theorem st_join {M : Model} {A : Around} {E : Value → Shared → Prop} {s : Shared} {h₀ : Heap} {L : Addr} {m : Str → Option Value} {c : Sem Flow} {Q : Flow → Shared → Prop} (F : Fr h₀ L s.heap m) (J : (Str → Option Value) → Led → Prop)
    (h : wpAny M A c (StEnd h₀ L J s) E s) (k : ∀ m' nx h' tk, J m' nx → Fr h₀ L h' m' → News h₀ L h' nx → Q .next { s with heap := h', toks := tk }) : wpAny M A c Q E s := by
  refine wpAny_mono h ?_ fun _ _ e => e
  rintro f s' ⟨rfl, h', tk, m', nx, rfl, F', N', hJ⟩
  exact k m' nx h' tk hJ F' N'
theorem permL {α : Type} {x d c r : α} {cn : List α} : ∀ p ∈ d :: c :: r :: cn, p ∈ cn ++ x :: d :: c :: [r] := by
  intro p hp
  simp only [List.mem_cons, List.mem_append, List.not_mem_nil, or_false] at hp ⊢
  rcases hp with h | h | h | h <;> simp [h]
theorem ChainIn.only {w : World} {led led' : Led} {v : Value} {c : List Cell} (h : ChainIn w led v c) (ha : ∀ e ∈ c, ∀ o, (e.a, o) ∈ led → (e.a, o) ∈ led') (hd : ∀ e ∈ c, ∀ o, (e.d, o) ∈ led → (e.d, o) ∈ led') : ChainIn w led' v c := by
  induction h with
  | nil => exact .nil
  | cons h1 h2 _ ih => exact .cons (ha _ (.head _) _ h1) (hd _ (.head _) _ h2) (ih (fun e he => ha e (.tail _ he)) (fun e he => hd e (.tail _ he)))
theorem ChainIn.newer {w : World} {led cn : Led} {v : Value} {c : List Cell} (h : ChainIn w (cn ++ led) v c) (hfc : ∀ q ∈ led, ∀ e ∈ c, q.1 < e.d ∧ q.1 < e.a) : ChainIn w cn v c := by
  refine h.only (fun e he o hm => ?_) (fun e he o hm => ?_)
  · rcases List.mem_append.mp hm with hm | hm
    · exact hm
    · exact absurd (hfc _ hm e he).2 (Nat.lt_irrefl _)
  · rcases List.mem_append.mp hm with hm | hm
    · exact hm
    · exact absurd (hfc _ hm e he).1 (Nat.lt_irrefl _)
section
variable {prog : Program} {w : World} {A : Around} {E : Value → Shared → Prop} {s : Shared} {Q : Value → Shared → Prop} {l b : Addr}
theorem ne_lengths {xs ys : Array Value} (hl : s.heap.IsList l xs) (hb : s.heap.IsList b ys) (hsz : (xs.size != ys.size) = true) (hu : A.units < cLine) (h : Q (.bool true) s) : wpAny (model prog w) A (compareOp .NotEq (.ref l) (.ref b)) Q E s :=
  PySem.SeqAt.RcNeAt.lists_lengths hl hb hsz hu prog w E Q h
theorem last_item {value slice : PySem.Expr} {vs : List Value} {v : Value} {u : Tok} (hl : s.heap.IsList l vs.toArray) (hx : vs.getLast? = some v) (h : Q v s)
    (hs : subscripted slice false (.ref l) (.int (-1) u) = operate [.ref l, .int (-1) u] (getItem (.ref l) (.int (-1) u)) := by with_unfolding_all rfl) :
    wpAny (model prog w) A (subscriptTail value slice (.ref l) (.int (-1) u)) Q E s := by
  have hn : vs ≠ [] := fun e => by rw [e] at hx; cases hx
  have hp : 0 < vs.length := List.length_pos_iff.mpr hn
  refine tail_any hl.typeIs slot_list_getitem.lookup (wpAny_getItem_list_neg hl (by decide) (by rw [List.size_toArray]; omega) (by decide) ?_ h) hs
  rw [List.getLast?_eq_getElem?] at hx
  rw [List.size_toArray, show ((-1 : Int) + (vs.length : Int)).toNat = vs.length - 1 by omega]
  simpa using hx
/-- the zip of two lists that lie in the ledger -/
theorem zip_made {xs ys : List Value} {n1 n2 : Nat} {h₀ : Heap} {L : Addr} {m : Str → Option Value} {news : Led} {env : Env} {c : PySem.Expr} {x y : Str} {scope : Scope} {cl : List (Str × Addr)} (hh : A.handled = none) (F : Fr h₀ L s.heap m) (N : News h₀ L s.heap news)
    (h1 : (l, listOf xs.toArray n1) ∈ news) (h2 : (b, listOf ys.toArray n2) ∈ news)
    (turn : ∀ (s₁ : Shared) (i : Nat) v1 v2 C oC m₂ h tk (E' : Value → Shared → Prop), xs[i]? = some v1 → ys[i]? = some v2 → LCg.NsObj oC m₂ → m₂ x = some v1 → m₂ y = some v2 → Fr h₀ L h m → News h₀ L h ((C, oC) :: news) → (∀ p ∈ news, p.1 ≠ C) →
      wpAny (model prog w) A (isTrue c (compEnvC scope cl C env) (eval c (compEnvC scope cl C env))) (fun ok s' => ok = false ∧ ∃ tk', s' = { s₁ with heap := h, toks := tk' }) E' { s₁ with heap := h, toks := tk })
    (fin : ∀ D h tk, Fr h₀ L h m → News h₀ L h ((D, LCg.lst []) :: news) → Q (.ref D) { s with heap := h, toks := tk }) :
    wpAny (model prog w) A (call (.type "zip") [.ref l, .ref b]) (ZipSrc prog w A h₀ L m env c x y scope cl Q) E s := by
  have g1 := N _ h1
  have g2 := N _ h2
  have e1 : s.heap.IsList l xs.toArray := ⟨_, g1.1, rfl, n1, rfl⟩
  have e2 : s.heap.IsList b ys.toArray := ⟨_, g2.1, rfl, n2, rfl⟩
  have hlt1 : l < s.heap.objs.size := Heap.lt_size g1.1
  have hlt2 : b < s.heap.objs.size := Heap.lt_size g2.1
  refine call_zip_2 e1 e2 fun h' hz hTI hTO hi1 hi2 hsz hk => ?_
  have fr : ∀ q, s.heap.objs.size ≤ q → h₀.get? q = none ∧ q ≠ L ∧ ∀ p ∈ news, p.1 ≠ q := fun q hq => by
    refine ⟨?_, fun e => absurd F.ns.lt (by rw [← e]; exact Nat.not_lt.mpr hq), fun p hp e => absurd (Heap.lt_size (N p hp).1) (by rw [e]; exact Nat.not_lt.mpr hq)⟩
    cases e : h₀.get? q with
    | none => rfl
    | some o => exact absurd (Heap.lt_size (F.keep q o e)) (Nat.not_lt.mpr hq)
  refine ⟨_, _, _, _, _, l, b, xs.toArray, ys.toArray, news, rfl, hh, ktu_apart _ _ _ hlt1 hlt2, ⟨hz, hTI, ⟨_, _, hTO⟩, hi1, hi2, e1.at fun o e => hk l o e, e2.at fun o e => hk b o e⟩, F.keeps hk, N.grown hk, ?_, ?_, ?_⟩
  · intro q hq
    simp only [List.mem_cons, List.not_mem_nil, or_false] at hq
    rcases hq with rfl | rfl | rfl | rfl <;> exact fr _ (by omega)
  · intro i v1 v2 C oC m₂ h tk E' a1 a2
    exact turn _ i v1 v2 C oC m₂ h tk E' (by simpa using a1) (by simpa using a2)
  · intro D h tk F' N'
    exact fin D h tk F' N'
end
def lhsOf {x y : Int} (_ : x < y) : Int := x
/-- the chain's own part of a ledger, off some addresses -/
theorem chain_part {w : World} {led : Led} {v : Value} {c : List Cell} (h : ChainIn w led v c) (bad : List Addr) (hb : ∀ e ∈ c, e.a ∉ bad ∧ e.d ∉ bad) : ∃ chl : Led, (∀ p ∈ chl, p ∈ led) ∧ ChainIn w chl v c ∧ ∀ q ∈ bad, ∀ p ∈ chl, p.1 ≠ q := by
  refine ⟨led.filter fun p => decide (p.1 ∉ bad), fun p hp => (List.mem_filter.mp hp).1, h.only (fun e he o hm => ?_) (fun e he o hm => ?_), fun q hq p hp e => ?_⟩
  · exact List.mem_filter.mpr ⟨hm, by simpa using (hb e he).1⟩
  · exact List.mem_filter.mpr ⟨hm, by simpa using (hb e he).2⟩
  · have := (List.mem_filter.mp hp).2
    rw [e] at this
    simp [hq] at this
theorem ChainIn.offs {w : World} {chl : Led} {v : Value} {c : List Cell} (h : ChainIn w chl v c) {q : Addr} (ho : ∀ p ∈ chl, p.1 ≠ q) : ∀ e ∈ c, e.a ≠ q ∧ e.d ≠ q := fun e he => by
  obtain ⟨h1, o, h2⟩ := h.mem e he
  exact ⟨ho _ h1, ho _ h2⟩
theorem pick5 {α : Type} {a b p d c i r : α} {l : List α} : ∀ e ∈ [d, c, r, i, p], e ∈ a :: b :: p :: d :: c :: i :: r :: l := by
  intro e he
  simp only [List.mem_cons, List.not_mem_nil, or_false] at he ⊢
  rcases he with h | h | h | h | h <;> simp [h]
theorem group5 {h₀ h : Heap} {L : Addr} {l1 chl : Led} {d c r i p t : Addr × Obj} (N : News h₀ L h (t :: l1)) (hk : ∀ e ∈ [d, c, r, i, p], e ∈ l1) (hs : ∀ e ∈ chl, e ∈ l1) : News h₀ L h (d :: c :: r :: i :: p :: t :: chl) := by
  intro e he
  simp only [List.mem_cons] at he
  rcases he with rfl | rfl | rfl | rfl | rfl | rfl | he
  · exact N _ (.tail _ (hk _ (by simp)))
  · exact N _ (.tail _ (hk _ (by simp)))
  · exact N _ (.tail _ (hk _ (by simp)))
  · exact N _ (.tail _ (hk _ (by simp)))
  · exact N _ (.tail _ (hk _ (by simp)))
  · exact N _ (.head _)
  · exact N _ (.tail _ (hs _ he))
theorem set_same {c : List Cell} {i : Nat} {q : Cell} {nx : Int} (hq : c[i]? = some q) : ∀ e ∈ c.set i ⟨q.a, q.d, nx⟩, ∃ e' ∈ c, e.a = e'.a ∧ e.d = e'.d := by
  intro e he
  rcases List.mem_or_eq_of_mem_set he with h | rfl
  · exact ⟨e, h, rfl, rfl⟩
  · exact ⟨q, List.mem_of_getElem? hq, rfl, rfl⟩
theorem set_as {c : List Cell} {i : Nat} {q : Cell} {nx : Int} (hq : c[i]? = some q) : (c.set i ⟨q.a, q.d, nx⟩).map (·.a) = c.map (·.a) := by
  apply List.ext_getElem?
  intro j
  simp only [List.getElem?_map, List.getElem?_set]
  by_cases e : i = j
  · subst e
    obtain ⟨hl, he⟩ := List.getElem?_eq_some_iff.mp hq
    simp [hl, he]
  · simp [e]
theorem set_ds {c : List Cell} {i : Nat} {q : Cell} {nx : Int} (hq : c[i]? = some q) : (c.set i ⟨q.a, q.d, nx⟩).map (·.d) = c.map (·.d) := by
  apply List.ext_getElem?
  intro j
  simp only [List.getElem?_map, List.getElem?_set]
  by_cases e : i = j
  · subst e
    obtain ⟨hl, he⟩ := List.getElem?_eq_some_iff.mp hq
    simp [hl, he]
  · simp [e]
theorem set_xs {c : List Cell} {i : Nat} {q : Cell} {nx : Int} : (c.set i ⟨q.a, q.d, nx⟩).map (·.x) = (c.map (·.x)).set i nx := by
  rw [List.map_set]
theorem setL_of : ∀ {l : List Value} {k : Nat} {v : Value}, k < l.length → ki_setL l k v = some (l.set k v)
  | [], k, v, h => by simp at h
  | x :: r, 0, v, _ => rfl
  | x :: r, k + 1, v, h => by
    have ih := setL_of (l := r) (k := k) (v := v) (by simpa using h)
    simp only [ki_setL, ih, List.set_cons_succ]
theorem ints_set {vs : List Value} {xs : List Int} (h : IntsAre vs xs) : ∀ (i : Nat) (x : Int) (t : Tok), IntsAre (vs.set i (.int x t)) (xs.set i x) := by
  induction h with
  | nil => intro i x t; exact .nil
  | cons a t0 h ih =>
    intro i x t
    cases i with
    | zero => exact .cons _ _ h
    | succ i => exact .cons _ _ (ih i x t)
end
section
theorem putA_con (w : World) (led : Led) (va AR : Addr) (c : List Cell) (nm new : Int) (tn tw : Tok) (nA : Nat) (hc : ChainIn w led (.ref va) c) (hlen : c.length ≤ 90)
    (ha : (c.map (·.a)).Nodup) (hd : (c.map (·.d)).Nodup) (hAR : (AR, listOf #[.ref va, .int nm tn, .int new tw] nA) ∈ led) (hp : place (c.map (·.x)) nm = none) (hev : c.length % 2 = 0) :
    Con w 143 [.none, .ref AR] 12 120 led
      (fun r led' => ∃ vr c2, r = .ref vr ∧ (c ≠ [] → vr = va) ∧ c2.map (·.x) = [nm, new] ∧ ChainIn w led' (.ref vr) (c ++ c2) ∧ ((c ++ c2).map (·.a)).Nodup ∧ ((c ++ c2).map (·.d)).Nodup ∧ (∀ e ∈ led, (∀ q ∈ c, e.1 ≠ q.d) → e ∈ led') ∧ ∀ p ∈ led, ∀ e ∈ c2, p.1 < e.d ∧ p.1 < e.a) := by
  k_with_none
  unfold Con
  intro mean mg mb dp un gd cn cs a ccd cl outer A₀ base h₀ L m s Q E B F X N T hk9 hd9 hu9 hret
  have hf1 := News.fun1 N
  have hnn := noNil N X
  refine wpAny_call ?_
  ((k_dflt (refine' code_def ?k1 ?k2 ?k3 ?k4 ?k5 ?kA ?kF ?kK ?k6 ?k7 ?k8 ?k9 ?kB ?_ ?c2 ?c3 ?c4 ?c5; (case kA => exact rfl); (case kF => exact rfl); (case kK => first | exact rfl | assumption); (case k1 => k_asm); (case k2 => k_asm); (case k3 => k_asm); (case k4 => k_asm); (case k5 => k_asm); (case k6 => k_is); (case k7 => k_is); (case k8 => k_room); (case k9 => first | exact BindsTo.of_eq rfl | exact binds_K (by k_in) rfl (by k_is) rfl rfl rfl); (case c5 => decide); (case kB => exact locs rfl); (case c2 => exact rfl); (case c3 => exact rfl); (case c4 => exact rfl); k_whole; intro _ _ _ _ _ _ _ _ _; (try dsimp only); (try k_fold))))
  k_with "call ref" => ((refine' Con.use (pair_con w _ _ _ _ _ hc (by omega) ha) ?B ?F ?X ?N ?T ?hk ?hd ?hu ?_); (((case B => k_asm); (case F => k_asm); (case X => k_asm); (case N => k_asm); (case T => k_asm); (case hk => rfl); (case hd => first | exact dnle (by assumption) (by decide) | ((try simp only [depth_deeper]); (try dsimp only [ktrTop]); omega)); (case hu => first | exact unle (by assumption) (by decide) | ((try simp only [units_deeper]); (try dsimp only [ktrTop]); omega)))); rintro r9 led9 h9 tk9 F9 N9 ⟨e9, ⟨hp9, rfl⟩ | ⟨p9, q9, hp9, hq9, rfl⟩⟩; rotate_left; (exfalso; rw [hp] at hp9; cases hp9); subst e9)
  k_with "call ref" => ((refine' Con.use (split_con w _ _ _ hc (by omega) ha) ?B ?F ?X ?N ?T ?hk ?hd ?hu ?_); (((case B => k_asm); (case F => k_asm); (case X => k_asm); (case N => k_asm); (case T => k_asm); (case hk => rfl); (case hd => first | exact dnle (by assumption) (by decide) | ((try simp only [depth_deeper]); (try dsimp only [ktrTop]); omega)); (case hu => first | exact unle (by assumption) (by decide) | ((try simp only [units_deeper]); (try dsimp only [ktrTop]); omega)))); intro r9 led9 h9 tk9 F9 N9 hP9; refine exE5 hP9 ?_; clear hP9; intro T9 X9 vals n8 n9 hP9; refine andE3 hP9 ?_; clear hP9; rintro rfl rfl hvals; have hlv := hvals.length)
  k_with "call builtin:len" => k_dflt (refine' kun_lenL (k := (c.length : Int)) ?k1 ?k2 ?k3 ?_; (case k1 => exact News.isList (by k_asm) (by k_mem)); (case k2 => (simp at hlv ⊢; omega)); (case k3 => omega))
  k_with "call ref" => ((refine' Con.use (list_con w _ _ [.int nm tn, .int new tw] [nm, new] _ (.cons _ _ (.cons _ _ .nil)) (List.Mem.head _) (by simp)) ?B ?F ?X ?N ?T ?hk ?hd ?hu ?_); (((case B => k_asm); (case F => k_asm); (case X => k_asm); (case N => k_asm); (case T => k_asm); (case hk => rfl); (case hd => first | exact dnle (by assumption) (by decide) | ((try simp only [depth_deeper]); (try dsimp only [ktrTop]); omega)); (case hu => first | exact unle (by assumption) (by decide) | ((try simp only [units_deeper]); (try dsimp only [ktrTop]); omega)))); rintro r9 led9 h9 tk9 F9 N9 ⟨cn, c2, rfl, hC2, hx2, hna2, hnd2, hfr, hfc⟩; obtain ⟨vf, rfl⟩ := hC2.ref)
  k_with "binaryOp Mod int int" => (with_reducible refine mod_is (r := 0) ?hb ?hr ?_); (case hb => omega); (case hr => omega)
  k_with "subscriptTail" => (((with_reducible show wpAny _ _ (subscriptTail _ _ (Value.ref _) (Value.int _ _)) _ _ _); k_dflt (refine' my_itemL (News.isList ?mN ?mM) ?m0 ?mh ?mx ?_ ?ms; (case mN => k_asm); (case mM => k_mem); (case m0 => decide); (case mh => decide); (case mx => rfl); (case ms => with_unfolding_all rfl))))
  k_with "compareOp Is ref ref" => ((refine is_two ?s1 ?s2 ?_ ?_); (case s1 => exact hc.solid (by k_asm) (by k_in) (by (first | exact fun _ h => h | exact fun _ h => .tail _ h | exact fun _ h => .tail _ (.tail _ h) | exact fun _ h => .tail _ (.tail _ (.tail _ h)) | exact fun _ h => .tail _ (.tail _ (.tail _ (.tail _ h))) | exact fun _ h => .tail _ (.tail _ (.tail _ (.tail _ (.tail _ h)))) | exact fun _ h => .tail _ (.tail _ (.tail _ (.tail _ (.tail _ (.tail _ h))))) | exact fun _ h => .tail _ (.tail _ (.tail _ (.tail _ (.tail _ (.tail _ (.tail _ h)))))) | exact fun _ h => .tail _ (.tail _ (.tail _ (.tail _ (.tail _ (.tail _ (.tail _ (.tail _ h))))))) | exact fun _ h => .tail _ (.tail _ (.tail _ (.tail _ (.tail _ (.tail _ (.tail _ (.tail _ (.tail _ h)))))))) | exact fun _ h => .tail _ (.tail _ (.tail _ (.tail _ (.tail _ (.tail _ (.tail _ (.tail _ (.tail _ (.tail _ h))))))))) | exact fun _ h => .tail _ (.tail _ (.tail _ (.tail _ (.tail _ (.tail _ (.tail _ (.tail _ (.tail _ (.tail _ (.tail _ h)))))))))) | exact fun _ h => .tail _ (.tail _ (.tail _ (.tail _ (.tail _ (.tail _ (.tail _ (.tail _ (.tail _ (.tail _ (.tail _ (.tail _ h))))))))))) | exact fun _ h => .tail _ (.tail _ (.tail _ (.tail _ (.tail _ (.tail _ (.tail _ (.tail _ (.tail _ (.tail _ (.tail _ (.tail _ (.tail _ h)))))))))))) | exact fun _ h => .tail _ (.tail _ (.tail _ (.tail _ (.tail _ (.tail _ (.tail _ (.tail _ (.tail _ (.tail _ (.tail _ (.tail _ (.tail _ (.tail _ h))))))))))))) | (intro p hp; simp [hp])))); (case s2 => exact .nil (by k_in)); all_goals intro e9)
  k_with "exec While Compare cons nil" => refine stopHere ?_
  (repeat' (first | (k_unfold; (try dsimp only)) | (k_end; wrow_close) | (walk1; (all_goals (try dsimp only))) | (dsimp only; walk1) | ((simp only [List.cons_append, List.nil_append]); walk1) | (leave1; walk_say "STEP leave1"; try dsimp only) | fail "no step"))
  · have hcn : c = [] := by
      subst e9
      cases hc with
      | nil => rfl
      | cons h1 _ _ => exact absurd h1 (hnn _)
    subst hcn
    exact hret _ _ _ _ (by assumption) (by assumption) ⟨vf, c2, rfl, fun h => absurd rfl h, hx2, hC2, hna2, hnd2, fun e he _ => by simp [he], fun q hq e he => hfc q (by simp [hq]) e he⟩
  have hne : 0 < c.length := by
    cases hc with
    | nil => exact absurd rfl e9
    | cons _ _ _ => exact Nat.succ_pos _
  unfold id
  rename Fr _ _ _ _ => F1
  rename News _ _ _ _ => N0
  obtain ⟨BL, hBL, N1, hC2, hfc⟩ : ∃ BL : Led, (∀ p ∈ led, p ∈ BL) ∧ News _ _ _ BL ∧ ChainIn w BL (.ref vf) c2 ∧ ∀ p ∈ led, ∀ e ∈ c2, p.1 < e.d ∧ p.1 < e.a := ⟨_, by intro p hp; simp [hp], N0, hC2, fun p hp e he => hfc p (by simp [hp]) e he⟩
  clear N0
  have hfL : Fun1 BL := News.fun1 N1
  have hcL : ChainIn w BL (.ref va) c := hc.mono hBL
  have hARL := hBL _ hAR
  obtain ⟨q0, hq0, hva⟩ : ∃ q0 : Cell, c[0]? = some q0 ∧ va = q0.a := by
    cases hc with
    | nil => simp at hne
    | cons _ _ _ => exact ⟨_, rfl, rfl⟩
  refine While_inv2 (fun n m₁ news₁ => ∃ (k : Nat) (q : Cell), news₁ = BL ∧ k + n + 1 = c.length ∧ c[k]? = some q ∧ m₁ (Str.ofString "here") = some (.ref q.a) ∧ m₁ (Str.ofString "fresh") = some (.ref vf) ∧ m₁ (Str.ofString "args") = some (.ref AR)) F1 N1 (n₀ := c.length - 1) ⟨0, q0, rfl, by omega, hq0, by rw [← hva]; rfl, rfl, rfl⟩ ?_
  rintro n m₁ news₁ h₁ tk₁ F₁ N₁ ⟨k, q, e9, hkn, hq, e1, e2, e3⟩
  subst e9
  replace F₁ := Fr.bnd F₁ [(Str.ofString "here", .ref q.a), (Str.ofString "fresh", .ref vf), (Str.ofString "args", .ref AR)] (by simp [e1, e2, e3])
  obtain ⟨v9, tx9, t9, t8, hm8, hm9, hA9⟩ := hcL.at hq
  have hqc : q ∈ c := List.mem_of_getElem? hq
  rcases n with _ | n
  · rw [show c.drop (k + 1) = [] by rw [List.drop_eq_nil_iff]; omega] at hA9
    cases hA9
    have hm8' : (q.a, instObj 82 q.d) ∈ wo q.d news₁ := mem_wo hm8 (inst_ne_dict hfL hm8 hm9)
    have hAR' := mem_wo (d := q.d) hARL (list_ne_dict hfL hARL hm9)
    have hall := wo_ne (d := q.d) (led := news₁)
    replace N₁ := News.wo N₁ hm9
    (repeat' (first | (k_unfold; (try dsimp only)) | (k_end; wrow_close) | (walk1; (all_goals (try dsimp only))) | (dsimp only; walk1) | ((simp only [List.cons_append, List.nil_append]); walk1) | (leave1; walk_say "STEP leave1"; try dsimp only) | fail "no step"))
    have hcJ := hcL.join hfL hq (by omega) hd hm9 hC2 (fun e he => Nat.ne_of_gt (hfc _ (hc.mem q hqc).2.choose_spec e he).1)
    refine hret _ _ _ _ (by assumption) (by assumption) ⟨va, c2, rfl, fun _ => rfl, hx2, hcJ, ?_, ?_, fun e he hn => .tail _ (mem_wo (hBL e he) (hn q hqc)), hfc⟩
    · rw [List.map_append, List.nodup_append]
      refine ⟨ha, hna2, ?_⟩
      rintro x hx y hy
      obtain ⟨e1, he1, rfl⟩ := List.mem_map.mp hx
      obtain ⟨e2, he2, rfl⟩ := List.mem_map.mp hy
      exact Nat.ne_of_lt (hfc _ (hc.mem e1 he1).1 e2 he2).2
    · rw [List.map_append, List.nodup_append]
      refine ⟨hd, hnd2, ?_⟩
      rintro x hx y hy
      obtain ⟨e1, he1, rfl⟩ := List.mem_map.mp hx
      obtain ⟨e2, he2, rfl⟩ := List.mem_map.mp hy
      obtain ⟨o, ho⟩ := (hc.mem e1 he1).2
      exact Nat.ne_of_lt (hfc _ ho e2 he2).1
  · obtain ⟨q2, hq2⟩ : ∃ q2, c[k + 1]? = some q2 := ⟨_, List.getElem?_eq_getElem (by omega)⟩
    have hA2 : ∃ c3, c.drop (k + 1) = q2 :: c3 := by
      have := List.head?_drop (l := c) (i := k + 1)
      rw [hq2] at this
      cases e : c.drop (k + 1) with
      | nil => rw [e] at this; cases this
      | cons z r => rw [e] at this; cases this; exact ⟨_, rfl⟩
    obtain ⟨c3, hc3⟩ := hA2
    rw [hc3] at hA9
    obtain ⟨rfl, -⟩ := hA9.uncons
    have hq64 : q2.a ≠ 64 := fun e => by
      obtain ⟨_, _, _, _, _, h1, _⟩ := hA9.uncons
      rw [e] at h1
      exact noNil N1 (by assumption) _ h1
    k_with "compareOp IsNot ref ref" => ((refine isNot_two ?s1 ?s2 ?ht ?_); (case s1 => exact hA9.solid (by k_asm) (by k_in) (by (first | exact fun _ h => h | exact fun _ h => .tail _ h | exact fun _ h => .tail _ (.tail _ h) | exact fun _ h => .tail _ (.tail _ (.tail _ h)) | exact fun _ h => .tail _ (.tail _ (.tail _ (.tail _ h))) | exact fun _ h => .tail _ (.tail _ (.tail _ (.tail _ (.tail _ h)))) | exact fun _ h => .tail _ (.tail _ (.tail _ (.tail _ (.tail _ (.tail _ h))))) | exact fun _ h => .tail _ (.tail _ (.tail _ (.tail _ (.tail _ (.tail _ (.tail _ h)))))) | exact fun _ h => .tail _ (.tail _ (.tail _ (.tail _ (.tail _ (.tail _ (.tail _ (.tail _ h))))))) | exact fun _ h => .tail _ (.tail _ (.tail _ (.tail _ (.tail _ (.tail _ (.tail _ (.tail _ (.tail _ h)))))))) | exact fun _ h => .tail _ (.tail _ (.tail _ (.tail _ (.tail _ (.tail _ (.tail _ (.tail _ (.tail _ (.tail _ h))))))))) | exact fun _ h => .tail _ (.tail _ (.tail _ (.tail _ (.tail _ (.tail _ (.tail _ (.tail _ (.tail _ (.tail _ (.tail _ h)))))))))) | exact fun _ h => .tail _ (.tail _ (.tail _ (.tail _ (.tail _ (.tail _ (.tail _ (.tail _ (.tail _ (.tail _ (.tail _ (.tail _ h))))))))))) | exact fun _ h => .tail _ (.tail _ (.tail _ (.tail _ (.tail _ (.tail _ (.tail _ (.tail _ (.tail _ (.tail _ (.tail _ (.tail _ (.tail _ h)))))))))))) | exact fun _ h => .tail _ (.tail _ (.tail _ (.tail _ (.tail _ (.tail _ (.tail _ (.tail _ (.tail _ (.tail _ (.tail _ (.tail _ (.tail _ (.tail _ h))))))))))))) | (intro p hp; simp [hp])))); (case s2 => exact .nil (by k_in)); (case ht => (intro e9; exact absurd e9 hq64)); intro e9)
    (repeat' (first | (k_unfold; (try dsimp only)) | (k_end; wrow_close) | (walk1; (all_goals (try dsimp only))) | (dsimp only; walk1) | ((simp only [List.cons_append, List.nil_append]); walk1) | (leave1; walk_say "STEP leave1"; try dsimp only) | fail "no step"))
    exact ⟨_, _, _, _, n, rfl, by assumption, (show News _ _ _ news₁ by assumption), by omega, k + 1, q2, rfl, by omega, hq2, rfl, rfl, rfl⟩
end
section
/-- a contract of a call from the outermost frame -/
def Con0 (w : World) (f : Addr) (args : List Value) (dn un' : Nat) (led : Led) (post : Value → Led → Prop) : Prop :=
  ∀ (mean : ExcName → Option Value) (mg mb : Str → Option Value) (dp un : Nat) (gd : Option (List Code)) (cn : Str) (cs : Scope) (a : Addr) (ccd : Value) (A₀ : Around) (h₀ : Heap) (L : Addr) (m : Str → Option Value) (s : Shared)
    (Q E : Value → Shared → Prop),
    Below A₀ h₀ [] h₀ → Fr h₀ L s.heap m → (hd.heap_39 w.params).In h₀ → News h₀ L s.heap led → Top hd.view_39 (looseW hd.view_39 [Str.ofString "NIL", Str.ofString "list_of"]) mean mg mb h₀ → cs.kind = .function →
    dp + dn < recursionLimit → un + un' < cLine →
    (∀ r led' h' tk', Fr h₀ L h' m → News h₀ L h' led' → post r led' → Q r { s with heap := h', toks := tk' }) →
    wpAny (model PySem.Challenge.rw_np0010_01.row.prog w) (ktrTop dp un gd cn cs L a ccd [] []) (call (.ref f) args) Q E s

theorem toldR_con (w : World) (led : Led) (va AR : Addr) (c : List Cell) (nm new : Int) (tn tw : Tok) (nA : Nat) (hc : ChainIn w led (.ref va) c) (hlen : c.length ≤ 90)
    (ha : (c.map (·.a)).Nodup) (hAR : (AR, listOf #[.ref va, .int nm tn, .int new tw] nA) ∈ led) (hp : place (c.map (·.x)) nm = none) (hod : c.length % 2 = 1) :
    Con0 w 169 [.ref 143, .ref AR] 20 200 led
      (fun r led' => ∃ P n cn t1 t2, r = .ref P ∧ led' = cn ++ led ∧ (P, listOf #[.str (Str.ofString "signal") t1, .str (Str.ofString "wrong-type-argument") t2] n) ∈ cn) := by
  k_with_none
  unfold Con0
  intro mean mg mb dp un gd cn cs a ccd A₀ h₀ L m s Q E B F X N T hk9 hd9 hu9 hret
  have hf1 := News.fun1 N
  refine wpAny_call ?_
  k_dflt (refine' code_defS0 ?k1 ?k2 ?k3 ?k4 ?k5 ?kA ?k6 ?k7 ?k8 ?k9 ?kB ?_ ?cK ?c2 ?c3 ?c4 ?c5; (case kA => exact rfl); (case k2 => k_asm); (case k1 => k_asm); (case k3 => k_asm); (case k4 => k_asm); (case k5 => k_asm); (case k6 => k_is); (case k7 => k_is); (case k8 => k_room); (case k9 => first | exact BindsTo.of_eq rfl | exact binds_K (by k_in) rfl (by k_is) rfl rfl rfl); (case kB => exact locs rfl); (case cK => exact hk9); (case c2 => exact rfl); (case c3 => exact rfl); (case c4 => exact rfl); (case c5 => decide); k_whole; intro g1 L1 h1 FG1 F1 N1 B1 X1 T1 D1; (try dsimp only); (try k_fold))
  clear F N
  k_with "call ref" => first
    | ((refine' Con.use (pair_con w _ _ _ _ _ hc (by omega) ha) ?B ?F ?X ?N ?T ?hk ?hd ?hu ?_); (((case B => k_asm); (case F => k_asm); (case X => k_asm); (case N => k_asm); (case T => k_asm); (case hk => rfl); (case hd => first | exact dnle (by assumption) (by decide) | ((try simp only [depth_deeper]); (try dsimp only [ktrTop]); omega)); (case hu => first | exact unle (by assumption) (by decide) | ((try simp only [units_deeper]); (try dsimp only [ktrTop]); omega)))); rintro r9 led9 h9 tk9 F9 N9 ⟨e9, ⟨hp9, rfl⟩ | ⟨p9, q9, hp9, hq9, rfl⟩⟩; rotate_left; (exfalso; rw [hp] at hp9; cases hp9); subst e9)
    | ((refine' Con.use (split_con w _ _ _ hc (by omega) ha) ?B ?F ?X ?N ?T ?hk ?hd ?hu ?_); (((case B => k_asm); (case F => k_asm); (case X => k_asm); (case N => k_asm); (case T => k_asm); (case hk => rfl); (case hd => first | exact dnle (by assumption) (by decide) | ((try simp only [depth_deeper]); (try dsimp only [ktrTop]); omega)); (case hu => first | exact unle (by assumption) (by decide) | ((try simp only [units_deeper]); (try dsimp only [ktrTop]); omega)))); rintro r9 led9 h9 tk9 F9 N9 ⟨T9, X9, vals, n8, n9, rfl, rfl, hvals⟩; have hlv := hvals.length)
    | ((refine' Con.use (wrong_con w _ _ _ _) ?B ?F ?X ?N ?T ?hk ?hd ?hu ?_); (((case B => k_asm); (case F => k_asm); (case X => k_asm); (case N => k_asm); (case T => k_asm); (case hk => rfl); (case hd => first | exact dnle (by assumption) (by decide) | ((try simp only [depth_deeper]); (try dsimp only [ktrTop]); omega)); (case hu => first | exact unle (by assumption) (by decide) | ((try simp only [units_deeper]); (try dsimp only [ktrTop]); omega)))); rintro r9 led9 h9 tk9 F9 N9 ⟨e9, l9, rfl, hM9⟩)
    | (refine wpAny_call ?_; ((k_dflt (refine' code_def ?k1 ?k2 ?k3 ?k4 ?k5 ?kA ?kF ?kK ?k6 ?k7 ?k8 ?k9 ?kB ?_ ?c2 ?c3 ?c4 ?c5; (case kA => exact rfl); (case kF => exact rfl); (case kK => first | exact rfl | assumption); (case k1 => k_asm); (case k2 => k_asm); (case k3 => k_asm); (case k4 => k_asm); (case k5 => k_asm); (case k6 => k_is); (case k7 => k_is); (case k8 => k_room); (case k9 => first | exact BindsTo.of_eq rfl | exact binds_K (by k_in) rfl (by k_is) rfl rfl rfl); (case c5 => decide); (case kB => exact locs rfl); (case c2 => exact rfl); (case c3 => exact rfl); (case c4 => exact rfl); k_whole; intro _ _ _ _ _ _ _ _ _; (try dsimp only); (try k_fold)))))
  k_with "call builtin:len" => k_dflt (refine' kun_lenL (k := (c.length : Int)) ?k1 ?k2 ?k3 ?_; (case k1 => exact News.isList (by k_asm) (by k_mem)); (case k2 => (simp at hlv ⊢; omega)); (case k3 => omega))
  k_with "binaryOp Mod int int" => (with_reducible refine mod_is (r := 1) ?hb ?hr ?_); (case hb => omega); (case hr => omega)
  k_with "subscriptTail" => (((with_reducible show wpAny _ _ (subscriptTail _ _ (Value.ref _) (Value.int _ _)) _ _ _); k_dflt (refine' my_itemL (News.isList ?mN ?mM) ?m0 ?mh ?mx ?_ ?ms; (case mN => k_asm); (case mM => k_mem); (case m0 => decide); (case mh => decide); (case mx => rfl); (case ms => with_unfolding_all rfl))))
  k_with "exec Raise some none" => refine raise_made rfl ?_
  (repeat' (first | (k_unfold; (try dsimp only)) | (k_end; wrow_close) | (walk1; (all_goals (try dsimp only))) | (dsimp only; walk1) | ((simp only [List.cons_append, List.nil_append]); walk1) | (leave1; walk_say "STEP leave1"; try dsimp only) | fail "no step"))
  obtain ⟨t9, D9, oE9, oD9, oT9, mA9, tk9, rfl, a9, b9, c9, d9, f9⟩ := hM9
  rename News _ _ _ _ => N9
  rename Fr _ _ _ _ => F9
  rename Below _ _ _ _ => B9
  refine ⟨e9, oE9, t9, rfl, ?_, (N9 _ (.head _)).1, a9, ?_⟩
  · exact (Frag.In.keeps (by assumption) F9.keep) _ _ (ls_cls _)
  subst ek
  dsimp only
  refine leaveX B9 F9 N9 f9 a9 b9 fun h8 R8 U8 => ?_
  dsimp only
  refine' caughtX R8 ?FF B1 U8 X T ?ex ?_
  case FF => assumption
  case ex => k_is
  intro h7 g7 oe7 vs7 tk7 T7 F7 N7 hc7 hd7 hv7 K7 X7 P7
  clear F9 N9 B9 N1 F1 B1 X1 T1
  (repeat' (first | (k_unfold; (try dsimp only)) | (k_end; wrow_close) | (walk1; (all_goals (try dsimp only))) | (dsimp only; walk1) | ((simp only [List.cons_append, List.nil_append]); walk1) | (leave1; walk_say "STEP leave1"; try dsimp only) | fail "no step"))
  refine exc_get_led (X7.keeps F7.keep) N7 (.head _) (.tail _ (.head _)) hc7 hd7 hv7 c9 d9 ?_
  dsimp only
  (repeat' (first | (k_unfold; (try dsimp only)) | (k_end; wrow_close) | (walk1; (all_goals (try dsimp only))) | (dsimp only; walk1) | ((simp only [List.cons_append, List.nil_append]); walk1) | (leave1; walk_say "STEP leave1"; try dsimp only) | fail "no step"))
  exact hret _ _ _ _ (by assumption) (by assumption) ⟨_, 0, [_, _, _, _, _, _, _], _, _, rfl, rfl, .head _⟩

theorem told_con (w : World) (led : Led) (f AR : Addr) (dn un' : Nat) (post : Value → Led → Prop) (hf : f = 129 ∨ f = 136 ∨ f = 143) (C : Con w f [.none, .ref AR] dn un' led post) :
    Con w 169 [.ref f, .ref AR] (dn + 3) (un' + 20) led
      (fun r led' => ∃ P t v led1, r = .ref P ∧ led' = (P, listOf #[.str (Str.ofString "told") t, v] 0) :: led1 ∧ post v led1 ∧ ∀ p ∈ led1, p.1 < P) := by
  k_with_none
  unfold Con
  intro mean mg mb dp un gd cn cs a ccd cl outer A₀ base h₀ L m s Q E B F X N T hk9 hd9 hu9 hret
  k_with "call ref" => ((refine' Con.use C ?B ?F ?X ?N ?T ?hk ?hd ?hu ?_); (((case B => k_asm); (case F => k_asm); (case X => k_asm); (case N => k_asm); (case T => k_asm); (case hk => rfl); (case hd => first | exact dnle (by assumption) (by decide) | ((try simp only [depth_deeper]); (try dsimp only [ktrTop]); omega)); (case hu => first | exact unle (by assumption) (by decide) | ((try simp only [units_deeper]); (try dsimp only [ktrTop]); omega)))); rintro r9 led9 h9 tk9 F9 N9 hp9)
  rcases hf with rfl | rfl | rfl
  · refine wpAny_call ?_
    ((k_dflt (refine' code_def ?k1 ?k2 ?k3 ?k4 ?k5 ?kA ?kF ?kK ?k6 ?k7 ?k8 ?k9 ?kB ?_ ?c2 ?c3 ?c4 ?c5; (case kA => exact rfl); (case kF => exact rfl); (case kK => first | exact rfl | assumption); (case k1 => k_asm); (case k2 => k_asm); (case k3 => k_asm); (case k4 => k_asm); (case k5 => k_asm); (case k6 => k_is); (case k7 => k_is); (case k8 => k_room); (case k9 => first | exact BindsTo.of_eq rfl | exact binds_K (by k_in) rfl (by k_is) rfl rfl rfl); (case c5 => decide); (case kB => exact locs rfl); (case c2 => exact rfl); (case c3 => exact rfl); (case c4 => exact rfl); k_whole; intro _ _ _ _ _ _ _ _ _; (try dsimp only); (try k_fold))))
    (repeat' (first | (k_unfold; (try dsimp only)) | (k_end; wrow_close) | (walk1; (all_goals (try dsimp only))) | (dsimp only; walk1) | ((simp only [List.cons_append, List.nil_append]); walk1) | (leave1; walk_say "STEP leave1"; try dsimp only) | fail "no step"))
    exact hret _ _ _ _ (by assumption) (by assumption) ⟨_, _, _, _, rfl, rfl, hp9, by first | assumption | exact allLt (by assumption)⟩
  · refine wpAny_call ?_
    ((k_dflt (refine' code_def ?k1 ?k2 ?k3 ?k4 ?k5 ?kA ?kF ?kK ?k6 ?k7 ?k8 ?k9 ?kB ?_ ?c2 ?c3 ?c4 ?c5; (case kA => exact rfl); (case kF => exact rfl); (case kK => first | exact rfl | assumption); (case k1 => k_asm); (case k2 => k_asm); (case k3 => k_asm); (case k4 => k_asm); (case k5 => k_asm); (case k6 => k_is); (case k7 => k_is); (case k8 => k_room); (case k9 => first | exact BindsTo.of_eq rfl | exact binds_K (by k_in) rfl (by k_is) rfl rfl rfl); (case c5 => decide); (case kB => exact locs rfl); (case c2 => exact rfl); (case c3 => exact rfl); (case c4 => exact rfl); k_whole; intro _ _ _ _ _ _ _ _ _; (try dsimp only); (try k_fold))))
    (repeat' (first | (k_unfold; (try dsimp only)) | (k_end; wrow_close) | (walk1; (all_goals (try dsimp only))) | (dsimp only; walk1) | ((simp only [List.cons_append, List.nil_append]); walk1) | (leave1; walk_say "STEP leave1"; try dsimp only) | fail "no step"))
    exact hret _ _ _ _ (by assumption) (by assumption) ⟨_, _, _, _, rfl, rfl, hp9, by first | assumption | exact allLt (by assumption)⟩
  · refine wpAny_call ?_
    ((k_dflt (refine' code_def ?k1 ?k2 ?k3 ?k4 ?k5 ?kA ?kF ?kK ?k6 ?k7 ?k8 ?k9 ?kB ?_ ?c2 ?c3 ?c4 ?c5; (case kA => exact rfl); (case kF => exact rfl); (case kK => first | exact rfl | assumption); (case k1 => k_asm); (case k2 => k_asm); (case k3 => k_asm); (case k4 => k_asm); (case k5 => k_asm); (case k6 => k_is); (case k7 => k_is); (case k8 => k_room); (case k9 => first | exact BindsTo.of_eq rfl | exact binds_K (by k_in) rfl (by k_is) rfl rfl rfl); (case c5 => decide); (case kB => exact locs rfl); (case c2 => exact rfl); (case c3 => exact rfl); (case c4 => exact rfl); k_whole; intro _ _ _ _ _ _ _ _ _; (try dsimp only); (try k_fold))))
    (repeat' (first | (k_unfold; (try dsimp only)) | (k_end; wrow_close) | (walk1; (all_goals (try dsimp only))) | (dsimp only; walk1) | ((simp only [List.cons_append, List.nil_append]); walk1) | (leave1; walk_say "STEP leave1"; try dsimp only) | fail "no step"))
    exact hret _ _ _ _ (by assumption) (by assumption) ⟨_, _, _, _, rfl, rfl, hp9, by first | assumption | exact allLt (by assumption)⟩
end
section
local macro_rules | `(tactic| walk_at "execs cons") => `(tactic| ((with_reducible show wpAny _ _ (execs (Stmt.Assign [Expr.Name (Str.ofString "places") _] _ _ :: _) _) _ _ _); refine stopHere ?_))
abbrev newsOf {h₀ h : Heap} {L : Addr} {l : Led} (_ : News h₀ L h l) : Led := l
theorem seq_tail3 {M : Model} {A : Around} {E : Value → Shared → Prop} {s : Shared} {h₀ : Heap} {L : Addr} {m : Str → Option Value} {a b d : Stmt} {rest : List Stmt} {env : Env} {Q : Flow → Shared → Prop} (F : Fr h₀ L s.heap m) (J : (Str → Option Value) → Led → Prop)
    (k : ∀ m' nx h' tk, J m' nx → Fr h₀ L h' m' → News h₀ L h' nx → wpAny M A (execs rest env) Q E { s with heap := h', toks := tk })
    (h : (∀ m' nx h' tk, J m' nx → Fr h₀ L h' m' → News h₀ L h' nx → wpAny M A (execs rest env) Q E { s with heap := h', toks := tk }) → wpAny M A (execs (a :: b :: d :: rest) env) Q E s) : wpAny M A (execs (a :: b :: d :: rest) env) Q E s := h k
theorem got_con (w : World) (led : Led) (va R : Addr) (c : List Cell) (vals : List Value) (n : Nat) (nm : Int) (tn : Tok) (hc : ChainIn w led (.ref va) c) (hlen : c.length ≤ 90)
    (ha : (c.map (·.a)).Nodup) (hI : IntsAre vals (c.map (·.x))) (hR : (R, listOf vals.toArray n) ∈ led) :
    Con w 181 [.ref va, .ref R, .int nm tn] 20 200 led (fun r led' => r = .bool true ∧ ∃ cn, led' = cn ++ led) := by
  have hll := hI.length
  k_with_none
  unfold Con
  intro mean mg mb dp un gd cn cs a ccd cl outer A₀ base h₀ L m s Q E B F X N T hk9 hd9 hu9 hret
  refine wpAny_call ?_
  ((k_dflt (refine' code_defC ?k1 ?k2 ?k3 ?k4 ?k5 ?kA ?kF ?kK ?k6 ?k7 ?k8 ?k9 ?kB ?kD ?_ ?c2 ?c3 ?c4; (case kA => exact rfl); (case kF => exact rfl); (case kK => first | exact rfl | assumption); (case k1 => k_asm); (case k2 => k_asm); (case k3 => k_asm); (case k4 => k_asm); (case k5 => k_asm); (case k6 => k_is); (case k7 => k_is); (case k8 => k_room); (case k9 => first | exact BindsTo.of_eq rfl | exact binds_K (by k_in) rfl (by k_is) rfl rfl rfl); (case kB => exact rfl); (case kD => decide +kernel); (case c2 => exact rfl); (case c3 => exact rfl); (case c4 => exact rfl); k_whole; intro g' L' h' tk' cells' FG' F' N' Y' B' X' T' l1; (try k_lt l1); k_cells Y'; (try simp only [List.cons_append, List.nil_append] at N'); (try dsimp only); (try k_fold))))
  have c99 : c.length ≤ 99 := Nat.le_trans hlen (by decide)
  have c99l : c.length < 99 := Nat.lt_of_le_of_lt hlen (by decide)
  have c99m : (c.map (·.x)).length ≤ 99 := by rw [List.length_map]; exact c99
  have c16 : (c.length : Int) ≤ 16384 := Int.le_trans (Int.ofNat_le.mpr hlen) (by decide)
  have clv : (vals.length : Int) = (c.length : Int) := by rw [hll, List.length_map]
  k_with "call builtin:len" => k_dflt (refine' kun_lenL (k := (c.length : Int)) ?k1 ?k2 ?k3 ?_; (case k1 => exact News.isList (by k_asm) (by k_mem)); (case k2 => (simp; exact clv)); (case k3 => exact c16))
  refine' seq_tail3 ?F5 (fun m nx => nx = newsOf N' ∧ m (Str.ofString "value") = some (.ref va)) ?_ ?_
  (case F5 => exact F')
  · rintro m₂ nx₂ h₂ tk₂ ⟨rfl, e1⟩ F₂ N₂
    rw [← bnd_eq (m := m₂) (ps := [(Str.ofString "value", .ref va)]) (by simp [e1])] at F₂
    dsimp only [newsOf] at N₂
    clear F' N'
    refine wpAny_execs_cons ?_
    refine assign_step (F₀ := by k_asm) (by rfl) (by with_unfolding_all rfl) (by with_unfolding_all rfl) (by decide) (by rfl) (by decide) (by rfl) (by rfl) (by rfl) ?_
    (repeat' (first | (k_unfold; (try dsimp only)) | (k_end; wrow_close) | (walk1; (all_goals (try dsimp only))) | (dsimp only; walk1) | ((simp only [List.cons_append, List.nil_append]); walk1) | (leave1; walk_say "STEP leave1"; try dsimp only) | fail "no step"))
    rename IsRange _ _ _ _ _ _ _ _ => hr9
    refine ⟨_, _, _, _, _, _, _, (c.length + 1) / 2, _, rfl, rfl, by k_asm, by k_asm, hr9, ?small, ?size, ?line, ?_⟩
    case small => 
      have e9 := rangeSize_two (c.length : Int)
      unfold Builtin.Range.small
      rw [e9]
      simp [Builtin.Range.rangeFitsLong]
      omega
    case size => rw [rangeSize_two]; congr 1
    case line => rw [sizeLine_eq]; omega
    rintro s₂ ⟨g9, rfl⟩
    dsimp only
    refine restT_inv (J := fun i ys => ∃ pre, IntsAre ys pre ∧ pre ++ evFrom (2 * i) ((c.map (·.x)).drop (2 * i)) nm = evFrom 0 (c.map (·.x)) nm) ?_ ?_ ⟨[], .nil, rfl⟩
    · intro i ys v' I' oI' C' oC' D' m' h' tk' E' hi9 hJ9 hv' hC' hx' F' N' off' ne'
      obtain ⟨pre, hpre, hev⟩ := hJ9
      obtain ⟨t9', hv9'⟩ := hv'
      subst hv9'
      have off9 := off'
      try simp only [LCg.Off3, and_true] at off'
      have hst := ev_step (c.map (·.x)) nm i (by simp; omega)
      have hti : (0 + (i : Int) * 2).toNat = 2 * i := by omega
      rw [hst] at hev
      (repeat' (first | (k_unfold; (try dsimp only)) | (k_end; wrow_close) | (walk1; (all_goals (try dsimp only))) | (dsimp only; walk1) | ((simp only [List.cons_append, List.nil_append]); walk1) | (leave1; walk_say "STEP leave1"; try dsimp only) | fail "no step"))
      · refine ⟨_, _, _, rfl, by assumption, by assumption, off9, trivial, rfl, pre ++ [((2 * i : Nat) : Int)], ?_, ?_⟩
        · rw [show (0 + (i : Int) * 2) = ((2 * i : Nat) : Int) by omega]
          exact hpre.append (.cons _ _ .nil)
        · rw [if_pos (by rw [← hti]; assumption)] at hev
          rw [List.append_assoc]
          exact hev
      · refine ⟨_, _, _, rfl, by assumption, by assumption, off9, trivial, rfl, pre, hpre, ?_⟩
        rw [if_neg (by rw [← hti]; assumption)] at hev
        exact hev
    · rintro ys ⟨pre, hpre, hev⟩
      rw [show (c.map (·.x)).drop (2 * ((c.length + 1) / 2)) = [] by rw [List.drop_eq_nil_iff]; simp; omega] at hev
      simp only [evFrom, List.append_nil] at hev
      intro D9 h9 tk9 F9 N9 o9
      rcases hmp : mplace (c.map (·.x)) nm with _ | p1
      · rw [ev_none 0 _ _ hmp] at hev
        subst hev
        cases hpre
        k_with "call ref" => ((refine' Con.use (told_con w _ 136 _ _ _ _ (.inr (.inl rfl)) (member_con w _ _ _ c _ _ _ ?mC c99 ha (List.Mem.head _))) ?B ?F ?X ?N ?T ?hk ?hd ?hu ?_); (((case B => k_asm); (case F => k_asm); (case X => k_asm); (case N => k_asm); (case T => k_asm); (case hk => rfl); (case hd => first | exact dnle (by assumption) (by decide) | ((try simp only [depth_deeper]); (try dsimp only [ktrTop]); omega)); (case hu => first | exact unle (by assumption) (by decide) | ((try simp only [units_deeper]); (try dsimp only [ktrTop]); omega)))); (case mC => exact hc.mono (by (first | exact fun _ h => h | exact fun _ h => .tail _ h | exact fun _ h => .tail _ (.tail _ h) | exact fun _ h => .tail _ (.tail _ (.tail _ h)) | exact fun _ h => .tail _ (.tail _ (.tail _ (.tail _ h))) | exact fun _ h => .tail _ (.tail _ (.tail _ (.tail _ (.tail _ h)))) | exact fun _ h => .tail _ (.tail _ (.tail _ (.tail _ (.tail _ (.tail _ h))))) | exact fun _ h => .tail _ (.tail _ (.tail _ (.tail _ (.tail _ (.tail _ (.tail _ h)))))) | exact fun _ h => .tail _ (.tail _ (.tail _ (.tail _ (.tail _ (.tail _ (.tail _ (.tail _ h))))))) | exact fun _ h => .tail _ (.tail _ (.tail _ (.tail _ (.tail _ (.tail _ (.tail _ (.tail _ (.tail _ h)))))))) | exact fun _ h => .tail _ (.tail _ (.tail _ (.tail _ (.tail _ (.tail _ (.tail _ (.tail _ (.tail _ (.tail _ h))))))))) | exact fun _ h => .tail _ (.tail _ (.tail _ (.tail _ (.tail _ (.tail _ (.tail _ (.tail _ (.tail _ (.tail _ (.tail _ h)))))))))) | exact fun _ h => .tail _ (.tail _ (.tail _ (.tail _ (.tail _ (.tail _ (.tail _ (.tail _ (.tail _ (.tail _ (.tail _ (.tail _ h))))))))))) | exact fun _ h => .tail _ (.tail _ (.tail _ (.tail _ (.tail _ (.tail _ (.tail _ (.tail _ (.tail _ (.tail _ (.tail _ (.tail _ (.tail _ h)))))))))))) | exact fun _ h => .tail _ (.tail _ (.tail _ (.tail _ (.tail _ (.tail _ (.tail _ (.tail _ (.tail _ (.tail _ (.tail _ (.tail _ (.tail _ (.tail _ h))))))))))))) | (intro p hp; simp [hp])))); intro r7 led7 h7 tk7 F7 N7 hP9; refine exE4 hP9 ?_; clear hP9; intro P7 t7 v7 l7 hP9; refine andE4 hP9 ?_; clear hP9; rintro rfl rfl hP9 lt7; (refine And.elim ?_ hP9); clear hP9; rintro rfl hg7; obtain ⟨-, rfl⟩ := hg7.resolve_right (by rintro ⟨p, q, h1, -⟩; rw [hmp] at h1; cases h1))
        (repeat' (first | (k_unfold; (try dsimp only)) | (k_end; wrow_close) | (walk1; (all_goals (try dsimp only))) | (dsimp only; walk1) | ((simp only [List.cons_append, List.nil_append]); walk1) | (leave1; walk_say "STEP leave1"; try dsimp only) | fail "no step"))
        exact hret _ _ _ _ (by assumption) (by assumption) ⟨rfl, [_, _, _, _, _, _], rfl⟩
      · obtain ⟨r9, hr9⟩ := ev_some 0 _ _ _ hmp
        rw [hr9] at hev
        subst hev
        cases hpre with | cons t8' t7' hpre' => ?_
        k_with "call ref" => first
          | ((refine' Con.use (told_con w _ 136 _ _ _ _ (.inr (.inl rfl)) (member_con w _ _ _ c _ _ _ ?mC c99 ha (List.Mem.head _))) ?B ?F ?X ?N ?T ?hk ?hd ?hu ?_); (((case B => k_asm); (case F => k_asm); (case X => k_asm); (case N => k_asm); (case T => k_asm); (case hk => rfl); (case hd => first | exact dnle (by assumption) (by decide) | ((try simp only [depth_deeper]); (try dsimp only [ktrTop]); omega)); (case hu => first | exact unle (by assumption) (by decide) | ((try simp only [units_deeper]); (try dsimp only [ktrTop]); omega)))); (case mC => exact hc.mono (by (first | exact fun _ h => h | exact fun _ h => .tail _ h | exact fun _ h => .tail _ (.tail _ h) | exact fun _ h => .tail _ (.tail _ (.tail _ h)) | exact fun _ h => .tail _ (.tail _ (.tail _ (.tail _ h))) | exact fun _ h => .tail _ (.tail _ (.tail _ (.tail _ (.tail _ h)))) | exact fun _ h => .tail _ (.tail _ (.tail _ (.tail _ (.tail _ (.tail _ h))))) | exact fun _ h => .tail _ (.tail _ (.tail _ (.tail _ (.tail _ (.tail _ (.tail _ h)))))) | exact fun _ h => .tail _ (.tail _ (.tail _ (.tail _ (.tail _ (.tail _ (.tail _ (.tail _ h))))))) | exact fun _ h => .tail _ (.tail _ (.tail _ (.tail _ (.tail _ (.tail _ (.tail _ (.tail _ (.tail _ h)))))))) | exact fun _ h => .tail _ (.tail _ (.tail _ (.tail _ (.tail _ (.tail _ (.tail _ (.tail _ (.tail _ (.tail _ h))))))))) | exact fun _ h => .tail _ (.tail _ (.tail _ (.tail _ (.tail _ (.tail _ (.tail _ (.tail _ (.tail _ (.tail _ (.tail _ h)))))))))) | exact fun _ h => .tail _ (.tail _ (.tail _ (.tail _ (.tail _ (.tail _ (.tail _ (.tail _ (.tail _ (.tail _ (.tail _ (.tail _ h))))))))))) | exact fun _ h => .tail _ (.tail _ (.tail _ (.tail _ (.tail _ (.tail _ (.tail _ (.tail _ (.tail _ (.tail _ (.tail _ (.tail _ (.tail _ h)))))))))))) | exact fun _ h => .tail _ (.tail _ (.tail _ (.tail _ (.tail _ (.tail _ (.tail _ (.tail _ (.tail _ (.tail _ (.tail _ (.tail _ (.tail _ (.tail _ h))))))))))))) | (intro p hp; simp [hp])))); intro r7 led7 h7 tk7 F7 N7 hP9; refine exE4 hP9 ?_; clear hP9; intro P7 t7 v7 l7 hP9; refine andE4 hP9 ?_; clear hP9; rintro rfl rfl hP9 lt7; (refine And.elim ?_ hP9); clear hP9; rintro rfl hg7; (obtain ⟨p7, q7, h71, h72, rfl⟩ := hg7.resolve_left (by rintro ⟨h1, -⟩; rw [hmp] at h1; cases h1)); (obtain rfl := Option.some.inj (hmp.symm.trans h71)))
          | ((refine' Con.use (pairs_con w _ _ c ?mC c99l) ?B ?F ?X ?N ?T ?hk ?hd ?hu ?_); (((case B => k_asm); (case F => k_asm); (case X => k_asm); (case N => k_asm); (case T => k_asm); (case hk => rfl); (case hd => first | exact dnle (by assumption) (by decide) | ((try simp only [depth_deeper]); (try dsimp only [ktrTop]); omega)); (case hu => first | exact unle (by assumption) (by decide) | ((try simp only [units_deeper]); (try dsimp only [ktrTop]); omega)))); (case mC => exact hc.mono (by (first | exact fun _ h => h | exact fun _ h => .tail _ h | exact fun _ h => .tail _ (.tail _ h) | exact fun _ h => .tail _ (.tail _ (.tail _ h)) | exact fun _ h => .tail _ (.tail _ (.tail _ (.tail _ h))) | exact fun _ h => .tail _ (.tail _ (.tail _ (.tail _ (.tail _ h)))) | exact fun _ h => .tail _ (.tail _ (.tail _ (.tail _ (.tail _ (.tail _ h))))) | exact fun _ h => .tail _ (.tail _ (.tail _ (.tail _ (.tail _ (.tail _ (.tail _ h)))))) | exact fun _ h => .tail _ (.tail _ (.tail _ (.tail _ (.tail _ (.tail _ (.tail _ (.tail _ h))))))) | exact fun _ h => .tail _ (.tail _ (.tail _ (.tail _ (.tail _ (.tail _ (.tail _ (.tail _ (.tail _ h)))))))) | exact fun _ h => .tail _ (.tail _ (.tail _ (.tail _ (.tail _ (.tail _ (.tail _ (.tail _ (.tail _ (.tail _ h))))))))) | exact fun _ h => .tail _ (.tail _ (.tail _ (.tail _ (.tail _ (.tail _ (.tail _ (.tail _ (.tail _ (.tail _ (.tail _ h)))))))))) | exact fun _ h => .tail _ (.tail _ (.tail _ (.tail _ (.tail _ (.tail _ (.tail _ (.tail _ (.tail _ (.tail _ (.tail _ (.tail _ h))))))))))) | exact fun _ h => .tail _ (.tail _ (.tail _ (.tail _ (.tail _ (.tail _ (.tail _ (.tail _ (.tail _ (.tail _ (.tail _ (.tail _ (.tail _ h)))))))))))) | exact fun _ h => .tail _ (.tail _ (.tail _ (.tail _ (.tail _ (.tail _ (.tail _ (.tail _ (.tail _ (.tail _ (.tail _ (.tail _ (.tail _ (.tail _ h))))))))))))) | (intro p hp; simp [hp])))); intro r6 led6 h6 tk6 F6 N6 hP9; refine exE2 hP9 ?_; clear hP9; intro P6 n6 hP9; refine andE3 hP9 ?_; clear hP9; rintro rfl rfl lt6)
        have hp1 : p1 < c.length := by simpa using mplace_lt _ _ _ hmp
        k_with "subscriptTail" => (with_reducible show wpAny _ _ (subscriptTail _ _ (Value.ref P6) (Value.int _ _)) _ _ _); k_dflt (refine' my_itemL (v := .ref q7.a) (News.isList ?mN ?mM) ?m0 ?mh ?mx ?_ ?ms; (case mN => k_asm); (case mM => k_mem); (case m0 => (simp <;> omega)); (case mh => (simp <;> omega)); (case mx => simp [h72]); (case ms => with_unfolding_all rfl))
        (repeat' (first | (k_unfold; (try dsimp only)) | (k_end; wrow_close) | (walk1; (all_goals (try dsimp only))) | (dsimp only; walk1) | ((simp only [List.cons_append, List.nil_append]); walk1) | (leave1; walk_say "STEP leave1"; try dsimp only) | fail "no step"))
        · rename decide _ = true => hdec
          simp at hdec
        · exact hret _ _ _ _ (by assumption) (by assumption) ⟨rfl, [_, _, _, _, _, _, _], rfl⟩
  · intro ktail
    rcases hpl : place (c.map (·.x)) nm with _ | p0
    · k_with "call ref" => first
        | ((refine' Con.use (place_con w _ _ _ _ n _ _ hI ?mR c99m) ?B ?F ?X ?N ?T ?hk ?hd ?hu ?_); (((case B => k_asm); (case F => k_asm); (case X => k_asm); (case N => k_asm); (case T => k_asm); (case hk => rfl); (case hd => first | exact dnle (by assumption) (by decide) | ((try simp only [depth_deeper]); (try dsimp only [ktrTop]); omega)); (case hu => first | exact unle (by assumption) (by decide) | ((try simp only [units_deeper]); (try dsimp only [ktrTop]); omega)))); (case mR => simp [hR]); rintro r9 led9 h9 tk9 F9 N9 ⟨e9, t9, hr9⟩; subst e9; rw [hpl] at hr9; dsimp only at hr9; subst hr9)
        | ((refine' Con.use (told_con w _ 129 _ _ _ _ (.inl rfl) (get_con w _ _ _ c _ _ _ ?mC c99 ha (List.Mem.head _))) ?B ?F ?X ?N ?T ?hk ?hd ?hu ?_); (((case B => k_asm); (case F => k_asm); (case X => k_asm); (case N => k_asm); (case T => k_asm); (case hk => rfl); (case hd => first | exact dnle (by assumption) (by decide) | ((try simp only [depth_deeper]); (try dsimp only [ktrTop]); omega)); (case hu => first | exact unle (by assumption) (by decide) | ((try simp only [units_deeper]); (try dsimp only [ktrTop]); omega)))); (case mC => exact hc.mono (by (first | exact fun _ h => h | exact fun _ h => .tail _ h | exact fun _ h => .tail _ (.tail _ h) | exact fun _ h => .tail _ (.tail _ (.tail _ h)) | exact fun _ h => .tail _ (.tail _ (.tail _ (.tail _ h))) | exact fun _ h => .tail _ (.tail _ (.tail _ (.tail _ (.tail _ h)))) | exact fun _ h => .tail _ (.tail _ (.tail _ (.tail _ (.tail _ (.tail _ h))))) | exact fun _ h => .tail _ (.tail _ (.tail _ (.tail _ (.tail _ (.tail _ (.tail _ h)))))) | exact fun _ h => .tail _ (.tail _ (.tail _ (.tail _ (.tail _ (.tail _ (.tail _ (.tail _ h))))))) | exact fun _ h => .tail _ (.tail _ (.tail _ (.tail _ (.tail _ (.tail _ (.tail _ (.tail _ (.tail _ h)))))))) | exact fun _ h => .tail _ (.tail _ (.tail _ (.tail _ (.tail _ (.tail _ (.tail _ (.tail _ (.tail _ (.tail _ h))))))))) | exact fun _ h => .tail _ (.tail _ (.tail _ (.tail _ (.tail _ (.tail _ (.tail _ (.tail _ (.tail _ (.tail _ (.tail _ h)))))))))) | exact fun _ h => .tail _ (.tail _ (.tail _ (.tail _ (.tail _ (.tail _ (.tail _ (.tail _ (.tail _ (.tail _ (.tail _ (.tail _ h))))))))))) | exact fun _ h => .tail _ (.tail _ (.tail _ (.tail _ (.tail _ (.tail _ (.tail _ (.tail _ (.tail _ (.tail _ (.tail _ (.tail _ (.tail _ h)))))))))))) | exact fun _ h => .tail _ (.tail _ (.tail _ (.tail _ (.tail _ (.tail _ (.tail _ (.tail _ (.tail _ (.tail _ (.tail _ (.tail _ (.tail _ (.tail _ h))))))))))))) | (intro p hp; simp [hp])))); intro r8 led8 h8 tk8 F8 N8 hP9; refine exE4 hP9 ?_; clear hP9; intro P8 t8 v8 l8 hP9; refine andE4 hP9 ?_; clear hP9; rintro rfl rfl hP9 lt8; (refine And.elim ?_ hP9); clear hP9; rintro rfl hg8; obtain ⟨-, rfl⟩ := hg8.resolve_right (by rintro ⟨p, q, t, h1, -⟩; rw [hpl] at h1; cases h1))
      (repeat' (first | (k_unfold; (try dsimp only)) | (k_end; wrow_close) | (walk1; (all_goals (try dsimp only))) | (dsimp only; walk1) | ((simp only [List.cons_append, List.nil_append]); walk1) | (leave1; walk_say "STEP leave1"; try dsimp only) | fail "no step"))
      unfold id
      rename News _ _ _ _ => N9e
      exact ktail _ _ _ _ ⟨rfl, rfl⟩ (by assumption) (News.sub N9e (fun p hp => mem2 hp))
    · k_with_none
      obtain ⟨q8, hq8⟩ : ∃ q8, c[p0 + 1]? = some q8 := by
        have h := pair_lt _ _ _ hpl
        rw [List.length_map] at h
        exact ⟨_, List.getElem?_eq_getElem h⟩
      have hp0 : p0 + 1 < c.length := (List.getElem?_eq_some_iff.mp hq8).1
      obtain ⟨t10, ht10⟩ := my_ints_get hI (show (c.map (·.x))[p0 + 1]? = some q8.x by simp [hq8])
      k_with "call ref" => first
        | ((refine' Con.use (place_con w _ _ _ _ n _ _ hI ?mR c99m) ?B ?F ?X ?N ?T ?hk ?hd ?hu ?_); (((case B => k_asm); (case F => k_asm); (case X => k_asm); (case N => k_asm); (case T => k_asm); (case hk => rfl); (case hd => first | exact dnle (by assumption) (by decide) | ((try simp only [depth_deeper]); (try dsimp only [ktrTop]); omega)); (case hu => first | exact unle (by assumption) (by decide) | ((try simp only [units_deeper]); (try dsimp only [ktrTop]); omega)))); (case mR => simp [hR]); rintro r9 led9 h9 tk9 F9 N9 ⟨e9, t9, hr9⟩; subst e9; rw [hpl] at hr9; dsimp only at hr9; subst hr9)
        | ((refine' Con.use (told_con w _ 129 _ _ _ _ (.inl rfl) (get_con w _ _ _ c _ _ _ ?mC c99 ha (List.Mem.head _))) ?B ?F ?X ?N ?T ?hk ?hd ?hu ?_); (((case B => k_asm); (case F => k_asm); (case X => k_asm); (case N => k_asm); (case T => k_asm); (case hk => rfl); (case hd => first | exact dnle (by assumption) (by decide) | ((try simp only [depth_deeper]); (try dsimp only [ktrTop]); omega)); (case hu => first | exact unle (by assumption) (by decide) | ((try simp only [units_deeper]); (try dsimp only [ktrTop]); omega)))); (case mC => exact hc.mono (by (first | exact fun _ h => h | exact fun _ h => .tail _ h | exact fun _ h => .tail _ (.tail _ h) | exact fun _ h => .tail _ (.tail _ (.tail _ h)) | exact fun _ h => .tail _ (.tail _ (.tail _ (.tail _ h))) | exact fun _ h => .tail _ (.tail _ (.tail _ (.tail _ (.tail _ h)))) | exact fun _ h => .tail _ (.tail _ (.tail _ (.tail _ (.tail _ (.tail _ h))))) | exact fun _ h => .tail _ (.tail _ (.tail _ (.tail _ (.tail _ (.tail _ (.tail _ h)))))) | exact fun _ h => .tail _ (.tail _ (.tail _ (.tail _ (.tail _ (.tail _ (.tail _ (.tail _ h))))))) | exact fun _ h => .tail _ (.tail _ (.tail _ (.tail _ (.tail _ (.tail _ (.tail _ (.tail _ (.tail _ h)))))))) | exact fun _ h => .tail _ (.tail _ (.tail _ (.tail _ (.tail _ (.tail _ (.tail _ (.tail _ (.tail _ (.tail _ h))))))))) | exact fun _ h => .tail _ (.tail _ (.tail _ (.tail _ (.tail _ (.tail _ (.tail _ (.tail _ (.tail _ (.tail _ (.tail _ h)))))))))) | exact fun _ h => .tail _ (.tail _ (.tail _ (.tail _ (.tail _ (.tail _ (.tail _ (.tail _ (.tail _ (.tail _ (.tail _ (.tail _ h))))))))))) | exact fun _ h => .tail _ (.tail _ (.tail _ (.tail _ (.tail _ (.tail _ (.tail _ (.tail _ (.tail _ (.tail _ (.tail _ (.tail _ (.tail _ h)))))))))))) | exact fun _ h => .tail _ (.tail _ (.tail _ (.tail _ (.tail _ (.tail _ (.tail _ (.tail _ (.tail _ (.tail _ (.tail _ (.tail _ (.tail _ (.tail _ h))))))))))))) | (intro p hp; simp [hp])))); intro r8 led8 h8 tk8 F8 N8 hP9; refine exE4 hP9 ?_; clear hP9; intro P8 t8 v8 l8 hP9; refine andE4 hP9 ?_; clear hP9; rintro rfl rfl hP9 lt8; (refine And.elim ?_ hP9); clear hP9; rintro rfl hg8; (obtain ⟨p9, q9, t11, h91, h92, rfl⟩ := hg8.resolve_left (by rintro ⟨h1, -⟩; rw [hpl] at h1; cases h1)); (obtain rfl := Option.some.inj (hpl.symm.trans h91)); (obtain rfl := Option.some.inj (hq8.symm.trans h92)))
      k_with "subscriptTail" => ((with_reducible show wpAny _ _ (subscriptTail _ _ (Value.ref R) (Value.int _ _)) _ _ _); k_dflt (refine' my_itemL (v := .int q8.x t10) (News.isList ?mN ?mM) ?m0 ?mh ?mx ?_ ?ms; (case mN => k_asm); (case mM => k_mem); (case m0 => omega); (case mh => omega); (case mx => (rw [show ((p0 : Int) + 1).toNat = p0 + 1 by omega]; exact ht10)); (case ms => with_unfolding_all rfl)))
      k_with "call builtin:len" => k_dflt (refine' kun_lenL (k := (c.length : Int)) ?k1 ?k2 ?k3 ?_; (case k1 => exact News.isList (by k_asm) (by k_mem)); (case k2 => (simp; exact clv)); (case k3 => exact c16))
      (repeat' (first | (k_unfold; (try dsimp only)) | (k_end; wrow_close) | (walk1; (all_goals (try dsimp only))) | (dsimp only; walk1) | ((simp only [List.cons_append, List.nil_append]); walk1) | (leave1; walk_say "STEP leave1"; try dsimp only) | fail "no step"))
      unfold id
      rename News _ _ _ _ => N9e
      exact ktail _ _ _ _ ⟨rfl, rfl⟩ (by assumption) (News.sub N9e (fun p hp => mem3 hp))
end
end
section
local macro_rules | `(tactic| walk_at "off") => `(tactic| first | assumption | exact offNil | (refine offCons ?_ ?_; (first | assumption | exact Ne.symm (by assumption) | omega); walk_at "off"))
local macro_rules | `(tactic| walk_at "compareOp IsNot ref ref") => `(tactic| first | (refine wpAny_isNot_ref_self ?_) | (refine stopHere ?_))
local macro_rules | `(tactic| walk_at "eval ListComp") => `(tactic| ((first | (with_reducible show wpAny _ _ (eval (Expr.ListComp (Expr.Attribute _ _ _) _ _ _) _) _ _ _) | (with_reducible show wpAny _ _ (eval (Expr.ListComp (Expr.Constant _ _ _) _ _ _) _) _ _ _)); refine stopHere ?_))
local macro_rules | `(tactic| walk_at "compareOp NotEq ref ref") => `(tactic| (refine stopHere ?_))
local macro_rules | `(tactic| walk_at "subscriptTail") => `(tactic| ((with_reducible show wpAny _ _ (subscriptTail _ _ (Value.ref _) (Value.int _ _)) _ _ _); (fail_if_success (with_reducible show wpAny _ _ (subscriptTail _ _ (Value.ref _) (Value.int 0 _)) _ _ _)); (fail_if_success (with_reducible show wpAny _ _ (subscriptTail _ _ (Value.ref _) (Value.int 1 _)) _ _ _)); (refine stopHere ?_)))
local macro_rules | `(tactic| walk_at "execs cons") => `(tactic| ((first | (with_reducible show wpAny _ _ (execs (Stmt.Assign [Expr.Tuple (Expr.Name (Str.ofString "told_here") _ :: _) _ _] _ _ :: _) _) _ _ _) | (with_reducible show wpAny _ _ (execs (Stmt.Assign [Expr.Name (Str.ofString "now") _] _ _ :: _) _) _ _ _)); refine stopHere ?_))
def Hid (p : Prop) : Prop := p
theorem ne_sameK {prog : Program} {w : World} {A : Around} {E : Value → Shared → Prop} {s : Shared} {a b : Addr} {vs us : List Value} {ns : List Int} {Q : Value → Shared → Prop} (hl : s.heap.IsList a vs.toArray) (hi : IntsAre vs ns) (hl' : s.heap.IsList b us.toArray) (hi' : IntsAre us ns) (hu : A.units + 64 < cLine)
    (h : Q (.bool false) s) : wpAny (model prog w) A (compareOp .NotEq (.ref a) (.ref b)) Q E s := ne_intsK hl hi hl' hi' hu (by simpa using h)
theorem my_last {w : World} {led : Led} {v : Value} {c : List Cell} (h : ChainIn w led v c) (hc : c ≠ []) : ∃ (el : Cell) (tx t1 t2 : Tok), (c.map fun e => Value.ref e.a).getLast? = some (.ref el.a) ∧ (el.a, instObj 82 el.d) ∈ led ∧ (el.d, consD w (.int el.x tx) (.ref 64) t1 t2) ∈ led := by
  have hp : 0 < c.length := List.length_pos_iff.mpr hc
  have he : c[c.length - 1]? = some c[c.length - 1] := List.getElem?_eq_getElem (by omega)
  obtain ⟨v9, tx, t1, t2, m1, m2, h3⟩ := h.at he
  rw [List.drop_eq_nil_iff.mpr (by omega)] at h3
  cases h3
  refine ⟨c[c.length - 1], tx, t1, t2, ?_, m1, m2⟩
  rw [List.getLast?_map, List.getLast?_eq_getElem?, he]
  rfl
theorem Con0.use {w : World} {f : Addr} {args : List Value} {dn un' : Nat} {led : Led} {post : Value → Led → Prop} (C : Con0 w f args dn un' led post)
    {mean : ExcName → Option Value} {mg mb : Str → Option Value} {dp un : Nat} {gd : Option (List Code)} {cn : Str} {cs : Scope} {a : Addr} {ccd : Value} {A₀ : Around} {h₀ : Heap} {L : Addr} {m : Str → Option Value} {s : Shared} {Q E : Value → Shared → Prop}
    (B : Below A₀ h₀ [] h₀) (F : Fr h₀ L s.heap m) (X : (hd.heap_39 w.params).In h₀) (N : News h₀ L s.heap led) (T : Top hd.view_39 (looseW hd.view_39 [Str.ofString "NIL", Str.ofString "list_of"]) mean mg mb h₀) (hk : cs.kind = .function)
    (hdn : dp + dn < recursionLimit) (hun : un + un' < cLine)
    (ret : ∀ r led' h' tk', Fr h₀ L h' m → News h₀ L h' led' → post r led' → Q r { s with heap := h', toks := tk' }) :
    wpAny (model PySem.Challenge.rw_np0010_01.row.prog w) (ktrTop dp un gd cn cs L a ccd [] []) (call (.ref f) args) Q E s :=
  C _ _ _ _ _ _ _ _ _ _ _ _ _ _ _ _ _ B F X N T hk hdn hun ret
theorem ne_strs2 {prog : Program} {w : World} {A : Around} {E : Value → Shared → Prop} {s : Shared} {a b : Addr} {x1 x2 : Str} {t1 t2 u1 u2 : Tok} {Q : Value → Shared → Prop} (hl : s.heap.IsList a #[.str x1 t1, .str x2 t2]) (hl' : s.heap.IsList b #[.str x1 u1, .str x2 u2]) (hu : A.units + 64 < cLine) (hx1 : PyData.strOk x1 = true) (hx2 : PyData.strOk x2 = true)
    (h : Q (.bool false) s) : wpAny (model prog w) A (compareOp .NotEq (.ref a) (.ref b)) Q E s := by
  obtain ⟨o, ho, hc, n, hd⟩ := hl
  obtain ⟨o', ho', hc', n', hd'⟩ := hl'
  have r1 : Reads s.heap (.ref a) (.list [.str x1, .str x2]) [a] := .list ho hc hd (.cons (.str _ _) (.cons (.str _ _) .nil))
  have r2 : Reads s.heap (.ref b) (.list [.str x1, .str x2]) [b] := .list ho' hc' hd' (.cons (.str _ _) (.cons (.str _ _) .nil))
  exact ne_dataH_same r1 r2 (by simp [SeqAt.shaped, PyData.canLay0, PyData.canLayAll0, PyData.depth, PyData.depthAll, hx1, hx2]) (by simp [SeqAt.shaped, PyData.canLay0, PyData.canLayAll0, PyData.depth, PyData.depthAll, hx1, hx2]) hu (by simp [SeqAt.noMix, SeqAt.noMixAll]) (by simpa [PySem.Spec.same, PySem.Spec.sameAll] using h)
theorem grpO {α : Type} {a b p d c i r t : α} {cn l : List α} (h : t ∈ cn) : ∀ e ∈ d :: c :: r :: i :: p :: t :: l, e ∈ cn ++ a :: b :: p :: d :: c :: i :: r :: l := by
  intro e he
  simp only [List.mem_cons, List.mem_append] at he ⊢
  rcases he with he | he | he | he | he | he | he <;> simp [he, h]
theorem offs4 {o1 o2 o3 o4 op oa ob : Obj} {a b p D C R I : Addr} {l : Led} {c2 : List Cell} (h : ∀ q ∈ (a, oa) :: (b, ob) :: (p, op) :: (D, o1) :: (C, o2) :: (I, o3) :: (R, o4) :: l, ∀ e ∈ c2, q.1 < e.d ∧ q.1 < e.a) : ∀ e ∈ c2, e.a ∉ [D, C, R, I] ∧ e.d ∉ [D, C, R, I] := by
  intro e he
  have h1 := h (D, o1) (by simp) e he
  have h2 := h (C, o2) (by simp) e he
  have h3 := h (I, o3) (by simp) e he
  have h4 := h (R, o4) (by simp) e he
  simp only [List.mem_cons, List.not_mem_nil, or_false, not_or]
  exact ⟨⟨Nat.ne_of_gt h1.2, Nat.ne_of_gt h2.2, Nat.ne_of_gt h4.2, Nat.ne_of_gt h3.2⟩, Nat.ne_of_gt h1.1, Nat.ne_of_gt h2.1, Nat.ne_of_gt h4.1, Nat.ne_of_gt h3.1⟩
theorem offs5 {o1 o2 o3 o4 op oa ob : Obj} {a b p D C R I : Addr} {l : Led} {c c2 : List Cell} (h0 : ∀ e ∈ c, e.a ∉ [D, C, R, I] ∧ e.d ∉ [D, C, R, I]) (h : ∀ q ∈ (a, oa) :: (b, ob) :: (p, op) :: (D, o1) :: (C, o2) :: (I, o3) :: (R, o4) :: l, ∀ e ∈ c2, q.1 < e.d ∧ q.1 < e.a) : ∀ e ∈ c ++ c2, e.a ∉ [D, C, R, I] ∧ e.d ∉ [D, C, R, I] := by
  intro e he
  rcases List.mem_append.mp he with he | he
  · exact h0 e he
  · exact offs4 h e he
theorem offs6 {o1 o2 o3 o4 o5 : Obj} {p D C R I : Addr} {c : List Cell} (h : ∀ e ∈ c, D ≠ e.d ∧ C ≠ e.d ∧ R ≠ e.d ∧ I ≠ e.d ∧ p ≠ e.d) : ∀ e ∈ [(D, o1), (C, o2), (R, o3), (I, o4), (p, o5)], ∀ q ∈ c, e.1 ≠ q.d := by
  intro e he q hq
  obtain ⟨h1, h2, h3, h4, h5⟩ := h q hq
  simp only [List.mem_cons, List.not_mem_nil, or_false] at he
  rcases he with rfl | rfl | rfl | rfl | rfl <;> assumption
theorem pickF {α : Type} {a1 d c r i p t : α} {l : List α} : ∀ x ∈ d :: c :: r :: i :: p :: l, x ∈ a1 :: d :: c :: r :: i :: p :: t :: l := by
  intro x hx
  simp only [List.mem_cons] at hx ⊢
  rcases hx with h | h | h | h | h | h <;> simp [h]
theorem pickO {α : Type} {a1 a2 d c r i p t : α} {l : List α} : ∀ x ∈ d :: c :: r :: i :: p :: l, x ∈ a1 :: a2 :: d :: c :: r :: i :: p :: t :: l := by
  intro x hx
  simp only [List.mem_cons] at hx ⊢
  rcases hx with h | h | h | h | h | h <;> simp [h]
theorem pickV {α : Type} {a1 a2 d c r r9 i p t : α} {l : List α} : ∀ x ∈ d :: c :: r9 :: i :: p :: l, x ∈ r9 :: a1 :: a2 :: d :: c :: r :: i :: p :: t :: l := by
  intro x hx
  simp only [List.mem_cons] at hx ⊢
  rcases hx with h | h | h | h | h | h <;> simp [h]
theorem pickJ {α : Type} {a1 a2 a3 a4 a5 d c r i p : α} {l : List α} : ∀ x ∈ i :: d :: c :: r :: l, x ∈ a1 :: a2 :: a3 :: a4 :: a5 :: d :: c :: r :: i :: p :: l := by
  intro x hx
  simp only [List.mem_cons] at hx ⊢
  rcases hx with h | h | h | h | h <;> simp [h]
theorem seq_tail {M : Model} {A : Around} {E : Value → Shared → Prop} {s : Shared} {h₀ : Heap} {L : Addr} {m : Str → Option Value} {a b : Stmt} {rest : List Stmt} {env : Env} {Q : Flow → Shared → Prop} (F : Fr h₀ L s.heap m) (J : (Str → Option Value) → Led → Prop)
    (k : ∀ m' nx h' tk, J m' nx → Fr h₀ L h' m' → News h₀ L h' nx → wpAny M A (execs rest env) Q E { s with heap := h', toks := tk })
    (h : (∀ m' nx h' tk, J m' nx → Fr h₀ L h' m' → News h₀ L h' nx → wpAny M A (execs rest env) Q E { s with heap := h', toks := tk }) → wpAny M A (execs (a :: b :: rest) env) Q E s) : wpAny M A (execs (a :: b :: rest) env) Q E s := h k
theorem turn_bounds {x9 k2 : Int} {i n : Nat} (hi : i < (3 + x9).toNat) (h9 : x9 < 4) (h0 : 0 ≤ k2) (h1 : k2 ≤ 20 + 2 * i) (hn : n ≤ 11 + 2 * i) :
    (k2 < 1000 ∧ 0 ≤ k2 + 1 ∧ k2 + 1 < 1000 ∧ 0 ≤ k2 + 1 + 1 ∧ k2 + 1 + 1 ≤ 20 + 2 * ((i + 1 : Nat) : Int)) ∧ (n ≤ 90 ∧ n < 99 ∧ n ≤ 99 ∧ (n : Int) ≤ 16384 ∧ n ≤ 16777216 ∧ n + 2 ≤ 16777216 ∧ n ≤ 11 + 2 * (i + 1) ∧ n + 2 ≤ 11 + 2 * (i + 1)) ∧ ∀ j, j ≤ 11 + 2 * (i + 1) → j < 99 := by
  have hi5 : i ≤ 5 := by omega
  clear hi h9
  have hn1 : n ≤ 21 := by omega
  have hk3 : k2 ≤ 30 := by omega
  have hnB : n + 2 ≤ 11 + 2 * (i + 1) := by omega
  exact ⟨⟨Int.lt_of_le_of_lt hk3 (by decide), Int.le_add_one h0, Int.lt_of_le_of_lt (Int.add_le_add_right hk3 1) (by decide), Int.le_add_one (Int.le_add_one h0), by omega⟩, ⟨Nat.le_trans hn1 (by decide), Nat.lt_of_le_of_lt hn1 (by decide), Nat.le_trans hn1 (by decide), Int.le_trans (Int.ofNat_le.mpr hn1) (by decide), Nat.le_trans hn1 (by decide), Nat.le_trans (Nat.add_le_add_right hn1 2) (by decide), Nat.le_trans (Nat.le_add_right n 2) hnB, hnB⟩, fun j hj => Nat.lt_of_le_of_lt (Nat.le_trans hj (Nat.add_le_add_left (Nat.mul_le_mul_left 2 (Nat.succ_le_succ hi5)) 11)) (by decide)⟩
theorem row_bounds {x9 k1 : Int} {i : Nat} {xs : List Int} (hi : i < x9.toNat) (h9 : x9 < 6) (h0 : 0 ≤ k1) (h1 : k1 ≤ 1 + 2 * i) (hx : xs.length = 2 * i) :
    k1 < 1000 ∧ 0 ≤ k1 + 1 ∧ k1 + 1 < 1000 ∧ 0 ≤ k1 + 1 + 1 ∧ k1 + 1 + 1 ≤ 1 + 2 * ((i + 1 : Nat) : Int) ∧ xs.length ≤ 10 ∧ xs.length + 2 = 2 * (i + 1) := by
  have hi5 : i ≤ 5 := by omega
  clear hi h9
  have hk3 : k1 ≤ 11 := by omega
  exact ⟨Int.lt_of_le_of_lt hk3 (by decide), Int.le_add_one h0, Int.lt_of_le_of_lt (Int.add_le_add_right hk3 1) (by decide), Int.le_add_one (Int.le_add_one h0), by omega, by rw [hx]; exact Nat.mul_le_mul_left 2 hi5, by rw [hx]; rfl⟩
theorem odd_bounds {x9 k1 : Int} {xs : List Int} (h9 : x9 < 6) (h0 : 0 ≤ k1) (h1 : k1 ≤ 1 + 2 * x9.toNat) (hx : xs.length = 2 * x9.toNat) :
    k1 < 1000 ∧ 0 ≤ k1 + 1 ∧ k1 + 1 < 1000 ∧ 0 ≤ k1 + 1 + 1 ∧ k1 + 1 ≤ 13 ∧ k1 + 1 + 1 ≤ 13 ∧ xs.length ≤ 11 ∧ xs.length + 1 ≤ 11 ∧ xs.length ≤ 16777216 := by
  have hi5 : x9.toNat ≤ 5 := by omega
  have hk3 : k1 ≤ 11 := by omega
  have hx1 : xs.length ≤ 10 := by rw [hx]; exact Nat.mul_le_mul_left 2 hi5
  exact ⟨Int.lt_of_le_of_lt hk3 (by decide), Int.le_add_one h0, Int.lt_of_le_of_lt (Int.add_le_add_right hk3 1) (by decide), Int.le_add_one (Int.le_add_one h0), Int.le_trans (Int.add_le_add_right hk3 1) (by decide), Int.add_le_add_right (Int.add_le_add_right hk3 1) 1, Nat.le_trans hx1 (by decide), Nat.add_le_add_right hx1 1, Nat.le_trans hx1 (by decide)⟩
theorem end_bounds {x9 k2 : Int} {n : Nat} (h9 : x9 < 4) (h1 : k2 ≤ 20 + 2 * (3 + x9).toNat) (hn : n ≤ 11 + 2 * (3 + x9).toNat) : k2 < 1000 ∧ n ≤ 90 := by
  refine ⟨?_, ?_⟩ <;> omega
theorem draw_use {w : World} {D C : Addr} {k : Int} {t : Tok} {n n' : Nat} {vs : List Value} {ns : List Int} {many : Int} {tm : Tok} {led : Led}
    (hv : IntsAre vs ns) (hk : 0 ≤ k) (hk' : k < 1000) (hm : 0 < many) (hm' : many < 100)
    (hl0 : 0 < ns.length) (hlen : ns.length ≤ 64) (hDC : @Ne Nat C D) (hoff : ∀ p ∈ led, p.1 ≠ D)
    {mean : ExcName → Option Value} {mg mb : Str → Option Value} {dp un : Nat} {gd : Option (List Code)} {cn : Str} {cs : Scope} {a : Addr} {ccd : Value} {cl : List (Str × Addr)} {outer : List Env} {A₀ : Around} {base h₀ : Heap} {L : Addr} {m : Str → Option Value} {s : Shared} {Q E : Value → Shared → Prop}
    (B : Below A₀ base outer h₀) (F : Fr h₀ L s.heap m) (X : (hd.heap_39 w.params).In h₀) (N : News h₀ L s.heap ((D, listOf #[.ref C, .int k t] n) :: (C, listOf vs.toArray n') :: led)) (T : Top hd.view_39 (looseW hd.view_39 [Str.ofString "NIL", Str.ofString "list_of"]) mean mg mb h₀) (hk9 : cs.kind = .function)
    (hdn : dp + 5 < recursionLimit) (hun : un + 40 < cLine)
    (ret : ∀ x tx t' n2 h' tk', 0 ≤ x → x < many → Fr h₀ L h' m → News h₀ L h' ((D, listOf #[.ref C, .int (k + 1) t'] n2) :: (C, listOf vs.toArray n') :: led) → Q (.int x tx) { s with heap := h', toks := tk' }) :
    wpAny (model PySem.Challenge.rw_np0010_01.row.prog w) (ktrTop dp un gd cn cs L a ccd cl outer) (call (.ref 155) [.ref D, .int many tm]) Q E s :=
  Con.use (draw_con w D C k t n n' vs ns many tm led hv hk hk' hm hm' hl0 hlen hDC hoff) B F X N T hk9 hdn hun (by
    rintro r led' h' tk' F' N' ⟨x, tx, t', n2, rfl, h1, h2, rfl⟩
    exact ret x tx t' n2 h' tk' h1 h2 F' N')
theorem place_use {w : World} {led : Led} {R : Addr} {vals : List Value} {xs : List Int} {n : Nat} {nm : Int} {tn : Tok} {pl : Option Nat} (hI : IntsAre vals xs) (hR : (R, listOf vals.toArray n) ∈ led) (hlen : xs.length ≤ 99) (hpl : place xs nm = pl)
    {mean : ExcName → Option Value} {mg mb : Str → Option Value} {dp un : Nat} {gd : Option (List Code)} {cn : Str} {cs : Scope} {a : Addr} {ccd : Value} {cl : List (Str × Addr)} {outer : List Env} {A₀ : Around} {base h₀ : Heap} {L : Addr} {m : Str → Option Value} {s : Shared} {Q E : Value → Shared → Prop}
    (B : Below A₀ base outer h₀) (F : Fr h₀ L s.heap m) (X : (hd.heap_39 w.params).In h₀) (N : News h₀ L s.heap led) (T : Top hd.view_39 (looseW hd.view_39 [Str.ofString "NIL", Str.ofString "list_of"]) mean mg mb h₀) (hk9 : cs.kind = .function)
    (hdn : dp + 5 < recursionLimit) (hun : un + 40 < cLine)
    (ret : ∀ t h' tk', Fr h₀ L h' m → News h₀ L h' led → Q (.int (match pl with | some p => (p : Int) | none => -1) t) { s with heap := h', toks := tk' }) :
    wpAny (model PySem.Challenge.rw_np0010_01.row.prog w) (ktrTop dp un gd cn cs L a ccd cl outer) (call (.ref 176) [.ref R, .int nm tn]) Q E s :=
  Con.use (place_con w led R vals xs n nm tn hI hR hlen) B F X N T hk9 hdn hun (by
    rintro r led' h' tk' F' N' ⟨rfl, t, rfl⟩
    rw [hpl]
    exact ret t h' tk' F' N')
theorem ieq_len {v c : Nat} (h : v = c) : (v : Int) = (c : Int) := by rw [h]
theorem p0_room {p n : Nat} (h : p + 1 < n) (h9 : n ≤ 99) : (p : Int) + 1 < 2 ^ 63 := by omega
theorem p0_nat (p : Nat) : ((p : Int) + 1).toNat = p + 1 := by omega
theorem law_holds : PySem.Challenge.rw_np0010_01.Holds := hd (by
  k_go0
  all_goals try k_fold
  k_with_none
  k_with "call ref" => ((with_reducible show wpAny _ _ (call (Value.ref 155) _) _ _ _); refine stopHere ?_)
  (repeat' (first | (k_unfold; (try dsimp only)) | (k_end; wrow_close) | (walk1; (all_goals (try dsimp only))) | (dsimp only; walk1) | ((simp only [List.cons_append, List.nil_append]); walk1) | (leave1; walk_say "STEP leave1"; try dsimp only) | fail "no step"))
  unfold id
  rename_i C ws h4 hI lt2 D h3 F3 N3 lt1 Gc kX h2 tk2 R h1 lt0 h0 F0 N0
  have hws := hI.length
  obtain ⟨ns, hcards, hl0, hl1⟩ : ∃ ns, IntsAre ws ns ∧ 0 < ns.length ∧ ns.length ≤ 64 := ⟨_, hI, by simp, by simp; omega⟩
  have hDC : @Ne Addr C D := Nat.ne_of_lt lt1.1
  have hRD : @Ne Addr R D := Nat.ne_of_gt lt0.1
  have hRC : @Ne Addr R C := Nat.ne_of_gt lt0.2.1
  clear lt0 lt1
  replace N0 := News.sub N0 keep3
  k_with_none
  k_with "call ref" => ((try (rename News _ _ _ (_ :: (D, _) :: (C, _) :: _) => N8; replace N8 := News.sub N8 rot1)); (try (rename News _ _ _ (_ :: _ :: (D, _) :: (C, _) :: _) => N8; replace N8 := News.sub N8 rot2)); (refine' draw_use (D := D) (C := C) hcards ?g1 ?g2 ?g3 ?g4 hl0 hl1 hDC ?g5 ?B ?F ?X ?N ?T ?hk ?hd ?hu ?_); (((case B => k_asm); (case F => k_asm); (case X => k_asm); (case N => k_asm); (case T => k_asm); (case hk => rfl); (case hd => first | decide | ((try simp only [depth_deeper, depth_caller]); decide)); (case hu => first | decide | ((try simp only [units_deeper, units_caller]); decide)))); (case g1 => first | assumption | omega); (case g2 => first | assumption | omega); (case g3 => decide); (case g4 => decide); (case g5 => walk_at "off"); intro x9 tx9 t9 n9 h9 tk9 hx9 hy9 F9 N9)
  k_with "pyIter ref" => refine stopHere ?_
  (repeat' (first | (k_unfold; (try dsimp only)) | (k_end; wrow_close) | (walk1; (all_goals (try dsimp only))) | (dsimp only; walk1) | ((simp only [List.cons_append, List.nil_append]); walk1) | (leave1; walk_say "STEP leave1"; try dsimp only) | fail "no step"))
  unfold id
  rename IsRange _ _ _ _ _ _ _ _ => hr1
  rename News _ _ _ [_, _, _] => N1
  rename Fr _ _ _ _ => F1
  rename x9 < (6:Int) => hy6
  refine range_inv (x := Str.ofString "turn") (n := x9.toNat) (fun i m nx => ∃ (R : Addr) (k : Int) (t : Tok) (n1 n2 n3 : Nat) (vals : List Value) (xs : List Int), nx = [(D, listOf #[.ref C, .int k t] n1), (C, listOf ws.toArray n2), (R, listOf vals.toArray n3)] ∧ 0 ≤ k ∧ k ≤ 1 + 2 * (i : Int) ∧ IntsAre vals xs ∧ xs.length = 2 * i ∧ @Ne Addr R D ∧ @Ne Addr R C ∧ m (Str.ofString "deck") = some (.ref D) ∧ m (Str.ofString "row") = some (.ref R)) rfl hr1 (small_one hx9 (by omega)) (rangeSize_one _) F1 N1 ⟨R, _, _, _, _, _, [], [], rfl, by decide, by decide, .nil, rfl, hRD, hRC, rfl, rfl⟩ ?_ ?_
  · intro I oI i t m₁ nx h₁ tk₁ hi hP9
    refine exE8 hP9 ?_
    clear hP9
    intro R1 k1 t1 n1 n2 n3 vals xs hP9
    refine andE9 hP9 ?_
    clear hP9
    rintro rfl hk0 hk1 hI1 hxs hR1D hR1C e1 e2 hoff F₁ N₁
    rw [← bnd_eq (m := m₁) (ps := [(Str.ofString "deck", .ref D), (Str.ofString "row", .ref R1)]) (by simp [e1, e2])] at F₁
    have hID : @Ne Addr I D := Ne.symm (hoff _ (.head _))
    have hIC : @Ne Addr I C := Ne.symm (hoff _ (.tail _ (.head _)))
    have hIR : @Ne Addr I R1 := Ne.symm (hoff _ (.tail _ (.tail _ (.head _))))
    obtain ⟨b1, b2, b3, b4, b5, b6, b7⟩ := row_bounds hi hy6 hk0 hk1 hxs
    clear N1 F1 N0 F0 N3 F3 hi
    (repeat' (first | (k_unfold; (try dsimp only)) | (k_end; wrow_close) | (walk1; (all_goals (try dsimp only))) | (dsimp only; walk1) | ((simp only [List.cons_append, List.nil_append]); walk1) | (leave1; walk_say "STEP leave1"; try dsimp only) | fail "no step"))
    rename IntsAre _ (_ ++ _) => hI9
    rename News _ _ _ (_ :: _ :: (D, _) :: _) => N9
    rename _ ∧ _ ∧ _ ∧ _ ∧ _ < _ => hlt9
    obtain ⟨-, q1, q2, q3, q4⟩ := hlt9
    refine ⟨_, _, _, _, rfl, by assumption, News.sub N9 pickT, offCons (Ne.symm hID) (offCons (Ne.symm hIC) (offCons (Nat.ne_of_gt q3) offNil)), _, _, _, _, _, _, _, _, rfl, b4, b5, hI9, ?len, Nat.ne_of_gt q1, Nat.ne_of_gt q2, rfl, rfl⟩
    rw [List.length_append]
    exact b7
  · intro m₁ nx h₁ tk₁ hP9
    refine exE8 hP9 ?_
    clear hP9
    intro R1 k1 t1 n1 n2 n3 vals xs hP9
    refine andE9 hP9 ?_
    clear hP9
    rintro rfl hk0 hk1 hI1 hxs hR1D hR1C e1 e2 F₁ N₁
    rw [← bnd_eq (m := m₁) (ps := [(Str.ofString "deck", .ref D), (Str.ofString "row", .ref R1)]) (by simp [e1, e2])] at F₁
    obtain ⟨b1, b2, b3, b4, b5, b6, b7, b8, b9⟩ := odd_bounds hy6 hk0 hk1 hxs
    clear N1 F1 N0 F0 N3 F3 hxs hk1
    k_with "exec If" => refine stopHere ?_
    (repeat' (first | (k_unfold; (try dsimp only)) | (k_end; wrow_close) | (walk1; (all_goals (try dsimp only))) | (dsimp only; walk1) | ((simp only [List.cons_append, List.nil_append]); walk1) | (leave1; walk_say "STEP leave1"; try dsimp only) | fail "no step"))
    unfold id
    refine st_join F₁ (fun m nx => ∃ (R : Addr) (k : Int) (t : Tok) (n1 n2 n3 : Nat) (vals : List Value) (xs : List Int), nx = [(D, listOf #[.ref C, .int k t] n1), (C, listOf ws.toArray n2), (R, listOf vals.toArray n3)] ∧ 0 ≤ k ∧ k ≤ 13 ∧ IntsAre vals xs ∧ xs.length ≤ 11 ∧ @Ne Addr R D ∧ @Ne Addr R C ∧ m (Str.ofString "deck") = some (.ref D) ∧ m (Str.ofString "row") = some (.ref R)) ?_ ?_
    · k_with_none
      have hDR9 : @Ne Nat D R1 := Ne.symm hR1D
      have hCR9 : @Ne Nat C R1 := Ne.symm hR1C
      have hz9 : vals.toArray.size ≤ sizeLine := by rw [sizeLine_eq, List.size_toArray, hI1.length]; exact b9
      k_with "call ref" => ((try (rename News _ _ _ (_ :: (D, _) :: (C, _) :: _) => N8; replace N8 := News.sub N8 rot1)); (try (rename News _ _ _ (_ :: _ :: (D, _) :: (C, _) :: _) => N8; replace N8 := News.sub N8 rot2)); (refine' draw_use (D := D) (C := C) hcards ?g1 ?g2 ?g3 ?g4 hl0 hl1 hDC ?g5 ?B ?F ?X ?N ?T ?hk ?hd ?hu ?_); (((case B => k_asm); (case F => k_asm); (case X => k_asm); (case N => k_asm); (case T => k_asm); (case hk => rfl); (case hd => first | decide | ((try simp only [depth_deeper, depth_caller]); decide)); (case hu => first | decide | ((try simp only [units_deeper, units_caller]); decide)))); (case g1 => first | assumption | omega); (case g2 => first | assumption | omega); (case g3 => decide); (case g4 => decide); (case g5 => walk_at "off"); intro x9 tx9 t9 n9 h9 tk9 hx9 hy9 F9 N9)
      (repeat' (first | (k_unfold; (try dsimp only)) | (k_end; wrow_close) | (walk1; (all_goals (try dsimp only))) | (dsimp only; walk1) | ((simp only [List.cons_append, List.nil_append]); walk1) | (leave1; walk_say "STEP leave1"; try dsimp only) | fail "no step"))
      · rename News _ _ _ [_, _, (R1, _)] => N9
        simp only [List.push_toArray] at N9
        refine ⟨rfl, _, _, _, _, rfl, by assumption, N9, _, _, _, _, _, _, _, _, rfl, b4, b6, hI1.append (.cons _ _ .nil), ?len2, hR1D, hR1C, rfl, rfl⟩
        rw [List.length_append]
        exact b8
      · exact ⟨rfl, _, _, _, _, rfl, by assumption, N9, R1, _, _, _, _, _, vals, xs, rfl, b2, b5, hI1, b7, hR1D, hR1C, rfl, rfl⟩
    · clear F₁ N₁ hI1 hR1D hR1C hk0 e1 e2 b1 b2 b3 b4 b5 b6 b7 b8 b9
      intro m₁ nx h₁ tk₁ hP9
      refine exE8 hP9 ?_
      clear hP9
      intro R1 k1 t1 n1 n2 n3 vals xs hP9
      refine andE9 hP9 ?_
      clear hP9
      rintro rfl hk0 hk1 hI1 hxs hR1D hR1C e1 e2 F₁ N₁
      rw [← bnd_eq (m := m₁) (ps := [(Str.ofString "deck", .ref D), (Str.ofString "row", .ref R1)]) (by simp [e1, e2])] at F₁
      have b1 : k1 < 1000 := by omega
      have b2 : xs.length ≤ 99 := by omega
      have b3 : xs.length ≤ 16777216 := by omega
      dsimp only
      k_with_none
      k_with "call ref" => first | ((refine' Con.use (list_con _ _ _ vals xs _ hI1 (List.Mem.head _) b2) ?B ?F ?X ?N ?T ?hk ?hd ?hu ?_); (((case B => k_asm); (case F => k_asm); (case X => k_asm); (case N => k_asm); (case T => k_asm); (case hk => rfl); (case hd => first | decide | ((try simp only [depth_deeper, depth_caller]); decide)); (case hu => first | decide | ((try simp only [units_deeper, units_caller]); decide)))); rintro r9 led9 h9 tk9 F9 N9 ⟨cn, c, rfl, hCh, hcx, hna, hnd, hfr, hfc⟩; obtain ⟨va, rfl⟩ := hCh.ref; replace N9 := News.sub N9 permL; replace hCh := hCh.newer hfc; have hoD : ∀ p ∈ cn, p.1 ≠ D := fun p hp => Nat.ne_of_gt (hfr _ (.tail _ (.head _)) p hp); have hoC : ∀ p ∈ cn, p.1 ≠ C := fun p hp => Nat.ne_of_gt (hfr _ (.tail _ (.tail _ (.head _))) p hp); have hoR : ∀ p ∈ cn, p.1 ≠ R1 := fun p hp => Nat.ne_of_gt (hfr _ (.tail _ (.tail _ (.tail _ (.head _)))) p hp)) | ((try (rename News _ _ _ (_ :: (D, _) :: (C, _) :: _) => N8; replace N8 := News.sub N8 rot1)); (try (rename News _ _ _ (_ :: _ :: (D, _) :: (C, _) :: _) => N8; replace N8 := News.sub N8 rot2)); (refine' draw_use (D := D) (C := C) hcards ?g1 ?g2 ?g3 ?g4 hl0 hl1 hDC ?g5 ?B ?F ?X ?N ?T ?hk ?hd ?hu ?_); (((case B => k_asm); (case F => k_asm); (case X => k_asm); (case N => k_asm); (case T => k_asm); (case hk => rfl); (case hd => first | decide | ((try simp only [depth_deeper, depth_caller]); decide)); (case hu => first | decide | ((try simp only [units_deeper, units_caller]); decide)))); (case g1 => first | assumption | omega); (case g2 => first | assumption | omega); (case g3 => decide); (case g4 => decide); (case g5 => walk_at "off"); intro x9 tx9 t9 n9 h9 tk9 hx9 hy9 F9 N9)
      k_with "pyIter ref" => refine stopHere ?_
      (repeat' (first | (k_unfold; (try dsimp only)) | (k_end; wrow_close) | (walk1; (all_goals (try dsimp only))) | (dsimp only; walk1) | ((simp only [List.cons_append, List.nil_append]); walk1) | (leave1; walk_say "STEP leave1"; try dsimp only) | fail "no step"))
      unfold id
      rename x9 < (4:Int) => hy4
      subst hcx
      rename IsRange _ _ _ _ _ _ _ _ => hr2
      rename News _ _ _ (_ :: _ :: _ :: cn) => N2
      rename Fr _ _ _ _ => F2
      have hcl0 : c.length ≤ 11 := by simpa using hxs
      refine range_inv (x := Str.ofString "turn") (n := (3 + x9).toNat) (fun i m nx => ∃ (R : Addr) (k : Int) (t : Tok) (n1 n2 n3 : Nat) (vals : List Value) (c : List Cell) (va : Addr) (chl : Led), nx = (D, listOf #[.ref C, .int k t] n1) :: (C, listOf ws.toArray n2) :: (R, listOf vals.toArray n3) :: chl ∧ 0 ≤ k ∧ k ≤ 20 + 2 * (i : Int) ∧ IntsAre vals (c.map (·.x)) ∧ c.length ≤ 11 + 2 * i ∧ @Ne Addr R D ∧ @Ne Addr R C ∧ ChainIn _ chl (.ref va) c ∧ (c.map (·.a)).Nodup ∧ (c.map (·.d)).Nodup ∧ (∀ p ∈ chl, p.1 ≠ D) ∧ (∀ p ∈ chl, p.1 ≠ C) ∧ (∀ p ∈ chl, p.1 ≠ R) ∧ m (Str.ofString "deck") = some (.ref D) ∧ m (Str.ofString "row") = some (.ref R) ∧ m (Str.ofString "value") = some (.ref va)) rfl hr2 (small_one (by omega) (by omega)) (rangeSize_one _) F2 N2 ⟨R1, _, _, _, _, _, vals, c, va, cn, rfl, by omega, by omega, hI1, by omega, hR1D, hR1C, hCh, hna, hnd, hoD, hoC, hoR, rfl, rfl, rfl⟩ ?_ ?_
      · clear N2 F2
        intro I oI i t m₁ nx h₁ tk₁ hi hP9
        refine exE10 hP9 ?_
        clear hP9
        intro R2 k2 t2 n1 n2 n3 vals c va chl hP9
        refine andE16 hP9 ?_
        clear hP9
        rintro rfl hk0 hk1 hI2 hcl hR2D hR2C hC2 hna2 hnd2 hoD hoC hoR e1 e2 e3 hoff F₁ N₁
        rw [← bnd_eq (m := m₁) (ps := [(Str.ofString "deck", .ref D), (Str.ofString "row", .ref R2), (Str.ofString "value", .ref va)]) (by simp [e1, e2, e3])] at F₁
        have hID : @Ne Addr I D := Ne.symm (hoff _ (.head _))
        have hIC : @Ne Addr I C := Ne.symm (hoff _ (.tail _ (.head _)))
        have hIR : @Ne Addr I R2 := Ne.symm (hoff _ (.tail _ (.tail _ (.head _))))
        obtain ⟨⟨kA0, kA1, kA2, kA3, kA4⟩, ⟨c90, c99l, c99, c16, cS, cS2, cA, cB⟩, cJ⟩ := turn_bounds hi hy4 hk0 hk1 hcl
        clear hRD hRC hR1D hR1C hi hk1
        have hoI : ∀ p ∈ chl, p.1 ≠ I := fun p hp => hoff p (.tail _ (.tail _ (.tail _ hp)))
        have hnn : ∀ d, (64, instObj 82 d) ∉ chl := fun d hd => noNil N₁ kX d (.tail _ (.tail _ (.tail _ (.tail _ hd))))
        have hlv := hI2.length
        k_with_none
        k_with "call ref" => first
          | ((with_reducible show wpAny _ _ (call (Value.ref 169) _) _ _ _); refine stopHere ?_)
          | ((refine' Con.use (pairs_con _ _ va c ?mC c99l) ?B ?F ?X ?N ?T ?hk ?hd ?hu ?_); (((case B => k_asm); (case F => k_asm); (case X => k_asm); (case N => k_asm); (case T => k_asm); (case hk => rfl); (case hd => first | decide | ((try simp only [depth_deeper, depth_caller]); decide)); (case hu => first | decide | ((try simp only [units_deeper, units_caller]); decide)))); (case mC => exact hC2.mono (by (first | exact fun _ h => h | exact fun _ h => .tail _ h | exact fun _ h => .tail _ (.tail _ h) | exact fun _ h => .tail _ (.tail _ (.tail _ h)) | exact fun _ h => .tail _ (.tail _ (.tail _ (.tail _ h))) | exact fun _ h => .tail _ (.tail _ (.tail _ (.tail _ (.tail _ h)))) | exact fun _ h => .tail _ (.tail _ (.tail _ (.tail _ (.tail _ (.tail _ h))))) | exact fun _ h => .tail _ (.tail _ (.tail _ (.tail _ (.tail _ (.tail _ (.tail _ h)))))) | exact fun _ h => .tail _ (.tail _ (.tail _ (.tail _ (.tail _ (.tail _ (.tail _ (.tail _ h))))))) | exact fun _ h => .tail _ (.tail _ (.tail _ (.tail _ (.tail _ (.tail _ (.tail _ (.tail _ (.tail _ h)))))))) | exact fun _ h => .tail _ (.tail _ (.tail _ (.tail _ (.tail _ (.tail _ (.tail _ (.tail _ (.tail _ (.tail _ h))))))))) | exact fun _ h => .tail _ (.tail _ (.tail _ (.tail _ (.tail _ (.tail _ (.tail _ (.tail _ (.tail _ (.tail _ (.tail _ h)))))))))) | exact fun _ h => .tail _ (.tail _ (.tail _ (.tail _ (.tail _ (.tail _ (.tail _ (.tail _ (.tail _ (.tail _ (.tail _ (.tail _ h))))))))))) | exact fun _ h => .tail _ (.tail _ (.tail _ (.tail _ (.tail _ (.tail _ (.tail _ (.tail _ (.tail _ (.tail _ (.tail _ (.tail _ (.tail _ h)))))))))))) | exact fun _ h => .tail _ (.tail _ (.tail _ (.tail _ (.tail _ (.tail _ (.tail _ (.tail _ (.tail _ (.tail _ (.tail _ (.tail _ (.tail _ (.tail _ h))))))))))))) | (intro p hp; simp [hp])))); intro r6 led6 h6 tk6 F6 N6 hP9; refine exE2 hP9 ?_; clear hP9; intro P6 n6 hP9; refine andE3 hP9 ?_; clear hP9; rintro rfl rfl lt6)
          | ((refine' Con.use (got_con _ _ va R2 c vals n3 _ _ ?mC c90 hna2 hI2 ?mR) ?B ?F ?X ?N ?T ?hk ?hd ?hu ?_); (((case B => k_asm); (case F => k_asm); (case X => k_asm); (case N => k_asm); (case T => k_asm); (case hk => rfl); (case hd => first | decide | ((try simp only [depth_deeper, depth_caller]); decide)); (case hu => first | decide | ((try simp only [units_deeper, units_caller]); decide)))); (case mC => exact hC2.mono (by (first | exact fun _ h => h | exact fun _ h => .tail _ h | exact fun _ h => .tail _ (.tail _ h) | exact fun _ h => .tail _ (.tail _ (.tail _ h)) | exact fun _ h => .tail _ (.tail _ (.tail _ (.tail _ h))) | exact fun _ h => .tail _ (.tail _ (.tail _ (.tail _ (.tail _ h)))) | exact fun _ h => .tail _ (.tail _ (.tail _ (.tail _ (.tail _ (.tail _ h))))) | exact fun _ h => .tail _ (.tail _ (.tail _ (.tail _ (.tail _ (.tail _ (.tail _ h)))))) | exact fun _ h => .tail _ (.tail _ (.tail _ (.tail _ (.tail _ (.tail _ (.tail _ (.tail _ h))))))) | exact fun _ h => .tail _ (.tail _ (.tail _ (.tail _ (.tail _ (.tail _ (.tail _ (.tail _ (.tail _ h)))))))) | exact fun _ h => .tail _ (.tail _ (.tail _ (.tail _ (.tail _ (.tail _ (.tail _ (.tail _ (.tail _ (.tail _ h))))))))) | exact fun _ h => .tail _ (.tail _ (.tail _ (.tail _ (.tail _ (.tail _ (.tail _ (.tail _ (.tail _ (.tail _ (.tail _ h)))))))))) | exact fun _ h => .tail _ (.tail _ (.tail _ (.tail _ (.tail _ (.tail _ (.tail _ (.tail _ (.tail _ (.tail _ (.tail _ (.tail _ h))))))))))) | exact fun _ h => .tail _ (.tail _ (.tail _ (.tail _ (.tail _ (.tail _ (.tail _ (.tail _ (.tail _ (.tail _ (.tail _ (.tail _ (.tail _ h)))))))))))) | exact fun _ h => .tail _ (.tail _ (.tail _ (.tail _ (.tail _ (.tail _ (.tail _ (.tail _ (.tail _ (.tail _ (.tail _ (.tail _ (.tail _ (.tail _ h))))))))))))) | (intro p hp; simp [hp])))); (case mR => simp); rintro r5 led5 h5 tk5 F5 N5 ⟨rfl, cn5, rfl⟩; replace N5 := News.sub N5 (fun p hp => List.mem_append.mpr (.inr hp)))
          | ((try (rename News _ _ _ (_ :: (D, _) :: (C, _) :: _) => N8; replace N8 := News.sub N8 rot1)); (try (rename News _ _ _ (_ :: _ :: (D, _) :: (C, _) :: _) => N8; replace N8 := News.sub N8 rot2)); (refine' draw_use (D := D) (C := C) hcards ?g1 ?g2 ?g3 ?g4 hl0 hl1 hDC ?g5 ?B ?F ?X ?N ?T ?hk ?hd ?hu ?_); (((case B => k_asm); (case F => k_asm); (case X => k_asm); (case N => k_asm); (case T => k_asm); (case hk => rfl); (case hd => first | decide | ((try simp only [depth_deeper, depth_caller]); decide)); (case hu => first | decide | ((try simp only [units_deeper, units_caller]); decide)))); (case g1 => first | assumption | omega); (case g2 => first | assumption | omega); (case g3 => decide); (case g4 => decide); (case g5 => walk_at "off"); intro x9 tx9 t9 n9 h9 tk9 hx9 hy9 F9 N9)
        (repeat' (first | (k_unfold; (try dsimp only)) | (k_end; wrow_close) | (walk1; (all_goals (try dsimp only))) | (dsimp only; walk1) | ((simp only [List.cons_append, List.nil_append]); walk1) | (leave1; walk_say "STEP leave1"; try dsimp only) | fail "no step"))
        unfold id
        rename _ < (5:Int) => hlt5
        have hDP : @LT.lt Nat _ D P6 := lt6 _ (.head _)
        have hCP : @LT.lt Nat _ C P6 := lt6 _ (.tail _ (.head _))
        have hIP : @LT.lt Nat _ I P6 := lt6 _ (.tail _ (.tail _ (.head _)))
        have hRP : @LT.lt Nat _ R2 P6 := lt6 _ (.tail _ (.tail _ (.tail _ (.head _))))
        have hoP : ∀ p ∈ chl, p.1 < P6 := fun p hp => lt6 p (.tail _ (.tail _ (.tail _ (.tail _ hp))))
        have hbad : ∀ e ∈ c, e.a ∉ [D, C, R2, I] ∧ e.d ∉ [D, C, R2, I] := fun e he => by
          simp only [List.mem_cons, List.not_mem_nil, or_false, not_or]
          exact ⟨⟨(hC2.offs hoD e he).1, (hC2.offs hoC e he).1, (hC2.offs hoR e he).1, (hC2.offs hoI e he).1⟩, (hC2.offs hoD e he).2, (hC2.offs hoC e he).2, (hC2.offs hoR e he).2, (hC2.offs hoI e he).2⟩
        rename Fr _ _ _ _ => F5
        refine' seq_tail ?F5 (fun m nx => ∃ (R : Addr) (k : Int) (t : Tok) (n1 n2 n3 : Nat) (vals : List Value) (c' : List Cell) (va' : Addr) (chl' : Led), nx = (D, listOf #[.ref C, .int k t] n1) :: (C, listOf ws.toArray n2) :: (R, listOf vals.toArray n3) :: (I, oI) :: (P6, listOf (c.map fun e => Value.ref e.a).toArray n6) :: chl' ∧ 0 ≤ k ∧ k ≤ 20 + 2 * ((i + 1 : Nat) : Int) ∧ IntsAre vals (c'.map (·.x)) ∧ c'.length ≤ 11 + 2 * (i + 1) ∧ @Ne Addr R D ∧ @Ne Addr R C ∧ @Ne Addr I R ∧ ChainIn (by assumption) chl' (.ref va') c' ∧ (c'.map (·.a)).Nodup ∧ (c'.map (·.d)).Nodup ∧ (∀ p ∈ chl', p.1 ≠ D) ∧ (∀ p ∈ chl', p.1 ≠ C) ∧ (∀ p ∈ chl', p.1 ≠ R) ∧ (∀ p ∈ chl', p.1 ≠ I) ∧ c' ≠ [] ∧ (∀ (j : Nat) (e e' : Cell), c[j]? = some e → c'[j]? = some e' → e.a = e'.a) ∧ m (Str.ofString "deck") = some (.ref D) ∧ m (Str.ofString "row") = some (.ref R) ∧ m (Str.ofString "value") = some (.ref va') ∧ m (Str.ofString "pairs") = some (.ref P6)) ?_ ?_
        (case F5 => exact F5)
        · clear hDP hCP hIP hRP hoP hbad kA0 kA1 kA2 kA3 kA4 c90 c99l c99 c16 cS cS2 cA cB hlv
          intro m₂ nx₂ h₂ tk₂ hP9
          refine exE10 hP9 ?_
          clear hP9
          intro R3 k3 t3 q1 q2 q3 vals3 c3 va3 chl3 hP9
          refine andE21 hP9 ?_
          clear hP9
          rintro rfl hk30 hk31 hI5 hlen3 hR3D hR3C hIR3 hC5 hna3 hnd3 hD4 hC4n hR4 hI4 hc3n hzip e1 e2 e3 e4 F₂ N₂
          rw [← bnd_eq (m := m₂) (ps := [(Str.ofString "deck", .ref D), (Str.ofString "row", .ref R3), (Str.ofString "value", .ref va3), (Str.ofString "pairs", .ref P6)]) (by simp [e1, e2, e3, e4])] at F₂
          have h3l := cJ _ hlen3
          refine wpAny_execs_cons ?_
          k_with_none
          k_with "call ref" => ((refine' Con.use (pairs_con _ _ va3 c3 ?mC h3l) ?B ?F ?X ?N ?T ?hk ?hd ?hu ?_); (((case B => k_asm); (case F => k_asm); (case X => k_asm); (case N => k_asm); (case T => k_asm); (case hk => rfl); (case hd => first | decide | ((try simp only [depth_deeper, depth_caller]); decide)); (case hu => first | decide | ((try simp only [units_deeper, units_caller]); decide)))); (case mC => exact hC5.mono (by (first | exact fun _ h => h | exact fun _ h => .tail _ h | exact fun _ h => .tail _ (.tail _ h) | exact fun _ h => .tail _ (.tail _ (.tail _ h)) | exact fun _ h => .tail _ (.tail _ (.tail _ (.tail _ h))) | exact fun _ h => .tail _ (.tail _ (.tail _ (.tail _ (.tail _ h)))) | exact fun _ h => .tail _ (.tail _ (.tail _ (.tail _ (.tail _ (.tail _ h))))) | exact fun _ h => .tail _ (.tail _ (.tail _ (.tail _ (.tail _ (.tail _ (.tail _ h)))))) | exact fun _ h => .tail _ (.tail _ (.tail _ (.tail _ (.tail _ (.tail _ (.tail _ (.tail _ h))))))) | exact fun _ h => .tail _ (.tail _ (.tail _ (.tail _ (.tail _ (.tail _ (.tail _ (.tail _ (.tail _ h)))))))) | exact fun _ h => .tail _ (.tail _ (.tail _ (.tail _ (.tail _ (.tail _ (.tail _ (.tail _ (.tail _ (.tail _ h))))))))) | exact fun _ h => .tail _ (.tail _ (.tail _ (.tail _ (.tail _ (.tail _ (.tail _ (.tail _ (.tail _ (.tail _ (.tail _ h)))))))))) | exact fun _ h => .tail _ (.tail _ (.tail _ (.tail _ (.tail _ (.tail _ (.tail _ (.tail _ (.tail _ (.tail _ (.tail _ (.tail _ h))))))))))) | exact fun _ h => .tail _ (.tail _ (.tail _ (.tail _ (.tail _ (.tail _ (.tail _ (.tail _ (.tail _ (.tail _ (.tail _ (.tail _ (.tail _ h)))))))))))) | exact fun _ h => .tail _ (.tail _ (.tail _ (.tail _ (.tail _ (.tail _ (.tail _ (.tail _ (.tail _ (.tail _ (.tail _ (.tail _ (.tail _ (.tail _ h))))))))))))) | (intro p hp; simp [hp])))); intro r2 led2 h2 tk2 F2 N2 hP9; refine exE2 hP9 ?_; clear hP9; intro P2 n2' hP9; refine andE3 hP9 ?_; clear hP9; rintro rfl rfl lt2')
          (repeat' (first | (k_unfold; (try dsimp only)) | (k_end; wrow_close) | (walk1; (all_goals (try dsimp only))) | (dsimp only; walk1) | ((simp only [List.cons_append, List.nil_append]); walk1) | (leave1; walk_say "STEP leave1"; try dsimp only) | fail "no step"))
          unfold id
          refine LCg.ListComp_U (cl := []) (F₀ := by k_asm) (by with_unfolding_all rfl) (by decide) (by rfl) (by decide) (by rfl) ?_
          (repeat' (first | (k_unfold; (try dsimp only)) | (k_end; wrow_close) | (walk1; (all_goals (try dsimp only))) | (dsimp only; walk1) | ((simp only [List.cons_append, List.nil_append]); walk1) | (leave1; walk_say "STEP leave1"; try dsimp only) | fail "no step"))
          refine LCg.CompSrc.ledger (by rfl) (by k_asm) (by k_asm) (.head _) ?hsz fun g => ?_
          case hsz => rw [sizeLine_eq, List.size_toArray, List.length_map]; exact Nat.le_trans (Nat.le_of_lt h3l) (by decide)
          refine rest_inv (J := fun i ys => IntsAre ys ((c3.map (·.x)).take i)) ?_ ?_ .nil
          · intro i ys v' I' oI' C' oC' D' m' h' tk' E' hi9 hJ9 hv' hC' hx' F' N' off' ne'
            obtain ⟨e', he', hv9⟩ := Option.map_eq_some_iff.mp (by simpa only [List.getElem?_toArray, List.getElem?_map] using hv')
            subst hv9
            obtain ⟨v9, tx, t1, t2, hm1, hm2, -⟩ := hC5.at he'
            have off9 := off'
            try simp only [LCg.Off3, and_true] at off'
            (repeat' (first | (k_unfold; (try dsimp only)) | (k_end; wrow_close) | (walk1; (all_goals (try dsimp only))) | (dsimp only; walk1) | ((simp only [List.cons_append, List.nil_append]); walk1) | (leave1; walk_say "STEP leave1"; try dsimp only) | fail "no step"))
            refine ⟨_, _, _, rfl, by assumption, by assumption, off9, ?_, rfl, ?_⟩
            · exact .inr ⟨_, .head _, rfl, _, rfl⟩
            · rw [List.take_add_one, List.getElem?_map, he']
              exact hJ9.append (.cons _ _ .nil)
          · intro ys hys
            rw [List.take_of_length_le (by simp)] at hys
            intro D9 h9' tk9' F9' N9' o9
            (repeat' (first | (k_unfold; (try dsimp only)) | (k_end; wrow_close) | (walk1; (all_goals (try dsimp only))) | (dsimp only; walk1) | ((simp only [List.cons_append, List.nil_append]); walk1) | (leave1; walk_say "STEP leave1"; try dsimp only) | fail "no step"))
            unfold id
            refine ne_sameK (News.isList (by k_asm) (by k_mem)) hys (News.isList (by k_asm) (by k_mem)) hI5 (by units_room) ?_
            (repeat' (first | (k_unfold; (try dsimp only)) | (k_end; wrow_close) | (walk1; (all_goals (try dsimp only))) | (dsimp only; walk1) | ((simp only [List.cons_append, List.nil_append]); walk1) | (leave1; walk_say "STEP leave1"; try dsimp only) | fail "no step"))
            unfold id
            refine ne_lengths (News.isList (by k_asm) (by k_mem)) (News.isList (by k_asm) (by k_mem)) ?hsz (by units_room) ?_
            case hsz => simp [hc3n]
            obtain ⟨el, tx, t1, t2, hl1, hm1, hm2⟩ := my_last hC5 hc3n
            (repeat' (first | (k_unfold; (try dsimp only)) | (k_end; wrow_close) | (walk1; (all_goals (try dsimp only))) | (dsimp only; walk1) | ((simp only [List.cons_append, List.nil_append]); walk1) | (leave1; walk_say "STEP leave1"; try dsimp only) | fail "no step"))
            unfold id
            k_dflt (refine' last_item (News.isList ?mN ?mM) hl1 ?_; (case mN => k_asm); (case mM => k_mem))
            (repeat' (first | (k_unfold; (try dsimp only)) | (k_end; wrow_close) | (walk1; (all_goals (try dsimp only))) | (dsimp only; walk1) | ((simp only [List.cons_append, List.nil_append]); walk1) | (leave1; walk_say "STEP leave1"; try dsimp only) | fail "no step"))
            unfold id
            refine comp_zip (cl := []) (F₀ := by k_asm) (by with_unfolding_all rfl) (by decide) (by rfl) (by decide) (by rfl) (by rfl) (by decide) ?_
            k_with_none
            k_with "call type:zip" => refine stopHere ?_
            (repeat' (first | (k_unfold; (try dsimp only)) | (k_end; wrow_close) | (walk1; (all_goals (try dsimp only))) | (dsimp only; walk1) | ((simp only [List.cons_append, List.nil_append]); walk1) | (leave1; walk_say "STEP leave1"; try dsimp only) | fail "no step"))
            unfold id
            with_reducible apply zip_made
            case xs => exact c.map fun e => Value.ref e.a
            case n1 => exact n6
            case ys => exact c3.map fun e => Value.ref e.a
            case n2 => exact n2'
            case hh => rfl
            case F => k_asm
            case N => k_asm
            case h1 => k_mem
            case h2 => k_mem
            · intro s₁ i v1 v2 C' oC' m' h' tk' E' g1 g2 hC' hx1 hx2 F' N' off'
              obtain ⟨e', he', hv9⟩ := Option.map_eq_some_iff.mp ((List.getElem?_map ..).symm.trans g1)
              obtain ⟨e2', he2', hv92⟩ := Option.map_eq_some_iff.mp ((List.getElem?_map ..).symm.trans g2)
              have hee := hzip i e' e2' he' he2'
              subst hv9 hv92
              rw [← hee] at hx2
              (repeat' (first | (k_unfold; (try dsimp only)) | (k_end; wrow_close) | (walk1; (all_goals (try dsimp only))) | (dsimp only; walk1) | ((simp only [List.cons_append, List.nil_append]); walk1) | (leave1; walk_say "STEP leave1"; try dsimp only) | fail "no step"))
            · intro D9 h9 tk9 F9 N9
              (repeat' (first | (k_unfold; (try dsimp only)) | (k_end; wrow_close) | (walk1; (all_goals (try dsimp only))) | (dsimp only; walk1) | ((simp only [List.cons_append, List.nil_append]); walk1) | (leave1; walk_say "STEP leave1"; try dsimp only) | fail "no step"))
              unfold id
              refine ne_sameK (News.isList (by k_asm) (.tail _ (.head _))) .nil (News.isList (by k_asm) (.head _)) .nil (by units_room) ?_
              (repeat' (first | (k_unfold; (try dsimp only)) | (k_end; wrow_close) | (walk1; (all_goals (try dsimp only))) | (dsimp only; walk1) | ((simp only [List.cons_append, List.nil_append]); walk1) | (leave1; walk_say "STEP leave1"; try dsimp only) | fail "no step"))
              rename News _ _ _ (_ :: _ :: _ :: _ :: _ :: _ :: _ :: _ :: _) => N9e
              exact ⟨_, _, _, _, rfl, by assumption, News.sub N9e pickJ, offCons (Ne.symm hID) (offCons (Ne.symm hIC) (offCons (Ne.symm hIR3) hI4)), R3, _, _, _, _, _, vals3, c3, va3, chl3, rfl, hk30, hk31, hI5, hlen3, hR3D, hR3C, hC5, hna3, hnd3, hD4, hC4n, hR4, rfl, rfl, rfl⟩
        · intro ktail
          refine wpAny_execs_cons ?_
          k_with_none
          k_with "call ref" => ((with_reducible show wpAny _ _ (call (Value.ref 169) _) _ _ _); refine stopHere ?_)
          (repeat' (first | (k_unfold; (try dsimp only)) | (k_end; wrow_close) | (walk1; (all_goals (try dsimp only))) | (dsimp only; walk1) | ((simp only [List.cons_append, List.nil_append]); walk1) | (leave1; walk_say "STEP leave1"; try dsimp only) | fail "no step"))
          unfold id
          rcases hpl : place (c.map (·.x)) (lhsOf hlt5) with _ | p0
          · unfold lhsOf at hpl
            rcases Nat.mod_two_eq_zero_or_one c.length with hev | hod
            · have hoff5 : ∀ e ∈ c, D ≠ e.d ∧ C ≠ e.d ∧ R2 ≠ e.d ∧ I ≠ e.d ∧ P6 ≠ e.d := fun e he => by
                obtain ⟨_, o, h2⟩ := hC2.mem e he
                exact ⟨Ne.symm (hC2.offs hoD e he).2, Ne.symm (hC2.offs hoC e he).2, Ne.symm (hC2.offs hoR e he).2, Ne.symm (hC2.offs hoI e he).2, Nat.ne_of_gt (hoP _ h2)⟩
              k_with_none
              k_with "call ref" => first
                | ((refine' Con.use (told_con _ _ 143 _ _ _ _ (.inr (.inr rfl)) (putA_con _ _ va _ c _ _ _ _ _ ?mC c90 hna2 hnd2 (List.Mem.head _) hpl hev)) ?B ?F ?X ?N ?T ?hk ?hd ?hu ?_); (((case B => k_asm); (case F => k_asm); (case X => k_asm); (case N => k_asm); (case T => k_asm); (case hk => rfl); (case hd => first | decide | ((try simp only [depth_deeper, depth_caller]); decide)); (case hu => first | decide | ((try simp only [units_deeper, units_caller]); decide)))); (case mC => exact hC2.mono (by (first | exact fun _ h => h | exact fun _ h => .tail _ h | exact fun _ h => .tail _ (.tail _ h) | exact fun _ h => .tail _ (.tail _ (.tail _ h)) | exact fun _ h => .tail _ (.tail _ (.tail _ (.tail _ h))) | exact fun _ h => .tail _ (.tail _ (.tail _ (.tail _ (.tail _ h)))) | exact fun _ h => .tail _ (.tail _ (.tail _ (.tail _ (.tail _ (.tail _ h))))) | exact fun _ h => .tail _ (.tail _ (.tail _ (.tail _ (.tail _ (.tail _ (.tail _ h)))))) | exact fun _ h => .tail _ (.tail _ (.tail _ (.tail _ (.tail _ (.tail _ (.tail _ (.tail _ h))))))) | exact fun _ h => .tail _ (.tail _ (.tail _ (.tail _ (.tail _ (.tail _ (.tail _ (.tail _ (.tail _ h)))))))) | exact fun _ h => .tail _ (.tail _ (.tail _ (.tail _ (.tail _ (.tail _ (.tail _ (.tail _ (.tail _ (.tail _ h))))))))) | exact fun _ h => .tail _ (.tail _ (.tail _ (.tail _ (.tail _ (.tail _ (.tail _ (.tail _ (.tail _ (.tail _ (.tail _ h)))))))))) | exact fun _ h => .tail _ (.tail _ (.tail _ (.tail _ (.tail _ (.tail _ (.tail _ (.tail _ (.tail _ (.tail _ (.tail _ (.tail _ h))))))))))) | exact fun _ h => .tail _ (.tail _ (.tail _ (.tail _ (.tail _ (.tail _ (.tail _ (.tail _ (.tail _ (.tail _ (.tail _ (.tail _ (.tail _ h)))))))))))) | exact fun _ h => .tail _ (.tail _ (.tail _ (.tail _ (.tail _ (.tail _ (.tail _ (.tail _ (.tail _ (.tail _ (.tail _ (.tail _ (.tail _ (.tail _ h))))))))))))) | (intro p hp; simp [hp])))); intro r4 led4 h4 tk4 F4 N4 hP9; refine exE4 hP9 ?_; clear hP9; intro T4 t4 v4 l4 hP9; refine andE4 hP9 ?_; clear hP9; rintro rfl rfl hP9 lt4; refine exE2 hP9 ?_; clear hP9; intro vr c2 hP9; refine andE8 hP9 ?_; clear hP9; rintro rfl hvr hx4 hC4 hna4 hnd4 hk4 hfc4; (refine Exists.elim (chain_part hC4 [D, C, R2, I] (offs5 hbad hfc4)) ?_); intro chl4 hP9; refine andE3 hP9 ?_; clear hP9; rintro hs4 hC5 hb4; (have hD4 := hb4 D (by simp)); (have hC4n := hb4 C (by simp)); (have hI4 := hb4 I (by simp)); replace N4 := group5 N4 (fun e he => hk4 e (pick5 e he) (offs6 hoff5 e he)) hs4)
                | ((refine' place_use (R := R2) (n := n3) hI2 ?mR ?mL hpl ?B ?F ?X ?N ?T ?hk ?hd ?hu ?_); (((case B => k_asm); (case F => k_asm); (case X => k_asm); (case N => k_asm); (case T => k_asm); (case hk => rfl); (case hd => first | decide | ((try simp only [depth_deeper, depth_caller]); decide)); (case hu => first | decide | ((try simp only [units_deeper, units_caller]); decide)))); (case mR => simp); (case mL => (rw [List.length_map]; exact c99)); intro t3 h3 tk3 F3 N3)
              k_with "call builtin:len" => k_dflt (refine' kun_lenL (k := (c.length : Int)) ?k1 ?k2 ?k3 ?_; (case k1 => exact News.isList (by k_asm) (by k_mem)); (case k2 => (simp at hlv ⊢; exact ieq_len hlv)); (case k3 => exact c16))
              k_with "binaryOp Mod int int" => (refine mod_is (r := 0) (by decide) (by omega) ?_)
              (repeat' (first | (k_unfold; (try dsimp only)) | (k_end; wrow_close) | (walk1; (all_goals (try dsimp only))) | (dsimp only; walk1) | ((simp only [List.cons_append, List.nil_append]); walk1) | (leave1; walk_say "STEP leave1"; try dsimp only) | fail "no step"))
              unfold id
              have hl2 : c2.length = 2 := by
                have h9 := congrArg List.length hx4
                simpa using h9
              have hc5n : c ++ c2 ≠ [] := by intro e9; rw [List.append_eq_nil_iff] at e9; rw [e9.2] at hl2; cases hl2
              have hcv : va ≠ 64 → c ≠ [] := by
                rintro h9 rfl
                cases hC2
                exact h9 rfl
              refine isNot_two ?s1 ?s2 ?ht ?hf
              case s1 =>
                by_cases e9 : va = 64
                · subst e9; exact .nil (by k_in)
                · obtain rfl := hvr (hcv e9)
                  exact hC5.solid (by k_asm) (by k_in) (by (first | exact fun _ h => h | exact fun _ h => .tail _ h | exact fun _ h => .tail _ (.tail _ h) | exact fun _ h => .tail _ (.tail _ (.tail _ h)) | exact fun _ h => .tail _ (.tail _ (.tail _ (.tail _ h))) | exact fun _ h => .tail _ (.tail _ (.tail _ (.tail _ (.tail _ h)))) | exact fun _ h => .tail _ (.tail _ (.tail _ (.tail _ (.tail _ (.tail _ h))))) | exact fun _ h => .tail _ (.tail _ (.tail _ (.tail _ (.tail _ (.tail _ (.tail _ h)))))) | exact fun _ h => .tail _ (.tail _ (.tail _ (.tail _ (.tail _ (.tail _ (.tail _ (.tail _ h))))))) | exact fun _ h => .tail _ (.tail _ (.tail _ (.tail _ (.tail _ (.tail _ (.tail _ (.tail _ (.tail _ h)))))))) | exact fun _ h => .tail _ (.tail _ (.tail _ (.tail _ (.tail _ (.tail _ (.tail _ (.tail _ (.tail _ (.tail _ h))))))))) | exact fun _ h => .tail _ (.tail _ (.tail _ (.tail _ (.tail _ (.tail _ (.tail _ (.tail _ (.tail _ (.tail _ (.tail _ h)))))))))) | exact fun _ h => .tail _ (.tail _ (.tail _ (.tail _ (.tail _ (.tail _ (.tail _ (.tail _ (.tail _ (.tail _ (.tail _ (.tail _ h))))))))))) | exact fun _ h => .tail _ (.tail _ (.tail _ (.tail _ (.tail _ (.tail _ (.tail _ (.tail _ (.tail _ (.tail _ (.tail _ (.tail _ (.tail _ h)))))))))))) | exact fun _ h => .tail _ (.tail _ (.tail _ (.tail _ (.tail _ (.tail _ (.tail _ (.tail _ (.tail _ (.tail _ (.tail _ (.tail _ (.tail _ (.tail _ h))))))))))))) | (intro p hp; simp [hp])))
              case s2 => exact .nil (by k_in)
              case ht =>
                intro e9
                (repeat' (first | (k_unfold; (try dsimp only)) | (k_end; wrow_close) | (walk1; (all_goals (try dsimp only))) | (dsimp only; walk1) | ((simp only [List.cons_append, List.nil_append]); walk1) | (leave1; walk_say "STEP leave1"; try dsimp only) | fail "no step"))
                unfold id
                rename IntsAre _ (_ ++ [_, _]) => hI9
                rename _ ∧ _ ∧ _ ∧ _ ∧ _ ∧ _ ∧ _ ∧ _ ∧ AllLt _ chl4 => hlt9
                obtain ⟨-, -, q3, q4, -, q6, -, -, q9⟩ := hlt9
                rename News _ _ _ (_ :: _ :: _ :: (D, _) :: _) => N9e
                rw [← hx4, ← List.map_append] at hI9
                exact ktail _ _ _ _ ⟨_, _, _, _, _, _, _, c ++ c2, _, chl4, rfl, kA3, kA4, hI9, by rw [List.length_append, hl2]; exact cB, Nat.ne_of_gt q3, Nat.ne_of_gt q4, Nat.ne_of_lt q6, hC5, hna4, hnd4, hD4, hC4n, allNe q9, hI4, hc5n, fun j e e' h1 h2 => by rw [List.getElem?_append_left (List.getElem?_eq_some_iff.mp h1).1, h1] at h2; cases h2; rfl, rfl, rfl, rfl, rfl⟩ (by assumption) (News.sub N9e pickV)
              case hf =>
                intro e9
                obtain rfl := hvr (hcv e9)
                (repeat' (first | (k_unfold; (try dsimp only)) | (k_end; wrow_close) | (walk1; (all_goals (try dsimp only))) | (dsimp only; walk1) | ((simp only [List.cons_append, List.nil_append]); walk1) | (leave1; walk_say "STEP leave1"; try dsimp only) | fail "no step"))
                unfold id
                rename IntsAre _ (_ ++ [_, _]) => hI9
                rename _ ∧ _ ∧ _ ∧ _ ∧ _ ∧ _ ∧ _ ∧ _ ∧ AllLt _ chl4 => hlt9
                obtain ⟨-, -, q3, q4, -, q6, -, -, q9⟩ := hlt9
                rename News _ _ _ (_ :: _ :: _ :: (D, _) :: _) => N9e
                rw [← hx4, ← List.map_append] at hI9
                exact ktail _ _ _ _ ⟨_, _, _, _, _, _, _, c ++ c2, _, chl4, rfl, kA3, kA4, hI9, by rw [List.length_append, hl2]; exact cB, Nat.ne_of_gt q3, Nat.ne_of_gt q4, Nat.ne_of_lt q6, hC5, hna4, hnd4, hD4, hC4n, allNe q9, hI4, hc5n, fun j e e' h1 h2 => by rw [List.getElem?_append_left (List.getElem?_eq_some_iff.mp h1).1, h1] at h2; cases h2; rfl, rfl, rfl, rfl, rfl⟩ (by assumption) (News.sub N9e pickV)
            · k_with_none
              k_with "call ref" => first
                | ((with_reducible show wpAny _ _ (call (Value.ref 169) _) _ _ _); (refine' Con0.use (toldR_con _ _ va _ c _ _ _ _ _ ?mC c90 hna2 (List.Mem.head _) hpl hod) ?B ?F ?X ?N ?T ?hk ?hd ?hu ?_); (((case B => k_asm); (case F => k_asm); (case X => k_asm); (case N => k_asm); (case T => k_asm); (case hk => rfl); (case hd => first | decide | ((try simp only [depth_deeper, depth_caller]); decide)); (case hu => first | decide | ((try simp only [units_deeper, units_caller]); decide)))); (case mC => exact hC2.mono (by (first | exact fun _ h => h | exact fun _ h => .tail _ h | exact fun _ h => .tail _ (.tail _ h) | exact fun _ h => .tail _ (.tail _ (.tail _ h)) | exact fun _ h => .tail _ (.tail _ (.tail _ (.tail _ h))) | exact fun _ h => .tail _ (.tail _ (.tail _ (.tail _ (.tail _ h)))) | exact fun _ h => .tail _ (.tail _ (.tail _ (.tail _ (.tail _ (.tail _ h))))) | exact fun _ h => .tail _ (.tail _ (.tail _ (.tail _ (.tail _ (.tail _ (.tail _ h)))))) | exact fun _ h => .tail _ (.tail _ (.tail _ (.tail _ (.tail _ (.tail _ (.tail _ (.tail _ h))))))) | exact fun _ h => .tail _ (.tail _ (.tail _ (.tail _ (.tail _ (.tail _ (.tail _ (.tail _ (.tail _ h)))))))) | exact fun _ h => .tail _ (.tail _ (.tail _ (.tail _ (.tail _ (.tail _ (.tail _ (.tail _ (.tail _ (.tail _ h))))))))) | exact fun _ h => .tail _ (.tail _ (.tail _ (.tail _ (.tail _ (.tail _ (.tail _ (.tail _ (.tail _ (.tail _ (.tail _ h)))))))))) | exact fun _ h => .tail _ (.tail _ (.tail _ (.tail _ (.tail _ (.tail _ (.tail _ (.tail _ (.tail _ (.tail _ (.tail _ (.tail _ h))))))))))) | exact fun _ h => .tail _ (.tail _ (.tail _ (.tail _ (.tail _ (.tail _ (.tail _ (.tail _ (.tail _ (.tail _ (.tail _ (.tail _ (.tail _ h)))))))))))) | exact fun _ h => .tail _ (.tail _ (.tail _ (.tail _ (.tail _ (.tail _ (.tail _ (.tail _ (.tail _ (.tail _ (.tail _ (.tail _ (.tail _ (.tail _ h))))))))))))) | (intro p hp; simp [hp])))); intro r4 led4 h4 tk4 F4 N4 hP9; refine exE5 hP9 ?_; clear hP9; intro T4 n4 cn4 t41 t42 hP9; refine andE3 hP9 ?_; clear hP9; rintro rfl rfl hT4; replace N4 := News.sub N4 (grpO hT4))
                | ((refine' place_use (R := R2) (n := n3) hI2 ?mR ?mL hpl ?B ?F ?X ?N ?T ?hk ?hd ?hu ?_); (((case B => k_asm); (case F => k_asm); (case X => k_asm); (case N => k_asm); (case T => k_asm); (case hk => rfl); (case hd => first | decide | ((try simp only [depth_deeper, depth_caller]); decide)); (case hu => first | decide | ((try simp only [units_deeper, units_caller]); decide)))); (case mR => simp); (case mL => (rw [List.length_map]; exact c99)); intro t3 h3 tk3 F3 N3)
              k_with "call builtin:len" => k_dflt (refine' kun_lenL (k := (c.length : Int)) ?k1 ?k2 ?k3 ?_; (case k1 => exact News.isList (by k_asm) (by k_mem)); (case k2 => (simp at hlv ⊢; exact ieq_len hlv)); (case k3 => exact c16))
              k_with "binaryOp Mod int int" => (refine mod_is (r := 1) (by decide) (by omega) ?_)
              (repeat' (first | (k_unfold; (try dsimp only)) | (k_end; wrow_close) | (walk1; (all_goals (try dsimp only))) | (dsimp only; walk1) | ((simp only [List.cons_append, List.nil_append]); walk1) | (leave1; walk_say "STEP leave1"; try dsimp only) | fail "no step"))
              unfold id
              refine ne_strs2 (News.isList (by k_asm) (by k_mem)) (News.isList (by k_asm) (by k_mem)) (by units_room) (by decide +kernel) (by decide +kernel) ?_
              (repeat' (first | (k_unfold; (try dsimp only)) | (k_end; wrow_close) | (walk1; (all_goals (try dsimp only))) | (dsimp only; walk1) | ((simp only [List.cons_append, List.nil_append]); walk1) | (leave1; walk_say "STEP leave1"; try dsimp only) | fail "no step"))
              unfold id
              rename News _ _ _ (_ :: _ :: (D, _) :: _) => N9e
              have hc0 : c ≠ [] := by intro e9; rw [e9] at hod; cases hod
              exact ktail _ _ _ _ ⟨R2, _, _, _, _, _, vals, c, va, chl, rfl, kA3, kA4, hI2, cA, hR2D, hR2C, hIR, hC2, hna2, hnd2, hoD, hoC, hoR, hoI, hc0, fun j e e' h1 h2 => by rw [h1] at h2; cases h2; rfl, rfl, rfl, rfl, rfl⟩ (by assumption) (News.sub N9e pickO)
          · unfold lhsOf at hpl
            obtain ⟨q0, hq0⟩ : ∃ q0, c[p0 + 1]? = some q0 := by
              have h := pair_lt _ _ _ hpl
              rw [List.length_map] at h
              exact ⟨_, List.getElem?_eq_getElem h⟩
            have hq0c : q0 ∈ c := List.mem_of_getElem? hq0
            have hp0v : Hid (p0 + 1 < vals.toArray.toList.length) := by
              have hp0c := (List.getElem?_eq_some_iff.mp hq0).1
              show p0 + 1 < vals.toArray.toList.length
              simpa [hlv] using hp0c
            have hp0k : Hid ((p0 : Int) + 1 < 2 ^ 63) := p0_room (List.getElem?_eq_some_iff.mp hq0).1 c99
            have hp0z : (0 : Int) ≤ (p0 : Int) + 1 := Int.le_add_one (Int.natCast_nonneg p0)
            have hva64 : Hid (va ≠ 64) := fun e => by
              subst e
              cases hC2 with
              | nil => simp at hq0
              | cons h1 _ _ => exact hnn _ h1
            have hqD : @Ne Addr D q0.d := Ne.symm (hC2.offs hoD q0 hq0c).2
            have hqC : @Ne Addr C q0.d := Ne.symm (hC2.offs hoC q0 hq0c).2
            have hqR : @Ne Addr R2 q0.d := Ne.symm (hC2.offs hoR q0 hq0c).2
            have hqI : @Ne Addr I q0.d := Ne.symm (hC2.offs hoI q0 hq0c).2
            have hqP : @Ne Addr P6 q0.d := by
              obtain ⟨_, o, h2⟩ := hC2.mem q0 hq0c
              exact Nat.ne_of_gt (hoP _ h2)
            k_with_none
            k_with "call ref" => first
              | ((refine' Con.use (told_con _ _ 143 _ _ _ _ (.inr (.inr rfl)) (putF_con _ _ va _ c _ _ _ _ _ p0 q0 ?mC c99 hna2 hnd2 (List.Mem.head _) hpl hq0)) ?B ?F ?X ?N ?T ?hk ?hd ?hu ?_); (((case B => k_asm); (case F => k_asm); (case X => k_asm); (case N => k_asm); (case T => k_asm); (case hk => rfl); (case hd => first | decide | ((try simp only [depth_deeper, depth_caller]); decide)); (case hu => first | decide | ((try simp only [units_deeper, units_caller]); decide)))); (case mC => exact hC2.mono (by (first | exact fun _ h => h | exact fun _ h => .tail _ h | exact fun _ h => .tail _ (.tail _ h) | exact fun _ h => .tail _ (.tail _ (.tail _ h)) | exact fun _ h => .tail _ (.tail _ (.tail _ (.tail _ h))) | exact fun _ h => .tail _ (.tail _ (.tail _ (.tail _ (.tail _ h)))) | exact fun _ h => .tail _ (.tail _ (.tail _ (.tail _ (.tail _ (.tail _ h))))) | exact fun _ h => .tail _ (.tail _ (.tail _ (.tail _ (.tail _ (.tail _ (.tail _ h)))))) | exact fun _ h => .tail _ (.tail _ (.tail _ (.tail _ (.tail _ (.tail _ (.tail _ (.tail _ h))))))) | exact fun _ h => .tail _ (.tail _ (.tail _ (.tail _ (.tail _ (.tail _ (.tail _ (.tail _ (.tail _ h)))))))) | exact fun _ h => .tail _ (.tail _ (.tail _ (.tail _ (.tail _ (.tail _ (.tail _ (.tail _ (.tail _ (.tail _ h))))))))) | exact fun _ h => .tail _ (.tail _ (.tail _ (.tail _ (.tail _ (.tail _ (.tail _ (.tail _ (.tail _ (.tail _ (.tail _ h)))))))))) | exact fun _ h => .tail _ (.tail _ (.tail _ (.tail _ (.tail _ (.tail _ (.tail _ (.tail _ (.tail _ (.tail _ (.tail _ (.tail _ h))))))))))) | exact fun _ h => .tail _ (.tail _ (.tail _ (.tail _ (.tail _ (.tail _ (.tail _ (.tail _ (.tail _ (.tail _ (.tail _ (.tail _ (.tail _ h)))))))))))) | exact fun _ h => .tail _ (.tail _ (.tail _ (.tail _ (.tail _ (.tail _ (.tail _ (.tail _ (.tail _ (.tail _ (.tail _ (.tail _ (.tail _ (.tail _ h))))))))))))) | (intro p hp; simp [hp])))); intro r4 led4 h4 tk4 F4 N4 hP9; refine exE4 hP9 ?_; clear hP9; intro T4 t4 v4 l4 hP9; refine andE4 hP9 ?_; clear hP9; rintro rfl rfl hP9 lt4; refine andE3 hP9 ?_; clear hP9; rintro rfl hC4 hk4; (refine Exists.elim (chain_part hC4 [D, C, R2, I] (fun e he => by obtain ⟨e', he', z1, z2⟩ := set_same hq0 e he; rw [z1, z2]; exact hbad e' he')) ?_); intro chl4 hP9; refine andE3 hP9 ?_; clear hP9; rintro hs4 hC5 hb4; (have hRT : @LT.lt Nat _ R2 T4 := lt4 _ (hk4 _ (pick5 _ (.tail _ (.tail _ (.head _)))) hqR)); (have hD4 := hb4 D (by simp)); (have hC4n := hb4 C (by simp)); (have hR4 := hb4 R2 (by simp)); (have hI4 := hb4 I (by simp)); replace N4 := group5 N4 (fun e he => hk4 e (pick5 e he) ((by walk_at "off" : ∀ p ∈ _, p.1 ≠ q0.d) e he)) hs4)
              | ((refine' place_use (R := R2) (n := n3) hI2 ?mR ?mL hpl ?B ?F ?X ?N ?T ?hk ?hd ?hu ?_); (((case B => k_asm); (case F => k_asm); (case X => k_asm); (case N => k_asm); (case T => k_asm); (case hk => rfl); (case hd => first | decide | ((try simp only [depth_deeper, depth_caller]); decide)); (case hu => first | decide | ((try simp only [units_deeper, units_caller]); decide)))); (case mR => simp); (case mL => (rw [List.length_map]; exact c99)); intro t3 h3 tk3 F3 N3)
            k_with "setItem ref int" => ((with_reducible show wpAny _ _ (setItem (Value.ref R2) _ _) _ _ _); k_dflt (refine' ki_set ?F ?N ?g1 ?g2 ?g3 ?U ?_; (case F => k_asm); (case N => k_asm); (case g1 => exact hp0z); (case g2 => exact hp0k); (case g3 => (rw [p0_nat p0]; exact setL_of hp0v)); (case U => exact Upd.tail (Nat.ne_of_gt (by omega)) (.tail (Ne.symm hR2D) (.tail (Ne.symm hR2C) (.head (offCons hIR (offCons (Nat.ne_of_gt hRP) (offCons (Nat.ne_of_gt hRT) hR4)))))))); intro h' F' N')
            (repeat' (first | (k_unfold; (try dsimp only)) | (k_end; wrow_close) | (walk1; (all_goals (try dsimp only))) | (dsimp only; walk1) | ((simp only [List.cons_append, List.nil_append]); walk1) | (leave1; walk_say "STEP leave1"; try dsimp only) | fail "no step"))
            unfold id
            refine isNot_two ?s1 ?s2 ?ht ?_
            (case s1 => exact hC5.solid (by k_asm) (by k_in) (by (first | exact fun _ h => h | exact fun _ h => .tail _ h | exact fun _ h => .tail _ (.tail _ h) | exact fun _ h => .tail _ (.tail _ (.tail _ h)) | exact fun _ h => .tail _ (.tail _ (.tail _ (.tail _ h))) | exact fun _ h => .tail _ (.tail _ (.tail _ (.tail _ (.tail _ h)))) | exact fun _ h => .tail _ (.tail _ (.tail _ (.tail _ (.tail _ (.tail _ h))))) | exact fun _ h => .tail _ (.tail _ (.tail _ (.tail _ (.tail _ (.tail _ (.tail _ h)))))) | exact fun _ h => .tail _ (.tail _ (.tail _ (.tail _ (.tail _ (.tail _ (.tail _ (.tail _ h))))))) | exact fun _ h => .tail _ (.tail _ (.tail _ (.tail _ (.tail _ (.tail _ (.tail _ (.tail _ (.tail _ h)))))))) | exact fun _ h => .tail _ (.tail _ (.tail _ (.tail _ (.tail _ (.tail _ (.tail _ (.tail _ (.tail _ (.tail _ h))))))))) | exact fun _ h => .tail _ (.tail _ (.tail _ (.tail _ (.tail _ (.tail _ (.tail _ (.tail _ (.tail _ (.tail _ (.tail _ h)))))))))) | exact fun _ h => .tail _ (.tail _ (.tail _ (.tail _ (.tail _ (.tail _ (.tail _ (.tail _ (.tail _ (.tail _ (.tail _ (.tail _ h))))))))))) | exact fun _ h => .tail _ (.tail _ (.tail _ (.tail _ (.tail _ (.tail _ (.tail _ (.tail _ (.tail _ (.tail _ (.tail _ (.tail _ (.tail _ h)))))))))))) | exact fun _ h => .tail _ (.tail _ (.tail _ (.tail _ (.tail _ (.tail _ (.tail _ (.tail _ (.tail _ (.tail _ (.tail _ (.tail _ (.tail _ (.tail _ h))))))))))))) | (intro p hp; simp [hp]))))
            (case s2 => exact .nil (by k_in))
            (case ht => (intro e9; exact absurd e9 hva64))
            intro e9
            (repeat' (first | (k_unfold; (try dsimp only)) | (k_end; wrow_close) | (walk1; (all_goals (try dsimp only))) | (dsimp only; walk1) | ((simp only [List.cons_append, List.nil_append]); walk1) | (leave1; walk_say "STEP leave1"; try dsimp only) | fail "no step"))
            unfold id
            have hc5n : c.set (p0 + 1) ⟨q0.a, q0.d, 30 + x9⟩ ≠ [] := by intro e9; rw [List.set_eq_nil_iff] at e9; rw [e9] at hq0; cases hq0
            have hI5 : IntsAre (vals.toArray.toList.set (p0 + 1) (.int (30 + x9) tk9)) ((c.set (p0 + 1) ⟨q0.a, q0.d, 30 + x9⟩).map (·.x)) := by
              rw [set_xs]
              exact ints_set hI2 _ _ _
            rename News _ _ _ (_ :: (D, _) :: _) => N9e
            exact ktail _ _ _ _ ⟨R2, _, _, _, _, _, _, c.set (p0 + 1) ⟨q0.a, q0.d, 30 + x9⟩, va, chl4, rfl, kA3, kA4, hI5, by rw [List.length_set]; exact cA, hR2D, hR2C, hIR, hC5, by rw [set_as hq0]; exact hna2, by rw [set_ds hq0]; exact hnd2, hD4, hC4n, hR4, hI4, hc5n, fun j e e' h1 h2 => by have h9 := congrArg (fun l => l[j]?) (set_as (nx := 30 + x9) hq0); simp only [List.getElem?_map, h1, h2, Option.map_some, Option.some.injEq] at h9; exact h9.symm, rfl, rfl, rfl, rfl⟩ (by assumption) (News.sub N9e pickF)
      · clear N2 F2
        intro m₁ nx h₁ tk₁ hP9
        refine exE10 hP9 ?_
        clear hP9
        intro R2 k2 t2 n1 n2 n3 vals c va chl hP9
        refine andE16 hP9 ?_
        clear hP9
        rintro rfl hk0 hk1 hI2 hcl hR2D hR2C hC2 hna2 hnd2 hoD hoC hoR e1 e2 e3 F₁ N₁
        rw [← bnd_eq (m := m₁) (ps := [(Str.ofString "deck", .ref D), (Str.ofString "row", .ref R2), (Str.ofString "value", .ref va)]) (by simp [e1, e2, e3])] at F₁
        obtain ⟨kE0, cE0⟩ := end_bounds hy4 hk1 hcl
        have hlv := hI2.length
        k_with_none
        k_with "call ref" => first
          | ((refine' Con.use (got_con _ _ va R2 c vals n3 _ _ ?mC cE0 hna2 hI2 ?mR) ?B ?F ?X ?N ?T ?hk ?hd ?hu ?_); (((case B => k_asm); (case F => k_asm); (case X => k_asm); (case N => k_asm); (case T => k_asm); (case hk => rfl); (case hd => first | decide | ((try simp only [depth_deeper, depth_caller]); decide)); (case hu => first | decide | ((try simp only [units_deeper, units_caller]); decide)))); (case mC => exact hC2.mono (by (first | exact fun _ h => h | exact fun _ h => .tail _ h | exact fun _ h => .tail _ (.tail _ h) | exact fun _ h => .tail _ (.tail _ (.tail _ h)) | exact fun _ h => .tail _ (.tail _ (.tail _ (.tail _ h))) | exact fun _ h => .tail _ (.tail _ (.tail _ (.tail _ (.tail _ h)))) | exact fun _ h => .tail _ (.tail _ (.tail _ (.tail _ (.tail _ (.tail _ h))))) | exact fun _ h => .tail _ (.tail _ (.tail _ (.tail _ (.tail _ (.tail _ (.tail _ h)))))) | exact fun _ h => .tail _ (.tail _ (.tail _ (.tail _ (.tail _ (.tail _ (.tail _ (.tail _ h))))))) | exact fun _ h => .tail _ (.tail _ (.tail _ (.tail _ (.tail _ (.tail _ (.tail _ (.tail _ (.tail _ h)))))))) | exact fun _ h => .tail _ (.tail _ (.tail _ (.tail _ (.tail _ (.tail _ (.tail _ (.tail _ (.tail _ (.tail _ h))))))))) | exact fun _ h => .tail _ (.tail _ (.tail _ (.tail _ (.tail _ (.tail _ (.tail _ (.tail _ (.tail _ (.tail _ (.tail _ h)))))))))) | exact fun _ h => .tail _ (.tail _ (.tail _ (.tail _ (.tail _ (.tail _ (.tail _ (.tail _ (.tail _ (.tail _ (.tail _ (.tail _ h))))))))))) | exact fun _ h => .tail _ (.tail _ (.tail _ (.tail _ (.tail _ (.tail _ (.tail _ (.tail _ (.tail _ (.tail _ (.tail _ (.tail _ (.tail _ h)))))))))))) | exact fun _ h => .tail _ (.tail _ (.tail _ (.tail _ (.tail _ (.tail _ (.tail _ (.tail _ (.tail _ (.tail _ (.tail _ (.tail _ (.tail _ (.tail _ h))))))))))))) | (intro p hp; simp [hp])))); (case mR => simp); rintro r5 led5 h5 tk5 F5 N5 ⟨rfl, cn5, rfl⟩)
          | ((try (rename News _ _ _ (_ :: (D, _) :: (C, _) :: _) => N8; replace N8 := News.sub N8 rot1)); (try (rename News _ _ _ (_ :: _ :: (D, _) :: (C, _) :: _) => N8; replace N8 := News.sub N8 rot2)); (refine' draw_use (D := D) (C := C) hcards ?g1 ?g2 ?g3 ?g4 hl0 hl1 hDC ?g5 ?B ?F ?X ?N ?T ?hk ?hd ?hu ?_); (((case B => k_asm); (case F => k_asm); (case X => k_asm); (case N => k_asm); (case T => k_asm); (case hk => rfl); (case hd => first | decide | ((try simp only [depth_deeper, depth_caller]); decide)); (case hu => first | decide | ((try simp only [units_deeper, units_caller]); decide)))); (case g1 => first | assumption | omega); (case g2 => first | assumption | omega); (case g3 => decide); (case g4 => decide); (case g5 => walk_at "off"); intro x9 tx9 t9 n9 h9 tk9 hx9 hy9 F9 N9)
        (repeat' (first | (k_unfold; (try dsimp only)) | (k_end; wrow_close) | (walk1; (all_goals (try dsimp only))) | (dsimp only; walk1) | ((simp only [List.cons_append, List.nil_append]); walk1) | (leave1; walk_say "STEP leave1"; try dsimp only) | fail "no step")))
end
end Mine

theorem PySem.Challenge.cw_np0010_01_holds : PySem.Challenge.rw_np0010_01.Holds :=
  Mine.law_holds
