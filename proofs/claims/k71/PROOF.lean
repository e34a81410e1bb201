import PyProof.Rows.All
import Wide.All
import OpenK.AllK
import Wide.FinOn
import HandS.ForMost
import HandS.ForExc
import HandS.IsInst
import HandS.Flow
import HandS.ExcInit
import HandS.ExcValue
import KE.KExcIs
import HandS.Walk
import HandS.Iter
import KE.GoesEnum
import PyProof.P3Eq
import HandS.Codes
import PySem.Challenge.RW_netcourt_k71_strangers_and_variables
set_option Elab.async false
set_option linter.all false
set_option maxRecDepth 100000
set_option maxHeartbeats 8000000
/-! The data of the law: sets, terms, claims as trees, and the plain functions over them. -/
namespace K71
open PySem L2

/-! ### 1. sets, terms, claims -/
inductive Knd where
  | all | fr (a : Str) | to (a : Str) | these (xs : List Str)
inductive W3 where
  | a | b | c
inductive Trm where
  | num (n : Int) | size (k : Knd) | cnt (w : W3) (a b : Str) | pairs (k l : Knd) | times (n : Int) (t : Trm) | two (w : W3) (t u : Trm)
inductive Clm where
  | way (a b : Str) | cost (a b : Str) (k : Int) | ring (r : Bool) | must (a b x : Str) | atmost (t u : Trm) | neg (c : Clm) | bin (r : Bool) (c d : Clm) | qua (r : Bool) (x : Str) (k : Knd) (c : Clm)
def cntW : W3 → Str
  | .a => "flow"
  | .b => "apart"
  | .c => "bare"
def twoW : W3 → Str
  | .a => "plus"
  | .b => "least"
  | .c => "most"
def ringW : Bool → Str
  | true => "ring"
  | false => "round"
def binW : Bool → Str
  | true => "and"
  | false => "or"
def quaW : Bool → Str
  | true => "each"
  | false => "some"
/-- a thing: a set, a term, a claim -/
inductive Thg where
  | k (k : Knd) | t (t : Trm) | c (c : Clm)
/-- what stands in a thing behind its word -/
inductive Part where
  | s (y : Str) | i (n : Int) | l (xs : List Str) | g (t : Thg)

def kWord : Knd → Str
  | .all => "all"
  | .fr _ => "from"
  | .to _ => "to"
  | .these _ => "these"
def kParts : Knd → List Part
  | .all => []
  | .fr a => [.s a]
  | .to a => [.s a]
  | .these xs => [.l xs]
def tWord : Trm → Str
  | .num _ => "number"
  | .size _ => "size"
  | .cnt w _ _ => cntW w
  | .pairs _ _ => "pairs"
  | .times _ _ => "times"
  | .two w _ _ => twoW w
def tParts : Trm → List Part
  | .num n => [.i n]
  | .size k => [.g (.k k)]
  | .cnt _ a b => [.s a, .s b]
  | .pairs k l => [.g (.k k), .g (.k l)]
  | .times n t => [.i n, .g (.t t)]
  | .two _ t u => [.g (.t t), .g (.t u)]
def cWord : Clm → Str
  | .way _ _ => "way"
  | .cost _ _ _ => "cost"
  | .ring r => ringW r
  | .must _ _ _ => "must"
  | .atmost _ _ => "atmost"
  | .neg _ => "not"
  | .bin r _ _ => binW r
  | .qua r _ _ _ => quaW r
def cParts : Clm → List Part
  | .way a b => [.s a, .s b]
  | .cost a b k => [.s a, .s b, .i k]
  | .ring _ => []
  | .must a b x => [.s a, .s b, .s x]
  | .atmost t u => [.g (.t t), .g (.t u)]
  | .neg c => [.g (.c c)]
  | .bin _ c d => [.g (.c c), .g (.c d)]
  | .qua _ x k c => [.s x, .g (.k k), .g (.c c)]
def gWord : Thg → Str
  | .k k => kWord k
  | .t t => tWord t
  | .c c => cWord c
def gParts : Thg → List Part
  | .k k => kParts k
  | .t t => tParts t
  | .c c => cParts c

/-! ### 2. as data -/
def kD : Knd → PyData
  | .all => .tuple [.str "all"]
  | .fr a => .tuple [.str "from", .str a]
  | .to a => .tuple [.str "to", .str a]
  | .these xs => .tuple [.str "these", .list (xs.map .str)]
def tD : Trm → PyData
  | .num n => .tuple [.str "number", .int n]
  | .size k => .tuple [.str "size", kD k]
  | .cnt w a b => .tuple [.str (cntW w), .str a, .str b]
  | .pairs k l => .tuple [.str "pairs", kD k, kD l]
  | .times n t => .tuple [.str "times", .int n, tD t]
  | .two w t u => .tuple [.str (twoW w), tD t, tD u]
def cD : Clm → PyData
  | .way a b => .tuple [.str "way", .str a, .str b]
  | .cost a b k => .tuple [.str "cost", .str a, .str b, .int k]
  | .ring r => .tuple [.str (ringW r)]
  | .must a b x => .tuple [.str "must", .str a, .str b, .str x]
  | .atmost t u => .tuple [.str "atmost", tD t, tD u]
  | .neg c => .tuple [.str "not", cD c]
  | .bin r c d => .tuple [.str (binW r), cD c, cD d]
  | .qua r x k c => .tuple [.str (quaW r), .str x, kD k, cD c]
def gD : Thg → PyData
  | .k k => kD k
  | .t t => tD t
  | .c c => cD c
def partD : Part → PyData
  | .s y => .str y
  | .i n => .int n
  | .l xs => .list (xs.map .str)
  | .g t => gD t
theorem gD_parts (g : Thg) : gD g = .tuple (.str (gWord g) :: (gParts g).map partD) := by
  cases g with
  | k k => cases k <;> rfl
  | t t => cases t <;> rfl
  | c c => cases c <;> rfl

/-! ### 3. heights -/
def tH : Trm → Nat
  | .num _ => 1
  | .size _ => 2
  | .cnt _ _ _ => 1
  | .pairs _ _ => 2
  | .times _ t => tH t + 1
  | .two _ t u => max (tH t) (tH u) + 1
def cH : Clm → Nat
  | .way _ _ => 1
  | .cost _ _ _ => 1
  | .ring _ => 1
  | .must _ _ _ => 1
  | .atmost t u => max (tH t) (tH u) + 1
  | .neg c => cH c + 1
  | .bin _ c d => max (cH c) (cH d) + 1
  | .qua _ _ _ c => cH c + 1
def gH : Thg → Nat
  | .k _ => 1
  | .t t => tH t
  | .c c => cH c
theorem tH_pos (t : Trm) : 1 ≤ tH t := by cases t <;> simp [tH]
theorem cH_pos (c : Clm) : 1 ≤ cH c := by cases c <;> simp [cH]
theorem gH_pos (g : Thg) : 1 ≤ gH g := by
  cases g with
  | k k => exact Nat.le_refl _
  | t t => exact tH_pos t
  | c c => exact cH_pos c
def partH : Part → Nat
  | .s _ => 0
  | .i _ => 0
  | .l _ => 1
  | .g t => gH t
theorem part_lt {g : Thg} {t : Thg} (h : Part.g t ∈ gParts g) : gH t < gH g := by
  cases g with
  | k k => cases k <;> simp [gParts, kParts] at h
  | t u =>
    cases u with
    | num n => simp [gParts, tParts] at h
    | size k => simp [gParts, tParts] at h; subst h; simp [gH, tH]
    | cnt w a b => simp [gParts, tParts] at h
    | pairs k l => simp [gParts, tParts] at h; rcases h with h | h <;> (subst h; simp [gH, tH])
    | times n u => simp [gParts, tParts] at h; subst h; simp [gH, tH]
    | two w u v => simp [gParts, tParts] at h; rcases h with h | h <;> (subst h; simp only [gH, tH]; omega)
  | c c =>
    cases c with
    | way a b => simp [gParts, cParts] at h
    | cost a b k => simp [gParts, cParts] at h
    | ring r => simp [gParts, cParts] at h
    | must a b x => simp [gParts, cParts] at h
    | atmost u v => simp [gParts, cParts] at h; rcases h with h | h <;> (subst h; simp only [gH, cH]; omega)
    | neg c => simp [gParts, cParts] at h; subst h; simp [gH, cH]
    | bin r c d => simp [gParts, cParts] at h; rcases h with h | h <;> (subst h; simp only [gH, cH]; omega)
    | qua r x k c =>
      simp [gParts, cParts] at h
      rcases h with h | h
      · subst h
        have := cH_pos c
        simp only [gH, cH]; omega
      · subst h; simp only [gH, cH]; omega

/-! ### 4. the names -/
def kN : Knd → List Str
  | .all => []
  | .fr a => [a]
  | .to a => [a]
  | .these xs => xs
def tN : Trm → List Str
  | .num _ => []
  | .size k => kN k
  | .cnt _ a b => [a, b]
  | .pairs k l => kN k ++ kN l
  | .times _ t => tN t
  | .two _ t u => tN t ++ tN u
def cN : Clm → List Str
  | .way a b => [a, b]
  | .cost a b _ => [a, b]
  | .ring _ => []
  | .must a b x => [a, b, x]
  | .atmost t u => tN t ++ tN u
  | .neg c => cN c
  | .bin _ c d => cN c ++ cN d
  | .qua _ x k c => kN k ++ (cN c).filter (fun y => !decide (y = x))
def gN : Thg → List Str
  | .k k => kN k
  | .t t => tN t
  | .c c => cN c
def partN : Part → List Str
  | .g t => gN t
  | _ => []
/-- the words whose names are gathered part by part -/
def isLoop : Thg → Bool
  | .t (.size _) => true
  | .t (.pairs _ _) => true
  | .t (.times _ _) => true
  | .t (.two _ _ _) => true
  | .c (.atmost _ _) => true
  | .c (.neg _) => true
  | .c (.bin _ _ _) => true
  | _ => false
theorem gN_loop {g : Thg} (h : isLoop g = true) : gN g = (gParts g).flatMap partN := by
  cases g with
  | k k => cases k <;> cases h
  | t t => cases t <;> first | (cases h; done) | simp [gN, tN, gParts, tParts, partN]
  | c c => cases c <;> first | (cases h; done) | simp [gN, cN, gParts, cParts, partN]

/-! ### 5. the place put in for a variable -/
def pN (x p y : Str) : Str := if y = x then p else y
def kP (x p : Str) : Knd → Knd
  | .all => .all
  | .fr a => .fr (pN x p a)
  | .to a => .to (pN x p a)
  | .these xs => .these (xs.map (pN x p))
def tP (x p : Str) : Trm → Trm
  | .num n => .num n
  | .size k => .size (kP x p k)
  | .cnt w a b => .cnt w (pN x p a) (pN x p b)
  | .pairs k l => .pairs (kP x p k) (kP x p l)
  | .times n t => .times n (tP x p t)
  | .two w t u => .two w (tP x p t) (tP x p u)
def cP (x p : Str) : Clm → Clm
  | .way a b => .way (pN x p a) (pN x p b)
  | .cost a b k => .cost (pN x p a) (pN x p b) k
  | .ring r => .ring r
  | .must a b z => .must (pN x p a) (pN x p b) (pN x p z)
  | .atmost t u => .atmost (tP x p t) (tP x p u)
  | .neg c => .neg (cP x p c)
  | .bin r c d => .bin r (cP x p c) (cP x p d)
  | .qua r y k c => .qua r y (kP x p k) (if y = x then c else cP x p c)
def gP (x p : Str) : Thg → Thg
  | .k k => .k (kP x p k)
  | .t t => .t (tP x p t)
  | .c c => .c (cP x p c)
def partP (x p : Str) : Part → Part
  | .s y => .s (pN x p y)
  | .i n => .i n
  | .l xs => .l (xs.map (pN x p))
  | .g t => .g (gP x p t)
/-- is it an each, a some; of which variable -/
def quaX : Thg → Option Str
  | .c (.qua _ x _ _) => some x
  | _ => none
/-- the j-th part of the thing with the place put in -/
def outP (x p : Str) (g : Thg) (j : Nat) (q : Part) : Part :=
  if (quaX g).isSome && j == 0 then q else if (quaX g).isSome && (j == 2 && decide (quaX g = some x)) then q else partP x p q
theorem gWord_P (x p : Str) (g : Thg) : gWord (gP x p g) = gWord g := by
  cases g with
  | k k => cases k <;> rfl
  | t t => cases t <;> rfl
  | c c => cases c <;> rfl
theorem gParts_P (x p : Str) (g : Thg) : gParts (gP x p g) = (gParts g).mapIdx (outP x p g) := by
  cases g with
  | k k => cases k <;> rfl
  | t t => cases t <;> rfl
  | c c =>
    cases c with
    | qua r y k c =>
      show [Part.s y, .g (.k (kP x p k)), .g (.c (if y = x then c else cP x p c))] = [outP x p (.c (.qua r y k c)) 0 (.s y), outP x p (.c (.qua r y k c)) 1 (.g (.k k)), outP x p (.c (.qua r y k c)) 2 (.g (.c c))]
      by_cases h : y = x
      · subst h
        simp [outP, quaX, partP, gP]
      · simp [outP, quaX, partP, gP, h]
    | _ => rfl
theorem pN_cases (x p y z : Str) (h : z = pN x p y) : z = p ∨ (z = y ∧ y ≠ x) := by
  unfold pN at h
  by_cases e : y = x
  · rw [if_pos e] at h; exact .inl h
  · rw [if_neg e] at h; exact .inr ⟨h, e⟩
theorem pN_mem {x p : Str} {xs : List Str} {z : Str} (h : z ∈ xs.map (pN x p)) : z = p ∨ (z ∈ xs ∧ z ≠ x) := by
  obtain ⟨y, hy, e⟩ := List.mem_map.mp h
  rcases pN_cases x p y z e.symm with h | ⟨h, n⟩
  · exact .inl h
  · subst h; exact .inr ⟨hy, n⟩
theorem kN_P {x p : Str} : ∀ {k : Knd} {z : Str}, z ∈ kN (kP x p k) → z = p ∨ (z ∈ kN k ∧ z ≠ x)
  | .all, _, h => by cases h
  | .fr a, z, h => pN_mem (xs := [a]) h
  | .to a, z, h => pN_mem (xs := [a]) h
  | .these xs, z, h => pN_mem h
theorem tN_P {x p : Str} : ∀ {t : Trm} {z : Str}, z ∈ tN (tP x p t) → z = p ∨ (z ∈ tN t ∧ z ≠ x)
  | .num n, _, h => by cases h
  | .size k, z, h => kN_P (k := k) h
  | .cnt w a b, z, h => pN_mem (xs := [a, b]) h
  | .pairs k l, z, h => by
    rcases List.mem_append.mp h with h | h
    · rcases kN_P h with h | ⟨h, n⟩
      · exact .inl h
      · exact .inr ⟨List.mem_append_left _ h, n⟩
    · rcases kN_P h with h | ⟨h, n⟩
      · exact .inl h
      · exact .inr ⟨List.mem_append_right _ h, n⟩
  | .times n t, z, h => tN_P (t := t) h
  | .two w t u, z, h => by
    rcases List.mem_append.mp h with h | h
    · rcases tN_P h with h | ⟨h, n⟩
      · exact .inl h
      · exact .inr ⟨List.mem_append_left _ h, n⟩
    · rcases tN_P h with h | ⟨h, n⟩
      · exact .inl h
      · exact .inr ⟨List.mem_append_right _ h, n⟩
theorem cN_P {x p : Str} : ∀ {c : Clm} {z : Str}, z ∈ cN (cP x p c) → z = p ∨ (z ∈ cN c ∧ z ≠ x)
  | .way a b, z, h => pN_mem (xs := [a, b]) h
  | .cost a b k, z, h => pN_mem (xs := [a, b]) h
  | .ring r, _, h => by cases h
  | .must a b y, z, h => pN_mem (xs := [a, b, y]) h
  | .atmost t u, z, h => by
    rcases List.mem_append.mp h with h | h
    · rcases tN_P h with h | ⟨h, n⟩
      · exact .inl h
      · exact .inr ⟨List.mem_append_left _ h, n⟩
    · rcases tN_P h with h | ⟨h, n⟩
      · exact .inl h
      · exact .inr ⟨List.mem_append_right _ h, n⟩
  | .neg c, z, h => cN_P (c := c) h
  | .bin r c d, z, h => by
    rcases List.mem_append.mp h with h | h
    · rcases cN_P h with h | ⟨h, n⟩
      · exact .inl h
      · exact .inr ⟨List.mem_append_left _ h, n⟩
    · rcases cN_P h with h | ⟨h, n⟩
      · exact .inl h
      · exact .inr ⟨List.mem_append_right _ h, n⟩
  | .qua r y k c, z, h => by
    rcases List.mem_append.mp h with h | h
    · rcases kN_P h with h | ⟨h, n⟩
      · exact .inl h
      · exact .inr ⟨List.mem_append_left _ h, n⟩
    · have h' : z ∈ (cN (if y = x then c else cP x p c)).filter (fun w => !decide (w = y)) := h
      obtain ⟨hm, hf⟩ := List.mem_filter.mp h'
      have hy : z ≠ y := by simpa using hf
      by_cases e : y = x
      · rw [if_pos e] at hm
        exact .inr ⟨List.mem_append_right _ (List.mem_filter.mpr ⟨hm, hf⟩), e ▸ hy⟩
      · rw [if_neg e] at hm
        rcases cN_P hm with h | ⟨h, n⟩
        · exact .inl h
        · exact .inr ⟨List.mem_append_right _ (List.mem_filter.mpr ⟨h, hf⟩), n⟩
/-- what was put in is let by -/
theorem cP_in {x p : Str} {ps : List Str} {c : Clm} (hp : p ∈ ps) (h : ∀ y ∈ cN c, y ∈ ps ++ [x]) : ∀ z ∈ cN (cP x p c), z ∈ ps := fun z hz => by
  rcases cN_P hz with e | ⟨hm, n⟩
  · rw [e]; exact hp
  · rcases List.mem_append.mp (h z hm) with q | q
    · exact q
    · exact absurd (List.mem_singleton.mp q) n

/-! ### 6. fit data: short texts, short lists of texts -/
mutual
def fit : PyData → Bool
  | .int _ => true
  | .str x => PyData.strOk x
  | .list ds => decide (ds.length ≤ 500) && fitS ds
  | .tuple ds => decide (ds.length ≤ 500) && fitA ds
  | .none => false
  | .bool _ => false
  | .dict _ => false
def fitS : List PyData → Bool
  | [] => true
  | .str x :: ds => PyData.strOk x && fitS ds
  | _ :: _ => false
def fitA : List PyData → Bool
  | [] => true
  | d :: ds => fit d && fitA ds
end
theorem fitS_strs : ∀ {ds : List PyData}, fitS ds = true → ∃ xs : List Str, ds = xs.map .str ∧ ∀ x ∈ xs, PyData.strOk x = true
  | [], _ => ⟨[], rfl, fun _ h => by cases h⟩
  | d :: ds, h => by
    cases d with
    | str x =>
      rw [fitS, Bool.and_eq_true] at h
      obtain ⟨xs, e, ha⟩ := fitS_strs h.2
      refine ⟨x :: xs, by rw [e]; rfl, fun y hy => ?_⟩
      rcases List.mem_cons.mp hy with e | hy
      · rw [e]; exact h.1
      · exact ha y hy
    | _ => rw [fitS] at h <;> first | (cases h; done) | (intro _ q; cases q)
theorem fitS_of : ∀ {xs : List Str}, (∀ x ∈ xs, PyData.strOk x = true) → fitS (xs.map .str) = true
  | [], _ => by simp [fitS]
  | x :: xs, h => by
    show fitS (.str x :: xs.map .str) = true
    rw [fitS, Bool.and_eq_true]
    exact ⟨h x List.mem_cons_self, fitS_of fun y hy => h y (List.mem_cons_of_mem _ hy)⟩
theorem fitS_lay : ∀ {ds : List PyData}, fitS ds = true → PyData.canLayAll0 ds = true
  | [], _ => by simp [PyData.canLayAll0]
  | d :: ds, h => by
    cases d with
    | str x =>
      rw [fitS, Bool.and_eq_true] at h
      rw [PyData.canLayAll0, Bool.and_eq_true]
      exact ⟨by rw [PyData.canLay0]; exact h.1, fitS_lay h.2⟩
    | _ => rw [fitS] at h <;> first | (cases h; done) | (intro _ q; cases q)
mutual
theorem fit_lay : ∀ {d : PyData}, fit d = true → d.canLay0 = true
  | .int _, _ => by simp [PyData.canLay0]
  | .str x, h => by rw [PyData.canLay0]; rw [fit] at h; exact h
  | .list ds, h => by
    rw [fit, Bool.and_eq_true] at h
    rw [PyData.canLay0]; exact fitS_lay h.2
  | .tuple ds, h => by
    rw [fit, Bool.and_eq_true] at h
    rw [PyData.canLay0]; exact fitA_lay h.2
  | .none, h => by rw [fit] at h; cases h
  | .bool _, h => by rw [fit] at h; cases h
  | .dict _, h => by rw [fit] at h; cases h
theorem fitA_lay : ∀ {ds : List PyData}, fitA ds = true → PyData.canLayAll0 ds = true
  | [], _ => by simp [PyData.canLayAll0]
  | d :: ds, h => by
    rw [fitA, Bool.and_eq_true] at h
    rw [PyData.canLayAll0, Bool.and_eq_true]
    exact ⟨fit_lay h.1, fitA_lay h.2⟩
end
end K71
/-! Data that stands in the heap. -/
namespace K71
open PySem L2

mutual
/-- the data d stands in H as the value v; each of its lists stands at an address that is P -/
inductive Dq (H : Hp) (P : Addr → Prop) : V → PyData → Prop
  | non : Dq H P .non .none
  | int (i : Int) : Dq H P (.int i) (.int i)
  | str (x : Str) : Dq H P (.str x) (.str x)
  | lst {a : Addr} {xs : List V} {ds : List PyData} : H a = some (.lst xs) → P a → DqA H P xs ds → Dq H P (.ref a) (.list ds)
  | tup {a : Addr} {xs : List V} {ds : List PyData} : H a = some (.tup xs) → DqA H P xs ds → Dq H P (.ref a) (.tuple ds)
inductive DqA (H : Hp) (P : Addr → Prop) : List V → List PyData → Prop
  | nil : DqA H P [] []
  | cons {v : V} {vs : List V} {d : PyData} {ds : List PyData} : Dq H P v d → DqA H P vs ds → DqA H P (v :: vs) (d :: ds)
end
abbrev Dt (H : Hp) : V → PyData → Prop := Dq H fun _ => True
abbrev DtA (H : Hp) : List V → List PyData → Prop := DqA H fun _ => True

section
variable {H H' : Hp} {P P' : Addr → Prop}
theorem Dq.tup_inv {v : V} {ds : List PyData} (h : Dq H P v (.tuple ds)) : ∃ a xs, v = .ref a ∧ H a = some (.tup xs) ∧ DqA H P xs ds := by
  cases h with
  | tup h1 h2 => exact ⟨_, _, rfl, h1, h2⟩
theorem Dq.lst_inv {v : V} {ds : List PyData} (h : Dq H P v (.list ds)) : ∃ a xs, v = .ref a ∧ H a = some (.lst xs) ∧ P a ∧ DqA H P xs ds := by
  cases h with
  | lst h1 h2 h3 => exact ⟨_, _, rfl, h1, h2, h3⟩
theorem Dq.str_inv {v : V} {x : Str} (h : Dq H P v (.str x)) : v = .str x := by
  cases h
  rfl
theorem Dq.int_inv {v : V} {x : Int} (h : Dq H P v (.int x)) : v = .int x := by
  cases h
  rfl
theorem DqA.cons_inv {xs : List V} {d : PyData} {ds : List PyData} (h : DqA H P xs (d :: ds)) : ∃ v vs, xs = v :: vs ∧ Dq H P v d ∧ DqA H P vs ds := by
  cases h with
  | cons h1 h2 => exact ⟨_, _, rfl, h1, h2⟩
theorem DqA.nil_inv {xs : List V} (h : DqA H P xs []) : xs = [] := by
  cases h
  rfl
theorem DqA.len : ∀ {xs : List V} {ds : List PyData}, DqA H P xs ds → xs.length = ds.length
  | _, [], h => by rw [h.nil_inv] <;> rfl
  | _, d :: ds, h => by
    obtain ⟨v, vs, rfl, _, h2⟩ := h.cons_inv
    rw [List.length_cons, List.length_cons, DqA.len h2]
theorem DqA.at : ∀ {xs : List V} {ds : List PyData} {i : Nat} {v : V}, DqA H P xs ds → xs[i]? = some v → ∃ d, ds[i]? = some d ∧ Dq H P v d
  | _, [], i, v, h, e => by rw [h.nil_inv] at e; simp at e
  | _, d :: ds, 0, v, h, e => by
    obtain ⟨w, vs, rfl, h1, h2⟩ := h.cons_inv
    have e' : w = v := Option.some.inj e
    subst e'
    exact ⟨d, rfl, h1⟩
  | _, d :: ds, i + 1, v, h, e => by
    obtain ⟨w, vs, rfl, h1, h2⟩ := h.cons_inv
    obtain ⟨d', e1, h3⟩ := DqA.at (i := i) (v := v) h2 (by simpa using e)
    exact ⟨d', by simpa using e1, h3⟩
theorem DqA.append : ∀ {xs ys : List V} {ds es : List PyData}, DqA H P xs ds → DqA H P ys es → DqA H P (xs ++ ys) (ds ++ es)
  | _, ys, [], es, h, k => by rw [h.nil_inv]; exact k
  | _, ys, d :: ds, es, h, k => by
    obtain ⟨v, vs, rfl, h1, h2⟩ := h.cons_inv
    exact .cons h1 (DqA.append h2 k)
theorem DqA.one {v : V} {d : PyData} (h : Dq H P v d) : DqA H P [v] [d] := .cons h .nil
theorem DqA.strs : ∀ (xs : List Str), DqA H P (xs.map V.str) (xs.map PyData.str)
  | [] => .nil
  | x :: xs => .cons (.str x) (DqA.strs xs)
theorem DqA.strs_inv : ∀ {xs : List Str} {vs : List V}, DqA H P vs (xs.map PyData.str) → vs = xs.map V.str
  | [], _, h => h.nil_inv
  | x :: xs, _, h => by
    obtain ⟨v, vs, rfl, h1, h2⟩ := h.cons_inv
    rw [h1.str_inv, DqA.strs_inv h2] <;> rfl
mutual
theorem Dq.mono (ht : ∀ a xs, H a = some (.tup xs) → H' a = some (.tup xs)) (hl : ∀ a xs, P a → H a = some (.lst xs) → H' a = some (.lst xs) ∧ P' a) : ∀ (d : PyData) (v : V), Dq H P v d → Dq H' P' v d
  | .none, _, h => by cases h; exact .non
  | .bool _, _, h => by cases h
  | .int _, _, h => by cases h; exact .int _
  | .str _, _, h => by cases h; exact .str _
  | .list ds, _, h => by
    cases h with
    | lst h1 h2 h3 =>
      obtain ⟨q1, q2⟩ := hl _ _ h2 h1
      exact .lst q1 q2 (DqA.mono ht hl ds _ h3)
  | .tuple ds, _, h => by
    cases h with
    | tup h1 h2 => exact .tup (ht _ _ h1) (DqA.mono ht hl ds _ h2)
  | .dict _, _, h => by cases h
theorem DqA.mono (ht : ∀ a xs, H a = some (.tup xs) → H' a = some (.tup xs)) (hl : ∀ a xs, P a → H a = some (.lst xs) → H' a = some (.lst xs) ∧ P' a) : ∀ (ds : List PyData) (vs : List V), DqA H P vs ds → DqA H' P' vs ds
  | [], _, h => by rw [h.nil_inv]; exact .nil
  | d :: ds, _, h => by
    obtain ⟨v, vs, rfl, h1, h2⟩ := h.cons_inv
    exact .cons (Dq.mono ht hl d v h1) (DqA.mono ht hl ds vs h2)
end
theorem Dq.same {d : PyData} {v : V} (e : Same H H') (h : Dq H P v d) : Dq H' P v d := Dq.mono (fun a xs q => e a _ q) (fun a xs p q => ⟨e a _ q, p⟩) d v h
theorem DqA.same {ds : List PyData} {vs : List V} (e : Same H H') (h : DqA H P vs ds) : DqA H' P vs ds := DqA.mono (fun a xs q => e a _ q) (fun a xs p q => ⟨e a _ q, p⟩) ds vs h
theorem Dq.imp {d : PyData} {v : V} (k : ∀ a, P a → P' a) (h : Dq H P v d) : Dq H P' v d := Dq.mono (fun a xs q => q) (fun a xs p q => ⟨q, k a p⟩) d v h
theorem DqA.imp {ds : List PyData} {vs : List V} (k : ∀ a, P a → P' a) (h : DqA H P vs ds) : DqA H P' vs ds := DqA.mono (fun a xs q => q) (fun a xs p q => ⟨q, k a p⟩) ds vs h
theorem Dq.dt {d : PyData} {v : V} (h : Dq H P v d) : Dt H v d := h.imp fun _ _ => trivial
theorem DqA.dt {ds : List PyData} {vs : List V} (h : DqA H P vs ds) : DtA H vs ds := h.imp fun _ _ => trivial
mutual
theorem Dq.dp {K : PySem.W.Frag} : ∀ (d : PyData) (v : V), Dq H P v d → Dp K H v d
  | .none, _, h => by cases h; exact .non
  | .bool _, _, h => by cases h
  | .int _, _, h => by cases h; exact .int _
  | .str _, _, h => by cases h; exact .str _
  | .list ds, _, h => by
    cases h with
    | lst h1 h2 h3 => exact .lst (SqL.of h1) (DqA.dp ds _ h3)
  | .tuple ds, _, h => by
    cases h with
    | tup h1 h2 => exact .tup (SqT.of h1) (DqA.dp ds _ h2)
  | .dict _, _, h => by cases h
theorem DqA.dp {K : PySem.W.Frag} : ∀ (ds : List PyData) (vs : List V), DqA H P vs ds → DpAll K H vs ds
  | [], _, h => by rw [h.nil_inv]; exact .nil
  | d :: ds, _, h => by
    obtain ⟨v, vs, rfl, h1, h2⟩ := h.cons_inv
    exact .cons (Dq.dp d v h1) (DqA.dp ds vs h2)
end
end
theorem same_new {H : Hp} {p : Addr} (h : H p = none) (o : HO) : Same H (upd H p o) := fun b u q => by rw [upd_ne (ne_of_none q h)]; exact q
theorem small {n : Nat} (h : n ≤ 100000) : n ≤ sizeLine := Nat.le_trans h (by decide)
theorem smallt {n : Nat} (h : n < 100000) : n < sizeLine := Nat.lt_of_lt_of_le h (by decide)
/-- the i-th of a tuple -/
theorem ix_of {xs : List V} {n : Nat} {v : V} (h : xs[n]? = some v) : atI xs (n : Int) = some v := atI_nat h
theorem cut1 (xs : List V) : cutV xs (some 1) none = xs.drop 1 := by
  unfold cutV
  cases xs with
  | nil => rfl
  | cons x xs =>
    have e1 : HT.sIx (x :: xs).length 0 (some 1) = 1 := by
      have := HT.sIx_nat (x :: xs).length 0 1
      rw [List.length_cons] at this ⊢
      rw [show (some 1 : Option Int) = some ((1 : Nat) : Int) from rfl, this]
      omega
    have e2 : HT.sIx (x :: xs).length (x :: xs).length none = (x :: xs).length := HT.sIx_none _ _
    rw [e1, e2, List.length_cons, List.drop_one, List.tail_cons, List.take_of_length_le (by omega)]
/-- t[1:] is never the whole of a tuple that isn't empty -/
theorem cut1_part {xs : List V} (h : xs ≠ []) : ¬ (HT.sIx xs.length 0 (some 1) = 0 ∧ HT.sIx xs.length xs.length none = xs.length) := by
  cases xs with
  | nil => exact absurd rfl h
  | cons x xs =>
    rintro ⟨e, _⟩
    have := HT.sIx_nat (x :: xs).length 0 1
    rw [show (some 1 : Option Int) = some ((1 : Nat) : Int) from rfl, this, List.length_cons] at e
    omega
end K71
/-! The text by places, calls, small helps. -/
namespace K71
open PySem L2
def top (i : Nat) : Stmt := PySem.Challenge.pw_netcourt_k71_strangers_and_variables.main.body.getD i (.Pass ⟨0, 0, 0, 0⟩)

theorem if_bt {b : Bool} {A B : Prop} (h : b = true) (a : A) : if b = true then A else B := by rw [if_pos h]; exact a
theorem if_bf {b : Bool} {A B : Prop} (h : b = false) (a : B) : if b = true then A else B := by rw [h, if_neg Bool.false_ne_true]; exact a

section
variable {H : Hp} {Pr : Addr → Prop} {v : V} {d0 d1 d2 d3 : PyData}
theorem Dq.t1 (h : Dq H Pr v (.tuple [d0])) : ∃ a v0, v = .ref a ∧ H a = some (.tup [v0]) ∧ Dq H Pr v0 d0 := by
  obtain ⟨a, xs, e, hp, hx⟩ := h.tup_inv
  obtain ⟨v0, vs, rfl, h0, hx⟩ := hx.cons_inv
  obtain rfl := hx.nil_inv
  exact ⟨a, v0, e, hp, h0⟩
theorem Dq.t2 (h : Dq H Pr v (.tuple [d0, d1])) : ∃ a v0 v1, v = .ref a ∧ H a = some (.tup [v0, v1]) ∧ Dq H Pr v0 d0 ∧ Dq H Pr v1 d1 := by
  obtain ⟨a, xs, e, hp, hx⟩ := h.tup_inv
  obtain ⟨v0, vs, rfl, h0, hx⟩ := hx.cons_inv
  obtain ⟨v1, vs, rfl, h1, hx⟩ := hx.cons_inv
  obtain rfl := hx.nil_inv
  exact ⟨a, v0, v1, e, hp, h0, h1⟩
theorem Dq.t3 (h : Dq H Pr v (.tuple [d0, d1, d2])) : ∃ a v0 v1 v2, v = .ref a ∧ H a = some (.tup [v0, v1, v2]) ∧ Dq H Pr v0 d0 ∧ Dq H Pr v1 d1 ∧ Dq H Pr v2 d2 := by
  obtain ⟨a, xs, e, hp, hx⟩ := h.tup_inv
  obtain ⟨v0, vs, rfl, h0, hx⟩ := hx.cons_inv
  obtain ⟨v1, vs, rfl, h1, hx⟩ := hx.cons_inv
  obtain ⟨v2, vs, rfl, h2, hx⟩ := hx.cons_inv
  obtain rfl := hx.nil_inv
  exact ⟨a, v0, v1, v2, e, hp, h0, h1, h2⟩
theorem Dq.t4 (h : Dq H Pr v (.tuple [d0, d1, d2, d3])) : ∃ a v0 v1 v2 v3, v = .ref a ∧ H a = some (.tup [v0, v1, v2, v3]) ∧ Dq H Pr v0 d0 ∧ Dq H Pr v1 d1 ∧ Dq H Pr v2 d2 ∧ Dq H Pr v3 d3 := by
  obtain ⟨a, xs, e, hp, hx⟩ := h.tup_inv
  obtain ⟨v0, vs, rfl, h0, hx⟩ := hx.cons_inv
  obtain ⟨v1, vs, rfl, h1, hx⟩ := hx.cons_inv
  obtain ⟨v2, vs, rfl, h2, hx⟩ := hx.cons_inv
  obtain ⟨v3, vs, rfl, h3, hx⟩ := hx.cons_inv
  obtain rfl := hx.nil_inv
  exact ⟨a, v0, v1, v2, v3, e, hp, h0, h1, h2, h3⟩
theorem Dq.lstS {xs : List Str} (h : Dq H Pr v (.list (xs.map .str))) : ∃ a, v = .ref a ∧ H a = some (.lst (xs.map V.str)) ∧ Pr a := by
  obtain ⟨a, vs, e, hp, p, hx⟩ := h.lst_inv
  rw [hx.strs_inv] at hp
  exact ⟨a, e, hp, p⟩
end

/-- what of the built-ins' names the module leaves as they are, and its constants -/
structure Txt (K : PySem.W.Frag) (mg : Str → Option Value) : Prop where
  len : mg "len" = none
  list : mg "list" = none
  tuple : mg "tuple" = none
  isi : mg "isinstance" = none
  range : mg "range" = none
  enum : mg "enumerate" = none
  rev : mg "reversed" = none
  max : mg "max" = none
  plain : ∃ a, mg "PLAIN" = some (.ref a) ∧ ∀ H, SqT K H a [.str "way", .str "cost", .str "ring", .str "round", .str "must"]
  counted : ∃ a, mg "COUNTED" = some (.ref a) ∧ ∀ H, SqT K H a [.str "flow", .str "apart", .str "bare"]
  letters : ∃ t, mg "LETTERS" = some (.str "abcdefghijklmnopqrstuvwxyz" t)
  longest : ∃ t, mg "LONGEST_NAME" = some (.int 12 t)
  places : ∃ t, mg "MOST_PLACES" = some (.int 20 t)
  ties : ∃ t, mg "MOST_TIES" = some (.int 40 t)

/-- the def st stands at the module's name x -/
def Def (K : PySem.W.Frag) (mg : Str → Option Value) (x : Str) (st : Stmt) (ps : List Str) : Prop := ∃ f fd, mg x = some (.ref f) ∧ Fun K x x st f fd ∧ Binds K fd ps []
/-- the def at the module's name x keeps sp -/
def Cal (P : Program) (w : World) (K : PySem.W.Frag) (mg : Str → Option Value) (base : Heap) (CX : CXT) (x : Str) (k : Nat) (ps : List Str) (sp : Sp) : Prop :=
  ∃ f fd, mg x = some (.ref f) ∧ FnOk P w K mg base CX k f fd ps sp ∧ PySem.W.keepIn K (.ref f) = true ∧ Binds K fd ps []
section
variable {P : Program} {w : World} {K : PySem.W.Frag} {mg : Str → Option Value} {base : Heap}
theorem Cal.mono {CX : CXT} {x : Str} {j k : Nat} {ps : List Str} {sp : Sp} (c : Cal P w K mg base CX x j ps sp) (h : j ≤ k) : Cal P w K mg base CX x k ps sp := by
  obtain ⟨f, fd, a, b, c, d⟩ := c
  exact ⟨f, fd, a, b.mono h, c, d⟩
theorem Cal.imp {CX : CXT} {x : Str} {k : Nat} {ps : List Str} {sp sp' : Sp} (c : Cal P w K mg base CX x k ps sp) (h : ∀ vs H Q E, sp' vs H Q E → sp vs H Q E) : Cal P w K mg base CX x k ps sp' := by
  obtain ⟨f, fd, a, b, c, d⟩ := c
  exact ⟨f, fd, a, b.imp h, c, d⟩
/-- nothing is ever asked -/
theorem Cal.never {CX : CXT} {x : Str} {k : Nat} {ps : List Str} {sp : Sp} {st : Stmt} (D : Def K mg x st ps) (h : ∀ vs H Q E, ¬ sp vs H Q E) : Cal P w K mg base CX x k ps sp := by
  obtain ⟨f, fd, a, F, b⟩ := D
  exact ⟨f, fd, a, ⟨fun vs H Q E q => absurd q (h vs H Q E), fun A outer s H args us vs Q E _ _ _ _ q => absurd q (h vs H Q E)⟩, F.kp, b⟩
/-- a def by its body -/
theorem Def.ok {x : Str} {st : Stmt} {N ps : List Str} {k : Nat} {sp : Sp} (D : Def K mg x st ps) (S : FnScope N ps (defScope st)) (len : ∀ vs H Q E, sp vs H Q E → vs.length = ps.length)
    (hbody : ∀ (f : Addr) (cdv : Value) (A : Around) (outer : List Env) (s : Shared) (H : Hp) (vs : List V) (Q : VK) (E : XK), Room k (A.deeper (PyProof.Rows.envOfC x (defScope st) s.heap.objs.size f cdv)) → sp vs H Q E →
      ∃ t, PSs (cxOf CX0 P w K mg base N x (defScope st) f cdv A outer s H E).nox (defBody st) t ∧ t { nx := fun _ H' => Q .non H', rt := Q } (start N vs) H) : Cal P w K mg base CX0 x (k + 1) ps sp := by
  obtain ⟨f, fd, hm, F, b⟩ := D
  exact ⟨f, fd, hm, F.ok S len (hbody f), F.kp, b⟩
theorem Def.okX {x : Str} {st : Stmt} {N ps : List Str} {k : Nat} {sp : Sp} (D : Def K mg x st ps) (S : FnScope N ps (defScope st)) (len : ∀ vs H Q E, sp vs H Q E → vs.length = ps.length)
    (hbody : ∀ (f : Addr) (cdv : Value) (A : Around) (outer : List Env) (s : Shared) (H : Hp) (vs : List V) (Q : VK) (E : XK), Room k (A.deeper (PyProof.Rows.envOfC x (defScope st) s.heap.objs.size f cdv)) → sp vs H Q E →
      ∃ t, PSs (cxOf (L2.CX P w) P w K mg base N x (defScope st) f cdv A outer s H E) (defBody st) t ∧ t { nx := fun _ H' => Q .non H', rt := Q } (start N vs) H) : Cal P w K mg base (L2.CX P w) x (k + 1) ps sp := by
  obtain ⟨f, fd, hm, F, b⟩ := D
  exact ⟨f, fd, hm, F.okX S len (hbody f), F.kp, b⟩
end

/-! ### names_in_set -/
abbrev sNS : Stmt := top 24
/-- a new list of the texts xs is told, all else stands -/
def RetS (xs : List Str) (H : Hp) (Q : VK) : Prop := ∀ a H', Same H H' → H' a = some (.lst (xs.map V.str)) → Q (.ref a) H'
def spNS : Sp := fun vs H Q _ => ∃ v k, vs = [v] ∧ Dt H v (kD k) ∧ RetS (kN k) H Q
section
variable {P : Program} {w : World} {K : PySem.W.Frag} {mg : Str → Option Value} {base : Heap}
theorem scNS : FnScope ["kind"] ["kind"] (defScope sNS) := ⟨rfl, rfl, rfl, by decide +kernel, rfl, by decide +kernel, by decide +kernel⟩
theorem ok_NS (D : Def K mg "names_in_set" sNS ["kind"]) (T : Txt K mg) : Cal P w K mg base CX0 "names_in_set" 1 ["kind"] spNS := by
  refine D.ok scNS (fun vs H Q E h => ?_) (fun f cdv A outer s H vs Q E hr h => ?_)
  · obtain ⟨v, k, rfl, _⟩ := h
    rfl
  obtain ⟨v, k, rfl, hd, q⟩ := h
  refine ⟨_, pss_cons (ps_if (pt_cmpR op_eq (pe_ix ix_tup (pv 0) pe_int (fun _ _ => rfl)) pe_str (nomark _)) (pss_one (ps_ret (pe_callTy call_list_of (by rfl) T.list (by decide +kernel) (pa_cons (pe_ix ix_tup (pv 0) pe_int (fun _ _ => rfl)) pa_nil)))) pss_nil)
    (pss_one (ps_ret (pe_callTy call_list_of (by rfl) T.list (by decide +kernel) (pa_cons (pe_slice sl_tup (pv 0) (po_some pe_int) po_none) pa_nil)))), ?_⟩
  have cut : ∀ (a : Addr) (x0 : V) (ys : List Str), H a = some (.tup (x0 :: ys.map V.str)) → RetS ys H Q →
      tRet (tCB (fun xs H Q => ∃ p ys, xs = [.ref p] ∧ (SqL K H p ys ∨ SqT K H p ys) ∧ ∀ l, H l = none → Q (.ref l) (upd H l (.lst ys))) (tCons (tSl (rSlT K) (tVar 0) (tPart (tC (.int 1))) tNoPart) tNil)) { nx := fun _ H' => Q .non H', rt := Q } (start ["kind"] [.ref a]) H := fun a x0 ys ha q => by
    refine ⟨_, rfl, _, rfl, a, _, rfl, SqT.of ha, cut1_part (List.cons_ne_nil _ _), fun p hp => ?_⟩
    refine ⟨p, _, rfl, .inr (SqT.of upd_same), fun l hl => ?_⟩
    exact q l _ ((same_new hp _).trans (same_new hl _)) (by rw [upd_same, cut1] <;> rfl)
  cases k with
  | all =>
    obtain ⟨a, v0, rfl, ha, h0⟩ := Dq.t1 hd
    obtain rfl := h0.str_inv
    refine ⟨_, rfl, a, _, _, _, rfl, rfl, SqT.of ha, rfl, rfl, _, rfl, if_bf (by decide +kernel) ?_⟩
    exact cut a _ [] ha q
  | fr x =>
    obtain ⟨a, v0, v1, rfl, ha, h0, h1⟩ := Dq.t2 hd
    obtain rfl := h0.str_inv
    obtain rfl := h1.str_inv
    refine ⟨_, rfl, a, _, _, _, rfl, rfl, SqT.of ha, rfl, rfl, _, rfl, if_bf (by decide +kernel) ?_⟩
    exact cut a _ [x] ha q
  | to x =>
    obtain ⟨a, v0, v1, rfl, ha, h0, h1⟩ := Dq.t2 hd
    obtain rfl := h0.str_inv
    obtain rfl := h1.str_inv
    refine ⟨_, rfl, a, _, _, _, rfl, rfl, SqT.of ha, rfl, rfl, _, rfl, if_bf (by decide +kernel) ?_⟩
    exact cut a _ [x] ha q
  | these xs =>
    obtain ⟨a, v0, v1, rfl, ha, h0, h1⟩ := Dq.t2 hd
    obtain rfl := h0.str_inv
    obtain ⟨b, rfl, hb, _⟩ := h1.lstS
    refine ⟨_, rfl, a, _, _, _, rfl, rfl, SqT.of ha, rfl, rfl, _, rfl, if_bt (by decide +kernel) ?_⟩
    refine ⟨_, rfl, a, _, _, _, rfl, rfl, SqT.of ha, rfl, b, _, rfl, .inl (SqL.of hb), fun l hl => ?_⟩
    exact q l _ (same_new hl _) upd_same
end
end K71
/-! names_in_term, free_names. -/
namespace K71
open PySem L2
theorem fitA_mem : ∀ {ds : List PyData} {d : PyData}, fitA ds = true → d ∈ ds → fit d = true
  | e :: ds, d, h, hd => by
    rw [fitA, Bool.and_eq_true] at h
    rcases List.mem_cons.mp hd with q | q
    · rw [q]; exact h.1
    · exact fitA_mem h.2 q
theorem fit_tup {ds : List PyData} {d : PyData} (h : fit (.tuple ds) = true) (hd : d ∈ ds) : fit d = true := by
  rw [fit, Bool.and_eq_true] at h
  exact fitA_mem h.2 hd
theorem fit_tlen {ds : List PyData} (h : fit (.tuple ds) = true) : ds.length ≤ 500 := by
  rw [fit, Bool.and_eq_true] at h
  exact of_decide_eq_true h.1
theorem fit_i1 {a d : PyData} {r : List PyData} (h : fit (.tuple (a :: d :: r)) = true) : fit d = true := fit_tup h (List.mem_cons_of_mem _ List.mem_cons_self)
theorem fit_i2 {a b d : PyData} {r : List PyData} (h : fit (.tuple (a :: b :: d :: r)) = true) : fit d = true := fit_tup h (List.mem_cons_of_mem _ (List.mem_cons_of_mem _ List.mem_cons_self))
theorem fit_i3 {a b c d : PyData} {r : List PyData} (h : fit (.tuple (a :: b :: c :: d :: r)) = true) : fit d = true := fit_tup h (List.mem_cons_of_mem _ (List.mem_cons_of_mem _ (List.mem_cons_of_mem _ List.mem_cons_self)))
theorem fit_len {xs : List Str} (h : fit (.list (xs.map .str)) = true) : xs.length ≤ 500 := by
  rw [fit, Bool.and_eq_true] at h
  have := of_decide_eq_true h.1
  rw [List.length_map] at this
  exact this
theorem kN_len : ∀ {k : Knd}, fit (kD k) = true → (kN k).length ≤ 500
  | .all, _ => by decide
  | .fr a, _ => by show 1 ≤ 500; decide
  | .to a, _ => by show 1 ≤ 500; decide
  | .these xs, h => fit_len (fit_i1 h)
theorem two_le {a b : Nat} (h : a ≤ b) : 500 * 2 ^ a ≤ 500 * 2 ^ b := Nat.mul_le_mul_left _ (Nat.pow_le_pow_right (by decide) h)
theorem tN_len : ∀ {t : Trm}, fit (tD t) = true → (tN t).length ≤ 500 * 2 ^ tH t
  | .num n, _ => by simp [tN]
  | .size k, h => by
    have q := kN_len (k := k) (fit_i1 h)
    show (kN k).length ≤ 500 * 2 ^ 2
    omega
  | .cnt w a b, _ => by show 2 ≤ 500 * 2 ^ 1; decide
  | .pairs k l, h => by
    have q := kN_len (k := k) (fit_i1 h)
    have r := kN_len (k := l) (fit_i2 h)
    show (kN k ++ kN l).length ≤ 500 * 2 ^ 2
    rw [List.length_append]
    omega
  | .times n t, h => by
    have q := tN_len (t := t) (fit_i2 h)
    exact Nat.le_trans q (two_le (Nat.le_succ _))
  | .two w t u, h => by
    have q := tN_len (t := t) (fit_i1 h)
    have r := tN_len (t := u) (fit_i2 h)
    have q2 := two_le (Nat.le_max_left (tH t) (tH u))
    have r2 := two_le (Nat.le_max_right (tH t) (tH u))
    show (tN t ++ tN u).length ≤ 500 * 2 ^ (max (tH t) (tH u) + 1)
    rw [List.length_append, Nat.pow_succ]
    omega
theorem cN_len : ∀ {c : Clm}, fit (cD c) = true → (cN c).length ≤ 500 * 2 ^ cH c
  | .way a b, _ => by show 2 ≤ 500 * 2 ^ 1; decide
  | .cost a b k, _ => by show 2 ≤ 500 * 2 ^ 1; decide
  | .ring r, _ => by simp [cN]
  | .must a b x, _ => by show 3 ≤ 500 * 2 ^ 1; decide
  | .atmost t u, h => by
    have q := tN_len (t := t) (fit_i1 h)
    have r := tN_len (t := u) (fit_i2 h)
    have q2 := two_le (Nat.le_max_left (tH t) (tH u))
    have r2 := two_le (Nat.le_max_right (tH t) (tH u))
    show (tN t ++ tN u).length ≤ 500 * 2 ^ (max (tH t) (tH u) + 1)
    rw [List.length_append, Nat.pow_succ]
    omega
  | .neg c, h => Nat.le_trans (cN_len (c := c) (fit_i1 h)) (two_le (Nat.le_succ _))
  | .bin r c d, h => by
    have q := cN_len (c := c) (fit_i1 h)
    have r' := cN_len (c := d) (fit_i2 h)
    have q2 := two_le (Nat.le_max_left (cH c) (cH d))
    have r2 := two_le (Nat.le_max_right (cH c) (cH d))
    show (cN c ++ cN d).length ≤ 500 * 2 ^ (max (cH c) (cH d) + 1)
    rw [List.length_append, Nat.pow_succ]
    omega
  | .qua r x k c, h => by
    have q := kN_len (k := k) (fit_i2 h)
    have r' := cN_len (c := c) (fit_i3 h)
    have r2 := two_le (cH_pos c)
    have f := List.length_filter_le (fun y => !decide (y = x)) (cN c)
    show (kN k ++ (cN c).filter (fun y => !decide (y = x))).length ≤ 500 * 2 ^ (cH c + 1)
    rw [List.length_append, Nat.pow_succ]
    omega
theorem n12 {a : Nat} {n : Nat} (h : n ≤ 500 * 2 ^ a) (ha : a ≤ 12) : n ≤ 2048000 := Nat.le_trans h (Nat.le_trans (two_le ha) (by decide))
theorem sum_fits {a b : Nat} (h : a ≤ 2048000) (k : b ≤ 2048000) : a + b ≤ sizeLine := by
  have : (4096000 : Nat) ≤ sizeLine := by decide
  omega

/-! ### names_in_term -/
abbrev sNT : Stmt := top 25
def spNT (n : Nat) : Sp := fun vs H Q _ => ∃ v t, vs = [v] ∧ tH t ≤ n ∧ tH t ≤ 12 ∧ fit (tD t) = true ∧ Dt H v (tD t) ∧ RetS (tN t) H Q
section
variable {P : Program} {w : World} {K : PySem.W.Frag} {mg : Str → Option Value} {base : Heap}
theorem scNT : FnScope ["term", "word"] ["term"] (defScope sNT) := ⟨rfl, rfl, rfl, by decide +kernel, rfl, by decide +kernel, by decide +kernel⟩
theorem len_map_str (xs : List Str) : (xs.map V.str).length = xs.length := List.length_map _
theorem ok_NT1 {n : Nat} (D : Def K mg "names_in_term" sNT ["term"]) (T : Txt K mg) (cS : Cal P w K mg base CX0 "names_in_set" 1 ["kind"] spNS) (cT : Cal P w K mg base CX0 "names_in_term" (n + 2) ["term"] (spNT n)) :
    Cal P w K mg base CX0 "names_in_term" (n + 1 + 2) ["term"] (spNT (n + 1)) := by
  obtain ⟨fS, fdS, mS, FS, kS, bS⟩ := cS
  obtain ⟨fT, fdT, mT, FT, kT, bT⟩ := cT
  obtain ⟨aC, mC, sC⟩ := T.counted
  refine D.ok scNT (fun vs H Q E h => ?_) (fun f cdv A outer s H vs Q E hr h => ?_)
  · obtain ⟨v, k, rfl, _⟩ := h
    rfl
  obtain ⟨v, t, rfl, hn, h12, hf, hd, q⟩ := h
  have hr1 : Room 1 _ := hr.mono (by omega)
  refine ⟨_, pss_cons (ps_set (i := 1) scNT.nd rfl (Or.inl rfl) (pe_ix ix_tup (pv 0) pe_int (fun _ _ => rfl)))
    (pss_cons (ps_if (pt_cmpR op_eq (pv 1) pe_str (nomark _)) (pss_one (ps_ret (pe_lst pa_nil))) pss_nil)
    (pss_cons (ps_if (pt_cmpR op_in_seq (pv 1) (pe_glob (v := .ref aC) (by rfl) mC rfl) rfl) (pss_one (ps_ret (pe_lst (pa_cons (pe_ix ix_tup (pv 0) pe_int (fun _ _ => rfl)) (pa_cons (pe_ix ix_tup (pv 0) pe_int (fun _ _ => rfl)) pa_nil))))) pss_nil)
    (pss_cons (ps_if (pt_cmpR op_eq (pv 1) pe_str (nomark _)) (pss_one (ps_ret (pe_call FS hr1 rfl mS kS bS .nil pass0 (pa_cons (pe_ix ix_tup (pv 0) pe_int (fun _ _ => rfl)) pa_nil)))) pss_nil)
    (pss_cons (ps_if (pt_cmpR op_eq (pv 1) pe_str (nomark _)) (pss_one (ps_ret (pe_op op_cat (pe_call FS hr1 rfl mS kS bS .nil pass0 (pa_cons (pe_ix ix_tup (pv 0) pe_int (fun _ _ => rfl)) pa_nil)) (pe_call FS hr1 rfl mS kS bS .nil pass0 (pa_cons (pe_ix ix_tup (pv 0) pe_int (fun _ _ => rfl)) pa_nil))))) pss_nil)
    (pss_cons (ps_if (pt_cmpR op_eq (pv 1) pe_str (nomark _)) (pss_one (ps_ret (pe_call FT hr rfl mT kT bT .nil pass0 (pa_cons (pe_ix ix_tup (pv 0) pe_int (fun _ _ => rfl)) pa_nil)))) pss_nil)
    (pss_one (ps_ret (pe_op op_cat (pe_call FT hr rfl mT kT bT .nil pass0 (pa_cons (pe_ix ix_tup (pv 0) pe_int (fun _ _ => rfl)) pa_nil)) (pe_call FT hr rfl mT kT bT .nil pass0 (pa_cons (pe_ix ix_tup (pv 0) pe_int (fun _ _ => rfl)) pa_nil)))))))))), ?_⟩
  cases t with
  | num m =>
    obtain ⟨a, v0, v1, rfl, ha, h0, h1⟩ := Dq.t2 hd
    obtain rfl := h0.str_inv
    refine ⟨_, rfl, a, _, _, _, rfl, rfl, SqT.of ha, rfl, ?_⟩
    refine ⟨_, rfl, rfl, _, rfl, if_bt (by decide +kernel) ?_⟩
    refine ⟨Nat.zero_le _, fun l hl => ?_⟩
    exact q l _ (same_new hl _) upd_same
  | cnt c x y =>
    obtain ⟨a, v0, v1, v2, rfl, ha, h0, h1, h2⟩ := Dq.t3 hd
    obtain rfl := h0.str_inv
    obtain rfl := h1.str_inv
    obtain rfl := h2.str_inv
    refine ⟨_, rfl, a, _, _, _, rfl, rfl, SqT.of ha, rfl, ?_⟩
    refine ⟨_, rfl, rfl, _, rfl, if_bf (by cases c <;> decide +kernel) ?_⟩
    refine ⟨_, rfl, aC, _, rfl, .inr (sC _), rfl, rfl, _, rfl, if_bt (by cases c <;> decide +kernel) ?_⟩
    refine ⟨_, rfl, a, _, _, _, rfl, rfl, SqT.of ha, rfl, _, rfl, a, _, _, _, rfl, rfl, SqT.of ha, rfl, (by show 2 ≤ sizeLine; decide), fun l hl => ?_⟩
    exact q l _ (same_new hl _) upd_same
  | size k =>
    obtain ⟨a, v0, v1, rfl, ha, h0, h1⟩ := Dq.t2 hd
    obtain rfl := h0.str_inv
    refine ⟨_, rfl, a, _, _, _, rfl, rfl, SqT.of ha, rfl, ?_⟩
    refine ⟨_, rfl, rfl, _, rfl, if_bf (by decide +kernel) ?_⟩
    refine ⟨_, rfl, aC, _, rfl, .inr (sC _), rfl, rfl, _, rfl, if_bf (by decide +kernel) ?_⟩
    refine ⟨_, rfl, rfl, _, rfl, if_bt (by decide +kernel) ?_⟩
    refine ⟨_, rfl, a, _, _, _, rfl, rfl, SqT.of ha, rfl, ?_⟩
    exact ⟨_, k, rfl, h1, q⟩
  | pairs k l =>
    obtain ⟨a, v0, v1, v2, rfl, ha, h0, h1, h2⟩ := Dq.t3 hd
    obtain rfl := h0.str_inv
    refine ⟨_, rfl, a, _, _, _, rfl, rfl, SqT.of ha, rfl, ?_⟩
    refine ⟨_, rfl, rfl, _, rfl, if_bf (by decide +kernel) ?_⟩
    refine ⟨_, rfl, aC, _, rfl, .inr (sC _), rfl, rfl, _, rfl, if_bf (by decide +kernel) ?_⟩
    refine ⟨_, rfl, rfl, _, rfl, if_bf (by decide +kernel) ?_⟩
    refine ⟨_, rfl, rfl, _, rfl, if_bt (by decide +kernel) ?_⟩
    refine ⟨_, rfl, a, _, _, _, rfl, rfl, SqT.of ha, rfl, ?_⟩
    refine ⟨_, k, rfl, h1, fun p H1 g1 e1 => ?_⟩
    refine ⟨_, rfl, a, _, _, _, rfl, rfl, SqT.of (g1 _ _ ha), rfl, ?_⟩
    refine ⟨_, l, rfl, h2.same g1, fun p2 H2 g2 e2 => ?_⟩
    refine ⟨p, p2, _, _, rfl, rfl, g2 _ _ e1, e2, ?_, fun r hr => ?_⟩
    · rw [len_map_str, len_map_str]
      have := kN_len (k := k) (fit_i1 hf)
      have := kN_len (k := l) (fit_i2 hf)
      exact sum_fits (by omega) (by omega)
    · exact q r _ (g1.trans (g2.trans (same_new hr _))) (by rw [upd_same, ← List.map_append] <;> rfl)
  | times m t =>
    obtain ⟨a, v0, v1, v2, rfl, ha, h0, h1, h2⟩ := Dq.t3 hd
    obtain rfl := h0.str_inv
    refine ⟨_, rfl, a, _, _, _, rfl, rfl, SqT.of ha, rfl, ?_⟩
    refine ⟨_, rfl, rfl, _, rfl, if_bf (by decide +kernel) ?_⟩
    refine ⟨_, rfl, aC, _, rfl, .inr (sC _), rfl, rfl, _, rfl, if_bf (by decide +kernel) ?_⟩
    refine ⟨_, rfl, rfl, _, rfl, if_bf (by decide +kernel) ?_⟩
    refine ⟨_, rfl, rfl, _, rfl, if_bf (by decide +kernel) ?_⟩
    refine ⟨_, rfl, rfl, _, rfl, if_bt (by decide +kernel) ?_⟩
    refine ⟨_, rfl, a, _, _, _, rfl, rfl, SqT.of ha, rfl, ?_⟩
    simp only [tH] at hn h12
    exact ⟨_, t, rfl, by omega, by omega, fit_i2 hf, h2, q⟩
  | two c t u =>
    obtain ⟨a, v0, v1, v2, rfl, ha, h0, h1, h2⟩ := Dq.t3 hd
    obtain rfl := h0.str_inv
    refine ⟨_, rfl, a, _, _, _, rfl, rfl, SqT.of ha, rfl, ?_⟩
    refine ⟨_, rfl, rfl, _, rfl, if_bf (by cases c <;> decide +kernel) ?_⟩
    refine ⟨_, rfl, aC, _, rfl, .inr (sC _), rfl, rfl, _, rfl, if_bf (by cases c <;> decide +kernel) ?_⟩
    refine ⟨_, rfl, rfl, _, rfl, if_bf (by cases c <;> decide +kernel) ?_⟩
    refine ⟨_, rfl, rfl, _, rfl, if_bf (by cases c <;> decide +kernel) ?_⟩
    refine ⟨_, rfl, rfl, _, rfl, if_bf (by cases c <;> decide +kernel) ?_⟩
    simp only [tH] at hn h12
    refine ⟨_, rfl, a, _, _, _, rfl, rfl, SqT.of ha, rfl, ?_⟩
    refine ⟨_, t, rfl, by omega, by omega, fit_i1 hf, h1, fun p H1 g1 e1 => ?_⟩
    refine ⟨_, rfl, a, _, _, _, rfl, rfl, SqT.of (g1 _ _ ha), rfl, ?_⟩
    refine ⟨_, u, rfl, by omega, by omega, fit_i2 hf, h2.same g1, fun p2 H2 g2 e2 => ?_⟩
    refine ⟨p, p2, _, _, rfl, rfl, g2 _ _ e1, e2, ?_, fun r hr => ?_⟩
    · rw [len_map_str, len_map_str]
      exact sum_fits (n12 (tN_len (t := t) (fit_i1 hf)) (by omega)) (n12 (tN_len (t := u) (fit_i2 hf)) (by omega))
    · exact q r _ (g1.trans (g2.trans (same_new hr _))) (by rw [upd_same, ← List.map_append] <;> rfl)
theorem ok_NT (D : Def K mg "names_in_term" sNT ["term"]) (T : Txt K mg) (cS : Cal P w K mg base CX0 "names_in_set" 1 ["kind"] spNS) : ∀ n, Cal P w K mg base CX0 "names_in_term" (n + 2) ["term"] (spNT n)
  | 0 => Cal.never D fun vs H Q E h => by
    obtain ⟨v, t, _, h0, _⟩ := h
    have := tH_pos t
    omega
  | n + 1 => ok_NT1 D T cS (ok_NT D T cS n)
end
end K71
/-! Comprehensions over texts; free_names. -/
namespace K71
open PySem L2
theorem take_more {α : Type} : ∀ {l : List α} {i : Nat} {x : α}, l[i]? = some x → l.take (i + 1) = l.take i ++ [x]
  | [], i, x, h => by simp at h
  | a :: l, 0, x, h => by
    have e : a = x := Option.some.inj h
    subst e
    rfl
  | a :: l, i + 1, x, h => by
    have ih := take_more (l := l) (i := i) (x := x) h
    show a :: l.take (i + 1) = a :: l.take i ++ [x]
    rw [ih] <;> rfl
theorem map_at {α β : Type} {f : α → β} {xs : List α} {i : Nat} {y : β} (h : (xs.map f)[i]? = some y) : ∃ x, xs[i]? = some x ∧ y = f x := by
  rw [List.getElem?_map] at h
  cases e : xs[i]? with
  | none => rw [e] at h; cases h
  | some x => rw [e] at h; exact ⟨x, rfl, (Option.some.inj h).symm⟩
/-- the texts that pass f among xs, each turned by m -/
def pick (f : Str → Bool) (m : Str → Str) (xs : List Str) : List Str := (xs.filter f).map m
theorem pick_yes {f : Str → Bool} {m : Str → Str} {xs : List Str} {i : Nat} {y : Str} (h : xs[i]? = some y) (hf : f y = true) : pick f m (xs.take (i + 1)) = pick f m (xs.take i) ++ [m y] := by
  unfold pick
  rw [take_more h, List.filter_append, List.map_append, List.filter_cons, if_pos hf] <;> rfl
theorem pick_no {f : Str → Bool} {m : Str → Str} {xs : List Str} {i : Nat} {y : Str} (h : xs[i]? = some y) (hf : f y = false) : pick f m (xs.take (i + 1)) = pick f m (xs.take i) := by
  unfold pick
  rw [take_more h, List.filter_append, List.map_append, List.filter_cons, hf, if_neg Bool.false_ne_true]
  show _ ++ [] = _
  rw [List.append_nil]
theorem pick_len (f : Str → Bool) (m : Str → Str) (xs : List Str) : (pick f m xs).length ≤ xs.length := by
  unfold pick
  rw [List.length_map]
  exact List.length_filter_le f xs
theorem pick_take_len (f : Str → Bool) (m : Str → Str) (xs : List Str) (i : Nat) : (pick f m (xs.take i)).length ≤ xs.length := Nat.le_trans (pick_len f m _) (by rw [List.length_take]; omega)
theorem pick_all (m : Str → Str) (xs : List Str) : pick (fun _ => true) m xs = xs.map m := by
  unfold pick
  rw [List.filter_eq_self.mpr fun _ _ => rfl]
theorem pick_id (f : Str → Bool) (xs : List Str) : pick f id xs = xs.filter f := by
  unfold pick
  rw [List.map_id]
theorem big_ok {n : Nat} (h : n ≤ 5000000) : n < sizeLine := Nat.lt_of_le_of_lt h (by decide)
section
variable {K : PySem.W.Frag} {p D : Addr} {xs : List Str} {H1 : Hp} {tt : TT} {te : TE} {vs : List Nat} {σ : L2.St} {Qd : Hp → Prop} {j : Nat}
theorem lc_turn (f : Str → Bool) (m : Str → Str) (hD : H1 D = none) (hz : xs.length ≤ 5000000) (hw : ∀ x, wipe ((wipe σ vs).set j x) vs = wipe σ vs)
    (ht : ∀ y H' (Q : Bool → Hp → Prop), y ∈ xs → Same H1 H' → Q (f y) H' → tt ((wipe σ vs).set j (some (.str y))) H' Q)
    (he : ∀ y H' (Q : VK), y ∈ xs → Same H1 H' → f y = true → (∀ H2, Same H' H2 → Q (.str (m y)) H2) → te ((wipe σ vs).set j (some (.str y))) H' Q)
    (i : Nat) (x : V) (H : Hp) (hi : (xs.map V.str)[i]? = some x) (pv : Same H1 H ∧ H D = some (.lst ((pick f m (xs.take i)).map V.str))) :
    gName j x (wipe σ vs) H fun σ2 H2 => wipe σ2 vs = wipe σ vs ∧ tt σ2 H2 fun b H3 =>
      if b = true then te σ2 H3 fun y H4 => ∃ acc, H4 D = some (.lst acc) ∧ acc.length < sizeLine ∧ (Same H1 (upd H4 D (.lst (acc ++ [y]))) ∧ (upd H4 D (.lst (acc ++ [y]))) D = some (.lst ((pick f m (xs.take (i + 1))).map V.str)))
      else (Same H1 H3 ∧ H3 D = some (.lst ((pick f m (xs.take (i + 1))).map V.str))) := by
  obtain ⟨y, hy, rfl⟩ := map_at hi
  have hm : y ∈ xs := List.mem_of_getElem? hy
  obtain ⟨s1, e1⟩ := pv
  refine ⟨hw _, ht y H _ hm s1 ?_⟩
  cases hf : f y with
  | true =>
    refine if_bt rfl (he y H _ hm s1 hf fun H2 s2 => ⟨_, s2 _ _ e1, ?_, ?_, ?_⟩)
    · rw [len_map_str]
      exact big_ok (Nat.le_trans (pick_take_len f m xs i) hz)
    · intro b o q
      rw [upd_ne (ne_of_none q hD)]
      exact s2 _ _ (s1 _ _ q)
    · rw [upd_same, pick_yes hy hf, List.map_append] <;> rfl
  | false =>
    refine if_bf rfl ⟨s1, ?_⟩
    rw [pick_no hy hf]
    exact e1
/-- a comprehension over a list of texts -/
theorem lc_strs (f : Str → Bool) (m : Str → Str) (e1 : H1 p = some (.lst (xs.map V.str))) (hD : H1 D = none) (hz : xs.length ≤ 5000000) (hw : ∀ x, wipe ((wipe σ vs).set j x) vs = wipe σ vs)
    (ht : ∀ y H' (Q : Bool → Hp → Prop), y ∈ xs → Same H1 H' → Q (f y) H' → tt ((wipe σ vs).set j (some (.str y))) H' Q)
    (he : ∀ y H' (Q : VK), y ∈ xs → Same H1 H' → f y = true → (∀ H2, Same H' H2 → Q (.str (m y)) H2) → te ((wipe σ vs).set j (some (.str y))) H' Q)
    (hd : ∀ H', Same H1 H' → H' D = some (.lst ((pick f m xs).map V.str)) → Qd H') :
    ∃ W : Nat → Nat → Hp → Prop, (∃ m, W 0 m (upd H1 D (.lst []))) ∧ ∀ i m H, W i m H →
      ((Itl K p).stop i H ∧ Qd H) ∨ ((Itl K p).go i H ∧ ∃ Nx : Hp → Prop, (∀ H', Nx H' → ∃ m', m' < m ∧ W (i + 1) m' H') ∧ ∀ x H', (Itl K p).yld i H x H' → gName j x (wipe σ vs) H' fun σ2 H2 => wipe σ2 vs = wipe σ vs ∧ tt σ2 H2 fun b H3 =>
        if b = true then te σ2 H3 fun y H4 => ∃ acc, H4 D = some (.lst acc) ∧ acc.length < sizeLine ∧ Nx (upd H4 D (.lst (acc ++ [y]))) else Nx H3) := by
  refine lc_list (K := K) (a := p) (xs := xs.map V.str) (fun i H => Same H1 H ∧ H D = some (.lst ((pick f m (xs.take i)).map V.str))) ⟨same_new hD _, upd_same⟩ (fun i H _ pv => SqL.of (pv.1 _ _ e1)) (fun i x H hi pv => lc_turn f m hD hz hw ht he i x H hi pv) fun H pv => hd H pv.1 ?_
  have e := pv.2
  rw [len_map_str, List.take_length] at e
  exact e
/-- .. over a tuple of texts -/
theorem lc_strsT (f : Str → Bool) (m : Str → Str) (e1 : H1 p = some (.tup (xs.map V.str))) (hD : H1 D = none) (hz : xs.length ≤ 5000000) (hw : ∀ x, wipe ((wipe σ vs).set j x) vs = wipe σ vs)
    (ht : ∀ y H' (Q : Bool → Hp → Prop), y ∈ xs → Same H1 H' → Q (f y) H' → tt ((wipe σ vs).set j (some (.str y))) H' Q)
    (he : ∀ y H' (Q : VK), y ∈ xs → Same H1 H' → f y = true → (∀ H2, Same H' H2 → Q (.str (m y)) H2) → te ((wipe σ vs).set j (some (.str y))) H' Q)
    (hd : ∀ H', Same H1 H' → H' D = some (.lst ((pick f m xs).map V.str)) → Qd H') :
    ∃ W : Nat → Nat → Hp → Prop, (∃ m, W 0 m (upd H1 D (.lst []))) ∧ ∀ i m H, W i m H →
      ((Itt K p).stop i H ∧ Qd H) ∨ ((Itt K p).go i H ∧ ∃ Nx : Hp → Prop, (∀ H', Nx H' → ∃ m', m' < m ∧ W (i + 1) m' H') ∧ ∀ x H', (Itt K p).yld i H x H' → gName j x (wipe σ vs) H' fun σ2 H2 => wipe σ2 vs = wipe σ vs ∧ tt σ2 H2 fun b H3 =>
        if b = true then te σ2 H3 fun y H4 => ∃ acc, H4 D = some (.lst acc) ∧ acc.length < sizeLine ∧ Nx (upd H4 D (.lst (acc ++ [y]))) else Nx H3) := by
  refine lc_tup (K := K) (a := p) (xs := xs.map V.str) (fun i H => Same H1 H ∧ H D = some (.lst ((pick f m (xs.take i)).map V.str))) ⟨same_new hD _, upd_same⟩ (fun i H _ pv => SqT.of (pv.1 _ _ e1)) (fun i x H hi pv => lc_turn f m hD hz hw ht he i x H hi pv) fun H pv => hd H pv.1 ?_
  have e := pv.2
  rw [len_map_str, List.take_length] at e
  exact e
end

/-! ### free_names -/
abbrev sFN : Stmt := top 26
def spFN (n : Nat) : Sp := fun vs H Q _ => ∃ v c, vs = [v] ∧ cH c ≤ n ∧ cH c ≤ 12 ∧ fit (cD c) = true ∧ Dt H v (cD c) ∧ RetS (cN c) H Q
section
variable {P : Program} {w : World} {K : PySem.W.Frag} {mg : Str → Option Value} {base : Heap}
theorem scFN : FnScope ["claim", "word", "name"] ["claim"] (defScope sFN) := ⟨rfl, rfl, rfl, by decide +kernel, rfl, by decide +kernel, by decide +kernel⟩
theorem ok_FN1 {n : Nat} (D : Def K mg "free_names" sFN ["claim"]) (T : Txt K mg) (cS : Cal P w K mg base CX0 "names_in_set" 1 ["kind"] spNS) (cT : Cal P w K mg base CX0 "names_in_term" 14 ["term"] (spNT 12))
    (cF : Cal P w K mg base CX0 "free_names" (n + 15) ["claim"] (spFN n)) : Cal P w K mg base CX0 "free_names" (n + 1 + 15) ["claim"] (spFN (n + 1)) := by
  obtain ⟨fS, fdS, mS, FS, kS, bS⟩ := cS
  obtain ⟨fT, fdT, mT, FT, kT, bT⟩ := cT
  obtain ⟨fF, fdF, mF, FF, kF, bF⟩ := cF
  obtain ⟨aC, mC, sC⟩ := T.plain
  refine D.ok scFN (fun vs H Q E h => ?_) (fun f cdv A outer s H vs Q E hr h => ?_)
  · obtain ⟨v, k, rfl, _⟩ := h
    rfl
  obtain ⟨v, c, rfl, hn, h12, hf, hd, q⟩ := h
  have hr1 : Room 1 _ := hr.mono (by omega)
  have hr2 : Room 14 _ := hr.mono (by omega)
  refine ⟨_, pss_cons (ps_set (i := 1) scFN.nd rfl (Or.inl rfl) (pe_ix ix_tup (pv 0) pe_int (fun _ _ => rfl)))
    (pss_cons (ps_if (pt_cmpR op_eq (pv 1) pe_str (nomark _)) (pss_one (ps_ret (pe_lst (pa_cons (pe_ix ix_tup (pv 0) pe_int (fun _ _ => rfl)) (pa_cons (pe_ix ix_tup (pv 0) pe_int (fun _ _ => rfl)) pa_nil))))) pss_nil)
    (pss_cons (ps_if (pt_cmpR op_in_seq (pv 1) (pe_glob (v := .ref aC) (by rfl) mC rfl) rfl) (pss_one (ps_ret (pe_callTy call_list_of (by rfl) T.list (by decide +kernel) (pa_cons (pe_slice sl_tup (pv 0) (po_some pe_int) po_none) pa_nil)))) pss_nil)
    (pss_cons (ps_if (pt_cmpR op_eq (pv 1) pe_str (nomark _)) (pss_one (ps_ret (pe_op op_cat (pe_call FT hr2 rfl mT kT bT .nil pass0 (pa_cons (pe_ix ix_tup (pv 0) pe_int (fun _ _ => rfl)) pa_nil)) (pe_call FT hr2 rfl mT kT bT .nil pass0 (pa_cons (pe_ix ix_tup (pv 0) pe_int (fun _ _ => rfl)) pa_nil))))) pss_nil)
    (pss_cons (ps_if (pt_cmpR op_eq (pv 1) pe_str (nomark _)) (pss_one (ps_ret (pe_call FF hr rfl mF kF bF .nil pass0 (pa_cons (pe_ix ix_tup (pv 0) pe_int (fun _ _ => rfl)) pa_nil)))) pss_nil)
    (pss_cons (ps_if (PW.pt (pw_or (pt_cmpR op_eq (pv 1) pe_str (nomark _)) (pw_or1 (pt_cmpR op_eq (pv 1) pe_str (nomark _))))) (pss_one (ps_ret (pe_op op_cat (pe_call FF hr rfl mF kF bF .nil pass0 (pa_cons (pe_ix ix_tup (pv 0) pe_int (fun _ _ => rfl)) pa_nil)) (pe_call FF hr rfl mF kF bF .nil pass0 (pa_cons (pe_ix ix_tup (pv 0) pe_int (fun _ _ => rfl)) pa_nil))))) pss_nil)
    (pss_one (ps_ret (pe_op op_cat (pe_call FS hr1 rfl mS kS bS .nil pass0 (pa_cons (pe_ix ix_tup (pv 0) pe_int (fun _ _ => rfl)) pa_nil))
      (pe_lc (own := [("name", 2)]) (g := gName 2) (tt := tTest (tOp rNe (tVar 2) (tOp (rIxT K) (tVar 0) (tC (.int 1))))) rfl scFN.nd (pi_list (pe_call FF hr rfl mF kF bF .nil pass0 (pa_cons (pe_ix ix_tup (pv 0) pe_int (fun _ _ => rfl)) pa_nil))) (blkOk_by (N := ["claim", "word", "name"]) (sc := defScope sFN) (by decide +kernel))
        (fun _ _ _ _ _ => pg_name (i := 2) scFN.nd rfl (Or.inl rfl)) (fun _ _ _ _ _ => pts_one (pt_cmpR op_ne (pv 2) (pe_ix ix_tup (pv 0) pe_int (fun _ _ => rfl)) (nomark _))) (fun _ _ _ _ _ => pv 2)))))))))), ?_⟩
  have cut : ∀ (a : Addr) (x0 : V) (ys : List Str) (r1 r2 : Option V), H a = some (.tup (x0 :: ys.map V.str)) → RetS ys H Q →
      tRet (tCB (fun xs H Q => ∃ p ys, xs = [.ref p] ∧ (SqL K H p ys ∨ SqT K H p ys) ∧ ∀ l, H l = none → Q (.ref l) (upd H l (.lst ys))) (tCons (tSl (rSlT K) (tVar 0) (tPart (tC (.int 1))) tNoPart) tNil)) { nx := fun _ H' => Q .non H', rt := Q } [some (.ref a), r1, r2] H := fun a x0 ys r1 r2 ha q => by
    refine ⟨_, rfl, _, rfl, a, _, rfl, SqT.of ha, cut1_part (List.cons_ne_nil _ _), fun p hp => ?_⟩
    refine ⟨p, _, rfl, .inr (SqT.of upd_same), fun l hl => ?_⟩
    exact q l _ ((same_new hp _).trans (same_new hl _)) (by rw [upd_same, cut1] <;> rfl)
  cases c with
  | cost x y k =>
    obtain ⟨a, v0, v1, v2, v3, rfl, ha, h0, h1, h2, h3⟩ := Dq.t4 hd
    obtain rfl := h0.str_inv
    obtain rfl := h1.str_inv
    obtain rfl := h2.str_inv
    refine ⟨_, rfl, a, _, _, _, rfl, rfl, SqT.of ha, rfl, ?_⟩
    refine ⟨_, rfl, rfl, _, rfl, if_bt (by decide +kernel) ?_⟩
    refine ⟨_, rfl, a, _, _, _, rfl, rfl, SqT.of ha, rfl, _, rfl, a, _, _, _, rfl, rfl, SqT.of ha, rfl, (by show 2 ≤ sizeLine; decide), fun l hl => ?_⟩
    exact q l _ (same_new hl _) upd_same
  | way x y =>
    obtain ⟨a, v0, v1, v2, rfl, ha, h0, h1, h2⟩ := Dq.t3 hd
    obtain rfl := h0.str_inv
    obtain rfl := h1.str_inv
    obtain rfl := h2.str_inv
    refine ⟨_, rfl, a, _, _, _, rfl, rfl, SqT.of ha, rfl, ?_⟩
    refine ⟨_, rfl, rfl, _, rfl, if_bf (by decide +kernel) ?_⟩
    refine ⟨_, rfl, aC, _, rfl, .inr (sC _), rfl, rfl, _, rfl, if_bt (by decide +kernel) ?_⟩
    exact cut a _ [x, y] _ _ ha q
  | ring r =>
    obtain ⟨a, v0, rfl, ha, h0⟩ := Dq.t1 hd
    obtain rfl := h0.str_inv
    refine ⟨_, rfl, a, _, _, _, rfl, rfl, SqT.of ha, rfl, ?_⟩
    refine ⟨_, rfl, rfl, _, rfl, if_bf (by cases r <;> decide +kernel) ?_⟩
    refine ⟨_, rfl, aC, _, rfl, .inr (sC _), rfl, rfl, _, rfl, if_bt (by cases r <;> decide +kernel) ?_⟩
    exact cut a _ [] _ _ ha q
  | must x y z =>
    obtain ⟨a, v0, v1, v2, v3, rfl, ha, h0, h1, h2, h3⟩ := Dq.t4 hd
    obtain rfl := h0.str_inv
    obtain rfl := h1.str_inv
    obtain rfl := h2.str_inv
    obtain rfl := h3.str_inv
    refine ⟨_, rfl, a, _, _, _, rfl, rfl, SqT.of ha, rfl, ?_⟩
    refine ⟨_, rfl, rfl, _, rfl, if_bf (by decide +kernel) ?_⟩
    refine ⟨_, rfl, aC, _, rfl, .inr (sC _), rfl, rfl, _, rfl, if_bt (by decide +kernel) ?_⟩
    exact cut a _ [x, y, z] _ _ ha q
  | atmost t u =>
    obtain ⟨a, v0, v1, v2, rfl, ha, h0, h1, h2⟩ := Dq.t3 hd
    obtain rfl := h0.str_inv
    simp only [cH] at hn h12
    refine ⟨_, rfl, a, _, _, _, rfl, rfl, SqT.of ha, rfl, ?_⟩
    refine ⟨_, rfl, rfl, _, rfl, if_bf (by decide +kernel) ?_⟩
    refine ⟨_, rfl, aC, _, rfl, .inr (sC _), rfl, rfl, _, rfl, if_bf (by decide +kernel) ?_⟩
    refine ⟨_, rfl, rfl, _, rfl, if_bt (by decide +kernel) ?_⟩
    refine ⟨_, rfl, a, _, _, _, rfl, rfl, SqT.of ha, rfl, ?_⟩
    refine ⟨_, t, rfl, by omega, by omega, fit_i1 hf, h1, fun p H1 g1 e1 => ?_⟩
    refine ⟨_, rfl, a, _, _, _, rfl, rfl, SqT.of (g1 _ _ ha), rfl, ?_⟩
    refine ⟨_, u, rfl, by omega, by omega, fit_i2 hf, h2.same g1, fun p2 H2 g2 e2 => ?_⟩
    refine ⟨p, p2, _, _, rfl, rfl, g2 _ _ e1, e2, ?_, fun r hr => ?_⟩
    · rw [len_map_str, len_map_str]
      exact sum_fits (n12 (tN_len (t := t) (fit_i1 hf)) (by omega)) (n12 (tN_len (t := u) (fit_i2 hf)) (by omega))
    · exact q r _ (g1.trans (g2.trans (same_new hr _))) (by rw [upd_same, ← List.map_append] <;> rfl)
  | neg c =>
    obtain ⟨a, v0, v1, rfl, ha, h0, h1⟩ := Dq.t2 hd
    obtain rfl := h0.str_inv
    simp only [cH] at hn h12
    refine ⟨_, rfl, a, _, _, _, rfl, rfl, SqT.of ha, rfl, ?_⟩
    refine ⟨_, rfl, rfl, _, rfl, if_bf (by decide +kernel) ?_⟩
    refine ⟨_, rfl, aC, _, rfl, .inr (sC _), rfl, rfl, _, rfl, if_bf (by decide +kernel) ?_⟩
    refine ⟨_, rfl, rfl, _, rfl, if_bf (by decide +kernel) ?_⟩
    refine ⟨_, rfl, rfl, _, rfl, if_bt (by decide +kernel) ?_⟩
    refine ⟨_, rfl, a, _, _, _, rfl, rfl, SqT.of ha, rfl, ?_⟩
    exact ⟨_, c, rfl, by omega, by omega, fit_i1 hf, h1, q⟩
  | bin r c d =>
    obtain ⟨a, v0, v1, v2, rfl, ha, h0, h1, h2⟩ := Dq.t3 hd
    obtain rfl := h0.str_inv
    simp only [cH] at hn h12
    refine ⟨_, rfl, a, _, _, _, rfl, rfl, SqT.of ha, rfl, ?_⟩
    refine ⟨_, rfl, rfl, _, rfl, if_bf (by cases r <;> decide +kernel) ?_⟩
    refine ⟨_, rfl, aC, _, rfl, .inr (sC _), rfl, rfl, _, rfl, if_bf (by cases r <;> decide +kernel) ?_⟩
    refine ⟨_, rfl, rfl, _, rfl, if_bf (by cases r <;> decide +kernel) ?_⟩
    refine ⟨_, rfl, rfl, _, rfl, if_bf (by cases r <;> decide +kernel) ?_⟩
    have go : tRet (tOp rCat (tCall (spFN n) [] E0 (tCons (tOp (rIxT K) (tVar 0) (tC (.int 1))) tNil)) (tCall (spFN n) [] E0 (tCons (tOp (rIxT K) (tVar 0) (tC (.int 2))) tNil))) { nx := fun _ H' => Q .non H', rt := Q } [some (.ref a), some (.str (binW r)), none] H := by
      refine ⟨_, rfl, a, _, _, _, rfl, rfl, SqT.of ha, rfl, ?_⟩
      refine ⟨_, c, rfl, by omega, by omega, fit_i1 hf, h1, fun p H1 g1 e1 => ?_⟩
      refine ⟨_, rfl, a, _, _, _, rfl, rfl, SqT.of (g1 _ _ ha), rfl, ?_⟩
      refine ⟨_, d, rfl, by omega, by omega, fit_i2 hf, h2.same g1, fun p2 H2 g2 e2 => ?_⟩
      refine ⟨p, p2, _, _, rfl, rfl, g2 _ _ e1, e2, ?_, fun r hr => ?_⟩
      · rw [len_map_str, len_map_str]
        exact sum_fits (n12 (cN_len (c := c) (fit_i1 hf)) (by omega)) (n12 (cN_len (c := d) (fit_i2 hf)) (by omega))
      · exact q r _ (g1.trans (g2.trans (same_new hr _))) (by rw [upd_same, ← List.map_append] <;> rfl)
    cases r with
    | true => exact ⟨_, rfl, rfl, _, rfl, if_bt (by decide +kernel) (if_bt rfl go)⟩
    | false => exact ⟨_, rfl, rfl, _, rfl, if_bf (by decide +kernel) ⟨_, rfl, rfl, _, rfl, if_bt (by decide +kernel) go⟩⟩
  | qua r x k c =>
    obtain ⟨a, v0, v1, v2, v3, rfl, ha, h0, h1, h2, h3⟩ := Dq.t4 hd
    obtain rfl := h0.str_inv
    obtain rfl := h1.str_inv
    simp only [cH] at hn h12
    refine ⟨_, rfl, a, _, _, _, rfl, rfl, SqT.of ha, rfl, ?_⟩
    refine ⟨_, rfl, rfl, _, rfl, if_bf (by cases r <;> decide +kernel) ?_⟩
    refine ⟨_, rfl, aC, _, rfl, .inr (sC _), rfl, rfl, _, rfl, if_bf (by cases r <;> decide +kernel) ?_⟩
    refine ⟨_, rfl, rfl, _, rfl, if_bf (by cases r <;> decide +kernel) ?_⟩
    refine ⟨_, rfl, rfl, _, rfl, if_bf (by cases r <;> decide +kernel) ?_⟩
    refine ⟨_, rfl, rfl, _, rfl, if_bf (by cases r <;> decide +kernel) ⟨_, rfl, rfl, _, rfl, if_bf (by cases r <;> decide +kernel) ?_⟩⟩
    refine ⟨_, rfl, a, _, _, _, rfl, rfl, SqT.of ha, rfl, ?_⟩
    refine ⟨_, k, rfl, h2, fun p H1 g1 e1 => ?_⟩
    refine ⟨_, rfl, a, _, _, _, rfl, rfl, SqT.of (g1 _ _ ha), rfl, ?_⟩
    refine ⟨_, c, rfl, by omega, by omega, fit_i3 hf, h3.same g1, fun p2 H2 g2 e2 => ?_⟩
    have l2 := n12 (cN_len (c := c) (fit_i3 hf)) (by omega)
    refine ⟨p2, rfl, ⟨_, SqL.of e2⟩, fun Dl hDl => lc_strs (fun y => !decide (y = x)) id e2 hDl (by omega) (fun _ => rfl) (fun y H' Q' _ s' q' => ?_) (fun y H' Q' _ s' _ q' => ?_) fun H' s' e' => ?_⟩
    · refine ⟨_, rfl, _, rfl, a, _, _, _, rfl, rfl, SqT.of (s' _ _ (g2 _ _ (g1 _ _ ha))), rfl, rfl, _, rfl, ?_⟩
      have e3 : (!decide (V.str y = V.str x)) = !decide (y = x) := by
        by_cases e : y = x
        · rw [e] <;> simp
        · simp [e]
      rw [e3]
      exact q'
    · exact ⟨_, rfl, q' H' (Same.refl _)⟩
    · rw [pick_id] at e'
      refine ⟨p, Dl, _, _, rfl, rfl, s' _ _ (g2 _ _ e1), e', ?_, fun r hr => ?_⟩
      · rw [len_map_str, len_map_str]
        have := kN_len (k := k) (fit_i2 hf)
        have := List.length_filter_le (fun y => !decide (y = x)) (cN c)
        exact sum_fits (by omega) (by omega)
      · exact q r _ (g1.trans (g2.trans (s'.trans (same_new hr _)))) (by rw [upd_same, ← List.map_append] <;> rfl)
theorem ok_FN (D : Def K mg "free_names" sFN ["claim"]) (T : Txt K mg) (cS : Cal P w K mg base CX0 "names_in_set" 1 ["kind"] spNS) (cT : Cal P w K mg base CX0 "names_in_term" 14 ["term"] (spNT 12)) : ∀ n, Cal P w K mg base CX0 "free_names" (n + 15) ["claim"] (spFN n)
  | 0 => Cal.never D fun vs H Q E h => by
    obtain ⟨v, t, _, h0, _⟩ := h
    have := cH_pos t
    omega
  | n + 1 => ok_FN1 D T cS cT (ok_FN D T cS cT n)
end
end K71
/-! put_name, put_in_set, kept_claim, put_in_term, put_in. -/
namespace K71
open PySem L2
/-- the data d is told, its lists new, all else stands -/
def RetD (d : PyData) (H : Hp) (Q : VK) : Prop := ∀ v H', Same H H' → Dq H' (fun a => H a = none) v d → Q v H'
theorem new_imp {H H1 H2 : Hp} {v : V} {d : PyData} (g : Same H H1) (h : Dq H2 (fun a => H1 a = none) v d) : Dq H2 (fun a => H a = none) v d := h.imp fun _ e => g.free e
theorem new_impA {H H1 H2 : Hp} {v : List V} {d : List PyData} (g : Same H H1) (h : DqA H2 (fun a => H1 a = none) v d) : DqA H2 (fun a => H a = none) v d := h.imp fun _ e => g.free e
abbrev sPN : Stmt := top 30
def spPN : Sp := fun vs H Q _ => ∃ y x p : Str, vs = [.str y, .str x, .str p] ∧ Q (.str (pN x p y)) H
abbrev sPS : Stmt := top 31
def spPS : Sp := fun vs H Q _ => ∃ (v : V) (x p : Str) (k : Knd), vs = [v, .str x, .str p] ∧ fit (kD k) = true ∧ Dt H v (kD k) ∧ RetD (kD (kP x p k)) H Q
section
variable {P : Program} {w : World} {K : PySem.W.Frag} {mg : Str → Option Value} {base : Heap}
theorem scPN : FnScope ["name", "variable", "place"] ["name", "variable", "place"] (defScope sPN) := ⟨rfl, rfl, rfl, by decide +kernel, rfl, by decide +kernel, by decide +kernel⟩
theorem ok_PN (D : Def K mg "put_name" sPN ["name", "variable", "place"]) : Cal P w K mg base CX0 "put_name" 1 ["name", "variable", "place"] spPN := by
  refine D.ok scPN (fun vs H Q E h => ?_) (fun f cdv A outer s H vs Q E hr h => ?_)
  · obtain ⟨y, x, p, rfl, _⟩ := h
    rfl
  obtain ⟨y, x, p, rfl, q⟩ := h
  refine ⟨_, pss_one (ps_ret (pe_ifExp (pt_cmpR op_eq (pv 0) (pv 1) (nomark _)) (pv 2) (pv 0))), ?_⟩
  refine ⟨_, rfl, _, rfl, rfl, _, rfl, ?_⟩
  by_cases e : y = x
  · refine if_bt (by rw [e]; simp) ⟨_, rfl, ?_⟩
    have e2 : pN x p y = p := by unfold pN; rw [if_pos e]
    rw [e2] at q
    exact q
  · refine if_bf (by simp [e]) ⟨_, rfl, ?_⟩
    have e2 : pN x p y = y := by unfold pN; rw [if_neg e]
    rw [e2] at q
    exact q
theorem scPS : FnScope ["kind", "variable", "place", "name"] ["kind", "variable", "place"] (defScope sPS) := ⟨rfl, rfl, rfl, by decide +kernel, rfl, by decide +kernel, by decide +kernel⟩
theorem ok_PS (D : Def K mg "put_in_set" sPS ["kind", "variable", "place"]) (T : Txt K mg) (cN : Cal P w K mg base CX0 "put_name" 1 ["name", "variable", "place"] spPN) : Cal P w K mg base CX0 "put_in_set" 2 ["kind", "variable", "place"] spPS := by
  obtain ⟨fN, fdN, mN, FN, kN', bN⟩ := cN
  refine D.ok scPS (fun vs H Q E h => ?_) (fun f cdv A outer s H vs Q E hr h => ?_)
  · obtain ⟨v, x, p, k, rfl, _⟩ := h
    rfl
  obtain ⟨v, x, p, k, rfl, hf, hd, q⟩ := h
  refine ⟨_, pss_cons (ps_if (pt_cmpR op_eq (pe_ix ix_tup (pv 0) pe_int (fun _ _ => rfl)) pe_str (nomark _))
      (pss_one (ps_ret (pe_tup (pa_cons pe_str (pa_cons (pe_lc (own := [("name", 3)]) (g := gName 3) (tt := tYes) (te := tCall spPN [] E0 (tCons (tVar 3) (tCons (tVar 1) (tCons (tVar 2) tNil)))) rfl scPS.nd (pi_list (pe_ix ix_tup (pv 0) pe_int (fun _ _ => rfl))) (blkOk_by (N := ["kind", "variable", "place", "name"]) (sc := defScope sPS) (by decide +kernel))
        (fun _ _ _ _ _ => pg_name (i := 3) scPS.nd rfl (Or.inl rfl)) (fun _ _ _ _ _ => pts_nil) (fun _ _ _ _ _ => pe_call FN hr rfl mN kN' bN .nil pass0 (pa_cons (pv 3) (pa_cons (pv 1) (pa_cons (pv 2) pa_nil))))) pa_nil))))) pss_nil)
    (pss_cons (ps_if (pt_cmpR op_eq (pe_ix ix_tup (pv 0) pe_int (fun _ _ => rfl)) pe_str (nomark _)) (pss_one (ps_ret (pv 0))) pss_nil)
    (pss_one (ps_ret (pe_tup (pa_cons (pe_ix ix_tup (pv 0) pe_int (fun _ _ => rfl)) (pa_cons (pe_call FN hr rfl mN kN' bN .nil pass0 (pa_cons (pe_ix ix_tup (pv 0) pe_int (fun _ _ => rfl)) (pa_cons (pv 1) (pa_cons (pv 2) pa_nil)))) pa_nil)))))), ?_⟩
  cases k with
  | all =>
    obtain ⟨a, v0, rfl, ha, h0⟩ := Dq.t1 hd
    obtain rfl := h0.str_inv
    refine ⟨_, rfl, a, _, _, _, rfl, rfl, SqT.of ha, rfl, rfl, _, rfl, if_bf (by decide +kernel) ?_⟩
    refine ⟨_, rfl, a, _, _, _, rfl, rfl, SqT.of ha, rfl, rfl, _, rfl, if_bt (by decide +kernel) ?_⟩
    exact ⟨_, rfl, q _ _ (Same.refl _) (.tup ha (.cons (.str _) .nil))⟩
  | fr y =>
    obtain ⟨a, v0, v1, rfl, ha, h0, h1⟩ := Dq.t2 hd
    obtain rfl := h0.str_inv
    obtain rfl := h1.str_inv
    refine ⟨_, rfl, a, _, _, _, rfl, rfl, SqT.of ha, rfl, rfl, _, rfl, if_bf (by decide +kernel) ?_⟩
    refine ⟨_, rfl, a, _, _, _, rfl, rfl, SqT.of ha, rfl, rfl, _, rfl, if_bf (by decide +kernel) ?_⟩
    refine ⟨_, rfl, a, _, _, _, rfl, rfl, SqT.of ha, rfl, ?_⟩
    refine ⟨_, rfl, a, _, _, _, rfl, rfl, SqT.of ha, rfl, _, rfl, _, rfl, y, x, p, rfl, (by show 2 ≤ sizeLine; decide), fun t ht => ?_⟩
    exact q _ _ (same_new ht _) (.tup upd_same (.cons (.str _) (.cons (.str _) .nil)))
  | to y =>
    obtain ⟨a, v0, v1, rfl, ha, h0, h1⟩ := Dq.t2 hd
    obtain rfl := h0.str_inv
    obtain rfl := h1.str_inv
    refine ⟨_, rfl, a, _, _, _, rfl, rfl, SqT.of ha, rfl, rfl, _, rfl, if_bf (by decide +kernel) ?_⟩
    refine ⟨_, rfl, a, _, _, _, rfl, rfl, SqT.of ha, rfl, rfl, _, rfl, if_bf (by decide +kernel) ?_⟩
    refine ⟨_, rfl, a, _, _, _, rfl, rfl, SqT.of ha, rfl, ?_⟩
    refine ⟨_, rfl, a, _, _, _, rfl, rfl, SqT.of ha, rfl, _, rfl, _, rfl, y, x, p, rfl, (by show 2 ≤ sizeLine; decide), fun t ht => ?_⟩
    exact q _ _ (same_new ht _) (.tup upd_same (.cons (.str _) (.cons (.str _) .nil)))
  | these xs =>
    obtain ⟨a, v0, v1, rfl, ha, h0, h1⟩ := Dq.t2 hd
    obtain rfl := h0.str_inv
    obtain ⟨b, rfl, hb, _⟩ := h1.lstS
    have hl := fit_len (xs := xs) (fit_i1 hf)
    refine ⟨_, rfl, a, _, _, _, rfl, rfl, SqT.of ha, rfl, rfl, _, rfl, if_bt (by decide +kernel) ?_⟩
    refine ⟨_, rfl, a, _, _, _, rfl, rfl, SqT.of ha, rfl, b, rfl, ⟨_, SqL.of hb⟩, fun Dl hDl => lc_strs (fun _ => true) (pN x p) hb hDl (by omega) (fun _ => rfl) (fun y H' Q' _ s' q' => q')
      (fun y H' Q' _ s' _ q' => ⟨_, rfl, _, rfl, _, rfl, y, x, p, rfl, q' H' (Same.refl _)⟩) fun H' s' e' => ?_⟩
    rw [pick_all] at e'
    refine ⟨(by show 2 ≤ sizeLine; decide), fun t ht => ?_⟩
    exact q _ _ (s'.trans (same_new ht _)) (.tup upd_same (.cons (.str _) (.cons (.lst (same_new ht _ _ _ e') hDl (DqA.strs _)) .nil)))
end

/-! ### kept_claim: a copy of data -/
section
variable {K : PySem.W.Frag} {p D : Addr} {xs : List V} {ds : List PyData} {H1 : Hp} {te : TE} {vs : List Nat} {σ : L2.St} {Qd : Hp → Prop} {j : Nat}
/-- a comprehension over a tuple of data -/
theorem lc_data (e1 : H1 p = some (.tup xs)) (hx : DtA H1 xs ds) (hD : H1 D = none) (hz : ds.length ≤ 5000000) (hw : ∀ x, wipe ((wipe σ vs).set j x) vs = wipe σ vs)
    (he : ∀ v d H' (Q : VK), d ∈ ds → Same H1 H' → Dt H' v d → RetD d H' Q → te ((wipe σ vs).set j (some v)) H' Q)
    (hd : ∀ H' ys, Same H1 H' → H' D = some (.lst ys) → DqA H' (fun a => H1 a = none) ys ds → Qd H') :
    ∃ W : Nat → Nat → Hp → Prop, (∃ m, W 0 m (upd H1 D (.lst []))) ∧ ∀ i m H, W i m H →
      ((Itt K p).stop i H ∧ Qd H) ∨ ((Itt K p).go i H ∧ ∃ Nx : Hp → Prop, (∀ H', Nx H' → ∃ m', m' < m ∧ W (i + 1) m' H') ∧ ∀ x H', (Itt K p).yld i H x H' → gName j x (wipe σ vs) H' fun σ2 H2 => wipe σ2 vs = wipe σ vs ∧ tYes σ2 H2 fun b H3 =>
        if b = true then te σ2 H3 fun y H4 => ∃ acc, H4 D = some (.lst acc) ∧ acc.length < sizeLine ∧ Nx (upd H4 D (.lst (acc ++ [y]))) else Nx H3) := by
  have hl := hx.len
  refine lc_tup (K := K) (a := p) (xs := xs) (fun i H => Same H1 H ∧ ∃ ys, H D = some (.lst ys) ∧ DqA H (fun a => H1 a = none ∧ a ≠ D) ys (ds.take i)) ⟨same_new hD _, [], upd_same, .nil⟩ (fun i H _ pv => SqT.of (pv.1 _ _ e1)) (fun i x H hi pv => ?_) fun H pv => ?_
  · obtain ⟨s1, ys, ey, hy⟩ := pv
    obtain ⟨d, hd', hv⟩ := hx.at hi
    have hm : d ∈ ds := List.mem_of_getElem? hd'
    refine ⟨hw _, he x d H _ hm s1 (hv.same s1) fun v' H2 s2 hv' => ⟨ys, s2 _ _ ey, ?_, ?_, ys ++ [v'], upd_same, ?_⟩⟩
    · rw [hy.len, List.length_take]
      exact big_ok (by omega)
    · intro b o q
      rw [upd_ne (ne_of_none q hD)]
      exact s2 _ _ (s1 _ _ q)
    · rw [take_more hd']
      have nD : ∀ a o, H2 a = some o → a ≠ D → (upd H2 D (.lst (ys ++ [v']))) a = some o := fun a o q ne => by rw [upd_ne ne]; exact q
      have tD : ∀ a zs, H2 a = some (.tup zs) → a ≠ D := fun a zs q z => by
        rw [z, s2 _ _ ey] at q
        cases q
      refine .append (DqA.mono (fun a zs q => nD a _ q (tD a zs q)) (fun a zs pq q => ⟨nD a _ q pq.2, pq⟩) _ _ (hy.same s2)) (.one (Dq.mono (fun a zs q => nD a _ q (tD a zs q)) (fun a zs pq q => ?_) _ _ hv'))
      have ne : a ≠ D := fun z => by
        rw [z, ey] at pq
        cases pq
      exact ⟨nD a _ q ne, s1.free pq, ne⟩
  · obtain ⟨s1, ys, ey, hy⟩ := pv
    rw [hl, List.take_length] at hy
    exact hd H ys s1 ey (hy.imp fun a q => q.1)
end
/-! ### isinstance of data -/
theorem kit_ll {K : PySem.W.Frag} : PySem.W.kitOne K (.type "list") (.type "list") = some true := kit_ty (by decide +kernel)
theorem kit_tl {K : PySem.W.Frag} : PySem.W.kitOne K (.type "tuple") (.type "list") = some false := kit_ty (by decide +kernel)
theorem kit_tt {K : PySem.W.Frag} : PySem.W.kitOne K (.type "tuple") (.type "tuple") = some true := kit_ty (by decide +kernel)
theorem kit_lt {K : PySem.W.Frag} : PySem.W.kitOne K (.type "list") (.type "tuple") = some false := kit_ty (by decide +kernel)
theorem kit_sl {K : PySem.W.Frag} : PySem.W.kitOne K (.type "str") (.type "list") = some false := kit_ty (by decide +kernel)
theorem kit_st {K : PySem.W.Frag} : PySem.W.kitOne K (.type "str") (.type "tuple") = some false := kit_ty (by decide +kernel)
theorem kit_il {K : PySem.W.Frag} : PySem.W.kitOne K (.type "int") (.type "list") = some false := kit_ty (by decide +kernel)
theorem kit_it {K : PySem.W.Frag} : PySem.W.kitOne K (.type "int") (.type "tuple") = some false := kit_ty (by decide +kernel)
def isL : PyData → Bool
  | .list _ => true
  | _ => false
def isT : PyData → Bool
  | .tuple _ => true
  | _ => false
/-- isinstance(v, list), isinstance(v, tuple) -/
theorem isi_list {K : PySem.W.Frag} {H : Hp} {Pr : Addr → Prop} {v : V} {d : PyData} (hf : fit d = true) (h : Dq H Pr v d) : ∃ t u, ClsV (.ty "list") u ∧ TyX K H v t ∧ PySem.W.kitOne K t u = some (isL d) := by
  cases d with
  | list ds =>
    obtain ⟨a, xs, rfl, ha, _⟩ := h.lst_inv
    exact ⟨_, _, .ty "list", .base (.lst ha), kit_ll⟩
  | tuple ds =>
    obtain ⟨a, xs, rfl, ha, _⟩ := h.tup_inv
    exact ⟨_, _, .ty "list", .base (.tup ha), kit_tl⟩
  | str x =>
    obtain rfl := h.str_inv
    exact ⟨_, _, .ty "list", .base (.str _), kit_sl⟩
  | int x =>
    obtain rfl := h.int_inv
    exact ⟨_, _, .ty "list", .base (.int _), kit_il⟩
  | _ => rw [fit] at hf; cases hf
theorem isi_tuple {K : PySem.W.Frag} {H : Hp} {Pr : Addr → Prop} {v : V} {d : PyData} (hf : fit d = true) (h : Dq H Pr v d) : ∃ t u, ClsV (.ty "tuple") u ∧ TyX K H v t ∧ PySem.W.kitOne K t u = some (isT d) := by
  cases d with
  | list ds =>
    obtain ⟨a, xs, rfl, ha, _⟩ := h.lst_inv
    exact ⟨_, _, .ty "tuple", .base (.lst ha), kit_lt⟩
  | tuple ds =>
    obtain ⟨a, xs, rfl, ha, _⟩ := h.tup_inv
    exact ⟨_, _, .ty "tuple", .base (.tup ha), kit_tt⟩
  | str x =>
    obtain rfl := h.str_inv
    exact ⟨_, _, .ty "tuple", .base (.str _), kit_st⟩
  | int x =>
    obtain rfl := h.int_inv
    exact ⟨_, _, .ty "tuple", .base (.int _), kit_it⟩
  | _ => rw [fit] at hf; cases hf

abbrev sKC : Stmt := top 34
def spKC (n : Nat) : Sp := fun vs H Q _ => ∃ (v : V) (d : PyData), vs = [v] ∧ d.depth < n ∧ fit d = true ∧ Dt H v d ∧ RetD d H Q
theorem depth_mem {ds : List PyData} {d : PyData} (h : d ∈ ds) : d.depth < (PyData.tuple ds).depth := by
  have := PyData.depth_le_depthAll ds d h
  simp only [PyData.depth]
  omega
section
variable {P : Program} {w : World} {K : PySem.W.Frag} {mg : Str → Option Value} {base : Heap}
theorem scKC : FnScope ["claim", "one"] ["claim"] (defScope sKC) := ⟨rfl, rfl, rfl, by decide +kernel, rfl, by decide +kernel, by decide +kernel⟩
theorem ok_KC1 {n : Nat} (D : Def K mg "kept_claim" sKC ["claim"]) (T : Txt K mg) (cK : Cal P w K mg base CX0 "kept_claim" (n + 1) ["claim"] (spKC n)) : Cal P w K mg base CX0 "kept_claim" (n + 1 + 1) ["claim"] (spKC (n + 1)) := by
  obtain ⟨fK, fdK, mK, FK, kK, bK⟩ := cK
  refine D.ok scKC (fun vs H Q E h => ?_) (fun f cdv A outer s H vs Q E hr h => ?_)
  · obtain ⟨v, d, rfl, _⟩ := h
    rfl
  obtain ⟨v, d, rfl, hn, hf, hd, q⟩ := h
  refine ⟨_, pss_cons (ps_if (pt_val (pe_callB call_isi (by rfl) T.isi (by decide +kernel) (pa_cons (pv 0) (pa_cons (pe_bltn (v := .ty "list") (by rfl) T.list (by decide +kernel) rfl) pa_nil)))) (pss_one (ps_ret (pe_callTy call_list_of (by rfl) T.list (by decide +kernel) (pa_cons (pv 0) pa_nil)))) pss_nil)
    (pss_cons (ps_if (pt_val (pe_callB call_isi (by rfl) T.isi (by decide +kernel) (pa_cons (pv 0) (pa_cons (pe_bltn (v := .ty "tuple") (by rfl) T.tuple (by decide +kernel) rfl) pa_nil)))) (pss_one (ps_ret (pe_callTy call_tuple_of (by rfl) T.tuple (by decide +kernel) (pa_cons
      (pe_lc (own := [("one", 1)]) (g := gName 1) (tt := tYes) (te := tCall (spKC n) [] E0 (tCons (tVar 1) tNil)) rfl scKC.nd (pi_tup (pv 0)) (blkOk_by (N := ["claim", "one"]) (sc := defScope sKC) (by decide +kernel))
        (fun _ _ _ _ _ => pg_name (i := 1) scKC.nd rfl (Or.inl rfl)) (fun _ _ _ _ _ => pts_nil) (fun _ _ _ _ _ => pe_call FK hr rfl mK kK bK .nil pass0 (pa_cons (pv 1) pa_nil))) pa_nil)))) pss_nil)
    (pss_one (ps_ret (pv 0)))), ?_⟩
  obtain ⟨t1, u1, i1, i2, i3⟩ := isi_list (K := K) hf hd
  obtain ⟨t2, u2, j1, j2, j3⟩ := isi_tuple (K := K) hf hd
  refine ⟨_, rfl, _, _, t1, u1, _, rfl, i1, i2, i3, _, rfl, ?_⟩
  cases d with
  | list ds =>
    refine if_bt rfl ?_
    obtain ⟨a, xs, rfl, ha, _, hx⟩ := hd.lst_inv
    refine ⟨_, rfl, a, _, rfl, .inl (SqL.of ha), fun l hl => ?_⟩
    have hs : fitS ds = true := by
      rw [fit, Bool.and_eq_true] at hf
      exact hf.2
    obtain ⟨ys, rfl, _⟩ := fitS_strs hs
    obtain rfl := hx.strs_inv
    exact q _ _ (same_new hl _) (.lst upd_same hl (DqA.strs _))
  | tuple ds =>
    refine if_bf rfl ⟨_, rfl, _, _, t2, u2, _, rfl, j1, j2, j3, _, rfl, if_bt rfl ?_⟩
    obtain ⟨a, xs, rfl, ha, hx⟩ := hd.tup_inv
    have hl := fit_tlen hf
    refine ⟨_, rfl, a, rfl, ⟨_, SqT.of ha⟩, fun Dl hDl => lc_data ha hx hDl (by omega) (fun _ => rfl) (fun v d H' Q' hm s' hv q' => ?_) fun H' ys s' ey hy => ?_⟩
    · have := depth_mem hm
      exact ⟨_, rfl, _, d, rfl, by omega, fit_tup hf hm, hv, q'⟩
    · refine ⟨Dl, _, rfl, .inl ⟨SqL.of ey, fun t ht => ?_⟩⟩
      exact q _ _ (s'.trans (same_new ht _)) (.tup upd_same (hy.same (same_new ht _)))
  | str x =>
    refine if_bf rfl ⟨_, rfl, _, _, t2, u2, _, rfl, j1, j2, j3, _, rfl, if_bf rfl ?_⟩
    obtain rfl := hd.str_inv
    exact ⟨_, rfl, q _ _ (Same.refl _) (.str _)⟩
  | int x =>
    refine if_bf rfl ⟨_, rfl, _, _, t2, u2, _, rfl, j1, j2, j3, _, rfl, if_bf rfl ?_⟩
    obtain rfl := hd.int_inv
    exact ⟨_, rfl, q _ _ (Same.refl _) (.int _)⟩
  | _ => rw [fit] at hf; cases hf
theorem ok_KC (D : Def K mg "kept_claim" sKC ["claim"]) (T : Txt K mg) : ∀ n, Cal P w K mg base CX0 "kept_claim" (n + 1) ["claim"] (spKC n)
  | 0 => Cal.never D fun vs H Q E h => by
    obtain ⟨v, d, _, h0, _⟩ := h
    omega
  | n + 1 => ok_KC1 D T (ok_KC D T n)
end
end K71
/-! put_in_term, put_in. -/
namespace K71
open PySem L2
abbrev sPT : Stmt := top 32
def spPT (n : Nat) : Sp := fun vs H Q _ => ∃ (v : V) (x p : Str) (t : Trm), vs = [v, .str x, .str p] ∧ tH t ≤ n ∧ fit (tD t) = true ∧ Dt H v (tD t) ∧ RetD (tD (tP x p t)) H Q
abbrev sPC : Stmt := top 33
def spPC (n : Nat) : Sp := fun vs H Q _ => ∃ (v : V) (x p : Str) (c : Clm), vs = [v, .str x, .str p] ∧ cH c ≤ n ∧ (cD c).depth < 40 ∧ fit (cD c) = true ∧ Dt H v (cD c) ∧ RetD (cD (cP x p c)) H Q
section
variable {P : Program} {w : World} {K : PySem.W.Frag} {mg : Str → Option Value} {base : Heap}
theorem scPT : FnScope ["term", "variable", "place", "word"] ["term", "variable", "place"] (defScope sPT) := ⟨rfl, rfl, rfl, by decide +kernel, rfl, by decide +kernel, by decide +kernel⟩
theorem ok_PT1 {n : Nat} (D : Def K mg "put_in_term" sPT ["term", "variable", "place"]) (T : Txt K mg) (cN : Cal P w K mg base CX0 "put_name" 1 ["name", "variable", "place"] spPN) (cS : Cal P w K mg base CX0 "put_in_set" 2 ["kind", "variable", "place"] spPS)
    (cT : Cal P w K mg base CX0 "put_in_term" (n + 3) ["term", "variable", "place"] (spPT n)) : Cal P w K mg base CX0 "put_in_term" (n + 1 + 3) ["term", "variable", "place"] (spPT (n + 1)) := by
  obtain ⟨fN, fdN, mN, FN, kN', bN⟩ := cN
  obtain ⟨fS, fdS, mS, FS, kS, bS⟩ := cS
  obtain ⟨fT, fdT, mT, FT, kT, bT⟩ := cT
  obtain ⟨aC, mC, sC⟩ := T.counted
  refine D.ok scPT (fun vs H Q E h => ?_) (fun f cdv A outer s H vs Q E hr h => ?_)
  · obtain ⟨v, x, p, k, rfl, _⟩ := h
    rfl
  obtain ⟨v, x, p, t, rfl, hn, hf, hd, q⟩ := h
  have hr1 : Room 1 _ := hr.mono (by omega)
  have hr2 : Room 2 _ := hr.mono (by omega)
  refine ⟨_, pss_cons (ps_set (i := 3) scPT.nd rfl (Or.inl rfl) (pe_ix ix_tup (pv 0) pe_int (fun _ _ => rfl)))
    (pss_cons (ps_if (pt_cmpR op_eq (pv 3) pe_str (nomark _)) (pss_one (ps_ret (pv 0))) pss_nil)
    (pss_cons (ps_if (pt_cmpR op_in_seq (pv 3) (pe_glob (v := .ref aC) (by rfl) mC rfl) rfl) (pss_one (ps_ret (pe_tup (pa_cons (pv 3) (pa_cons (pe_call FN hr1 rfl mN kN' bN .nil pass0 (pa_cons (pe_ix ix_tup (pv 0) pe_int (fun _ _ => rfl)) (pa_cons (pv 1) (pa_cons (pv 2) pa_nil)))) (pa_cons (pe_call FN hr1 rfl mN kN' bN .nil pass0 (pa_cons (pe_ix ix_tup (pv 0) pe_int (fun _ _ => rfl)) (pa_cons (pv 1) (pa_cons (pv 2) pa_nil)))) pa_nil)))))) pss_nil)
    (pss_cons (ps_if (pt_cmpR op_eq (pv 3) pe_str (nomark _)) (pss_one (ps_ret (pe_tup (pa_cons (pv 3) (pa_cons (pe_call FS hr2 rfl mS kS bS .nil pass0 (pa_cons (pe_ix ix_tup (pv 0) pe_int (fun _ _ => rfl)) (pa_cons (pv 1) (pa_cons (pv 2) pa_nil)))) pa_nil))))) pss_nil)
    (pss_cons (ps_if (pt_cmpR op_eq (pv 3) pe_str (nomark _)) (pss_one (ps_ret (pe_tup (pa_cons (pv 3) (pa_cons (pe_call FS hr2 rfl mS kS bS .nil pass0 (pa_cons (pe_ix ix_tup (pv 0) pe_int (fun _ _ => rfl)) (pa_cons (pv 1) (pa_cons (pv 2) pa_nil)))) (pa_cons (pe_call FS hr2 rfl mS kS bS .nil pass0 (pa_cons (pe_ix ix_tup (pv 0) pe_int (fun _ _ => rfl)) (pa_cons (pv 1) (pa_cons (pv 2) pa_nil)))) pa_nil)))))) pss_nil)
    (pss_cons (ps_if (pt_cmpR op_eq (pv 3) pe_str (nomark _)) (pss_one (ps_ret (pe_tup (pa_cons (pv 3) (pa_cons (pe_ix ix_tup (pv 0) pe_int (fun _ _ => rfl)) (pa_cons (pe_call FT hr rfl mT kT bT .nil pass0 (pa_cons (pe_ix ix_tup (pv 0) pe_int (fun _ _ => rfl)) (pa_cons (pv 1) (pa_cons (pv 2) pa_nil)))) pa_nil)))))) pss_nil)
    (pss_one (ps_ret (pe_tup (pa_cons (pv 3) (pa_cons (pe_call FT hr rfl mT kT bT .nil pass0 (pa_cons (pe_ix ix_tup (pv 0) pe_int (fun _ _ => rfl)) (pa_cons (pv 1) (pa_cons (pv 2) pa_nil)))) (pa_cons (pe_call FT hr rfl mT kT bT .nil pass0 (pa_cons (pe_ix ix_tup (pv 0) pe_int (fun _ _ => rfl)) (pa_cons (pv 1) (pa_cons (pv 2) pa_nil)))) pa_nil))))))))))), ?_⟩
  cases t with
  | num m =>
    obtain ⟨a, v0, v1, rfl, ha, h0, h1⟩ := Dq.t2 hd
    obtain rfl := h0.str_inv
    obtain rfl := h1.int_inv
    refine ⟨_, rfl, a, _, _, _, rfl, rfl, SqT.of ha, rfl, ?_⟩
    refine ⟨_, rfl, rfl, _, rfl, if_bt (by decide +kernel) ?_⟩
    exact ⟨_, rfl, q _ _ (Same.refl _) (.tup ha (.cons (.str _) (.cons (.int _) .nil)))⟩
  | cnt c y z =>
    obtain ⟨a, v0, v1, v2, rfl, ha, h0, h1, h2⟩ := Dq.t3 hd
    obtain rfl := h0.str_inv
    obtain rfl := h1.str_inv
    obtain rfl := h2.str_inv
    refine ⟨_, rfl, a, _, _, _, rfl, rfl, SqT.of ha, rfl, ?_⟩
    refine ⟨_, rfl, rfl, _, rfl, if_bf (by cases c <;> decide +kernel) ?_⟩
    refine ⟨_, rfl, aC, _, rfl, .inr (sC _), rfl, rfl, _, rfl, if_bt (by cases c <;> decide +kernel) ?_⟩
    refine ⟨_, rfl, _, rfl, a, _, _, _, rfl, rfl, SqT.of ha, rfl, _, rfl, _, rfl, y, x, p, rfl, ?_⟩
    refine ⟨_, rfl, a, _, _, _, rfl, rfl, SqT.of ha, rfl, _, rfl, _, rfl, z, x, p, rfl, ?_⟩
    refine ⟨(by show 3 ≤ sizeLine; decide), fun l hl => ?_⟩
    exact q _ _ (same_new hl _) (.tup upd_same (.cons (.str _) (.cons (.str _) (.cons (.str _) .nil))))
  | size k =>
    obtain ⟨a, v0, v1, rfl, ha, h0, h1⟩ := Dq.t2 hd
    obtain rfl := h0.str_inv
    refine ⟨_, rfl, a, _, _, _, rfl, rfl, SqT.of ha, rfl, ?_⟩
    refine ⟨_, rfl, rfl, _, rfl, if_bf (by decide +kernel) ?_⟩
    refine ⟨_, rfl, aC, _, rfl, .inr (sC _), rfl, rfl, _, rfl, if_bf (by decide +kernel) ?_⟩
    refine ⟨_, rfl, rfl, _, rfl, if_bt (by decide +kernel) ?_⟩
    refine ⟨_, rfl, _, rfl, a, _, _, _, rfl, rfl, SqT.of ha, rfl, _, rfl, _, rfl, _, x, p, k, rfl, fit_i1 hf, h1, fun w1 H1 g1 e1 => ?_⟩
    refine ⟨(by show 2 ≤ sizeLine; decide), fun l hl => ?_⟩
    exact q _ _ (g1.trans (same_new hl _)) (.tup upd_same (.cons (.str _) (.cons (e1.same (same_new hl _)) .nil)))
  | pairs k l =>
    obtain ⟨a, v0, v1, v2, rfl, ha, h0, h1, h2⟩ := Dq.t3 hd
    obtain rfl := h0.str_inv
    refine ⟨_, rfl, a, _, _, _, rfl, rfl, SqT.of ha, rfl, ?_⟩
    refine ⟨_, rfl, rfl, _, rfl, if_bf (by decide +kernel) ?_⟩
    refine ⟨_, rfl, aC, _, rfl, .inr (sC _), rfl, rfl, _, rfl, if_bf (by decide +kernel) ?_⟩
    refine ⟨_, rfl, rfl, _, rfl, if_bf (by decide +kernel) ?_⟩
    refine ⟨_, rfl, rfl, _, rfl, if_bt (by decide +kernel) ?_⟩
    refine ⟨_, rfl, _, rfl, a, _, _, _, rfl, rfl, SqT.of ha, rfl, _, rfl, _, rfl, _, x, p, k, rfl, fit_i1 hf, h1, fun w1 H1 g1 e1 => ?_⟩
    refine ⟨_, rfl, a, _, _, _, rfl, rfl, SqT.of (g1 _ _ ha), rfl, _, rfl, _, rfl, _, x, p, l, rfl, fit_i2 hf, h2.same g1, fun w2 H2 g2 e2 => ?_⟩
    refine ⟨(by show 3 ≤ sizeLine; decide), fun r hr => ?_⟩
    exact q _ _ ((g1.trans g2).trans (same_new hr _)) (.tup upd_same (.cons (.str _) (.cons ((e1.same g2).same (same_new hr _)) (.cons ((new_imp g1 e2).same (same_new hr _)) .nil))))
  | times m t =>
    obtain ⟨a, v0, v1, v2, rfl, ha, h0, h1, h2⟩ := Dq.t3 hd
    obtain rfl := h0.str_inv
    obtain rfl := h1.int_inv
    simp only [tH] at hn
    refine ⟨_, rfl, a, _, _, _, rfl, rfl, SqT.of ha, rfl, ?_⟩
    refine ⟨_, rfl, rfl, _, rfl, if_bf (by decide +kernel) ?_⟩
    refine ⟨_, rfl, aC, _, rfl, .inr (sC _), rfl, rfl, _, rfl, if_bf (by decide +kernel) ?_⟩
    refine ⟨_, rfl, rfl, _, rfl, if_bf (by decide +kernel) ?_⟩
    refine ⟨_, rfl, rfl, _, rfl, if_bf (by decide +kernel) ?_⟩
    refine ⟨_, rfl, rfl, _, rfl, if_bt (by decide +kernel) ?_⟩
    refine ⟨_, rfl, _, rfl, a, _, _, _, rfl, rfl, SqT.of ha, rfl, ?_⟩
    refine ⟨_, rfl, a, _, _, _, rfl, rfl, SqT.of ha, rfl, _, rfl, _, rfl, _, x, p, t, rfl, by omega, fit_i2 hf, h2, fun w2 H2 g2 e2 => ?_⟩
    refine ⟨(by show 3 ≤ sizeLine; decide), fun r hr => ?_⟩
    exact q _ _ (g2.trans (same_new hr _)) (.tup upd_same (.cons (.str _) (.cons (.int _) (.cons (e2.same (same_new hr _)) .nil))))
  | two c t u =>
    obtain ⟨a, v0, v1, v2, rfl, ha, h0, h1, h2⟩ := Dq.t3 hd
    obtain rfl := h0.str_inv
    simp only [tH] at hn
    refine ⟨_, rfl, a, _, _, _, rfl, rfl, SqT.of ha, rfl, ?_⟩
    refine ⟨_, rfl, rfl, _, rfl, if_bf (by cases c <;> decide +kernel) ?_⟩
    refine ⟨_, rfl, aC, _, rfl, .inr (sC _), rfl, rfl, _, rfl, if_bf (by cases c <;> decide +kernel) ?_⟩
    refine ⟨_, rfl, rfl, _, rfl, if_bf (by cases c <;> decide +kernel) ?_⟩
    refine ⟨_, rfl, rfl, _, rfl, if_bf (by cases c <;> decide +kernel) ?_⟩
    refine ⟨_, rfl, rfl, _, rfl, if_bf (by cases c <;> decide +kernel) ?_⟩
    refine ⟨_, rfl, _, rfl, a, _, _, _, rfl, rfl, SqT.of ha, rfl, _, rfl, _, rfl, _, x, p, t, rfl, by omega, fit_i1 hf, h1, fun w1 H1 g1 e1 => ?_⟩
    refine ⟨_, rfl, a, _, _, _, rfl, rfl, SqT.of (g1 _ _ ha), rfl, _, rfl, _, rfl, _, x, p, u, rfl, by omega, fit_i2 hf, h2.same g1, fun w2 H2 g2 e2 => ?_⟩
    refine ⟨(by show 3 ≤ sizeLine; decide), fun r hr => ?_⟩
    exact q _ _ ((g1.trans g2).trans (same_new hr _)) (.tup upd_same (.cons (.str _) (.cons ((e1.same g2).same (same_new hr _)) (.cons ((new_imp g1 e2).same (same_new hr _)) .nil))))
theorem ok_PT (D : Def K mg "put_in_term" sPT ["term", "variable", "place"]) (T : Txt K mg) (cN : Cal P w K mg base CX0 "put_name" 1 ["name", "variable", "place"] spPN) (cS : Cal P w K mg base CX0 "put_in_set" 2 ["kind", "variable", "place"] spPS) :
    ∀ n, Cal P w K mg base CX0 "put_in_term" (n + 3) ["term", "variable", "place"] (spPT n)
  | 0 => Cal.never D fun vs H Q E h => by
    obtain ⟨v, x, p, t, _, h0, _⟩ := h
    have := tH_pos t
    omega
  | n + 1 => ok_PT1 D T cN cS (ok_PT D T cN cS n)

/-! ### put_in -/
theorem depth_i1 {a d : PyData} {r : List PyData} : d.depth < (PyData.tuple (a :: d :: r)).depth := depth_mem (List.mem_cons_of_mem _ List.mem_cons_self)
theorem depth_i2 {a b d : PyData} {r : List PyData} : d.depth < (PyData.tuple (a :: b :: d :: r)).depth := depth_mem (List.mem_cons_of_mem _ (List.mem_cons_of_mem _ List.mem_cons_self))
theorem depth_i3 {a b c d : PyData} {r : List PyData} : d.depth < (PyData.tuple (a :: b :: c :: d :: r)).depth := depth_mem (List.mem_cons_of_mem _ (List.mem_cons_of_mem _ (List.mem_cons_of_mem _ List.mem_cons_self)))
theorem scPC : FnScope ["claim", "variable", "place", "word", "inner", "name"] ["claim", "variable", "place"] (defScope sPC) := ⟨rfl, rfl, rfl, by decide +kernel, rfl, by decide +kernel, by decide +kernel⟩
theorem ok_PC1 {n : Nat} (D : Def K mg "put_in" sPC ["claim", "variable", "place"]) (T : Txt K mg) (cN : Cal P w K mg base CX0 "put_name" 1 ["name", "variable", "place"] spPN) (cS : Cal P w K mg base CX0 "put_in_set" 2 ["kind", "variable", "place"] spPS)
    (cT : Cal P w K mg base CX0 "put_in_term" 33 ["term", "variable", "place"] (spPT 30)) (cK : Cal P w K mg base CX0 "kept_claim" 41 ["claim"] (spKC 40)) (h30 : n ≤ 30)
    (cC : Cal P w K mg base CX0 "put_in" (n + 42) ["claim", "variable", "place"] (spPC n)) : Cal P w K mg base CX0 "put_in" (n + 1 + 42) ["claim", "variable", "place"] (spPC (n + 1)) := by
  obtain ⟨fN, fdN, mN, FN, kN', bN⟩ := cN
  obtain ⟨fS, fdS, mS, FS, kS, bS⟩ := cS
  obtain ⟨fT, fdT, mT, FT, kT, bT⟩ := cT
  obtain ⟨fK, fdK, mK, FK, kK, bK⟩ := cK
  obtain ⟨fC, fdC, mC, FC, kC, bC⟩ := cC
  obtain ⟨aC, mA, sC⟩ := T.plain
  refine D.ok scPC (fun vs H Q E h => ?_) (fun f cdv A outer s H vs Q E hr h => ?_)
  · obtain ⟨v, x, p, k, rfl, _⟩ := h
    rfl
  obtain ⟨v, x, p, c, rfl, hn, h40, hf, hd, q⟩ := h
  have hr1 : Room 1 _ := hr.mono (by omega)
  have hr2 : Room 2 _ := hr.mono (by omega)
  have hr3 : Room 33 _ := hr.mono (by omega)
  have hr4 : Room 41 _ := hr.mono (by omega)
  refine ⟨_, pss_cons (ps_set (i := 3) scPC.nd rfl (Or.inl rfl) (pe_ix ix_tup (pv 0) pe_int (fun _ _ => rfl)))
    (pss_cons (ps_if (pt_cmpR op_eq (pv 3) pe_str (nomark _)) (pss_one (ps_ret (pe_tup (pa_cons (pv 3) (pa_cons (pe_call FN hr1 rfl mN kN' bN .nil pass0 (pa_cons (pe_ix ix_tup (pv 0) pe_int (fun _ _ => rfl)) (pa_cons (pv 1) (pa_cons (pv 2) pa_nil)))) (pa_cons (pe_call FN hr1 rfl mN kN' bN .nil pass0 (pa_cons (pe_ix ix_tup (pv 0) pe_int (fun _ _ => rfl)) (pa_cons (pv 1) (pa_cons (pv 2) pa_nil)))) (pa_cons (pe_ix ix_tup (pv 0) pe_int (fun _ _ => rfl)) pa_nil))))))) pss_nil)
    (pss_cons (ps_if (pt_cmpR op_in_seq (pv 3) (pe_glob (v := .ref aC) (by rfl) mA rfl) rfl) (pss_one (ps_ret (pe_callTy call_tuple_of (by rfl) T.tuple (by decide +kernel) (pa_cons (pe_op op_cat (pe_lst (pa_cons (pv 3) pa_nil))
      (pe_lc (own := [("name", 5)]) (g := gName 5) (tt := tYes) (te := tCall spPN [] E0 (tCons (tVar 5) (tCons (tVar 1) (tCons (tVar 2) tNil)))) rfl scPC.nd (pi_tup (pe_slice sl_tup (pv 0) (po_some pe_int) po_none)) (blkOk_by (N := ["claim", "variable", "place", "word", "inner", "name"]) (sc := defScope sPC) (by decide +kernel))
        (fun _ _ _ _ _ => pg_name (i := 5) scPC.nd rfl (Or.inl rfl)) (fun _ _ _ _ _ => pts_nil) (fun _ _ _ _ _ => pe_call FN hr1 rfl mN kN' bN .nil pass0 (pa_cons (pv 5) (pa_cons (pv 1) (pa_cons (pv 2) pa_nil)))))) pa_nil)))) pss_nil)
    (pss_cons (ps_if (pt_cmpR op_eq (pv 3) pe_str (nomark _)) (pss_one (ps_ret (pe_tup (pa_cons (pv 3) (pa_cons (pe_call FT hr3 rfl mT kT bT .nil pass0 (pa_cons (pe_ix ix_tup (pv 0) pe_int (fun _ _ => rfl)) (pa_cons (pv 1) (pa_cons (pv 2) pa_nil)))) (pa_cons (pe_call FT hr3 rfl mT kT bT .nil pass0 (pa_cons (pe_ix ix_tup (pv 0) pe_int (fun _ _ => rfl)) (pa_cons (pv 1) (pa_cons (pv 2) pa_nil)))) pa_nil)))))) pss_nil)
    (pss_cons (ps_if (pt_cmpR op_eq (pv 3) pe_str (nomark _)) (pss_one (ps_ret (pe_tup (pa_cons (pv 3) (pa_cons (pe_call FC hr rfl mC kC bC .nil pass0 (pa_cons (pe_ix ix_tup (pv 0) pe_int (fun _ _ => rfl)) (pa_cons (pv 1) (pa_cons (pv 2) pa_nil)))) pa_nil))))) pss_nil)
    (pss_cons (ps_if (PW.pt (pw_or (pt_cmpR op_eq (pv 3) pe_str (nomark _)) (pw_or1 (pt_cmpR op_eq (pv 3) pe_str (nomark _))))) (pss_one (ps_ret (pe_tup (pa_cons (pv 3) (pa_cons (pe_call FC hr rfl mC kC bC .nil pass0 (pa_cons (pe_ix ix_tup (pv 0) pe_int (fun _ _ => rfl)) (pa_cons (pv 1) (pa_cons (pv 2) pa_nil)))) (pa_cons (pe_call FC hr rfl mC kC bC .nil pass0 (pa_cons (pe_ix ix_tup (pv 0) pe_int (fun _ _ => rfl)) (pa_cons (pv 1) (pa_cons (pv 2) pa_nil)))) pa_nil)))))) pss_nil)
    (pss_cons (ps_set (i := 4) scPC.nd rfl (Or.inl rfl) (pe_ifExp (pt_cmpR op_eq (pe_ix ix_tup (pv 0) pe_int (fun _ _ => rfl)) (pv 1) (nomark _)) (pe_call FK hr4 rfl mK kK bK .nil pass0 (pa_cons (pe_ix ix_tup (pv 0) pe_int (fun _ _ => rfl)) pa_nil)) (pe_call FC hr rfl mC kC bC .nil pass0 (pa_cons (pe_ix ix_tup (pv 0) pe_int (fun _ _ => rfl)) (pa_cons (pv 1) (pa_cons (pv 2) pa_nil))))))
    (pss_one (ps_ret (pe_tup (pa_cons (pv 3) (pa_cons (pe_ix ix_tup (pv 0) pe_int (fun _ _ => rfl)) (pa_cons (pe_call FS hr2 rfl mS kS bS .nil pass0 (pa_cons (pe_ix ix_tup (pv 0) pe_int (fun _ _ => rfl)) (pa_cons (pv 1) (pa_cons (pv 2) pa_nil)))) (pa_cons (pv 4) pa_nil))))))))))))), ?_⟩
  have flat : ∀ (a : Addr) (wd : Str) (ys : List Str), H a = some (.tup (.str wd :: ys.map V.str)) → ys.length ≤ 3 → (∀ t H', Same H H' → H' t = some (.tup (.str wd :: (ys.map (pN x p)).map V.str)) → Q (.ref t) H') →
      tRet (tCB (fun xs H Q => ∃ p ys, xs = [.ref p] ∧ ((SqL K H p ys ∧ ∀ l, H l = none → Q (.ref l) (upd H l (.tup ys))) ∨ (SqT K H p ys ∧ Q (.ref p) H)))
        (tCons (tOp rCat (tLst (tCons (tVar 3) tNil)) (tLc (iTup K (tSl (rSlT K) (tVar 0) (tPart (tC (.int 1))) tNoPart)) (gName 5) tYes (tCall spPN [] E0 (tCons (tVar 5) (tCons (tVar 1) (tCons (tVar 2) tNil)))) [5])) tNil)) { nx := fun _ H' => Q .non H', rt := Q }
        [some (.ref a), some (.str x), some (.str p), some (.str wd), none, none] H := fun a wd ys ha hl q => by
    refine ⟨_, rfl, (by show 1 ≤ sizeLine; decide), fun l1 hl1 => ?_⟩
    have g1 := same_new hl1 (.lst [V.str wd])
    refine ⟨_, rfl, _, rfl, a, _, rfl, SqT.of (g1 _ _ ha), cut1_part (List.cons_ne_nil _ _), fun t1 ht1 => ?_⟩
    rw [cut1]
    have g2 := same_new ht1 (.tup (ys.map V.str))
    refine ⟨t1, rfl, ⟨_, SqT.of upd_same⟩, fun Dl hDl => lc_strsT (fun _ => true) (pN x p) upd_same hDl (by omega) (fun _ => rfl) (fun y H' Q' _ s' q' => q')
      (fun y H' Q' _ s' _ q' => ⟨_, rfl, _, rfl, _, rfl, y, x, p, rfl, q' H' (Same.refl _)⟩) fun H' s' e' => ?_⟩
    rw [pick_all] at e'
    refine ⟨l1, Dl, _, _, rfl, rfl, s' _ _ (g2 _ _ upd_same), e', ?_, fun l2 hl2 => ?_⟩
    · rw [len_map_str, List.length_map]
      show 1 + ys.length ≤ sizeLine
      have : (10 : Nat) ≤ sizeLine := by decide
      omega
    · refine ⟨l2, _, rfl, .inl ⟨SqL.of upd_same, fun t ht => ?_⟩⟩
      exact q t _ ((((g1.trans g2).trans s').trans (same_new hl2 _)).trans (same_new ht _)) upd_same
  cases c with
  | cost y z k =>
    obtain ⟨a, v0, v1, v2, v3, rfl, ha, h0, h1, h2, h3⟩ := Dq.t4 hd
    obtain rfl := h0.str_inv
    obtain rfl := h1.str_inv
    obtain rfl := h2.str_inv
    obtain rfl := h3.int_inv
    refine ⟨_, rfl, a, _, _, _, rfl, rfl, SqT.of ha, rfl, ?_⟩
    refine ⟨_, rfl, rfl, _, rfl, if_bt (by decide +kernel) ?_⟩
    refine ⟨_, rfl, _, rfl, a, _, _, _, rfl, rfl, SqT.of ha, rfl, _, rfl, _, rfl, y, x, p, rfl, ?_⟩
    refine ⟨_, rfl, a, _, _, _, rfl, rfl, SqT.of ha, rfl, _, rfl, _, rfl, z, x, p, rfl, ?_⟩
    refine ⟨_, rfl, a, _, _, _, rfl, rfl, SqT.of ha, rfl, (by show 4 ≤ sizeLine; decide), fun l hl => ?_⟩
    exact q _ _ (same_new hl _) (.tup upd_same (.cons (.str _) (.cons (.str _) (.cons (.str _) (.cons (.int _) .nil)))))
  | way y z =>
    obtain ⟨a, v0, v1, v2, rfl, ha, h0, h1, h2⟩ := Dq.t3 hd
    obtain rfl := h0.str_inv
    obtain rfl := h1.str_inv
    obtain rfl := h2.str_inv
    refine ⟨_, rfl, a, _, _, _, rfl, rfl, SqT.of ha, rfl, ?_⟩
    refine ⟨_, rfl, rfl, _, rfl, if_bf (by decide +kernel) ?_⟩
    refine ⟨_, rfl, aC, _, rfl, .inr (sC _), rfl, rfl, _, rfl, if_bt (by decide +kernel) ?_⟩
    exact flat a _ [y, z] ha (by show 2 ≤ 3; decide) fun t H' g e => q _ _ g (.tup e (.cons (.str _) (DqA.strs [pN x p y, pN x p z])))
  | ring r =>
    obtain ⟨a, v0, rfl, ha, h0⟩ := Dq.t1 hd
    obtain rfl := h0.str_inv
    refine ⟨_, rfl, a, _, _, _, rfl, rfl, SqT.of ha, rfl, ?_⟩
    refine ⟨_, rfl, rfl, _, rfl, if_bf (by cases r <;> decide +kernel) ?_⟩
    refine ⟨_, rfl, aC, _, rfl, .inr (sC _), rfl, rfl, _, rfl, if_bt (by cases r <;> decide +kernel) ?_⟩
    exact flat a _ [] ha (by decide) fun t H' g e => q _ _ g (.tup e (.cons (.str _) .nil))
  | must y z u =>
    obtain ⟨a, v0, v1, v2, v3, rfl, ha, h0, h1, h2, h3⟩ := Dq.t4 hd
    obtain rfl := h0.str_inv
    obtain rfl := h1.str_inv
    obtain rfl := h2.str_inv
    obtain rfl := h3.str_inv
    refine ⟨_, rfl, a, _, _, _, rfl, rfl, SqT.of ha, rfl, ?_⟩
    refine ⟨_, rfl, rfl, _, rfl, if_bf (by decide +kernel) ?_⟩
    refine ⟨_, rfl, aC, _, rfl, .inr (sC _), rfl, rfl, _, rfl, if_bt (by decide +kernel) ?_⟩
    exact flat a _ [y, z, u] ha (by show 3 ≤ 3; decide) fun t H' g e => q _ _ g (.tup e (.cons (.str _) (DqA.strs [pN x p y, pN x p z, pN x p u])))
  | atmost t u =>
    obtain ⟨a, v0, v1, v2, rfl, ha, h0, h1, h2⟩ := Dq.t3 hd
    obtain rfl := h0.str_inv
    simp only [cH] at hn
    refine ⟨_, rfl, a, _, _, _, rfl, rfl, SqT.of ha, rfl, ?_⟩
    refine ⟨_, rfl, rfl, _, rfl, if_bf (by decide +kernel) ?_⟩
    refine ⟨_, rfl, aC, _, rfl, .inr (sC _), rfl, rfl, _, rfl, if_bf (by decide +kernel) ?_⟩
    refine ⟨_, rfl, rfl, _, rfl, if_bt (by decide +kernel) ?_⟩
    refine ⟨_, rfl, _, rfl, a, _, _, _, rfl, rfl, SqT.of ha, rfl, _, rfl, _, rfl, _, x, p, t, rfl, by omega, fit_i1 hf, h1, fun w1 H1 g1 e1 => ?_⟩
    refine ⟨_, rfl, a, _, _, _, rfl, rfl, SqT.of (g1 _ _ ha), rfl, _, rfl, _, rfl, _, x, p, u, rfl, by omega, fit_i2 hf, h2.same g1, fun w2 H2 g2 e2 => ?_⟩
    refine ⟨(by show 3 ≤ sizeLine; decide), fun r hr => ?_⟩
    exact q _ _ ((g1.trans g2).trans (same_new hr _)) (.tup upd_same (.cons (.str _) (.cons ((e1.same g2).same (same_new hr _)) (.cons ((new_imp g1 e2).same (same_new hr _)) .nil))))
  | neg c =>
    obtain ⟨a, v0, v1, rfl, ha, h0, h1⟩ := Dq.t2 hd
    obtain rfl := h0.str_inv
    simp only [cH] at hn
    have d1 : (cD c).depth < (cD (.neg c)).depth := depth_i1
    refine ⟨_, rfl, a, _, _, _, rfl, rfl, SqT.of ha, rfl, ?_⟩
    refine ⟨_, rfl, rfl, _, rfl, if_bf (by decide +kernel) ?_⟩
    refine ⟨_, rfl, aC, _, rfl, .inr (sC _), rfl, rfl, _, rfl, if_bf (by decide +kernel) ?_⟩
    refine ⟨_, rfl, rfl, _, rfl, if_bf (by decide +kernel) ?_⟩
    refine ⟨_, rfl, rfl, _, rfl, if_bt (by decide +kernel) ?_⟩
    refine ⟨_, rfl, _, rfl, a, _, _, _, rfl, rfl, SqT.of ha, rfl, _, rfl, _, rfl, _, x, p, c, rfl, by omega, by omega, fit_i1 hf, h1, fun w1 H1 g1 e1 => ?_⟩
    refine ⟨(by show 2 ≤ sizeLine; decide), fun r hr => ?_⟩
    exact q _ _ (g1.trans (same_new hr _)) (.tup upd_same (.cons (.str _) (.cons (e1.same (same_new hr _)) .nil)))
  | bin r c d =>
    obtain ⟨a, v0, v1, v2, rfl, ha, h0, h1, h2⟩ := Dq.t3 hd
    obtain rfl := h0.str_inv
    simp only [cH] at hn
    have d1 : (cD c).depth < (cD (.bin r c d)).depth := depth_i1
    have d2 : (cD d).depth < (cD (.bin r c d)).depth := depth_i2
    refine ⟨_, rfl, a, _, _, _, rfl, rfl, SqT.of ha, rfl, ?_⟩
    refine ⟨_, rfl, rfl, _, rfl, if_bf (by cases r <;> decide +kernel) ?_⟩
    refine ⟨_, rfl, aC, _, rfl, .inr (sC _), rfl, rfl, _, rfl, if_bf (by cases r <;> decide +kernel) ?_⟩
    refine ⟨_, rfl, rfl, _, rfl, if_bf (by cases r <;> decide +kernel) ?_⟩
    refine ⟨_, rfl, rfl, _, rfl, if_bf (by cases r <;> decide +kernel) ?_⟩
    have go : tRet (tTup (tCons (tVar 3) (tCons (tCall (spPC n) [] E0 (tCons (tOp (rIxT K) (tVar 0) (tC (.int 1))) (tCons (tVar 1) (tCons (tVar 2) tNil)))) (tCons (tCall (spPC n) [] E0 (tCons (tOp (rIxT K) (tVar 0) (tC (.int 2))) (tCons (tVar 1) (tCons (tVar 2) tNil)))) tNil)))) { nx := fun _ H' => Q .non H', rt := Q }
        [some (.ref a), some (.str x), some (.str p), some (.str (binW r)), none, none] H := by
      refine ⟨_, rfl, _, rfl, a, _, _, _, rfl, rfl, SqT.of ha, rfl, _, rfl, _, rfl, _, x, p, c, rfl, by omega, by omega, fit_i1 hf, h1, fun w1 H1 g1 e1 => ?_⟩
      refine ⟨_, rfl, a, _, _, _, rfl, rfl, SqT.of (g1 _ _ ha), rfl, _, rfl, _, rfl, _, x, p, d, rfl, by omega, by omega, fit_i2 hf, h2.same g1, fun w2 H2 g2 e2 => ?_⟩
      refine ⟨(by show 3 ≤ sizeLine; decide), fun r hr => ?_⟩
      exact q _ _ ((g1.trans g2).trans (same_new hr _)) (.tup upd_same (.cons (.str _) (.cons ((e1.same g2).same (same_new hr _)) (.cons ((new_imp g1 e2).same (same_new hr _)) .nil))))
    cases r with
    | true => exact ⟨_, rfl, rfl, _, rfl, if_bt (by decide +kernel) (if_bt rfl go)⟩
    | false => exact ⟨_, rfl, rfl, _, rfl, if_bf (by decide +kernel) ⟨_, rfl, rfl, _, rfl, if_bt (by decide +kernel) go⟩⟩
  | qua r y k c =>
    obtain ⟨a, v0, v1, v2, v3, rfl, ha, h0, h1, h2, h3⟩ := Dq.t4 hd
    obtain rfl := h0.str_inv
    obtain rfl := h1.str_inv
    simp only [cH] at hn
    have d3 : (cD c).depth < (cD (.qua r y k c)).depth := depth_i3
    refine ⟨_, rfl, a, _, _, _, rfl, rfl, SqT.of ha, rfl, ?_⟩
    refine ⟨_, rfl, rfl, _, rfl, if_bf (by cases r <;> decide +kernel) ?_⟩
    refine ⟨_, rfl, aC, _, rfl, .inr (sC _), rfl, rfl, _, rfl, if_bf (by cases r <;> decide +kernel) ?_⟩
    refine ⟨_, rfl, rfl, _, rfl, if_bf (by cases r <;> decide +kernel) ?_⟩
    refine ⟨_, rfl, rfl, _, rfl, if_bf (by cases r <;> decide +kernel) ?_⟩
    refine ⟨_, rfl, rfl, _, rfl, if_bf (by cases r <;> decide +kernel) ⟨_, rfl, rfl, _, rfl, if_bf (by cases r <;> decide +kernel) ?_⟩⟩
    have fin : ∀ (u : V) (H1 : Hp), Same H H1 → Dq H1 (fun b => H b = none) u (cD (if y = x then c else cP x p c)) →
        tRet (tTup (tCons (tVar 3) (tCons (tOp (rIxT K) (tVar 0) (tC (.int 1))) (tCons (tCall spPS [] E0 (tCons (tOp (rIxT K) (tVar 0) (tC (.int 2))) (tCons (tVar 1) (tCons (tVar 2) tNil)))) (tCons (tVar 4) tNil))))) { nx := fun _ H' => Q .non H', rt := Q }
          [some (.ref a), some (.str x), some (.str p), some (.str (quaW r)), some u, none] H1 := fun u H1 g1 e1 => by
      refine ⟨_, rfl, _, rfl, a, _, _, _, rfl, rfl, SqT.of (g1 _ _ ha), rfl, ?_⟩
      refine ⟨_, rfl, a, _, _, _, rfl, rfl, SqT.of (g1 _ _ ha), rfl, _, rfl, _, rfl, _, x, p, k, rfl, fit_i2 hf, h2.same g1, fun w2 H2 g2 e2 => ?_⟩
      refine ⟨_, rfl, (by show 4 ≤ sizeLine; decide), fun t ht => ?_⟩
      exact q _ _ ((g1.trans g2).trans (same_new ht _)) (.tup upd_same (.cons (.str _) (.cons (.str _) (.cons ((new_imp g1 e2).same (same_new ht _)) (.cons ((e1.same g2).same (same_new ht _)) .nil)))))
    refine ⟨_, rfl, a, _, _, _, rfl, rfl, SqT.of ha, rfl, _, rfl, rfl, _, rfl, ?_⟩
    by_cases e : y = x
    · refine if_bt (by rw [e]; simp) ?_
      refine ⟨_, rfl, a, _, _, _, rfl, rfl, SqT.of ha, rfl, _, cD c, rfl, by omega, fit_i3 hf, h3, fun u H1 g1 e1 => ?_⟩
      exact fin u H1 g1 (by rw [if_pos e]; exact e1)
    · refine if_bf (by simp [e]) ?_
      refine ⟨_, rfl, a, _, _, _, rfl, rfl, SqT.of ha, rfl, _, rfl, _, rfl, _, x, p, c, rfl, by omega, by omega, fit_i3 hf, h3, fun u H1 g1 e1 => ?_⟩
      exact fin u H1 g1 (by rw [if_neg e]; exact e1)
end
end K71
/-! Rules: a base class's __init__ called by the class's name; a try whose suite lays the error by; what is asked of it afterwards. -/
namespace K71
open PySem L2 PyProof.Rows
/-! ### C.__init__(self, ..), C an own class over ValueError that leaves __init__ as it is -/
section
variable {X : Cx} {x : Str} {C0 : Addr} {e : Expr} {es : List Expr} {ta : TA} {p1 p2 pos : Pos} {pl : Sem Bool}
theorem pe_cinit (hg : Gl X x) (hm : X.mg x = some (.ref C0)) (rd : PySem.W.readsIn X.K C0 (.type "type") = true) (ga : PySem.W.specialIn X.K (.ref C0) "__getattribute__" = some (some (.builtin "type.__getattribute__")))
    (vi : PySem.W.findCls X.K (.ref C0) (.type "type") "__init__" = some (.val (.builtin "ValueError.__init__"))) (ha : PA X (e :: es) ta) (hdb : (x == ("__debug__" : Str)) = false := by decide)
    (hc : eval (.Call (.Attribute (.Name x p1) "__init__" p2) (e :: es) [] pos) X.env = (do
      let ov ← eval (.Name x p1) X.env
      standAt p2.atName
      let (f, first) ← holding [ov] (getMethod ov "__init__" pl)
      callWith pos f first (backTo pos (starEach (e :: es) X.env)) (backToKw pos (keywordEach [] X.env))) := by rfl)
    (he : starEach (e :: es) X.env = (false, eval e X.env) :: starEach es X.env := by rfl) (hpl : (backTo pos (starEach es X.env)).any (·.1) = false := by rfl) :
    PE X (.Call (.Attribute (.Name x p1) "__init__" p2) (e :: es) [] pos) (tVeI X.K ta) := by
  refine ⟨fun pins s σ H Q I h => ?_⟩
  refine PySem.W.methodCall_KW (ld_glob I hg hm ?_ hdb) hc
  refine PySem.W.method_cls I.kIn ga (PySem.W.cls_value I.kIn rd vi (by decide +kernel) ?_)
  show wpAny _ _ (callWith pos (Value.builtin "ValueError.__init__") [] (backTo pos (starEach (e :: es) X.env)) []) _ _ _
  refine callWith_method1 (thn (ha.run pos pins _ σ H _ (I.tok _) h) fun us s1 ⟨vs, H1, I1, r1, a, C, ws, ev, hl, T, ea, q⟩ => ?_) he hpl
  subst ev
  cases r1 with
  | @cons _ u0 _ ur ra rw' =>
    obtain rfl : u0 = Value.ref a := ra
    have hlen : ur.length ≤ sizeLine := by
      rw [← Paired.length rw']
      exact small (by omega)
    exact oinit_ok T I1 ea hlen fun s' J => ⟨.non, H1, J, rfl, q⟩
end

/-! ### an exception that was caught and laid by -/
/-- at a: an exception of the class cls, its own dict at d -/
def exH (a : Addr) (cls : Value) (d : Option Addr) : HO := .ext fun h => ∃ (oe : Obj) (vs : Array Value), h.get? a = some oe ∧ Zc cls d oe ∧ oe.data = .fields vs
theorem exH_ok {P : Program} {w : World} {H : Hp} {h : Heap} {a : Addr} {cls : Value} {d : Option Addr} {oe : Obj} (e : h.get? a = some oe) (z : Zc cls d oe) (f : ∃ vs, oe.data = .fields vs) : ObjOk P w H h a (exH a cls d) := by
  obtain ⟨vs, f⟩ := f
  exact ⟨⟨oe, vs, e, z, f⟩, ⟨oe, e⟩, fun h1 h2 ⟨o, v, q, r⟩ k => ⟨o, v, k o q, r⟩⟩
theorem exH_at {P : Program} {w : World} {H : Hp} {h : Heap} {a : Addr} {cls : Value} {d : Option Addr} (hok : HOk P w H h) (e : H a = some (exH a cls d)) : ∃ (oe : Obj) (vs : Array Value), h.get? a = some oe ∧ Zc cls d oe ∧ oe.data = .fields vs := by
  have x : ObjOk P w H h a (.ext fun h => ∃ (oe : Obj) (vs : Array Value), h.get? a = some oe ∧ Zc cls d oe ∧ oe.data = .fields vs) := hok a _ e
  exact x.1
section
variable {X : Cx} {pins : List (Addr × Obj)} {σ : L2.St} {H : Hp} {s : Shared}
/-- an object that stood untracked, younger than the entry, is tracked from now on -/
theorem track {a : Addr} {o : HO} (I : Inv X pins σ H s) (n : H a = none) (n0 : X.s_0.heap.get? a = none) (nL : a ≠ X.env.locals) (nC : ∀ x c, X.env.cells.lookup x = some c → c ≠ a) (nP : ∀ p ∈ X.pn ++ pins, p.1 ≠ a)
    (ok : ObjOk X.prog X.w (upd H a o) s.heap a o) : Inv X pins σ (upd H a o) s := by
  have ne : ∀ {b : Addr} {ob : Obj}, X.s_0.heap.get? b = some ob → b ≠ a := fun {b ob} e z => by
    rw [z, n0] at e
    cases e
  refine ⟨I.ok, I.os, I.bare, ⟨I.base.keep, I.base.slot, fun b ob e nb hx => ?_, I.base.there, fun b xs e => ?_, fun b ob u e => ?_, fun b ps e => ?_⟩, I.loc, I.cell, ?_, fun x c e => ?_, fun p hp => ?_, fun b u e => ?_, I.len⟩
  · rw [upd_ne (ne e)]
    exact I.base.free b ob e nb hx
  · have q := I.base.tups b xs e
    rw [upd_ne (ne_of_none q n)]
    exact q
  · have q := I.base.frzs b ob u e
    rw [upd_ne (ne_of_none q n)]
    exact q
  · obtain ⟨m, q⟩ := I.base.tbls b ps e
    exact ⟨m, by rw [upd_ne (ne_of_none q n)]; exact q⟩
  · rw [upd_ne (Ne.symm nL)]
    exact I.free
  · rw [upd_ne (nC x c e)]
    exact I.freeC x c e
  · obtain ⟨q1, q2, q3, q4, q5⟩ := I.pin p hp
    exact ⟨q1, by rw [upd_ne (nP p hp)]; exact q2, q3, q4, q5⟩
  · by_cases hb : b = a
    · subst hb
      rw [upd_same] at e
      cases e
      exact ok
    · rw [upd_ne hb] at e
      exact (I.hok b u e).stay (fun _ _ _ q => q) (fun c q => by rw [upd_ne (ne_of_none q n)]; exact q) fun c xs q => by rw [upd_ne (ne_of_none q n)]; exact q
end
/-- what the clause 'except x as n' wishes, its suite going on alone; behind it the error is tracked -/
def wHeld (K : PySem.W.Frag) (c : Value) (i : Nat) (ts : Addr → Value → Option Addr → TS) (Wout : WX) (D : Ends) : WX := fun cls d σ H =>
  ∃ b, PySem.W.exmOne K cls c = some b ∧ (b = true → ∀ a, H a = none → ts a cls d { nx := fun σ' H' => H' a = none → D.nx (σ'.set i none) (upd H' a (exH a cls d)), rt := fun _ _ => False } (σ.set i (some (.ref a))) H) ∧
    (b = false → Wout cls d σ H)
section
variable {X : Cx} {x n : Str} {c : Value} {i : Nat} {body suite : List Stmt} {b₀ : Stmt} {np pos pos' : Pos} {tb : WX → TS} {ts : Addr → Value → Option Addr → TS} {Wout : WX}
theorem ps_try_held (hs : X.stack = X.env :: X.outer) (hf : X.env.frame = some X.env.locals) (hex : X.ex = []) (hN : X.N.Nodup) (hi : X.N[i]? = some n) (hln : X.env.kindOf n = some .local) (hc : Names X x c) (tk : Takes X Wout)
    (hb : ∀ (W : WX) (pn : List (Addr × Obj)) (xe : Value → Shared → Prop), Takes (X.tr pn xe) W → PassesOwn (model X.prog X.w) X.A X.env xe → PSs (X.tr pn xe) body (tb W))
    (hsu : ∀ (a : Addr) (oe : Obj) (cls : Value) (d : Option Addr) (pn : List (Addr × Obj)), Zc cls d oe → (∃ vs, oe.data = .fields vs) → PSs (X.suite a ((a, oe) :: pn)) (b₀ :: suite) (ts a cls d)) :
    PS X (.Try body [.ExceptHandler (some (.Name x np)) (some n) (b₀ :: suite) pos'] [] [] pos) (fun D σ H => tb (wHeld X.K c i ts Wout D) D σ H) := by
  refine ⟨fun pins s σ H D I h => ?_⟩
  have ok := I.ok
  have hfr : X.A.frames = some (X.env :: X.outer) := by rw [ok.frames, hs]
  have hloc : Loc X.env.scope n := .inl hln
  refine wpAny_Try_except (wpAny_mono ((hb (wHeld X.K c i ts Wout D) (X.pn ++ pins) _ (fun u s' xx => ?_) PassesOwn.looking).run [] s σ H D (I.toTry _) h) (fun f s1 hsp => ?_) (fun e s1 he => he))
  · obtain ⟨a, B, sI, pins', σ', H', cls, d, rfl, J', nb, up, sky, na, os, ag, b, hb1, hyes, hno⟩ := xx
    have J : Inv X pins σ' H' sI := J'.ofTry ok
    have sky' : Sky B (X.env :: X.outer) a (Zc cls d) X.env.locals s'.heap := by rw [← hs]; exact sky
    show wpAny (model X.prog X.w) X.A (noteFrame (.ref a) X.env) _ _ _
    refine Sky.land Zc.steady hfr hf sky' fun h3 fl3 up3 => ?_
    have J3 : Inv X pins σ' H' { s' with heap := h3 } := J.landed nb fl3.1 (up.trans up3) os ag
    obtain ⟨oe3, vs3, he3, hz3, hd3⟩ := fl3.there
    have nfr : a ∉ frs (X.env :: X.outer) := fun hm => by
      obtain ⟨_, o', e', hnf⟩ := fl3.2.2.1.mem hm
      rw [he3] at e'; cases e'
      exact hnf _ hd3
    have nL : a ≠ X.env.locals := fun z => nfr (List.mem_filterMap.mpr ⟨X.env, List.mem_cons_self, by rw [hf, z]⟩)
    have nF : a ∉ X.fs := fun hm => by
      obtain ⟨e, he, q⟩ := List.mem_filterMap.mp hm
      exact nfr (List.mem_filterMap.mpr ⟨e, List.mem_cons_of_mem _ he, q⟩)
    have S3 := J3.suite he3 hd3 na nL nF
    have Bn : B.get? a = none := fl3.2.1
    -- the error is younger than the entry, and nothing that was pinned
    have n0 : X.s_0.heap.get? a = none := by
      cases e : X.s_0.heap.get? a with
      | none => rfl
      | some o =>
        obtain ⟨o', e'⟩ := J.base.there a o e (by rw [hex]; exact fun z => nomatch z)
        have z := nb a o' e' (by rw [hs]; exact nfr)
        rw [Bn] at z; cases z
    have nP : ∀ p ∈ X.pn ++ pins, p.1 ≠ a := fun p hp z => by
      obtain ⟨q1, _, q3, q4, _⟩ := J.pin p hp
      have w := nb p.1 p.2 q1 fun hm => by
        rcases List.mem_cons.mp (J.stkSub p.1 hm) with y | y
        · exact q3 y
        · exact q4 y
      rw [z, Bn] at w; cases w
    refine wpAny_handleBy_cons (codeAny_handlers_test ?_) (by intro q; cases q)
    have LT : PySem.W.Looks (model X.prog X.w) h3 (typeOf (.ref a)) cls := fun A Q E s k q => wpAny_typeOf_ref (k _ _ he3) (by rw [hz3.1]; exact q)
    have LM := PySem.W.exm_one (M := model X.prog X.w) (J3.kIn) LT hb1
    have test : ∀ {Q : Value → Shared → Prop} {E : Value → Shared → Prop}, Q c { s' with heap := h3 } → wpAny (model X.prog X.w) (X.A.mark (some (.ref a))) (eval (.Name x np) X.env) Q E { s' with heap := h3 } := fun {Q E} q => by
      obtain ⟨hg, hdbg, hm | ⟨hm, hv, hnn⟩⟩ := hc
      · exact ld_glob (X := X.suite a ((a, oe3) :: (X.pn ++ pins))) S3 hg hm q hdbg
      · exact ld_blt (X := X.suite a ((a, oe3) :: (X.pn ++ pins))) S3 hg hm hv q hnn hdbg
    refine test (LM.here ?_)
    cases b with
    | true =>
      refine codeAny_handlers_suite_as (HandSPX.lands_againZ fl3 fun h4 fl4 up4 => ?_)
      have J4 : Inv X pins σ' H' { s' with heap := h4 } := J.landed nb fl4.1 ((up.trans up3).trans up4) os ag
      obtain ⟨oe4, vs4, he4, hz4, hd4⟩ := fl4.there
      have S4 := J4.suite he4 hd4 na nL nF
      refine store_ok (X := X.suite a ((a, oe4) :: (X.pn ++ pins))) (v := .ref a) S4 hN hi hloc rfl (fun s5 S5 => ?_) (.inr hln)
      refine wpAny_mono ((hsu a oe4 cls d (X.pn ++ pins) hz4 ⟨_, hd4⟩).run [] s5 _ H' _ S5 (hyes rfl a na)) (fun f s6 hsp => ?_) (fun _ _ z => False.elim z)
      cases f with
      | next =>
        obtain ⟨σ6, H6, S6, q6⟩ := hsp
        refine gone_ok (X := X.suite a ((a, oe4) :: (X.pn ++ pins))) S6 hN hi hln fun s7 S7 => ?_
        obtain ⟨g1, g2, g3, g4, g5⟩ := S7.pin (a, oe4) (List.mem_append_left _ List.mem_cons_self)
        have J7 : Inv X pins (σ6.set i none) H6 s7 := S7.unsuite ok
        refine ⟨_, _, track J7 g2 n0 nL (fun y cc e z => ?_) nP (exH_ok g1 hz4 ⟨_, hd4⟩), q6 g2⟩
        obtain ⟨v, oc, e1, e2⟩ := J7.cell y cc e
        rw [z, g1] at e1
        cases e1
        exact g5 v e2
      | brk =>
        obtain ⟨σ6, H6, S6, q6⟩ := hsp
        exact q6.elim
      | cont =>
        obtain ⟨σ6, H6, S6, q6⟩ := hsp
        exact q6.elim
      | ret u =>
        obtain ⟨v6, σ6, H6, S6, r6, q6⟩ := hsp
        exact q6.elim
    | false =>
      show wpAny _ X.A (handleBy (.ref a) X.env []) _ _ _
      refine wpAny_handleBy_nil ?_
      obtain ⟨k1, k2, k3, oe, vs, T, oT, ts', he, hz, hd, h1, hr⟩ := id fl3
      unfold PySem.passOn
      refine wpAny_bind (wpAny_field he hd h1 ?_)
      rw [if_neg (show ¬ ((Value.ref T == Value.none) = true) from by simp)]
      have fin : wpAny (model X.prog X.w) X.A (setFlight (.ref a) X.env.frame) (fun _ s4 => wpAny (model X.prog X.w) X.A (throw (.ref a) : Sem Flow) (SP X pins D) X.xe s4) X.xe { s' with heap := h3 } := by
        rw [hf]
        refine HandSPX.setFlight_upZ fl3 fun h4 hh4 up4 => wpAny_throw (tk _ _ ?_)
        exact ⟨a, B, sI, pins, σ', H', cls, d, rfl, J, nb, (up.trans up3).trans up4, .inr (.inr (by rw [hs]; exact hh4)), na, os, ag, hno rfl⟩
      first
        | exact wpAny_bind (wpAny_pure (wpAny_bind fin))
        | exact wpAny_bind fin
  · cases f with
    | next =>
      obtain ⟨σ', H', J', q⟩ := hsp
      exact wpAny_execs_nil ⟨σ', H', J'.ofTry ok, q⟩
    | brk =>
      obtain ⟨σ', H', J', q⟩ := hsp
      exact ⟨σ', H', J'.ofTry ok, q⟩
    | cont =>
      obtain ⟨σ', H', J', q⟩ := hsp
      exact ⟨σ', H', J'.ofTry ok, q⟩
    | ret u =>
      obtain ⟨v, σ', H', J', r, q⟩ := hsp
      exact ⟨v, σ', H', J'.ofTry ok, r, q⟩
end

/-! ### what is asked of it -/
/-- the class C, so that isinstance and attributes of its errors are read -/
structure ErrC (K : PySem.W.Frag) (C : Addr) : Prop where
  hcl : (PySem.W.clsIn K C).isSome = true
  hg : PySem.W.findIn K (.ref C) "__getattribute__" = some (some (.builtin "BaseException.__getattribute__"))
  hk : PySem.W.findIn K (.ref C) "__getattr__" = some none
  hs : PySem.W.subIn K (.ref C) (.type "BaseException") = some true
  hd : PySem.W.hasDictIn K C = true
  ha : PySem.W.findIn K (.ref C) "__class__" = some (some (.builtin "object.__class__"))
  hn : PySem.W.specialIn K (.builtin "object.__class__") "__get__" = some (some (.builtin "getset_descriptor.__get__"))
  ht : PySem.W.takesIn K (.builtin "object.__class__") = some true
  hm : PySem.W.mroIn K C (.type "object") = some true
theorem exH_inst {X : Cx} {pins : List (Addr × Obj)} {σ : L2.St} {H : Hp} {s : Shared} {a C d : Addr} {fs : List (Str × V)} (I : Inv X pins σ H s) (e : H a = some (exH a (.ref C) (some d))) (ed : H d = some (.xd fs)) :
    ∃ (oe od : Obj) (mA : Str → Option Value), PySem.W.InstAt s.heap a oe C (some od) ∧ (∀ f, PySem.W.lookIn f od = some (mA f)) ∧ ∀ f, RelO (fs.lookup f) (mA f) := by
  obtain ⟨oe, vs, g1, g2, g3⟩ := exH_at I.hok e
  have hx : ObjOk X.prog X.w H s.heap d (.xd fs) := I.hok d _ ed
  obtain ⟨mA, hns, hr⟩ := hx
  obtain ⟨od, ho, hl⟩ := lookIn_ns hns
  exact ⟨oe, od, mA, ⟨g1, g2.1, by unfold PySem.W.notCls; rw [g3] <;> rfl, by rw [g2.2]; exact ho⟩, hl, hr⟩
/-- isinstance(e, c) of an error laid by -/
def rIsH (K : PySem.W.Frag) : List V → Hp → VK → Prop := fun xs H Q => ∃ (a C d : Addr) (fs : List (Str × V)) (c : V) (u : Value) (b : Bool), xs = [.ref a, c] ∧ H a = some (exH a (.ref C) (some d)) ∧ H d = some (.xd fs) ∧ ErrC K C ∧ ClsV c u ∧ PySem.W.kitOne K (.ref C) u = some b ∧ Q (.bl b) H
theorem call_isH {X : Cx} : CallR X (.builtin "isinstance") (rIsH X.K) := by
  intro pins s σ H xs us Q I r h
  obtain ⟨a, C, d, fs, c, u, b, rfl, ea, ed, T, k, e, q⟩ := h
  obtain ⟨u1, u2, rfl, r1, r2⟩ := vals2 r
  have e2 := k.eq r2
  subst e2
  cases r1
  obtain ⟨oe, od, mA, J, _, _⟩ := exH_inst I ea ed
  exact PySem.W.kia_one (PySem.W.kitx_exc T.hcl T.hg T.hk T.hs T.ha T.hn T.ht T.hm) I.kIn J e (fun z => nomatch z) fun tk => ⟨.bl b, H, I.tok tk, rfl, q⟩
/-- e.f of an error laid by -/
def tFldH (K : PySem.W.Frag) (te : TE) (f : Str) : TE := fun σ H Q => te σ H fun x H1 => ∃ (a C d : Addr) (fs : List (Str × V)) (v : V), x = .ref a ∧ H1 a = some (exH a (.ref C) (some d)) ∧ H1 d = some (.xd fs) ∧ ErrC K C ∧ PySem.W.findIn K (.ref C) f = some none ∧ fs.lookup f = some v ∧ Q v H1
theorem pe_fldH {X : Cx} {e : Expr} {te : TE} {pos : Pos} {f : Str} (he : PE X e te) (hb : attributeBase e f X.env (eval e X.env) = eval e X.env := by rfl) : PE X (.Attribute e f pos) (tFldH X.K te f) := by
  refine ⟨fun pins s σ H Q I h => ?_⟩
  refine attr_of hb (thn (he.run pins s σ H _ I h) fun u s1 ⟨x, H1, I1, rx, a, C, d, fs, v, ex, ea, ed, T, hno, l, q⟩ => ?_)
  subst ex
  obtain rfl : u = Value.ref a := rx
  obtain ⟨oe, od, mA, J, hl, hr⟩ := exH_inst I1 ea ed
  obtain ⟨u, hu, ru⟩ := RelO.some_of (v := v) (o := mA f) (by rw [← l]; exact hr f)
  exact HandSPX.exc_get I1.kIn J T.hg T.hk T.hs (PySem.W.findObj_own T.hd hno rfl (by rw [hl, hu])) (handed_of ru) ⟨v, H1, I1.tok _, ru, q⟩
end K71
/-! The net as it is read; NoPlace; refuse_strangers, look_at_claim, look_at_term. -/
namespace K71
open PySem L2
/-! ### the net -/
structure Tie where
  name : Str
  a : Str
  b : Str
  width : Int
  cost : Int
def tieD (t : Tie) : PyData := .tuple [.str t.name, .str t.a, .str t.b, .int t.width, .int t.cost]
theorem kl_ : ¬ (("known" : Str) = "laid") := by decide +kernel
theorem lk_ : ¬ (("laid" : Str) = "known") := by decide +kernel
def nf (k l : Addr) : List (Str × V) := putF "laid" (.ref l) (putF "known" (.ref k) [])
theorem nf_eq (k l : Addr) : nf k l = ([("known", V.ref k), ("laid", V.ref l)] : List (Str × V)) := by
  show (if ("known" : Str) = "laid" then [(("known" : Str), V.ref l)] else (("known" : Str), V.ref k) :: putF "laid" (V.ref l) []) = ([("known", V.ref k), ("laid", V.ref l)] : List (Str × V))
  rw [if_neg kl_]
  all_goals rfl
theorem nf_known (k l : Addr) : (nf k l).lookup ("known" : Str) = some (.ref k) := by
  unfold nf
  rw [lookup_putF, if_neg kl_, lookup_putF, if_pos rfl]
theorem nf_laid (k l : Addr) : (nf k l).lookup ("laid" : Str) = some (.ref l) := by
  unfold nf
  rw [lookup_putF, if_pos rfl]
theorem nf_no (k l : Addr) {m : Str} (h1 : ¬ m = "laid") (h2 : ¬ m = "known") : (nf k l).lookup m = none := by
  unfold nf
  rw [lookup_putF, if_neg h1, lookup_putF, if_neg h2]
  all_goals rfl
/-- a net stands at p with the places ks and the ties ts -/
def NetIn (C : Addr) (H : Hp) (p : Addr) (ks : List Str) (ts : List Tie) : Prop := ∃ (dx lk lt : Addr) (vs : List V), H p = some (.ins C dx (nf lk lt)) ∧ H lk = some (.lst (ks.map V.str)) ∧ H lt = some (.lst vs) ∧ DqA H (fun _ => False) vs (ts.map tieD)
theorem NetIn.same {C : Addr} {H H' : Hp} {p : Addr} {ks : List Str} {ts : List Tie} (g : Same H H') (h : NetIn C H p ks ts) : NetIn C H' p ks ts := by
  obtain ⟨dx, lk, lt, vs, h1, h2, h3, h4⟩ := h
  exact ⟨dx, lk, lt, vs, g _ _ h1, g _ _ h2, g _ _ h3, h4.same g⟩
/-- what the top says of the class Net -/
structure NetT (K : PySem.W.Frag) (mg : Str → Option Value) (C : Addr) : Prop where
  cl : Cls K C
  nK : NoAttr K C "known"
  nL : NoAttr K C "laid"
  mgC : mg "Net" = some (.ref C)
def MDef (K : PySem.W.Frag) (C : Addr) (m qual : Str) (st : Stmt) (ps : List Str) : Prop := ∃ f fd, Meth K C m f ∧ Fun K m qual st f fd ∧ Binds K fd ps []
def MCal (P : Program) (w : World) (K : PySem.W.Frag) (mg : Str → Option Value) (base : Heap) (CX : CXT) (C : Addr) (m : Str) (k : Nat) (ps : List Str) (sp : Sp) : Prop := ∃ f fd, Meth K C m f ∧ FnOk P w K mg base CX k f fd ps sp ∧ Binds K fd ps []
section
variable {P : Program} {w : World} {K : PySem.W.Frag} {mg : Str → Option Value} {base : Heap} {C : Addr}
theorem MCal.mono {CX : CXT} {m : Str} {j k : Nat} {ps : List Str} {sp : Sp} (c : MCal P w K mg base CX C m j ps sp) (h : j ≤ k) : MCal P w K mg base CX C m k ps sp := by
  obtain ⟨f, fd, a, b, d⟩ := c
  exact ⟨f, fd, a, b.mono h, d⟩
theorem MDef.ok {m qual : Str} {st : Stmt} {N ps : List Str} {k : Nat} {sp : Sp} (D : MDef K C m qual st ps) (S : FnScope N ps (defScope st)) (len : ∀ vs H Q E, sp vs H Q E → vs.length = ps.length)
    (hbody : ∀ (f : Addr) (cdv : Value) (A : Around) (outer : List Env) (s : Shared) (H : Hp) (vs : List V) (Q : VK) (E : XK), Room k (A.deeper (PyProof.Rows.envOfC qual (defScope st) s.heap.objs.size f cdv)) → sp vs H Q E →
      ∃ t, PSs (cxOf CX0 P w K mg base N qual (defScope st) f cdv A outer s H E).nox (defBody st) t ∧ t { nx := fun _ H' => Q .non H', rt := Q } (start N vs) H) : MCal P w K mg base CX0 C m (k + 1) ps sp := by
  obtain ⟨f, fd, hm, F, b⟩ := D
  exact ⟨f, fd, hm, F.ok S len (hbody f), b⟩
end
abbrev sPl : Stmt := inClass (top 20) 7
abbrev sTs : Stmt := inClass (top 20) 8
def spPl (C : Addr) : Sp := fun vs H Q _ => ∃ (p : Addr) (ks : List Str) (ts : List Tie), vs = [.ref p] ∧ NetIn C H p ks ts ∧ RetS ks H Q
def spTs (C : Addr) : Sp := fun vs H Q _ => ∃ (p : Addr) (ks : List Str) (ts : List Tie), vs = [.ref p] ∧ NetIn C H p ks ts ∧ ∀ l H' vs', Same H H' → H' l = some (.lst vs') → DqA H' (fun _ => False) vs' (ts.map tieD) → Q (.ref l) H'
section
variable {P : Program} {w : World} {K : PySem.W.Frag} {mg : Str → Option Value} {base : Heap} {C : Addr}
theorem scPl : FnScope ["self"] ["self"] (defScope sPl) := ⟨rfl, rfl, rfl, by decide +kernel, rfl, by decide +kernel, by decide +kernel⟩
theorem ok_Pl (D : MDef K C "places" "Net.places" sPl ["self"]) (T : Txt K mg) (N : NetT K mg C) : MCal P w K mg base CX0 C "places" 1 ["self"] (spPl C) := by
  refine D.ok scPl (fun vs H Q E h => ?_) (fun f cdv A outer s H vs Q E hr h => ?_)
  · obtain ⟨p, ks, ts, rfl, _⟩ := h
    rfl
  obtain ⟨p, ks, ts, rfl, ⟨dx, lk, lt, vs, h1, h2, h3, h4⟩, q⟩ := h
  refine ⟨_, pss_one (ps_ret (pe_callTy call_list_of (by rfl) T.list (by decide +kernel) (pa_cons (pe_fld (pv 0) rfl) pa_nil))), ?_⟩
  refine ⟨_, rfl, p, C, dx, _, _, rfl, h1, N.cl, N.nK, nf_known _ _, lk, _, rfl, .inl (SqL.of h2), fun l hl => ?_⟩
  exact q l _ (same_new hl _) upd_same
theorem scTs : FnScope ["self"] ["self"] (defScope sTs) := ⟨rfl, rfl, rfl, by decide +kernel, rfl, by decide +kernel, by decide +kernel⟩
theorem ok_Ts (D : MDef K C "ties" "Net.ties" sTs ["self"]) (T : Txt K mg) (N : NetT K mg C) : MCal P w K mg base CX0 C "ties" 1 ["self"] (spTs C) := by
  refine D.ok scTs (fun vs H Q E h => ?_) (fun f cdv A outer s H vs Q E hr h => ?_)
  · obtain ⟨p, ks, ts, rfl, _⟩ := h
    rfl
  obtain ⟨p, ks, ts, rfl, ⟨dx, lk, lt, vs, h1, h2, h3, h4⟩, q⟩ := h
  refine ⟨_, pss_one (ps_ret (pe_callTy call_list_of (by rfl) T.list (by decide +kernel) (pa_cons (pe_fld (pv 0) rfl) pa_nil))), ?_⟩
  refine ⟨_, rfl, p, C, dx, _, _, rfl, h1, N.cl, N.nL, nf_laid _ _, lt, _, rfl, .inl (SqL.of h3), fun l hl => ?_⟩
  exact q l _ _ (same_new hl _) upd_same (h4.same (same_new hl _))
end

/-! ### NoPlace -/
structure ExcT (K : PySem.W.Frag) (mg : Str → Option Value) (CN CE : Addr) : Prop where
  oex : OexC K CN
  gN : mg "NoPlace" = some (.ref CN)
  gE : mg "CourtError" = some (.ref CE)
  rd : PySem.W.readsIn K CE (.type "type") = true
  ga : PySem.W.specialIn K (.ref CE) "__getattribute__" = some (some (.builtin "type.__getattribute__"))
  vi : PySem.W.findCls K (.ref CE) (.type "type") "__init__" = some (.val (.builtin "ValueError.__init__"))
  noN : PySem.W.findIn K (.ref CN) "name" = some none
  exm : PySem.W.exmOne K (.ref CN) (.ref CE) = some true
  err : ErrC K CN
  kitV : PySem.W.kitOne K (.ref CN) (.type "ValueError") = some true
  kits : ∀ x : Str, x ∈ (["NoClaim", "NoLine", "NoName", "NoText", "NoTie", "NoWidth", "SamePlace", "TooMany", "Twice"] : List Str) → ∃ c, mg x = some (.ref c) ∧ PySem.W.kitOne K (.ref CN) (.ref c) = some false
  val : mg "ValueError" = none
abbrev sNI : Stmt := inClass (top 10) 0
def spNI (C : Addr) : Sp := fun vs H Q _ => ∃ (a : Addr) (x : Str), vs = [.ref a, .str x] ∧ H a = some (exo a C none) ∧ ∀ dx, H dx = none → dx ≠ a → Q .non (upd (upd H dx (exd dx [("name", .str x)])) a (exo a C (some dx)))
/-- NoPlace's own __init__ -/
def IDef (K : PySem.W.Frag) (C : Addr) : Prop := ∃ f fd, PySem.W.findIn K (.ref C) "__init__" = some (some (.ref f)) ∧ PySem.W.typeIn K (.ref f) = some (.type "function") ∧ Fun K "__init__" "NoPlace.__init__" sNI f fd ∧ Binds K fd ["self", "name"] []
def ICal (P : Program) (w : World) (K : PySem.W.Frag) (mg : Str → Option Value) (base : Heap) (C : Addr) : Prop := ∃ f fd, PySem.W.findIn K (.ref C) "__init__" = some (some (.ref f)) ∧ PySem.W.typeIn K (.ref f) = some (.type "function") ∧ FnOk P w K mg base CX0 1 f fd ["self", "name"] (spNI C) ∧ Binds K fd ["self", "name"] []
section
variable {P : Program} {w : World} {K : PySem.W.Frag} {mg : Str → Option Value} {base : Heap} {CN CE : Addr}
theorem scNI : FnScope ["self", "name"] ["self", "name"] (defScope sNI) := ⟨rfl, rfl, rfl, by decide +kernel, rfl, by decide +kernel, by decide +kernel⟩
theorem ok_NI (D : IDef K CN) (T : ExcT K mg CN CE) : ICal P w K mg base CN := by
  obtain ⟨f, fd, h1, h2, F, b⟩ := D
  refine ⟨f, fd, h1, h2, F.ok scNI (fun vs H Q E h => ?_) (fun cdv A outer s H vs Q E hr h => ?_), b⟩
  · obtain ⟨a, x, rfl, _⟩ := h
    rfl
  obtain ⟨a, x, rfl, ha, q⟩ := h
  refine ⟨_, pss_cons (ps_expr (pe_cinit (by rfl) T.gE T.rd T.ga T.vi (pa_cons (pv 0) (pa_cons pe_str pa_nil)))) (pss_one (ps_ost (pv 0) (pv 1))), ?_⟩
  refine ⟨_, rfl, a, CN, _, rfl, (by show 1 ≤ 1000; decide), T.oex, ha, ?_⟩
  exact ⟨_, rfl, _, rfl, a, CN, rfl, T.oex, T.noN, .inl ⟨ha, fun dx n ne => q dx n ne⟩⟩
end

/-! ### refuse_strangers -/
def strange (ks xs : List Str) : Option Str := xs.find? fun x => !decide (x ∈ ks)
theorem strange_none {ks xs : List Str} (h : ∀ y ∈ xs, y ∈ ks) : strange ks xs = none := by
  unfold strange
  rw [List.find?_eq_none]
  intro y hy
  simp [h y hy]
theorem strange_at : ∀ {ks xs : List Str} {i : Nat} {y : Str}, (∀ z ∈ xs.take i, z ∈ ks) → xs[i]? = some y → y ∉ ks → strange ks xs = some y
  | ks, [], i, y, _, e, _ => by simp at e
  | ks, x :: xs, 0, y, _, e, n => by
    have e' : x = y := Option.some.inj e
    subst e'
    unfold strange
    rw [List.find?_cons, show (!decide (x ∈ ks)) = true by simp [n]]
  | ks, x :: xs, i + 1, y, h, e, n => by
    have hx : x ∈ ks := h x (by simp)
    unfold strange
    rw [List.find?_cons, show (!decide (x ∈ ks)) = false by simp [hx]]
    exact strange_at (i := i) (fun z hz => h z (by simp [hz])) (by simpa using e) n
theorem inV_strs (y : Str) : ∀ ks : List Str, inV (.str y) (ks.map V.str) = decide (y ∈ ks)
  | [] => by simp [inV]
  | k :: ks => by
    have ih := inV_strs y ks
    unfold inV at ih ⊢
    rw [List.map_cons, List.any_cons, ih]
    show ((k == y) || decide (y ∈ ks)) = _
    rw [Bool.eq_iff_iff]
    simp only [Bool.or_eq_true, beq_iff_eq, decide_eq_true_eq, List.mem_cons]
    exact ⟨fun h => h.elim (fun e => .inl e.symm) .inr, fun h => h.elim (fun e => .inl e.symm) .inr⟩
theorem flat_strs (ks : List Str) : (ks.map V.str).all flatV = true := by
  rw [List.all_eq_true]
  intro v hv
  obtain ⟨x, _, rfl⟩ := List.mem_map.mp hv
  rfl
abbrev sRS : Stmt := top 27
/-- a stranger among xs: NoPlace with its name; else nothing -/
def EndN (CN : Addr) (ks xs : List Str) (H : Hp) (Q : VK) (E : XK) : Prop := (strange ks xs = none → ∀ H', Same H H' → Q .non H') ∧ ∀ x, strange ks xs = some x → ∀ d H', Same H H' → H' d = some (.xd [("name", .str x)]) → E (.ref CN) (some d) H'
def spRS (C CN : Addr) : Sp := fun vs H Q E => ∃ (p a : Addr) (ks xs : List Str) (ts : List Tie), vs = [.ref p, .ref a] ∧ NetIn C H p ks ts ∧ H a = some (.lst (xs.map V.str)) ∧ EndN CN ks xs H Q E
section
variable {P : Program} {w : World} {K : PySem.W.Frag} {mg : Str → Option Value} {base : Heap} {C CN CE : Addr}
theorem scRS : FnScope ["net", "names", "places", "name"] ["net", "names"] (defScope sRS) := ⟨rfl, rfl, rfl, by decide +kernel, rfl, by decide +kernel, by decide +kernel⟩
theorem ok_RS (D : Def K mg "refuse_strangers" sRS ["net", "names"]) (N : NetT K mg C) (T : ExcT K mg CN CE) (cP : MCal P w K mg base CX0 C "places" 1 ["self"] (spPl C)) (cI : ICal P w K mg base CN) : Cal P w K mg base (L2.CX P w) "refuse_strangers" 3 ["net", "names"] (spRS C CN) := by
  obtain ⟨fP, fdP, mP, FP, bP⟩ := cP
  obtain ⟨fI, fdI, i1, i2, FI, bI⟩ := cI
  refine D.okX scRS (fun vs H Q E h => ?_) (fun f cdv A outer s H vs Q E hr h => ?_)
  · obtain ⟨p, a, ks, xs, ts, rfl, _⟩ := h
    rfl
  obtain ⟨p, a, ks, xs, ts, rfl, hN, ha, q1, q2⟩ := h
  have hr1 : Room 1 _ := hr.mono (by omega)
  refine ⟨_, pss_cons (ps_set (i := 2) scRS.nd rfl (Or.inl rfl) (pe_meth0 (pv 0) N.cl mP FP hr1 bP .nil pass0))
    (pss_one (ps_for (passes_of rfl) rfl (pi_list (pv 1)) (pg_name (i := 3) scRS.nd rfl (Or.inl rfl))
      (pss_one (ps_if (pt_cmpR op_notIn_seq (pv 3) (pv 2) rfl) (pss_one (ps_raise rfl (takes_of rfl rfl rfl rfl) (pmk_oex T.oex i1 i2 FI hr bI .nil pass0 (by rfl) T.gN (pa_cons (pv 3) pa_nil)))) pss_nil)))), ?_⟩
  obtain ⟨dx, lk, lt, vs, n1, n2, n3, n4⟩ := id hN
  refine ⟨_, rfl, p, dx, _, rfl, n1, nf_no _ _ (by decide +kernel) (by decide +kernel), p, ks, ts, rfl, hN, fun pl H1 g1 e1 => ?_⟩
  refine ⟨_, rfl, a, rfl, ⟨_, SqL.of (g1 _ _ ha)⟩, for_list (K := K) (a := a) (xs := xs.map V.str) (fun i σ H' => (∀ z ∈ xs.take i, z ∈ ks) ∧ Same H1 H' ∧ ∃ v : Option V, σ = [some (.ref p), some (.ref a), some (.ref pl), v])
    ⟨fun z hz => by simp at hz, Same.refl _, none, rfl⟩ (fun i σ H' _ ⟨_, s', _⟩ => SqL.of (s' _ _ (g1 _ _ ha))) ?_ ?_⟩
  · rintro i y σ H' hi ⟨hb, s', v, rfl⟩
    obtain ⟨y, hy, rfl⟩ := map_at hi
    refine ⟨_, rfl, _, rfl, pl, _, rfl, .inl (SqL.of (s' _ _ e1)), rfl, flat_strs ks, _, rfl, ?_⟩
    have ei := inV_strs y ks
    by_cases hk : y ∈ ks
    · refine if_bf (by rw [ei]; simp [hk]) ?_
      refine ⟨fun z hz => ?_, s', _, rfl⟩
      rw [take_more hy] at hz
      rcases List.mem_append.mp hz with z1 | z1
      · exact hb z z1
      · rw [List.mem_singleton.mp z1]
        exact hk
    · refine if_bt (by rw [ei]; simp [hk]) ?_
      have hst := strange_at hb hy hk
      refine ⟨_, rfl, (by show 1 ≤ 1000; decide), fun e he => ⟨e, y, rfl, upd_same, fun d hd hde => ⟨rfl, d, [("name", .str y)], upd_same, ?_, ?_, ?_⟩⟩⟩
      · rw [upd_ne hde, upd_same]
      · rw [upd_ne hde] at hd
        exact hd
      · rw [upd_ne hde] at hd
        refine q2 y hst d _ (fun b o z => ?_) upd_same
        have z' := s' _ _ (g1 _ _ z)
        have be : b ≠ e := ne_of_none z' he
        have bd : b ≠ d := ne_of_none z' hd
        rw [upd_ne bd, del_ne be, upd_ne be, upd_ne bd, upd_ne be]
        exact z'
  · rintro σ H' ⟨hb, s', v, rfl⟩
    rw [len_map_str, List.take_length] at hb
    exact q1 (strange_none hb) _ (g1.trans s')
/-! ### look_at_claim, look_at_term -/
end
abbrev sLC : Stmt := top 28
abbrev sLT : Stmt := top 29
def spLC (C CN : Addr) : Sp := fun vs H Q E => ∃ (p : Addr) (v : V) (ks : List Str) (ts : List Tie) (c : Clm), vs = [.ref p, v] ∧ NetIn C H p ks ts ∧ cH c ≤ 12 ∧ fit (cD c) = true ∧ Dt H v (cD c) ∧ EndN CN ks (cN c) H Q E
def spLT (C CN : Addr) : Sp := fun vs H Q E => ∃ (p : Addr) (v : V) (ks : List Str) (ts : List Tie) (t : Trm), vs = [.ref p, v] ∧ NetIn C H p ks ts ∧ tH t ≤ 12 ∧ fit (tD t) = true ∧ Dt H v (tD t) ∧ EndN CN ks (tN t) H Q E
section
variable {P : Program} {w : World} {K : PySem.W.Frag} {mg : Str → Option Value} {base : Heap} {C CN CE : Addr}
theorem EndN.from {CN : Addr} {ks xs : List Str} {H H1 : Hp} {Q : VK} {E : XK} (g : Same H H1) (h : EndN CN ks xs H Q E) : EndN CN ks xs H1 Q E := ⟨fun e H' s => h.1 e H' (g.trans s), fun x e d H' s => h.2 x e d H' (g.trans s)⟩
theorem scLC : FnScope ["net", "claim"] ["net", "claim"] (defScope sLC) := ⟨rfl, rfl, rfl, by decide +kernel, rfl, by decide +kernel, by decide +kernel⟩
theorem ok_LC (D : Def K mg "look_at_claim" sLC ["net", "claim"]) (cR : Cal P w K mg base (L2.CX P w) "refuse_strangers" 3 ["net", "names"] (spRS C CN)) (cF : Cal P w K mg base CX0 "free_names" 27 ["claim"] (spFN 12)) : Cal P w K mg base (L2.CX P w) "look_at_claim" 28 ["net", "claim"] (spLC C CN) := by
  obtain ⟨fR, fdR, mR, FR, kR, bR⟩ := cR
  obtain ⟨fF, fdF, mF, FF, kF, bF⟩ := cF
  refine D.okX scLC (fun vs H Q E h => ?_) (fun f cdv A outer s H vs Q E hr h => ?_)
  · obtain ⟨p, v, ks, ts, c, rfl, _⟩ := h
    rfl
  obtain ⟨p, v, ks, ts, c, rfl, hN, h12, hf, hd, q⟩ := h
  have hr1 : Room 3 _ := hr.mono (by omega)
  refine ⟨_, pss_one (ps_expr (pe_callS FR hr1 rfl mR kR bR (fun σ => passAt (takes_of rfl rfl rfl rfl) σ) (pa_cons (pv 0) (pa_cons (pe_call FF hr rfl mF kF bF .nil pass0 (pa_cons (pv 1) pa_nil)) pa_nil)))), ?_⟩
  refine ⟨_, rfl, _, rfl, v, c, rfl, h12, h12, hf, hd, fun a H1 g1 e1 => ?_⟩
  exact ⟨p, a, ks, cN c, ts, rfl, hN.same g1, e1, q.from g1⟩
theorem scLT : FnScope ["net", "term"] ["net", "term"] (defScope sLT) := ⟨rfl, rfl, rfl, by decide +kernel, rfl, by decide +kernel, by decide +kernel⟩
theorem ok_LT (D : Def K mg "look_at_term" sLT ["net", "term"]) (cR : Cal P w K mg base (L2.CX P w) "refuse_strangers" 3 ["net", "names"] (spRS C CN)) (cF : Cal P w K mg base CX0 "names_in_term" 14 ["term"] (spNT 12)) : Cal P w K mg base (L2.CX P w) "look_at_term" 28 ["net", "term"] (spLT C CN) := by
  obtain ⟨fR, fdR, mR, FR, kR, bR⟩ := cR
  obtain ⟨fF, fdF, mF, FF, kF, bF⟩ := cF
  refine D.okX scLT (fun vs H Q E h => ?_) (fun f cdv A outer s H vs Q E hr h => ?_)
  · obtain ⟨p, v, ks, ts, c, rfl, _⟩ := h
    rfl
  obtain ⟨p, v, ks, ts, c, rfl, hN, h12, hf, hd, q⟩ := h
  have hr1 : Room 3 _ := hr.mono (by omega)
  have hr2 : Room 14 _ := hr.mono (by omega)
  refine ⟨_, pss_one (ps_expr (pe_callS FR hr1 rfl mR kR bR (fun σ => passAt (takes_of rfl rfl rfl rfl) σ) (pa_cons (pv 0) (pa_cons (pe_call FF hr2 rfl mF kF bF .nil pass0 (pa_cons (pv 1) pa_nil)) pa_nil)))), ?_⟩
  refine ⟨_, rfl, _, rfl, v, c, rfl, h12, h12, hf, hd, fun a H1 g1 e1 => ?_⟩
  exact ⟨p, a, ks, tN c, ts, rfl, hN.same g1, e1, q.from g1⟩
end
end K71
/-! _law_caught. -/
namespace K71
open PySem L2
def ansD (ks xs : List Str) : PyData := match strange ks xs with
  | none => .list [.str "let by", .none]
  | some x => .list [.str "refused", .str x]
abbrev sCa : Stmt := top 47
def spCa (C : Addr) : Sp := fun vs H Q _ => ∃ (p : Addr) (wd : Str) (v : V) (ks xs : List Str) (ts : List Tie), vs = [.ref p, .str wd, v] ∧ NetIn C H p ks ts ∧
  ((wd = "term" ∧ ∃ t, tH t ≤ 12 ∧ fit (tD t) = true ∧ Dt H v (tD t) ∧ tN t = xs) ∨ (wd = "claim" ∧ ∃ c, cH c ≤ 12 ∧ fit (cD c) = true ∧ Dt H v (cD c) ∧ cN c = xs)) ∧ ∀ v' H', Same H H' → Dt H' v' (ansD ks xs) → Q v' H'
section
variable {P : Program} {w : World} {K : PySem.W.Frag} {mg : Str → Option Value} {base : Heap} {C CN CE : Addr}
theorem scCa : FnScope ["_law_net_here", "_law_word", "_law_thing", "_law_caught_here", "_law_told", "e"] ["_law_net_here", "_law_word", "_law_thing"] (defScope sCa) := ⟨rfl, rfl, rfl, by decide +kernel, rfl, by decide +kernel, by decide +kernel⟩
theorem ok_Ca (D : Def K mg "_law_caught" sCa ["_law_net_here", "_law_word", "_law_thing"]) (X : Txt K mg) (T : ExcT K mg CN CE) (cC : Cal P w K mg base (L2.CX P w) "look_at_claim" 28 ["net", "claim"] (spLC C CN)) (cT : Cal P w K mg base (L2.CX P w) "look_at_term" 28 ["net", "term"] (spLT C CN)) :
    Cal P w K mg base CX0 "_law_caught" 29 ["_law_net_here", "_law_word", "_law_thing"] (spCa C) := by
  obtain ⟨fC, fdC, mC, FC, kC, bC⟩ := cC
  obtain ⟨fT, fdT, mT, FT, kT, bT⟩ := cT
  obtain ⟨c1, m1, k1⟩ := T.kits "NoClaim" (by decide +kernel)
  obtain ⟨c2, m2, k2⟩ := T.kits "NoLine" (by decide +kernel)
  obtain ⟨c3, m3, k3⟩ := T.kits "NoName" (by decide +kernel)
  obtain ⟨c4, m4, k4⟩ := T.kits "NoText" (by decide +kernel)
  obtain ⟨c5, m5, k5⟩ := T.kits "NoTie" (by decide +kernel)
  obtain ⟨c6, m6, k6⟩ := T.kits "NoWidth" (by decide +kernel)
  obtain ⟨c7, m7, k7⟩ := T.kits "SamePlace" (by decide +kernel)
  obtain ⟨c8, m8, k8⟩ := T.kits "TooMany" (by decide +kernel)
  obtain ⟨c9, m9, k9⟩ := T.kits "Twice" (by decide +kernel)
  have kN : PySem.W.kitOne K (.ref CN) (.ref CN) = some true := by
    unfold PySem.W.kitOne
    rw [if_pos (by simp)]
  refine D.ok scCa (fun vs H Q E h => ?_) (fun f cdv A outer s H vs Q E hr h => ?_)
  · obtain ⟨p, wd, v, ks, xs, ts, rfl, _⟩ := h
    rfl
  obtain ⟨p, wd, v, ks, xs, ts, rfl, hN, hc, q⟩ := h
  refine ⟨_, pss_cons (ps_set (i := 3) scCa.nd rfl (Or.inl rfl) pe_non)
    (pss_cons (ps_try_held (i := 5) (tb := fun W => tIfS (tTest (tOp rEq (tVar 1) (tC (.str "term")))) (tAsg (tCallS (spLT C CN) (WE W) (tCons (tVar 0) (tCons (tVar 2) tNil))) (gName 4)) (tAsg (tCallS (spLC C CN) (WE W) (tCons (tVar 0) (tCons (tVar 2) tNil))) (gName 4)))
        (ts := fun a cls d => tSeq (tAsg (tVar 5) (gName 3)) (tAsg (tC .non) (gName 4))) (Wout := fun _ _ _ _ => False) rfl rfl rfl scCa.nd rfl rfl ⟨rfl, by decide, Or.inl T.gE⟩ takes0
        (fun W pn xe tk _ => pss_one (ps_if (pt_cmpR op_eq (pv 1) pe_str (nomark _))
          (pss_one (ps_set (i := 4) scCa.nd rfl (Or.inl rfl) (by exact (pe_callS FT hr rfl mT kT bT (fun σ => passAt tk σ) (by exact (pa_cons (pv 0) (pa_cons (pv 2) pa_nil)))))))
          (pss_one (ps_set (i := 4) scCa.nd rfl (Or.inl rfl) (by exact (pe_callS FC hr rfl mC kC bC (fun σ => passAt tk σ) (by exact (pa_cons (pv 0) (pa_cons (pv 2) pa_nil)))))))))
        (fun a oe cls d pn hz hf => pss_cons (ps_set (i := 3) scCa.nd rfl (Or.inl rfl) (by exact (pv 5))) (pss_one (ps_set (i := 4) scCa.nd rfl (Or.inl rfl) (by exact pe_non)))))
    (pss_cons (ps_if (pt_cmpR op_isN (pv 3) pe_non (nomark _)) (pss_one (ps_ret (pe_lst (pa_cons pe_str (pa_cons (pv 4) pa_nil))))) pss_nil)
    (pss_cons (ps_if (PW.pt (pw_or (pt_not (pt_val (pe_callB call_isH (by rfl) X.isi (by decide +kernel) (pa_cons (pv 3) (pa_cons (pe_glob (v := .ref CN) (by rfl) T.gN rfl) pa_nil)))))
        (pw_or1 (pt_not (pt_val (pe_callB call_isH (by rfl) X.isi (by decide +kernel) (pa_cons (pv 3) (pa_cons (pe_bltn (v := .ty "ValueError") (by rfl) T.val (by decide +kernel) rfl) pa_nil)))))))) (pss_one (ps_ret (pe_lst (pa_cons pe_str pa_nil)))) pss_nil)
    (pss_cons (ps_if (PW.pt (pw_or (pt_val (pe_callB call_isH (by rfl) X.isi (by decide +kernel) (pa_cons (pv 3) (pa_cons (pe_glob (v := .ref c1) (by rfl) m1 rfl) pa_nil))))
        (pw_or (pt_val (pe_callB call_isH (by rfl) X.isi (by decide +kernel) (pa_cons (pv 3) (pa_cons (pe_glob (v := .ref c2) (by rfl) m2 rfl) pa_nil)))) (pw_or1 (pt_val (pe_callB call_isH (by rfl) X.isi (by decide +kernel) (pa_cons (pv 3) (pa_cons (pe_glob (v := .ref c3) (by rfl) m3 rfl) pa_nil)))))))) (pss_one (ps_ret (pe_lst (pa_cons pe_str pa_nil)))) pss_nil)
    (pss_cons (ps_if (PW.pt (pw_or (pt_val (pe_callB call_isH (by rfl) X.isi (by decide +kernel) (pa_cons (pv 3) (pa_cons (pe_glob (v := .ref c4) (by rfl) m4 rfl) pa_nil))))
        (pw_or (pt_val (pe_callB call_isH (by rfl) X.isi (by decide +kernel) (pa_cons (pv 3) (pa_cons (pe_glob (v := .ref c5) (by rfl) m5 rfl) pa_nil)))) (pw_or1 (pt_val (pe_callB call_isH (by rfl) X.isi (by decide +kernel) (pa_cons (pv 3) (pa_cons (pe_glob (v := .ref c6) (by rfl) m6 rfl) pa_nil)))))))) (pss_one (ps_ret (pe_lst (pa_cons pe_str pa_nil)))) pss_nil)
    (pss_cons (ps_if (PW.pt (pw_or (pt_val (pe_callB call_isH (by rfl) X.isi (by decide +kernel) (pa_cons (pv 3) (pa_cons (pe_glob (v := .ref c7) (by rfl) m7 rfl) pa_nil))))
        (pw_or (pt_val (pe_callB call_isH (by rfl) X.isi (by decide +kernel) (pa_cons (pv 3) (pa_cons (pe_glob (v := .ref c8) (by rfl) m8 rfl) pa_nil)))) (pw_or1 (pt_val (pe_callB call_isH (by rfl) X.isi (by decide +kernel) (pa_cons (pv 3) (pa_cons (pe_glob (v := .ref c9) (by rfl) m9 rfl) pa_nil)))))))) (pss_one (ps_ret (pe_lst (pa_cons pe_str pa_nil)))) pss_nil)
    (pss_one (ps_ret (pe_lst (pa_cons pe_str (pa_cons (pe_fldH (pv 3)) pa_nil))))))))))), ?_⟩
  refine ⟨_, rfl, rfl, _, rfl, ?_⟩
  rcases hc with ⟨rfl, t, h1, h2, h3, h4⟩ | ⟨rfl, c, h1, h2, h3, h4⟩
  · refine if_bt (by decide +kernel) ⟨_, rfl, _, rfl, p, v, ks, ts, t, rfl, hN, h1, h2, h3, ?_⟩
    rw [h4]
    refine ⟨fun hst H' g => ?_, fun x hst d H' g hd => ⟨true, T.exm, fun _ a na => ⟨_, rfl, fun _ => ?_⟩, fun z => nomatch z⟩⟩
    · refine ⟨_, rfl, rfl, _, rfl, if_bt (by decide) ⟨_, rfl, (by show 2 ≤ sizeLine; decide), fun l hl => q _ _ (g.trans (same_new hl _)) ?_⟩⟩
      unfold ansD
      rw [hst]
      exact .lst upd_same trivial (.cons (.str _) (.cons .non .nil))
    · have ea : (upd H' a (exH a (.ref CN) (some d))) a = some (exH a (.ref CN) (some d)) := upd_same
      have ed : (upd H' a (exH a (.ref CN) (some d))) d = some (.xd [("name", .str x)]) := by rw [upd_ne (ne_of_none hd na)]; exact hd
      refine ⟨_, rfl, rfl, _, rfl, if_bf (by simp) ?_⟩
      refine ⟨_, rfl, a, CN, d, _, _, _, _, rfl, ea, ed, T.err, .own CN, kN, _, rfl, if_bf rfl ?_⟩
      refine ⟨_, rfl, a, CN, d, _, _, _, _, rfl, ea, ed, T.err, .ty "ValueError", T.kitV, _, rfl, if_bf rfl ?_⟩
      refine ⟨_, rfl, a, CN, d, _, _, _, _, rfl, ea, ed, T.err, .own c1, k1, _, rfl, if_bf rfl ?_⟩
      refine ⟨_, rfl, a, CN, d, _, _, _, _, rfl, ea, ed, T.err, .own c2, k2, _, rfl, if_bf rfl ?_⟩
      refine ⟨_, rfl, a, CN, d, _, _, _, _, rfl, ea, ed, T.err, .own c3, k3, _, rfl, if_bf rfl ?_⟩
      refine ⟨_, rfl, a, CN, d, _, _, _, _, rfl, ea, ed, T.err, .own c4, k4, _, rfl, if_bf rfl ?_⟩
      refine ⟨_, rfl, a, CN, d, _, _, _, _, rfl, ea, ed, T.err, .own c5, k5, _, rfl, if_bf rfl ?_⟩
      refine ⟨_, rfl, a, CN, d, _, _, _, _, rfl, ea, ed, T.err, .own c6, k6, _, rfl, if_bf rfl ?_⟩
      refine ⟨_, rfl, a, CN, d, _, _, _, _, rfl, ea, ed, T.err, .own c7, k7, _, rfl, if_bf rfl ?_⟩
      refine ⟨_, rfl, a, CN, d, _, _, _, _, rfl, ea, ed, T.err, .own c8, k8, _, rfl, if_bf rfl ?_⟩
      refine ⟨_, rfl, a, CN, d, _, _, _, _, rfl, ea, ed, T.err, .own c9, k9, _, rfl, if_bf rfl ?_⟩
      refine ⟨_, rfl, a, CN, d, _, .str x, rfl, ea, ed, T.err, T.noN, by simp [List.lookup], (by show 2 ≤ sizeLine; decide), fun l hl => q _ _ ((g.trans (same_new na _)).trans (same_new hl _)) ?_⟩
      unfold ansD
      rw [hst]
      exact .lst upd_same trivial (.cons (.str _) (.cons (.str _) .nil))
  · refine if_bf (by decide +kernel) ⟨_, rfl, _, rfl, p, v, ks, ts, c, rfl, hN, h1, h2, h3, ?_⟩
    rw [h4]
    refine ⟨fun hst H' g => ?_, fun x hst d H' g hd => ⟨true, T.exm, fun _ a na => ⟨_, rfl, fun _ => ?_⟩, fun z => nomatch z⟩⟩
    · refine ⟨_, rfl, rfl, _, rfl, if_bt (by decide) ⟨_, rfl, (by show 2 ≤ sizeLine; decide), fun l hl => q _ _ (g.trans (same_new hl _)) ?_⟩⟩
      unfold ansD
      rw [hst]
      exact .lst upd_same trivial (.cons (.str _) (.cons .non .nil))
    · have ea : (upd H' a (exH a (.ref CN) (some d))) a = some (exH a (.ref CN) (some d)) := upd_same
      have ed : (upd H' a (exH a (.ref CN) (some d))) d = some (.xd [("name", .str x)]) := by rw [upd_ne (ne_of_none hd na)]; exact hd
      refine ⟨_, rfl, rfl, _, rfl, if_bf (by simp) ?_⟩
      refine ⟨_, rfl, a, CN, d, _, _, _, _, rfl, ea, ed, T.err, .own CN, kN, _, rfl, if_bf rfl ?_⟩
      refine ⟨_, rfl, a, CN, d, _, _, _, _, rfl, ea, ed, T.err, .ty "ValueError", T.kitV, _, rfl, if_bf rfl ?_⟩
      refine ⟨_, rfl, a, CN, d, _, _, _, _, rfl, ea, ed, T.err, .own c1, k1, _, rfl, if_bf rfl ?_⟩
      refine ⟨_, rfl, a, CN, d, _, _, _, _, rfl, ea, ed, T.err, .own c2, k2, _, rfl, if_bf rfl ?_⟩
      refine ⟨_, rfl, a, CN, d, _, _, _, _, rfl, ea, ed, T.err, .own c3, k3, _, rfl, if_bf rfl ?_⟩
      refine ⟨_, rfl, a, CN, d, _, _, _, _, rfl, ea, ed, T.err, .own c4, k4, _, rfl, if_bf rfl ?_⟩
      refine ⟨_, rfl, a, CN, d, _, _, _, _, rfl, ea, ed, T.err, .own c5, k5, _, rfl, if_bf rfl ?_⟩
      refine ⟨_, rfl, a, CN, d, _, _, _, _, rfl, ea, ed, T.err, .own c6, k6, _, rfl, if_bf rfl ?_⟩
      refine ⟨_, rfl, a, CN, d, _, _, _, _, rfl, ea, ed, T.err, .own c7, k7, _, rfl, if_bf rfl ?_⟩
      refine ⟨_, rfl, a, CN, d, _, _, _, _, rfl, ea, ed, T.err, .own c8, k8, _, rfl, if_bf rfl ?_⟩
      refine ⟨_, rfl, a, CN, d, _, _, _, _, rfl, ea, ed, T.err, .own c9, k9, _, rfl, if_bf rfl ?_⟩
      refine ⟨_, rfl, a, CN, d, _, .str x, rfl, ea, ed, T.err, T.noN, by simp [List.lookup], (by show 2 ≤ sizeLine; decide), fun l hl => q _ _ ((g.trans (same_new na _)).trans (same_new hl _)) ?_⟩
      unfold ansD
      rw [hst]
      exact .lst upd_same trivial (.cons (.str _) (.cons (.str _) .nil))
end
end K71
/-! enumerate over a tuple. -/
namespace K71
open PySem PySem.Spec PyProof.Rows L2
theorem meets_enum1 {v : Value} {o : Obj} {H : Heap → Prop} (B : Begins v o H) :
    Meets (Builtin.«enumerate.__new__» ⟨[.type "enumerate", v], []⟩) (fun _ R s => H s.heap ∧
      R (.ok (.ret (.ref (s.heap.push o).objs.size))) { s with heap := (s.heap.push o).push { cls := .type "enumerate", data := .fields #[.none, .bool false, .ref s.heap.objs.size, rawInt 0, .none, .none] } }) :=
  .of_wp fun prog w A R s h => by
    obtain ⟨hp, g, d, tk, os⟩ := s; obtain ⟨h1, h⟩ := h
    have hsub := sub_enumerate
    have q1 : ∀ {A' : Around} {E : Value → Shared → Prop} {Q : Value → Shared → Prop}, Q (.ref hp.objs.size) ⟨hp.push o, g, d, tk, os⟩ → wpAny (model prog w) A' (pyIter v) Q E ⟨hp, g, d, tk, os⟩ :=
      fun q => B.iter prog w _ _ ⟨hp, g, d, tk, os⟩ _ h1 q
    wp_walk using q1
    refine wpAny_stack_any fun st => wpAny_pure ?_
    split
    · rename_i c _ _ _ _ _
      cases (c == Value.type "enumerate")
      · wp_walk using q1
        exact ⟨_, rfl, h⟩
      · wp_walk using q1
        exact ⟨_, rfl, h⟩
    · wp_walk using q1
      exact ⟨_, rfl, h⟩
section
variable {prog : Program} {w : World} {A : Around} {E : Value → Shared → Prop} {s : Shared}
theorem enum1_begins {v : Value} {o : Obj} {H : Heap → Prop} {Q : Value → Shared → Prop} (B : Begins v o H) (h1 : H s.heap)
    (h : ∀ h', IsEnum h' (s.heap.objs.size + 1) s.heap.objs.size 0 .none → h'.get? s.heap.objs.size = some o → h'.objs.size = s.heap.objs.size + 2 →
      (∀ b o, s.heap.get? b = some o → h'.get? b = some o) → Q (.ref (s.heap.objs.size + 1)) { s with heap := h' }) :
    wpAny (model prog w) A (call (.type "enumerate") [v]) Q E s := by
  refine callType_new F.called_enumerate (by decide) (F.typeCall_enumerate_1 _) (F.newCall_enumerate_1 _) (fun obj => F.args_object_init_2 obj _) F.entry_enumerate_new
    (meets_enum1 B) ⟨h1, ?_⟩
  have hz : (s.heap.push o).objs.size = s.heap.objs.size + 1 := Heap.size_push ..
  show _ ∧ _
  rw [hz]
  have he : IsEnum ((s.heap.push o).push { cls := .type "enumerate", data := .fields #[.none, .bool false, .ref s.heap.objs.size, rawInt 0, .none, .none] }) (s.heap.objs.size + 1) s.heap.objs.size 0 .none := by
    have := Heap.get?_push_size (s.heap.push o) (o := { cls := .type "enumerate", data := .fields #[.none, .bool false, .ref s.heap.objs.size, rawInt 0, .none, .none] }) rfl
    rw [hz] at this; exact this
  refine ⟨⟨_, he, rfl⟩, h _ he (Heap.get?_push_of_some _ (Heap.get?_push_size _ B.free)) (by rw [Heap.size_push, hz]) fun b o x => Heap.get?_push_of_some _ (Heap.get?_push_of_some _ x)⟩
end
/-- the tuple at a, each item in a new pair -/
def IteT (K : PySem.W.Frag) (a : Addr) : It :=
  ⟨fun i H => ∃ (xs : List V) (x : V), SqT K H a xs ∧ xs[i]? = some x, fun i H v H' => ∃ T x, v = .ref T ∧ H T = none ∧ H' = upd H T (.tup [.int (i : Nat), x]) ∧ ∀ xs, SqT K H a xs → xs[i]? = some x, fun i H => ∃ xs : List V, SqT K H a xs ∧ xs.length = i⟩
theorem turn_enumT {P : Program} {w : World} {K : PySem.W.Frag} {elts : List Expr} {kk : Nat} {tpos : Pos} (a e it : Addr) :
    Turn P w K (.Tuple elts kk tpos) (IteT K a) [e, it] e (fun i h => (∃ old, IsEnum h e it ((i : Nat) : Int) old) ∧ h.IsTupleIter it a i ∧ e ≠ it) where
  mem := by simp
  obj := fun i h st b hb => by
    obtain ⟨⟨old, he⟩, ⟨o, ho, hc, hd⟩, _⟩ := st
    have e' : b = e ∨ b = it := by simpa using hb
    rcases e' with z | z
    · rw [z]; exact ⟨_, he, fun v q => nomatch q⟩
    · rw [z]; exact ⟨o, ho, fun v q => by rw [hd] at q; cases q⟩
  keep := fun i h h' st k => let ⟨⟨old, he⟩, hi, hne⟩ := st; ⟨⟨old, k e (by simp) _ he⟩, hi.at fun o q => k it (by simp) o q, hne⟩
  item := by
    intro X hP hw hK hc i pins s σ H E I hf st hg
    subst hP hw hK
    obtain ⟨⟨old, he⟩, hit, hne⟩ := st
    obtain ⟨xs, x, hq, hx⟩ := hg
    obtain ⟨its, rv, p, hz⟩ := I.tuple hq
    obtain ⟨u, hu, ru⟩ := rv.get hx
    have hel : e < s.heap.objs.size := Heap.lt_size he
    have hil : it < s.heap.objs.size := by obtain ⟨_, q, _⟩ := hit; exact Heap.lt_size q
    have hai : a ≠ it := fun z => by
      obtain ⟨o1, q1, c1, _⟩ := hit
      obtain ⟨o2, q2, c2, _⟩ := p
      rw [z, q1] at q2
      cases q2
      have c3 := c1.symm.trans c2
      injection c3 with c4
      exact absurd c4 (by decide)
    have hae : e ≠ a := fun z => by
      obtain ⟨o2, q2, c2, _⟩ := p
      have he2 : s.heap.get? e = _ := he
      rw [z, q2] at he2
      cases he2
      injection c2 with c4
      exact absurd c4 (by decide)
    have D := Draws.tuple (prog := X.prog) (w := X.w) (A := X.A.in1) (I.ok.hd hc) it a hai its.toArray
    have hli : i < its.toArray.size := by
      have := (List.getElem?_eq_some_iff.mp hu).1
      simpa using this
    refine wpAny_pyNext_enum_itemD D he ⟨hit, p⟩ hli hne (by simp [hne, hae]) fun y h' tk hy ho hit' hT hsz hk => ?_
    have hyu : y = u := by
      have q : its.toArray[i]? = some u := by simpa using hu
      rw [q] at hy
      exact (Option.some.inj hy).symm
    subst hyu
    refine ⟨_, rfl, wpAny_letOwnedTupleGo_enum (s := { s with heap := h', toks := tk + 1 }) ho fun h'' he' sb => ?_⟩
    have hT2 : h''.get? s.heap.objs.size = some { cls := .type "tuple", data := .seq #[.int i tk, y] } := (sb.2 _ (Nat.ne_of_gt hel)).trans hT
    have new : ObjOk X.prog X.w (upd H s.heap.objs.size (.tup [.int (i : Nat), x])) h'' s.heap.objs.size (.tup [.int (i : Nat), x]) :=
      ⟨by show 2 ≤ sizeLine; decide, [.int i tk, y], .cons ⟨_, rfl⟩ (.cons ru .nil), ⟨_, hT2, rfl, _, rfl⟩⟩
    have I1 : Inv X pins σ (upd H s.heap.objs.size (.tup [.int (i : Nat), x])) { s with heap := h'', toks := tk + 1 } :=
      I.turnedNew (ch := [e, it]) (fun b ob hb q => (sb.2 b (fun z => hb (by simp [z]))).trans (hk b ob (fun z => hb (by simp [z])) (fun z => hb (by simp [z])) q)) hf (Nat.le_refl _) new
    refine ⟨.ref s.heap.objs.size, _, I1, rfl, ⟨_, x, rfl, I.hok.fresh (Nat.le_refl _), rfl, fun ys hy => by rw [I.tuple_inj hy hq]; exact hx⟩, ⟨⟨y, ?_⟩, hit'.1.at fun o q => (sb.2 it (Ne.symm hne)).trans q, hne⟩, fun b hb => ?_⟩
    · have e1 : ((i + 1 : Nat) : Int) = (i : Int) + 1 := by omega
      rw [e1]; exact he'
    · have hb' : b < s.heap.objs.size := by
        have e' : b = e ∨ b = it := by simpa using hb
        rcases e' with z | z
        · rw [z]; exact hel
        · rw [z]; exact hil
      rw [upd_ne (Nat.ne_of_lt hb')]
      exact (hf b hb).1
  done := by
    intro X hP hw hK hc i pins s σ H E I hf st hg
    subst hP hw hK
    obtain ⟨⟨old, he⟩, hit, hne⟩ := st
    obtain ⟨xs, hq, hx⟩ := hg
    obtain ⟨its, rv, p, hz⟩ := I.tuple hq
    obtain ⟨f0, f1, f2, f3, f4, f5⟩ := hf it (by simp)
    have hl := rv.length
    have hai : a ≠ it := fun z => by
      obtain ⟨o1, q1, c1, _⟩ := hit
      obtain ⟨o2, q2, c2, _⟩ := p
      rw [z, q1] at q2
      cases q2
      have c3 := c1.symm.trans c2
      injection c3 with c4
      exact absurd c4 (by decide)
    have D := Draws.tuple (prog := X.prog) (w := X.w) (A := X.A.in1) (I.ok.hd hc) it a hai its.toArray
    have e0 : i = its.toArray.size := by simp; omega
    subst e0
    exact wpAny_pyNext_enum_endD D he ⟨hit, p⟩ fun h' eb => ⟨rfl, I.turned (t' := s.toks) (fun b o hb q => eb b o hb q) f0 f1 f3 f4 f5⟩
  self := fun A i s Q E st h => let ⟨⟨_, he⟩, _⟩ := st; wpAny_pyIter_enum he h
def iEnumT (K : PySem.W.Frag) (ta : TA) : TI := fun σ H R => ta σ H fun vs H1 => ∃ a xs, vs = [.ref a] ∧ SqT K H1 a xs ∧ R (IteT K a) H1
theorem pi_enumT {X : Cx} {e : Expr} {ta : TA} {p pos tpos : Pos} {elts : List Expr} {kk : Nat} (hg : Gl X "enumerate") (hm : X.mg "enumerate" = none) (ha : PA X [e] ta) (hs : starEach [e] X.env = [(false, eval e X.env)] := by rfl) :
    PI X (.Tuple elts kk tpos) (.Call (.Name "enumerate" p) [e] [] pos) (iEnumT X.K ta) := by
  refine ⟨fun pins s σ H R I h => ?_⟩
  refine Call_ (ld_blt I hg hm boot_enumerate (PyProof.Rows.callWith_type1 (thn (ha.run pos pins s σ H _ I h) fun us s1 ⟨vs, H1, I1, r1, q1⟩ => ?_) hs rfl))
  obtain ⟨a, xs, ex, hq, q⟩ := q1
  subst ex
  cases r1 with
  | cons r rr =>
    cases rr
    cases r
    obtain ⟨its, rv, p', hz⟩ := I1.tuple hq
    refine enum1_begins (begins_tuple a its.toArray) p' fun h' he hit hsz hk => wpAny_pyIter_enum he ?_
    have I2 : Inv X pins σ H1 { s1 with heap := h' } := I1.kept (t' := s1.toks) hk
    refine ⟨s1.heap.objs.size + 1, [s1.heap.objs.size + 1, s1.heap.objs.size], _, _, H1, rfl, I2, turn_enumT a (s1.heap.objs.size + 1) s1.heap.objs.size, ⟨⟨.none, he⟩, ⟨_, hit, rfl, rfl⟩, Nat.succ_ne_self _⟩, fun b hb => ?_, q⟩
    have e' : b = s1.heap.objs.size + 1 ∨ b = s1.heap.objs.size := by simpa using hb
    have hle : s1.heap.objs.size ≤ b := by
      rcases e' with z | z
      · rw [z]; exact Nat.le_add_right _ _
      · rw [z]; exact Nat.le_refl _
    exact I1.fpOk hle (I1.hok.fresh hle)
theorem walk_enumT {K : PySem.W.Frag} {a : Addr} {xs : List V} : Walk (IteT K a) xs.length (fun H => SqT K H a xs) (YPair (fun i => some (.int (i : Nat))) (fun i => xs[i]?)) := by
  refine ⟨fun i _ hi q => ⟨xs, xs[i], q, by simp [hi]⟩, fun _ q => ⟨xs, q, rfl⟩, fun i H v H' _ q y => ?_⟩
  obtain ⟨T, x, h1, h2, h3, h4⟩ := y
  exact ⟨T, .int (i : Nat), x, h1, h2, h3, rfl, h4 xs q⟩
end K71
/-! _law_copy, _law_spoil. -/
namespace K71
open PySem L2
abbrev sCo : Stmt := top 43
section
variable {P : Program} {w : World} {K : PySem.W.Frag} {mg : Str → Option Value} {base : Heap}
theorem scCo : FnScope ["_law_claim_here", "_law_one_here"] ["_law_claim_here"] (defScope sCo) := ⟨rfl, rfl, rfl, by decide +kernel, rfl, by decide +kernel, by decide +kernel⟩
theorem ok_Co1 {n : Nat} (D : Def K mg "_law_copy" sCo ["_law_claim_here"]) (T : Txt K mg) (cK : Cal P w K mg base CX0 "_law_copy" (n + 1) ["_law_claim_here"] (spKC n)) : Cal P w K mg base CX0 "_law_copy" (n + 1 + 1) ["_law_claim_here"] (spKC (n + 1)) := by
  obtain ⟨fK, fdK, mK, FK, kK, bK⟩ := cK
  refine D.ok scCo (fun vs H Q E h => ?_) (fun f cdv A outer s H vs Q E hr h => ?_)
  · obtain ⟨v, d, rfl, _⟩ := h
    rfl
  obtain ⟨v, d, rfl, hn, hf, hd, q⟩ := h
  refine ⟨_, pss_cons (ps_if (pt_val (pe_callB call_isi (by rfl) T.isi (by decide +kernel) (pa_cons (pv 0) (pa_cons (pe_bltn (v := .ty "tuple") (by rfl) T.tuple (by decide +kernel) rfl) pa_nil)))) (pss_one (ps_ret (pe_callTy call_tuple_of (by rfl) T.tuple (by decide +kernel) (pa_cons
      (pe_lc (own := [("_law_one_here", 1)]) (g := gName 1) (tt := tYes) (te := tCall (spKC n) [] E0 (tCons (tVar 1) tNil)) rfl scCo.nd (pi_tup (pv 0)) (blkOk_by (N := ["_law_claim_here", "_law_one_here"]) (sc := defScope sCo) (by decide +kernel))
        (fun _ _ _ _ _ => pg_name (i := 1) scCo.nd rfl (Or.inl rfl)) (fun _ _ _ _ _ => pts_nil) (fun _ _ _ _ _ => pe_call FK hr rfl mK kK bK .nil pass0 (pa_cons (pv 1) pa_nil))) pa_nil)))) pss_nil)
    (pss_cons (ps_if (pt_val (pe_callB call_isi (by rfl) T.isi (by decide +kernel) (pa_cons (pv 0) (pa_cons (pe_bltn (v := .ty "list") (by rfl) T.list (by decide +kernel) rfl) pa_nil)))) (pss_one (ps_ret (pe_callTy call_list_of (by rfl) T.list (by decide +kernel) (pa_cons (pv 0) pa_nil)))) pss_nil)
    (pss_one (ps_ret (pv 0)))), ?_⟩
  obtain ⟨t1, u1, i1, i2, i3⟩ := isi_list (K := K) hf hd
  obtain ⟨t2, u2, j1, j2, j3⟩ := isi_tuple (K := K) hf hd
  refine ⟨_, rfl, _, _, t2, u2, _, rfl, j1, j2, j3, _, rfl, ?_⟩
  cases d with
  | list ds =>
    refine if_bf rfl ⟨_, rfl, _, _, t1, u1, _, rfl, i1, i2, i3, _, rfl, if_bt rfl ?_⟩
    obtain ⟨a, xs, rfl, ha, _, hx⟩ := hd.lst_inv
    refine ⟨_, rfl, a, _, rfl, .inl (SqL.of ha), fun l hl => ?_⟩
    have hs : fitS ds = true := by
      rw [fit, Bool.and_eq_true] at hf
      exact hf.2
    obtain ⟨ys, rfl, _⟩ := fitS_strs hs
    obtain rfl := hx.strs_inv
    exact q _ _ (same_new hl _) (.lst upd_same hl (DqA.strs _))
  | tuple ds =>
    refine if_bt rfl ?_
    obtain ⟨a, xs, rfl, ha, hx⟩ := hd.tup_inv
    have hl := fit_tlen hf
    refine ⟨_, rfl, a, rfl, ⟨_, SqT.of ha⟩, fun Dl hDl => lc_data ha hx hDl (by omega) (fun _ => rfl) (fun v d H' Q' hm s' hv q' => ?_) fun H' ys s' ey hy => ?_⟩
    · have := depth_mem hm
      exact ⟨_, rfl, _, d, rfl, by omega, fit_tup hf hm, hv, q'⟩
    · refine ⟨Dl, _, rfl, .inl ⟨SqL.of ey, fun t ht => ?_⟩⟩
      exact q _ _ (s'.trans (same_new ht _)) (.tup upd_same (hy.same (same_new ht _)))
  | str x =>
    refine if_bf rfl ⟨_, rfl, _, _, t1, u1, _, rfl, i1, i2, i3, _, rfl, if_bf rfl ?_⟩
    obtain rfl := hd.str_inv
    exact ⟨_, rfl, q _ _ (Same.refl _) (.str _)⟩
  | int x =>
    refine if_bf rfl ⟨_, rfl, _, _, t1, u1, _, rfl, i1, i2, i3, _, rfl, if_bf rfl ?_⟩
    obtain rfl := hd.int_inv
    exact ⟨_, rfl, q _ _ (Same.refl _) (.int _)⟩
  | _ => rw [fit] at hf; cases hf
theorem ok_Co (D : Def K mg "_law_copy" sCo ["_law_claim_here"]) (T : Txt K mg) : ∀ n, Cal P w K mg base CX0 "_law_copy" (n + 1) ["_law_claim_here"] (spKC n)
  | 0 => Cal.never D fun vs H Q E h => by
    obtain ⟨v, d, _, h0, _⟩ := h
    omega
  | n + 1 => ok_Co1 D T (ok_Co D T n)
end

/-! ### _law_spoil -/
mutual
/-- the shape of d, its lists at addresses that are P -/
inductive Sh (H : Hp) (P : Addr → Prop) : V → PyData → Prop
  | int (i : Int) : Sh H P (.int i) (.int i)
  | str (x : Str) : Sh H P (.str x) (.str x)
  | lst {a : Addr} {ds : List PyData} : P a → Sh H P (.ref a) (.list ds)
  | tup {a : Addr} {xs : List V} {ds : List PyData} : H a = some (.tup xs) → ShA H P xs ds → Sh H P (.ref a) (.tuple ds)
inductive ShA (H : Hp) (P : Addr → Prop) : List V → List PyData → Prop
  | nil : ShA H P [] []
  | cons {v : V} {vs : List V} {d : PyData} {ds : List PyData} : Sh H P v d → ShA H P vs ds → ShA H P (v :: vs) (d :: ds)
end
mutual
def nl : PyData → Nat
  | .list _ => 1
  | .tuple ds => nlA ds
  | _ => 0
def nlA : List PyData → Nat
  | [] => 0
  | d :: ds => nl d + nlA ds
end
def LP (H : Hp) (P : Addr → Prop) (m : Nat) : Prop := ∀ a, P a → ∃ xs, H a = some (.lst xs) ∧ xs.length ≤ m
/-- all that isn't P stands -/
def Kp (P : Addr → Prop) (H H' : Hp) : Prop := ∀ a o, H a = some o → ¬ P a → H' a = some o
theorem nlA_more : ∀ {ds : List PyData} {i : Nat} {d : PyData}, ds[i]? = some d → nlA (ds.take (i + 1)) = nlA (ds.take i) + nl d
  | [], i, d, h => by simp at h
  | a :: l, 0, d, h => by
    have e : a = d := Option.some.inj h
    subst e
    show nlA [a] = nlA [] + nl a
    simp [nlA]
  | a :: l, i + 1, d, h => by
    have ih := nlA_more (ds := l) (i := i) (d := d) h
    show nlA (a :: l.take (i + 1)) = nlA (a :: l.take i) + nl d
    simp only [nlA]
    omega
theorem nlA_le : ∀ (ds : List PyData) (i : Nat), nlA (ds.take i) ≤ nlA ds
  | [], i => by simp
  | a :: l, 0 => by simp [nlA]
  | a :: l, i + 1 => by
    have ih := nlA_le l i
    show nlA (a :: l.take i) ≤ nlA (a :: l)
    simp only [nlA]
    omega
theorem ShA.nil_inv {H : Hp} {P : Addr → Prop} {vs : List V} (h : ShA H P vs []) : vs = [] := by
  cases h
  rfl
theorem ShA.cons_inv {H : Hp} {P : Addr → Prop} {vs : List V} {d : PyData} {ds : List PyData} (h : ShA H P vs (d :: ds)) : ∃ v r, vs = v :: r ∧ Sh H P v d ∧ ShA H P r ds := by
  cases h with
  | cons a b => exact ⟨_, _, rfl, a, b⟩
theorem ShA.len {H : Hp} {P : Addr → Prop} : ∀ {vs : List V} {ds : List PyData}, ShA H P vs ds → vs.length = ds.length
  | _, [], h => by rw [h.nil_inv] <;> rfl
  | _, d :: ds, h => by
    obtain ⟨v, r, rfl, _, h⟩ := h.cons_inv
    rw [List.length_cons, List.length_cons, h.len]
theorem ShA.at {H : Hp} {P : Addr → Prop} : ∀ {vs : List V} {ds : List PyData} {i : Nat} {v : V}, ShA H P vs ds → vs[i]? = some v → ∃ d, ds[i]? = some d ∧ Sh H P v d
  | _, [], i, v, h, e => by rw [h.nil_inv] at e; simp at e
  | _, d :: ds, 0, v, h, e => by
    obtain ⟨w, r, rfl, h1, h2⟩ := h.cons_inv
    have e' : w = v := Option.some.inj e
    subst e'
    exact ⟨d, rfl, h1⟩
  | _, d :: ds, i + 1, v, h, e => by
    obtain ⟨w, r, rfl, h1, h2⟩ := h.cons_inv
    obtain ⟨d', e1, h3⟩ := ShA.at (i := i) (v := v) h2 (by simpa using e)
    exact ⟨d', by simpa using e1, h3⟩
mutual
theorem Sh.kp {H H' : Hp} {P : Addr → Prop} (L : ∀ a, P a → ∃ xs, H a = some (.lst xs)) (k : Kp P H H') : ∀ (d : PyData) (v : V), Sh H P v d → Sh H' P v d
  | .none, _, h => by cases h
  | .bool _, _, h => by cases h
  | .int _, _, h => by cases h; exact .int _
  | .str _, _, h => by cases h; exact .str _
  | .list ds, _, h => by
    cases h with
    | lst h => exact .lst h
  | .tuple ds, _, h => by
    cases h with
    | tup h1 h2 => exact .tup (k _ _ h1 fun p => by obtain ⟨xs, e⟩ := L _ p; rw [h1] at e; cases e) (ShA.kp L k ds _ h2)
  | .dict _, _, h => by cases h
theorem ShA.kp {H H' : Hp} {P : Addr → Prop} (L : ∀ a, P a → ∃ xs, H a = some (.lst xs)) (k : Kp P H H') : ∀ (ds : List PyData) (vs : List V), ShA H P vs ds → ShA H' P vs ds
  | [], _, h => by rw [h.nil_inv]; exact .nil
  | d :: ds, _, h => by
    obtain ⟨v, vs, rfl, h1, h2⟩ := h.cons_inv
    exact .cons (Sh.kp L k d v h1) (ShA.kp L k ds vs h2)
end
mutual
theorem Dq.sh {H : Hp} {P : Addr → Prop} : ∀ (d : PyData) (v : V), fit d = true → Dq H P v d → Sh H P v d
  | .none, _, f, h => by rw [fit] at f; cases f
  | .bool _, _, f, h => by rw [fit] at f; cases f
  | .int _, _, f, h => by cases h; exact .int _
  | .str _, _, f, h => by cases h; exact .str _
  | .list ds, _, f, h => by
    cases h with
    | lst h1 h2 h3 => exact .lst h2
  | .tuple ds, _, f, h => by
    rw [fit, Bool.and_eq_true] at f
    cases h with
    | tup h1 h2 => exact .tup h1 (DqA.sh ds _ f.2 h2)
  | .dict _, _, f, h => by rw [fit] at f; cases f
theorem DqA.sh {H : Hp} {P : Addr → Prop} : ∀ (ds : List PyData) (vs : List V), fitA ds = true → DqA H P vs ds → ShA H P vs ds
  | [], _, f, h => by rw [h.nil_inv]; exact .nil
  | d :: ds, _, f, h => by
    rw [fitA, Bool.and_eq_true] at f
    obtain ⟨v, vs, rfl, h1, h2⟩ := h.cons_inv
    exact .cons (Dq.sh d v f.1 h1) (DqA.sh ds vs f.2 h2)
end
theorem Kp.refl (P : Addr → Prop) (H : Hp) : Kp P H H := fun _ _ h _ => h
theorem Kp.trans {P : Addr → Prop} {H H1 H2 : Hp} (a : Kp P H H1) (b : Kp P H1 H2) : Kp P H H2 := fun x o h n => b x o (a x o h n) n
theorem sh_tys {K : PySem.W.Frag} {H : Hp} {P : Addr → Prop} {v : V} {d : PyData} {m : Nat} (h : Sh H P v d) (L : LP H P m) :
    (∃ t u, ClsV (.ty "list") u ∧ TyX K H v t ∧ PySem.W.kitOne K t u = some (isL d)) ∧ (∃ t u, ClsV (.ty "tuple") u ∧ TyX K H v t ∧ PySem.W.kitOne K t u = some (isT d)) := by
  cases h with
  | int i => exact ⟨⟨_, _, .ty "list", .base (.int _), kit_il⟩, ⟨_, _, .ty "tuple", .base (.int _), kit_it⟩⟩
  | str x => exact ⟨⟨_, _, .ty "list", .base (.str _), kit_sl⟩, ⟨_, _, .ty "tuple", .base (.str _), kit_st⟩⟩
  | lst p =>
    obtain ⟨xs, ha, _⟩ := L _ p
    exact ⟨⟨_, _, .ty "list", .base (.lst ha), kit_ll⟩, ⟨_, _, .ty "tuple", .base (.lst ha), kit_lt⟩⟩
  | tup ha hx => exact ⟨⟨_, _, .ty "list", .base (.tup ha), kit_tl⟩, ⟨_, _, .ty "tuple", .base (.tup ha), kit_tt⟩⟩
abbrev sSp : Stmt := top 44
def spSp (n : Nat) : Sp := fun vs H Q _ => ∃ (v : V) (d : PyData) (R : Addr → Prop) (m : Nat), vs = [v] ∧ d.depth < n ∧ Sh H R v d ∧ LP H R m ∧ m + nl d ≤ 100000 ∧ ∀ H', Kp R H H' → LP H' R (m + nl d) → Q .non H'
section
variable {P : Program} {w : World} {K : PySem.W.Frag} {mg : Str → Option Value} {base : Heap}
theorem scSp : FnScope ["_law_thing", "_law_one_here"] ["_law_thing"] (defScope sSp) := ⟨rfl, rfl, rfl, by decide +kernel, rfl, by decide +kernel, by decide +kernel⟩
theorem ok_Sp1 {n : Nat} (D : Def K mg "_law_spoil" sSp ["_law_thing"]) (T : Txt K mg) (cK : Cal P w K mg base CX0 "_law_spoil" (n + 1) ["_law_thing"] (spSp n)) : Cal P w K mg base CX0 "_law_spoil" (n + 1 + 1) ["_law_thing"] (spSp (n + 1)) := by
  obtain ⟨fK, fdK, mK, FK, kK, bK⟩ := cK
  refine D.ok scSp (fun vs H Q E h => ?_) (fun f cdv A outer s H vs Q E hr h => ?_)
  · obtain ⟨v, d, R, m, rfl, _⟩ := h
    rfl
  obtain ⟨v, d, R, m, rfl, hn, hd, hL, hm, q⟩ := h
  refine ⟨_, pss_cons (ps_if (pt_val (pe_callB call_isi (by rfl) T.isi (by decide +kernel) (pa_cons (pv 0) (pa_cons (pe_bltn (v := .ty "tuple") (by rfl) T.tuple (by decide +kernel) rfl) pa_nil))))
      (pss_one (ps_for PassesOwn.never rfl (pi_tup (pv 0)) (pg_name (i := 1) scSp.nd rfl (Or.inl rfl)) (pss_one (ps_expr (pe_call FK hr rfl mK kK bK .nil pass0 (pa_cons (pv 1) pa_nil)))))) pss_nil)
    (pss_one (ps_if (pt_val (pe_callB call_isi (by rfl) T.isi (by decide +kernel) (pa_cons (pv 0) (pa_cons (pe_bltn (v := .ty "list") (by rfl) T.list (by decide +kernel) rfl) pa_nil))))
      (pss_one (ps_expr (pe_bm PySem.F.plainAttrs_list PySem.F.slot_list_append PySem.F.type_list_append mt_append (pv 0) (pa_cons pe_str pa_nil)))) pss_nil)), ?_⟩
  obtain ⟨⟨t1, u1, i1, i2, i3⟩, ⟨t2, u2, j1, j2, j3⟩⟩ := sh_tys (K := K) hd hL
  refine ⟨_, rfl, _, _, t2, u2, _, rfl, j1, j2, j3, _, rfl, ?_⟩
  cases d with
  | list ds =>
    refine if_bf rfl ⟨_, rfl, _, _, t1, u1, _, rfl, i1, i2, i3, _, rfl, if_bt rfl ?_⟩
    cases hd with
    | lst p =>
      rename_i a
      obtain ⟨xs, ha, hz⟩ := hL _ p
      simp only [nl] at hm q
      refine ⟨_, rfl, .inl ⟨rfl, xs, SqL.of ha⟩, a, xs, _, rfl, rfl, ha, smallt (by omega), ?_⟩
      refine q _ (fun b o e nb => ?_) fun b pb => ?_
      · have : b ≠ a := fun z => nb (z ▸ p)
        rw [upd_ne this]
        exact e
      · by_cases e : b = a
        · subst e
          exact ⟨_, upd_same, by rw [List.length_append, List.length_singleton]; omega⟩
        · obtain ⟨ys, hy, hz⟩ := hL _ pb
          exact ⟨ys, by rw [upd_ne e]; exact hy, by omega⟩
  | tuple ds =>
    refine if_bt rfl ?_
    have L0 : ∀ a, R a → ∃ xs, H a = some (.lst xs) := fun a p => by
      obtain ⟨xs, e, _⟩ := hL a p
      exact ⟨xs, e⟩
    cases hd with
    | tup ha hx =>
      rename_i a xs
      have na : ¬ R a := fun p => by
        obtain ⟨ys, e⟩ := L0 a p
        rw [ha] at e
        cases e
      simp only [nl] at hm q
      refine ⟨_, rfl, a, rfl, ⟨_, SqT.of ha⟩, for_tup (K := K) (a := a) (xs := xs) (fun i σ H' => Kp R H H' ∧ LP H' R (m + nlA (ds.take i)) ∧ ∃ v, σ = [some (.ref a), v])
        ⟨Kp.refl _ _, by simpa [nlA] using hL, none, rfl⟩ (fun i σ H' _ ⟨k, _⟩ => SqT.of (k _ _ ha na)) ?_ ?_⟩
      · rintro i x σ H' hi ⟨k, l, v, rfl⟩
        obtain ⟨d', hd', hs⟩ := hx.at hi
        have hmem : d' ∈ ds := List.mem_of_getElem? hd'
        have hdep := depth_mem hmem
        have e1 := nlA_more hd'
        have e2 := nlA_le ds (i + 1)
        refine ⟨_, rfl, x, d', R, m + nlA (ds.take i), rfl, by omega, Sh.kp L0 k _ _ hs, l, by omega, fun H2 k2 l2 => ⟨k.trans k2, ?_, _, rfl⟩⟩
        rw [e1, ← Nat.add_assoc]
        exact l2
      · rintro σ H' ⟨k, l, v, rfl⟩
        rw [ShA.len hx, List.take_length] at l
        have ha' := k _ _ ha na
        refine ⟨_, rfl, _, _, _, _, false, rfl, .ty "list", .base (.tup ha'), kit_tl, _, rfl, if_bf rfl ?_⟩
        exact q _ k l
  | str x =>
    refine if_bf rfl ⟨_, rfl, _, _, t1, u1, _, rfl, i1, i2, i3, _, rfl, if_bf rfl ?_⟩
    exact q _ (Kp.refl _ _) hL
  | int x =>
    refine if_bf rfl ⟨_, rfl, _, _, t1, u1, _, rfl, i1, i2, i3, _, rfl, if_bf rfl ?_⟩
    exact q _ (Kp.refl _ _) hL
  | _ => cases hd
theorem ok_Sp (D : Def K mg "_law_spoil" sSp ["_law_thing"]) (T : Txt K mg) : ∀ n, Cal P w K mg base CX0 "_law_spoil" (n + 1) ["_law_thing"] (spSp n)
  | 0 => Cal.never D fun vs H Q E h => by
    obtain ⟨v, d, R, m, _, h0, _⟩ := h
    omega
  | n + 1 => ok_Sp1 D T (ok_Sp D T n)
end
end K71
/-! _law_names. -/
namespace K71
open PySem L2
abbrev sNa : Stmt := top 45
def spNa (n : Nat) : Sp := fun vs H Q _ => ∃ (v : V) (g : Thg), vs = [v] ∧ gH g ≤ n ∧ gH g ≤ 12 ∧ fit (gD g) = true ∧ Dt H v (gD g) ∧ RetS (gN g) H Q
theorem gN_len {g : Thg} (h : fit (gD g) = true) (h12 : gH g ≤ 12) : (gN g).length ≤ 2048000 := by
  cases g with
  | k k => exact Nat.le_trans (kN_len (k := k) h) (by decide)
  | t t => exact n12 (tN_len (t := t) h) h12
  | c c => exact n12 (cN_len (c := c) h) h12
theorem fm_more {α β : Type} {f : α → List β} {l : List α} {i : Nat} {x : α} (h : l[i]? = some x) : (l.take (i + 1)).flatMap f = (l.take i).flatMap f ++ f x := by
  rw [take_more h, List.flatMap_append]
  simp
theorem fm_le {α β : Type} (f : α → List β) : ∀ (l : List α) (i : Nat), ((l.take i).flatMap f).length ≤ (l.flatMap f).length
  | [], i => by simp
  | a :: l, 0 => by simp
  | a :: l, i + 1 => by
    have ih := fm_le f l i
    show (f a ++ (l.take i).flatMap f).length ≤ (f a ++ l.flatMap f).length
    rw [List.length_append, List.length_append]
    omega
def w1 : List Str := ["ring", "round", "all", "number"]
def w2 : List Str := ["way", "must", "flow", "apart", "bare", "from", "to"]
def w3 : List Str := ["each", "some"]
def okW (x : Str) : Prop := inV (.str x) (w1.map V.str) = false ∧ decide (V.str x = V.str "these") = false ∧ inV (.str x) (w2.map V.str) = false ∧ decide (V.str x = V.str "cost") = false ∧ inV (.str x) (w3.map V.str) = false
theorem okW1 : okW "size" := ⟨by decide +kernel, by decide +kernel, by decide +kernel, by decide +kernel, by decide +kernel⟩
theorem okW2 : okW "pairs" := ⟨by decide +kernel, by decide +kernel, by decide +kernel, by decide +kernel, by decide +kernel⟩
theorem okW3 : okW "times" := ⟨by decide +kernel, by decide +kernel, by decide +kernel, by decide +kernel, by decide +kernel⟩
theorem okW4 : okW "plus" := ⟨by decide +kernel, by decide +kernel, by decide +kernel, by decide +kernel, by decide +kernel⟩
theorem okW5 : okW "least" := ⟨by decide +kernel, by decide +kernel, by decide +kernel, by decide +kernel, by decide +kernel⟩
theorem okW6 : okW "most" := ⟨by decide +kernel, by decide +kernel, by decide +kernel, by decide +kernel, by decide +kernel⟩
theorem okW7 : okW "atmost" := ⟨by decide +kernel, by decide +kernel, by decide +kernel, by decide +kernel, by decide +kernel⟩
theorem okW8 : okW "not" := ⟨by decide +kernel, by decide +kernel, by decide +kernel, by decide +kernel, by decide +kernel⟩
theorem okW9 : okW "and" := ⟨by decide +kernel, by decide +kernel, by decide +kernel, by decide +kernel, by decide +kernel⟩
theorem okWa : okW "or" := ⟨by decide +kernel, by decide +kernel, by decide +kernel, by decide +kernel, by decide +kernel⟩
theorem loop_w {g : Thg} (h : isLoop g = true) : okW (gWord g) := by
  cases g with
  | k k => cases k <;> cases h
  | t t =>
    cases t with
    | size k => exact okW1
    | pairs k l => exact okW2
    | times n t => exact okW3
    | two c t u => cases c <;> first | exact okW4 | exact okW5 | exact okW6
    | _ => cases h
  | c c =>
    cases c with
    | atmost t u => exact okW7
    | neg c => exact okW8
    | bin r c d => cases r <;> first | exact okW9 | exact okWa
    | _ => cases h
theorem at0 {x : V} {ys : List V} : atI (x :: ys) 0 = some x := ix_of (n := 0) rfl
theorem part_isi {K : PySem.W.Frag} {H : Hp} {v : V} {p : Part} (hf : fit (partD p) = true) (h : Dt H v (partD p)) : ∃ t u, ClsV (.ty "tuple") u ∧ TyX K H v t ∧ PySem.W.kitOne K t u = some (isT (partD p)) := isi_tuple hf h
theorem isT_g (g : Thg) : isT (gD g) = true := by rw [gD_parts] <;> rfl
section
variable {P : Program} {w : World} {K : PySem.W.Frag} {mg : Str → Option Value} {base : Heap}
theorem scNa : FnScope ["_law_thing", "_law_word", "_law_found", "_law_one_here", "_law_name_here"] ["_law_thing"] (defScope sNa) := ⟨rfl, rfl, rfl, by decide +kernel, rfl, by decide +kernel, by decide +kernel⟩
theorem ok_Na1 {n : Nat} (D : Def K mg "_law_names" sNa ["_law_thing"]) (T : Txt K mg) (cF : Cal P w K mg base CX0 "_law_names" (n + 1) ["_law_thing"] (spNa n)) : Cal P w K mg base CX0 "_law_names" (n + 1 + 1) ["_law_thing"] (spNa (n + 1)) := by
  obtain ⟨fF, fdF, mF, FF, kF, bF⟩ := cF
  refine D.ok scNa (fun vs H Q E h => ?_) (fun f cdv A outer s H vs Q E hr h => ?_)
  · obtain ⟨v, d, rfl, _⟩ := h
    rfl
  obtain ⟨v, g, rfl, hn, h12, hf, hd, q⟩ := h
  refine ⟨_, pss_cons (ps_set (i := 1) scNa.nd rfl (Or.inl rfl) (pe_ix ix_tup (pv 0) pe_int (fun _ _ => rfl)))
    (pss_cons (ps_if (pt_cmpR op_in_seq (pv 1) (pe_tup (pa_cons pe_str (pa_cons pe_str (pa_cons pe_str (pa_cons pe_str pa_nil))))) rfl) (pss_one (ps_ret (pe_lst pa_nil))) pss_nil)
    (pss_cons (ps_if (pt_cmpR op_eq (pv 1) pe_str (nomark _)) (pss_one (ps_ret (pe_callTy call_list_of (by rfl) T.list (by decide +kernel) (pa_cons (pe_ix ix_tup (pv 0) pe_int (fun _ _ => rfl)) pa_nil)))) pss_nil)
    (pss_cons (ps_if (pt_cmpR op_in_seq (pv 1) (pe_tup (pa_cons pe_str (pa_cons pe_str (pa_cons pe_str (pa_cons pe_str (pa_cons pe_str (pa_cons pe_str (pa_cons pe_str pa_nil)))))))) rfl) (pss_one (ps_ret (pe_callTy call_list_of (by rfl) T.list (by decide +kernel) (pa_cons (pe_slice sl_tup (pv 0) (po_some pe_int) po_none) pa_nil)))) pss_nil)
    (pss_cons (ps_if (pt_cmpR op_eq (pv 1) pe_str (nomark _)) (pss_one (ps_ret (pe_lst (pa_cons (pe_ix ix_tup (pv 0) pe_int (fun _ _ => rfl)) (pa_cons (pe_ix ix_tup (pv 0) pe_int (fun _ _ => rfl)) pa_nil))))) pss_nil)
    (pss_cons (ps_if (pt_cmpR op_in_seq (pv 1) (pe_tup (pa_cons pe_str (pa_cons pe_str pa_nil))) rfl) (pss_one (ps_ret (pe_op op_cat (pe_call FF hr rfl mF kF bF .nil pass0 (pa_cons (pe_ix ix_tup (pv 0) pe_int (fun _ _ => rfl)) pa_nil))
      (pe_lc (own := [("_law_name_here", 4)]) (g := gName 4) (tt := tTest (tOp rNe (tVar 4) (tOp (rIxT K) (tVar 0) (tC (.int 1))))) (te := tVar 4) rfl scNa.nd (pi_list (pe_call FF hr rfl mF kF bF .nil pass0 (pa_cons (pe_ix ix_tup (pv 0) pe_int (fun _ _ => rfl)) pa_nil))) (blkOk_by (N := ["_law_thing", "_law_word", "_law_found", "_law_one_here", "_law_name_here"]) (sc := defScope sNa) (by decide +kernel))
        (fun _ _ _ _ _ => pg_name (i := 4) scNa.nd rfl (Or.inl rfl)) (fun _ _ _ _ _ => pts_one (pt_cmpR op_ne (pv 4) (pe_ix ix_tup (pv 0) pe_int (fun _ _ => rfl)) (nomark _))) (fun _ _ _ _ _ => pv 4))))) pss_nil)
    (pss_cons (ps_set (i := 2) scNa.nd rfl (Or.inl rfl) (pe_lst pa_nil))
    (pss_cons (ps_for PassesOwn.never rfl (pi_tup (pe_slice sl_tup (pv 0) (po_some pe_int) po_none)) (pg_name (i := 3) scNa.nd rfl (Or.inl rfl))
      (pss_one (ps_if (pt_val (pe_callB call_isi (by rfl) T.isi (by decide +kernel) (pa_cons (pv 3) (pa_cons (pe_bltn (v := .ty "tuple") (by rfl) T.tuple (by decide +kernel) rfl) pa_nil))))
        (pss_one (ps_set (i := 2) scNa.nd rfl (Or.inl rfl) (pe_op op_cat (pv 2) (pe_call FF hr rfl mF kF bF .nil pass0 (pa_cons (pv 3) pa_nil))))) pss_nil)))
    (pss_one (ps_ret (pv 2)))))))))), ?_⟩
  by_cases hL : isLoop g = true
  · obtain ⟨b1, b2, b3, b4, b5⟩ := loop_w hL
    have hD := gD_parts g
    rw [hD] at hd
    obtain ⟨a, xs, rfl, ha, hx⟩ := hd.tup_inv
    obtain ⟨v0, ys, rfl, h0, hy⟩ := hx.cons_inv
    obtain rfl := h0.str_inv
    refine ⟨_, rfl, a, _, _, _, rfl, rfl, SqT.of ha, at0, ?_⟩
    refine ⟨_, rfl, (by show 4 ≤ sizeLine; decide), fun t1 n1 => ⟨t1, w1.map V.str, rfl, .inr (SqT.of upd_same), rfl, rfl, _, rfl, if_bf b1 ?_⟩⟩
    have s1 := same_new n1 (.tup (w1.map V.str))
    refine ⟨_, rfl, rfl, _, rfl, if_bf b2 ?_⟩
    refine ⟨_, rfl, (by show 7 ≤ sizeLine; decide), fun t2 n2 => ⟨t2, w2.map V.str, rfl, .inr (SqT.of upd_same), rfl, rfl, _, rfl, if_bf b3 ?_⟩⟩
    have s2 := s1.trans (same_new n2 (.tup (w2.map V.str)))
    refine ⟨_, rfl, rfl, _, rfl, if_bf b4 ?_⟩
    refine ⟨_, rfl, (by show 2 ≤ sizeLine; decide), fun t3 n3 => ⟨t3, w3.map V.str, rfl, .inr (SqT.of upd_same), rfl, rfl, _, rfl, if_bf b5 ?_⟩⟩
    have s3 := s2.trans (same_new n3 (.tup (w3.map V.str)))
    refine ⟨Nat.zero_le _, fun l0 n0 => ?_⟩
    have s4 := s3.trans (same_new n0 (.lst []))
    refine ⟨_, rfl, _, rfl, a, _, rfl, SqT.of (s4 _ _ ha), cut1_part (List.cons_ne_nil _ _), fun p hp => ?_⟩
    rw [cut1]
    have s5 := s4.trans (same_new hp (.tup ys))
    have hg := gN_len hf h12
    have hN := gN_loop hL
    have hys := hy.len
    rw [List.length_map] at hys
    refine ⟨p, rfl, ⟨_, SqT.of upd_same⟩, for_tup (K := K) (a := p) (xs := ys) (fun i σ H' => Same (upd (upd (upd (upd (upd H t1 (.tup (w1.map V.str))) t2 (.tup (w2.map V.str))) t3 (.tup (w3.map V.str))) l0 (.lst [])) p (.tup ys)) H' ∧
        ∃ f v, σ = [some (.ref a), some (.str (gWord g)), some (.ref f), v, none] ∧ H' f = some (.lst ((((gParts g).take i).flatMap partN).map V.str)))
      ⟨Same.refl _, l0, none, rfl, by rw [upd_ne (ne_of_none upd_same hp), upd_same]; simp⟩ (fun i σ H' _ ⟨k, _⟩ => SqT.of (k _ _ upd_same)) ?_ ?_⟩
    · rintro i x σ H' hi ⟨k, f, v, rfl, ef⟩
      obtain ⟨d, hd', hv⟩ := hy.at hi
      obtain ⟨pt, hpt, rfl⟩ : ∃ pt, (gParts g)[i]? = some pt ∧ d = partD pt := by
        rw [List.getElem?_map] at hd'
        cases e : (gParts g)[i]? with
        | none => rw [e] at hd'; cases hd'
        | some pt => rw [e] at hd'; exact ⟨pt, rfl, (Option.some.inj hd').symm⟩
      have hmem : pt ∈ gParts g := List.mem_of_getElem? hpt
      have hfp : fit (partD pt) = true := fit_tup (hD ▸ hf) (List.mem_cons_of_mem _ (List.mem_map_of_mem hmem))
      have hv' := (hv.same s5).same k
      obtain ⟨t2', u2', j1, j2, j3⟩ := part_isi (K := K) hfp hv'
      refine ⟨_, rfl, _, _, t2', u2', _, rfl, j1, j2, j3, _, rfl, ?_⟩
      have e1 := fm_more (f := partN) hpt
      have e2 := fm_le partN (gParts g) (i + 1)
      rw [e1, List.length_append, ← hN] at e2
      cases pt with
      | g t =>
        have hlt := part_lt hmem
        refine if_bt (isT_g t) ?_
        refine ⟨_, rfl, _, rfl, x, t, rfl, by omega, by omega, hfp, hv', fun p2 H2 g2 k2 => ?_⟩
        refine ⟨f, p2, _, _, rfl, rfl, g2 _ _ ef, k2, ?_, fun r hr => ⟨(k.trans g2).trans (same_new hr _), r, _, rfl, ?_⟩⟩
        · rw [len_map_str, len_map_str]
          exact Nat.le_trans e2 (Nat.le_trans hg (by decide))
        · rw [upd_same, e1, ← List.map_append] <;> rfl
      | s y => exact if_bf rfl ⟨k, f, _, rfl, by rw [e1]; simpa [partN] using ef⟩
      | i y => exact if_bf rfl ⟨k, f, _, rfl, by rw [e1]; simpa [partN] using ef⟩
      | l y => exact if_bf rfl ⟨k, f, _, rfl, by rw [e1]; simpa [partN] using ef⟩
    · rintro σ H' ⟨k, f, v, rfl, ef⟩
      rw [hys, List.take_length, ← hN] at ef
      exact ⟨_, rfl, q f H' (s5.trans k) ef⟩
  have cut : ∀ (a : Addr) (x0 : V) (ys : List Str) (r1 r2 r3 r4 : Option V) (H1 : Hp), Same H H1 → H a = some (.tup (x0 :: ys.map V.str)) → RetS ys H Q →
      tRet (tCB (fun xs H Q => ∃ p ys, xs = [.ref p] ∧ (SqL K H p ys ∨ SqT K H p ys) ∧ ∀ l, H l = none → Q (.ref l) (upd H l (.lst ys))) (tCons (tSl (rSlT K) (tVar 0) (tPart (tC (.int 1))) tNoPart) tNil)) { nx := fun _ H' => Q .non H', rt := Q } [some (.ref a), r1, r2, r3, r4] H1 := fun a x0 ys r1 r2 r3 r4 H1 s1 ha q => by
    refine ⟨_, rfl, _, rfl, a, _, rfl, SqT.of (s1 _ _ ha), cut1_part (List.cons_ne_nil _ _), fun p hp => ?_⟩
    refine ⟨p, _, rfl, .inr (SqT.of upd_same), fun l hl => ?_⟩
    exact q l _ ((s1.trans (same_new hp _)).trans (same_new hl _)) (by rw [upd_same, cut1] <;> rfl)
  cases g with
  | k k =>
    cases k with
    | all =>
      obtain ⟨a, v0, rfl, ha, h0⟩ := Dq.t1 hd
      obtain rfl := h0.str_inv
      refine ⟨_, rfl, a, _, _, _, rfl, rfl, SqT.of ha, rfl, ?_⟩
      refine ⟨_, rfl, (by show 4 ≤ sizeLine; decide), fun t1 n1 => ⟨t1, w1.map V.str, rfl, .inr (SqT.of upd_same), rfl, rfl, _, rfl, if_bt (by decide +kernel) ?_⟩⟩
      exact ⟨Nat.zero_le _, fun l0 n0 => q _ _ ((same_new n1 _).trans (same_new n0 _)) upd_same⟩
    | fr x =>
      obtain ⟨a, v0, v1, rfl, ha, h0, h1⟩ := Dq.t2 hd
      obtain rfl := h0.str_inv
      obtain rfl := h1.str_inv
      refine ⟨_, rfl, a, _, _, _, rfl, rfl, SqT.of ha, rfl, ?_⟩
      refine ⟨_, rfl, (by show 4 ≤ sizeLine; decide), fun t1 n1 => ⟨t1, w1.map V.str, rfl, .inr (SqT.of upd_same), rfl, rfl, _, rfl, if_bf (by decide +kernel) ?_⟩⟩
      refine ⟨_, rfl, rfl, _, rfl, if_bf (by decide +kernel) ?_⟩
      refine ⟨_, rfl, (by show 7 ≤ sizeLine; decide), fun t2 n2 => ⟨t2, w2.map V.str, rfl, .inr (SqT.of upd_same), rfl, rfl, _, rfl, if_bt (by decide +kernel) ?_⟩⟩
      exact cut a _ [x] _ _ _ _ _ ((same_new n1 _).trans (same_new n2 _)) ha q
    | to x =>
      obtain ⟨a, v0, v1, rfl, ha, h0, h1⟩ := Dq.t2 hd
      obtain rfl := h0.str_inv
      obtain rfl := h1.str_inv
      refine ⟨_, rfl, a, _, _, _, rfl, rfl, SqT.of ha, rfl, ?_⟩
      refine ⟨_, rfl, (by show 4 ≤ sizeLine; decide), fun t1 n1 => ⟨t1, w1.map V.str, rfl, .inr (SqT.of upd_same), rfl, rfl, _, rfl, if_bf (by decide +kernel) ?_⟩⟩
      refine ⟨_, rfl, rfl, _, rfl, if_bf (by decide +kernel) ?_⟩
      refine ⟨_, rfl, (by show 7 ≤ sizeLine; decide), fun t2 n2 => ⟨t2, w2.map V.str, rfl, .inr (SqT.of upd_same), rfl, rfl, _, rfl, if_bt (by decide +kernel) ?_⟩⟩
      exact cut a _ [x] _ _ _ _ _ ((same_new n1 _).trans (same_new n2 _)) ha q
    | these xs =>
      obtain ⟨a, v0, v1, rfl, ha, h0, h1⟩ := Dq.t2 hd
      obtain rfl := h0.str_inv
      obtain ⟨b, rfl, hb, _⟩ := h1.lstS
      refine ⟨_, rfl, a, _, _, _, rfl, rfl, SqT.of ha, rfl, ?_⟩
      refine ⟨_, rfl, (by show 4 ≤ sizeLine; decide), fun t1 n1 => ⟨t1, w1.map V.str, rfl, .inr (SqT.of upd_same), rfl, rfl, _, rfl, if_bf (by decide +kernel) ?_⟩⟩
      have s1 := same_new n1 (.tup (w1.map V.str))
      refine ⟨_, rfl, rfl, _, rfl, if_bt (by decide +kernel) ?_⟩
      refine ⟨_, rfl, a, _, _, _, rfl, rfl, SqT.of (s1 _ _ ha), rfl, b, _, rfl, .inl (SqL.of (s1 _ _ hb)), fun l hl => ?_⟩
      exact q l _ (s1.trans (same_new hl _)) upd_same
  | t t =>
    cases t with
    | num m =>
      obtain ⟨a, v0, v1, rfl, ha, h0, h1⟩ := Dq.t2 hd
      obtain rfl := h0.str_inv
      refine ⟨_, rfl, a, _, _, _, rfl, rfl, SqT.of ha, rfl, ?_⟩
      refine ⟨_, rfl, (by show 4 ≤ sizeLine; decide), fun t1 n1 => ⟨t1, w1.map V.str, rfl, .inr (SqT.of upd_same), rfl, rfl, _, rfl, if_bt (by decide +kernel) ?_⟩⟩
      exact ⟨Nat.zero_le _, fun l0 n0 => q _ _ ((same_new n1 _).trans (same_new n0 _)) upd_same⟩
    | cnt c y z =>
      obtain ⟨a, v0, v1, v2, rfl, ha, h0, h1, h2⟩ := Dq.t3 hd
      obtain rfl := h0.str_inv
      obtain rfl := h1.str_inv
      obtain rfl := h2.str_inv
      refine ⟨_, rfl, a, _, _, _, rfl, rfl, SqT.of ha, rfl, ?_⟩
      refine ⟨_, rfl, (by show 4 ≤ sizeLine; decide), fun t1 n1 => ⟨t1, w1.map V.str, rfl, .inr (SqT.of upd_same), rfl, rfl, _, rfl, if_bf (by cases c <;> decide +kernel) ?_⟩⟩
      refine ⟨_, rfl, rfl, _, rfl, if_bf (by cases c <;> decide +kernel) ?_⟩
      refine ⟨_, rfl, (by show 7 ≤ sizeLine; decide), fun t2 n2 => ⟨t2, w2.map V.str, rfl, .inr (SqT.of upd_same), rfl, rfl, _, rfl, if_bt (by cases c <;> decide +kernel) ?_⟩⟩
      exact cut a _ [y, z] _ _ _ _ _ ((same_new n1 _).trans (same_new n2 _)) ha q
    | _ => exact absurd rfl hL
  | c c =>
    cases c with
    | ring r =>
      obtain ⟨a, v0, rfl, ha, h0⟩ := Dq.t1 hd
      obtain rfl := h0.str_inv
      refine ⟨_, rfl, a, _, _, _, rfl, rfl, SqT.of ha, rfl, ?_⟩
      refine ⟨_, rfl, (by show 4 ≤ sizeLine; decide), fun t1 n1 => ⟨t1, w1.map V.str, rfl, .inr (SqT.of upd_same), rfl, rfl, _, rfl, if_bt (by cases r <;> decide +kernel) ?_⟩⟩
      exact ⟨Nat.zero_le _, fun l0 n0 => q _ _ ((same_new n1 _).trans (same_new n0 _)) upd_same⟩
    | way x y =>
      obtain ⟨a, v0, v1, v2, rfl, ha, h0, h1, h2⟩ := Dq.t3 hd
      obtain rfl := h0.str_inv
      obtain rfl := h1.str_inv
      obtain rfl := h2.str_inv
      refine ⟨_, rfl, a, _, _, _, rfl, rfl, SqT.of ha, rfl, ?_⟩
      refine ⟨_, rfl, (by show 4 ≤ sizeLine; decide), fun t1 n1 => ⟨t1, w1.map V.str, rfl, .inr (SqT.of upd_same), rfl, rfl, _, rfl, if_bf (by decide +kernel) ?_⟩⟩
      refine ⟨_, rfl, rfl, _, rfl, if_bf (by decide +kernel) ?_⟩
      refine ⟨_, rfl, (by show 7 ≤ sizeLine; decide), fun t2 n2 => ⟨t2, w2.map V.str, rfl, .inr (SqT.of upd_same), rfl, rfl, _, rfl, if_bt (by decide +kernel) ?_⟩⟩
      exact cut a _ [x, y] _ _ _ _ _ ((same_new n1 _).trans (same_new n2 _)) ha q
    | must x y z =>
      obtain ⟨a, v0, v1, v2, v3, rfl, ha, h0, h1, h2, h3⟩ := Dq.t4 hd
      obtain rfl := h0.str_inv
      obtain rfl := h1.str_inv
      obtain rfl := h2.str_inv
      obtain rfl := h3.str_inv
      refine ⟨_, rfl, a, _, _, _, rfl, rfl, SqT.of ha, rfl, ?_⟩
      refine ⟨_, rfl, (by show 4 ≤ sizeLine; decide), fun t1 n1 => ⟨t1, w1.map V.str, rfl, .inr (SqT.of upd_same), rfl, rfl, _, rfl, if_bf (by decide +kernel) ?_⟩⟩
      refine ⟨_, rfl, rfl, _, rfl, if_bf (by decide +kernel) ?_⟩
      refine ⟨_, rfl, (by show 7 ≤ sizeLine; decide), fun t2 n2 => ⟨t2, w2.map V.str, rfl, .inr (SqT.of upd_same), rfl, rfl, _, rfl, if_bt (by decide +kernel) ?_⟩⟩
      exact cut a _ [x, y, z] _ _ _ _ _ ((same_new n1 _).trans (same_new n2 _)) ha q
    | cost x y k =>
      obtain ⟨a, v0, v1, v2, v3, rfl, ha, h0, h1, h2, h3⟩ := Dq.t4 hd
      obtain rfl := h0.str_inv
      obtain rfl := h1.str_inv
      obtain rfl := h2.str_inv
      refine ⟨_, rfl, a, _, _, _, rfl, rfl, SqT.of ha, rfl, ?_⟩
      refine ⟨_, rfl, (by show 4 ≤ sizeLine; decide), fun t1 n1 => ⟨t1, w1.map V.str, rfl, .inr (SqT.of upd_same), rfl, rfl, _, rfl, if_bf (by decide +kernel) ?_⟩⟩
      refine ⟨_, rfl, rfl, _, rfl, if_bf (by decide +kernel) ?_⟩
      refine ⟨_, rfl, (by show 7 ≤ sizeLine; decide), fun t2 n2 => ⟨t2, w2.map V.str, rfl, .inr (SqT.of upd_same), rfl, rfl, _, rfl, if_bf (by decide +kernel) ?_⟩⟩
      have s2 := (same_new n1 (.tup (w1.map V.str))).trans (same_new n2 (.tup (w2.map V.str)))
      refine ⟨_, rfl, rfl, _, rfl, if_bt (by decide +kernel) ?_⟩
      refine ⟨_, rfl, a, _, _, _, rfl, rfl, SqT.of (s2 _ _ ha), rfl, _, rfl, a, _, _, _, rfl, rfl, SqT.of (s2 _ _ ha), rfl, (by show 2 ≤ sizeLine; decide), fun l hl => ?_⟩
      exact q l _ (s2.trans (same_new hl _)) upd_same
    | qua r x k c =>
      obtain ⟨a, v0, v1, v2, v3, rfl, ha, h0, h1, h2, h3⟩ := Dq.t4 hd
      obtain rfl := h0.str_inv
      obtain rfl := h1.str_inv
      have hcp := cH_pos c
      simp only [gH, cH] at hn h12
      refine ⟨_, rfl, a, _, _, _, rfl, rfl, SqT.of ha, rfl, ?_⟩
      refine ⟨_, rfl, (by show 4 ≤ sizeLine; decide), fun t1 n1 => ⟨t1, w1.map V.str, rfl, .inr (SqT.of upd_same), rfl, rfl, _, rfl, if_bf (by cases r <;> decide +kernel) ?_⟩⟩
      refine ⟨_, rfl, rfl, _, rfl, if_bf (by cases r <;> decide +kernel) ?_⟩
      refine ⟨_, rfl, (by show 7 ≤ sizeLine; decide), fun t2 n2 => ⟨t2, w2.map V.str, rfl, .inr (SqT.of upd_same), rfl, rfl, _, rfl, if_bf (by cases r <;> decide +kernel) ?_⟩⟩
      refine ⟨_, rfl, rfl, _, rfl, if_bf (by cases r <;> decide +kernel) ?_⟩
      refine ⟨_, rfl, (by show 2 ≤ sizeLine; decide), fun t3 n3 => ⟨t3, w3.map V.str, rfl, .inr (SqT.of upd_same), rfl, rfl, _, rfl, if_bt (by cases r <;> decide +kernel) ?_⟩⟩
      have s3 := ((same_new n1 (.tup (w1.map V.str))).trans (same_new n2 (.tup (w2.map V.str)))).trans (same_new n3 (.tup (w3.map V.str)))
      refine ⟨_, rfl, a, _, _, _, rfl, rfl, SqT.of (s3 _ _ ha), rfl, ?_⟩
      refine ⟨_, .k k, rfl, by show 1 ≤ n; omega, by show 1 ≤ 12; decide, fit_i2 hf, h2.same s3, fun p H1 g1 e1 => ?_⟩
      refine ⟨_, rfl, a, _, _, _, rfl, rfl, SqT.of (g1 _ _ (s3 _ _ ha)), rfl, ?_⟩
      refine ⟨_, .c c, rfl, by show cH c ≤ n; omega, by show cH c ≤ 12; omega, fit_i3 hf, (h3.same s3).same g1, fun p2 H2 g2 e2 => ?_⟩
      have l2 := n12 (cN_len (c := c) (fit_i3 hf)) (by omega)
      refine ⟨p2, rfl, ⟨_, SqL.of e2⟩, fun Dl hDl => lc_strs (fun y => !decide (y = x)) id e2 hDl (by show (cN c).length ≤ 5000000; omega) (fun _ => rfl) (fun y H' Q' _ s' q' => ?_) (fun y H' Q' _ s' _ q' => ?_) fun H' s' e' => ?_⟩
      · refine ⟨_, rfl, _, rfl, a, _, _, _, rfl, rfl, SqT.of (s' _ _ (g2 _ _ (g1 _ _ (s3 _ _ ha)))), rfl, rfl, _, rfl, ?_⟩
        have e3 : (!decide (V.str y = V.str x)) = !decide (y = x) := by
          by_cases e : y = x
          · rw [e] <;> simp
          · simp [e]
        rw [e3]
        exact q'
      · exact ⟨_, rfl, q' H' (Same.refl _)⟩
      · rw [pick_id] at e'
        refine ⟨p, Dl, _, _, rfl, rfl, s' _ _ (g2 _ _ e1), e', ?_, fun r hr => ?_⟩
        · rw [len_map_str, len_map_str]
          have := kN_len (k := k) (fit_i2 hf)
          have := List.length_filter_le (fun y => !decide (y = x)) (cN c)
          exact sum_fits (by show (kN k).length ≤ 2048000; omega) (by show ((cN c).filter _).length ≤ 2048000; omega)
        · exact q r _ (s3.trans (g1.trans (g2.trans (s'.trans (same_new hr _))))) (by rw [upd_same, ← List.map_append] <;> rfl)
    | _ => exact absurd rfl hL
theorem ok_Na (D : Def K mg "_law_names" sNa ["_law_thing"]) (T : Txt K mg) : ∀ n, Cal P w K mg base CX0 "_law_names" (n + 1) ["_law_thing"] (spNa n)
  | 0 => Cal.never D fun vs H Q E h => by
    obtain ⟨v, g, _, h0, _⟩ := h
    have := gH_pos g
    omega
  | n + 1 => ok_Na1 D T (ok_Na D T n)
end
end K71
/-! _law_put. -/
namespace K71
open PySem L2
theorem Dq.has {H : Hp} {R : Addr → Prop} {v : V} {d : PyData} (h : Dq H R v d) : Dq H (fun a => R a ∧ H a ≠ none) v d := Dq.mono (fun _ _ q => q) (fun a xs p q => ⟨q, p, fun e => by rw [e] at q; cases q⟩) d v h
/-- all but f stands -/
def Kf (f : Addr) (H H' : Hp) : Prop := ∀ b o, b ≠ f → H b = some o → H' b = some o
theorem Dq.kf {f : Addr} {H H' : Hp} {R R' : Addr → Prop} {v : V} {d : PyData} {acc : List V} (hf : H f = some (.lst acc)) (k : Kf f H H') (hr : ∀ a, R a → R' a ∧ a ≠ f) (h : Dq H R v d) : Dq H' R' v d :=
  Dq.mono (fun a xs q => k _ _ (fun e => by rw [e, hf] at q; cases q) q) (fun a xs p q => ⟨k _ _ (hr a p).2 q, (hr a p).1⟩) d v h
theorem DqA.kf {f : Addr} {H H' : Hp} {R R' : Addr → Prop} {v : List V} {d : List PyData} {acc : List V} (hf : H f = some (.lst acc)) (k : Kf f H H') (hr : ∀ a, R a → R' a ∧ a ≠ f) (h : DqA H R v d) : DqA H' R' v d :=
  DqA.mono (fun a xs q => k _ _ (fun e => by rw [e, hf] at q; cases q) q) (fun a xs p q => ⟨k _ _ (hr a p).2 q, (hr a p).1⟩) d v h
theorem Kf.upd {f : Addr} {H : Hp} {o : HO} : Kf f H (L2.upd H f o) := fun b u n q => by rw [upd_ne n]; exact q
theorem Kf.of {f : Addr} {H H' : Hp} (s : Same H H') : Kf f H H' := fun b o _ q => s b o q
theorem Kf.trans {f : Addr} {H H1 H2 : Hp} (a : Kf f H H1) (b : Kf f H1 H2) : Kf f H H2 := fun c o n q => b c o n (a c o n q)
def mP : Part → Nat
  | .l _ => 1
  | .g t => gH t + 1
  | _ => 0
theorem qua_w (g : Thg) : inV (.str (gWord g)) (w3.map V.str) = (quaX g).isSome := by
  cases g with
  | k k => cases k <;> (dsimp only [gWord, kWord, quaX, Option.isSome]; decide +kernel)
  | t t =>
    cases t with
    | cnt c x y => cases c <;> (dsimp only [gWord, tWord, cntW, quaX, Option.isSome]; decide +kernel)
    | two c x y => cases c <;> (dsimp only [gWord, tWord, twoW, quaX, Option.isSome]; decide +kernel)
    | _ => dsimp only [gWord, tWord, quaX, Option.isSome]; decide +kernel
  | c c =>
    cases c with
    | ring r => cases r <;> (dsimp only [gWord, cWord, ringW, quaX, Option.isSome]; decide +kernel)
    | bin r c d => cases r <;> (dsimp only [gWord, cWord, binW, quaX, Option.isSome]; decide +kernel)
    | qua r x k c => cases r <;> (dsimp only [gWord, cWord, quaW, quaX, Option.isSome]; decide +kernel)
    | _ => dsimp only [gWord, cWord, quaX, Option.isSome]; decide +kernel
abbrev sPu : Stmt := top 46
def spPu (n : Nat) : Sp := fun vs H Q _ => ∃ (v : V) (p : Str) (pt : Part) (R : Addr → Prop), vs = [v, .str p] ∧ mP pt ≤ n ∧ 1 ≤ mP pt ∧ fit (partD pt) = true ∧ Dq H R v (partD pt) ∧
  ∀ v' H', Same H H' → Dq H' (fun a => R a ∨ H a = none) v' (partD (partP "X" p pt)) → Q v' H'
/-- the end of a turn: put in the part, or the name turned -/
def tPut (K : PySem.W.Frag) (n : Nat) : TS := tIfS (tOr (tB (tCB (rIsi K) (tCons (tVar 4) (tCons (tC (.ty "tuple")) tNil)))) (tB (tCB (rIsi K) (tCons (tVar 4) (tCons (tC (.ty "list")) tNil)))))
  (tDrop (tBM K "list" rAppend (tVar 2) (tCons (tCall (spPu n) [] E0 (tCons (tVar 4) (tCons (tVar 1) tNil))) tNil)))
  (tDrop (tBM K "list" rAppend (tVar 2) (tCons (tIf (tTest (tOp rEq (tVar 4) (tC (.str "X")))) (tVar 1) (tVar 4)) tNil)))
def tKeep (K : PySem.W.Frag) : TS := tDrop (tBM K "list" rAppend (tVar 2) (tCons (tVar 4) tNil))
section
variable {K : PySem.W.Frag} {n : Nat} {R : Addr → Prop} {H0 H : Hp} {f : Addr} {acc : List V} {ds : List PyData} {a : V} {p : Str} {k : Option V} {x : V} {pt : Part} {D : Ends} {l : Addr} {ys : List V}
/-- what stands in a turn -/
structure TurnP (l : Addr) (ys : List V) (R : Addr → Prop) (H0 H : Hp) (f : Addr) (acc : List V) (ds : List PyData) : Prop where
  lo : H l = some (.tup ys)
  kf : Kf f H0 H
  fr : H0 f = none
  fo : H f = some (.lst acc)
  dq : DqA H (fun z => (R z ∨ H0 z = none) ∧ z ≠ f) acc ds
  ln : ds.length ≤ 600
theorem TurnP.same (t : TurnP l ys R H0 H f acc ds) {H' : Hp} (s : Same H H') : TurnP l ys R H0 H' f acc ds := ⟨s _ _ t.lo, t.kf.trans (Kf.of s), t.fr, s _ _ t.fo, t.dq.same s, t.ln⟩
theorem TurnP.app (t : TurnP l ys R H0 H f acc ds) {v : V} {d : PyData} (h : Dq H (fun z => (R z ∨ H0 z = none) ∧ z ≠ f) v d) (hl : ds.length < 600) : TurnP l ys R H0 (upd H f (.lst (acc ++ [v]))) f (acc ++ [v]) (ds ++ [d]) :=
  ⟨by rw [upd_ne (fun e => by have z := t.lo; rw [e, t.fo] at z; cases z)]; exact t.lo, t.kf.trans Kf.upd, t.fr, upd_same, .append (t.dq.kf t.fo Kf.upd fun z q => ⟨q, q.2⟩) (.one (h.kf t.fo Kf.upd fun z q => ⟨q, q.2⟩)), by rw [List.length_append, List.length_singleton]; omega⟩
theorem TurnP.big (t : TurnP l ys R H0 H f acc ds) : acc.length < sizeLine := by
  rw [t.dq.len]
  exact big_ok (Nat.le_trans t.ln (by decide))
theorem TurnP.old (t : TurnP l ys R H0 H f acc ds) {v : V} {d : PyData} (h : Dq H0 R v d) : Dq H (fun z => (R z ∨ H0 z = none) ∧ z ≠ f) v d :=
  Dq.mono (fun a xs q => t.kf _ _ (fun e => by rw [e, t.fr] at q; cases q) q) (fun a xs p q => ⟨t.kf _ _ (fun e => by rw [e, t.fr] at q; cases q) q, .inl p, fun e => by rw [e, t.fr] at q; cases q⟩) d v h
theorem keep_ok (t : TurnP l ys R H0 H f acc ds) (hl : ds.length < 600) (hx : Dq H0 R x (partD pt))
    (q : ∀ H' acc', TurnP l ys R H0 H' f acc' (ds ++ [partD pt]) → D.nx [some a, some (.str p), some (.ref f), k, some x] H') : tKeep K D [some a, some (.str p), some (.ref f), k, some x] H := by
  refine ⟨_, rfl, .inl ⟨rfl, acc, SqL.of t.fo⟩, _, rfl, f, acc, _, rfl, rfl, t.fo, t.big, ?_⟩
  exact q _ _ (t.app (t.old hx) hl)
theorem put_ok (t : TurnP l ys R H0 H f acc ds) (hl : ds.length < 600) (hx : Dq H0 R x (partD pt)) (hf : fit (partD pt) = true) (hn : mP pt ≤ n)
    (q : ∀ H' acc', TurnP l ys R H0 H' f acc' (ds ++ [partD (partP "X" p pt)]) → D.nx [some a, some (.str p), some (.ref f), k, some x] H') : tPut K n D [some a, some (.str p), some (.ref f), k, some x] H := by
  have hv := t.old hx
  obtain ⟨t1, u1, i1, i2, i3⟩ := isi_list (K := K) hf hv
  obtain ⟨t2, u2, j1, j2, j3⟩ := isi_tuple (K := K) hf hv
  have go : 1 ≤ mP pt → tDrop (tBM K "list" rAppend (tVar 2) (tCons (tCall (spPu n) [] E0 (tCons (tVar 4) (tCons (tVar 1) tNil))) tNil)) D [some a, some (.str p), some (.ref f), k, some x] H := fun h1 => by
    refine ⟨_, rfl, .inl ⟨rfl, acc, SqL.of t.fo⟩, _, rfl, _, rfl, x, p, pt, _, rfl, hn, h1, hf, hv, fun v' H' s' hv' => ?_⟩
    refine ⟨f, acc, _, rfl, rfl, s' _ _ t.fo, t.big, ?_⟩
    refine q _ _ ((t.same s').app (hv'.imp fun z e => ?_) hl)
    rcases e with e | e
    · exact e
    · have ne : z ≠ f := fun h => by rw [h, t.fo] at e; cases e
      refine ⟨.inr ?_, ne⟩
      cases e0 : H0 z with
      | none => rfl
      | some o => rw [t.kf _ _ ne e0] at e; cases e
  refine ⟨_, rfl, _, _, t2, u2, _, rfl, j1, j2, j3, _, rfl, ?_⟩
  cases pt with
  | g g =>
    refine if_bt (isT_g g) (if_bt rfl (go ?_))
    show 1 ≤ gH g + 1
    omega
  | l xs => exact if_bf rfl ⟨_, rfl, _, _, t1, u1, _, rfl, i1, i2, i3, _, rfl, if_bt rfl (go (Nat.le_refl _))⟩
  | s y =>
    obtain rfl := hx.str_inv
    refine if_bf rfl ⟨_, rfl, _, _, t1, u1, _, rfl, i1, i2, i3, _, rfl, if_bf rfl ?_⟩
    refine ⟨_, rfl, .inl ⟨rfl, acc, SqL.of t.fo⟩, _, rfl, rfl, _, rfl, ?_⟩
    by_cases e : y = "X"
    · refine if_bt (by rw [e]; simp) ⟨_, rfl, f, acc, _, rfl, rfl, t.fo, t.big, ?_⟩
      have e2 : partP "X" p (.s y) = .s p := by simp only [partP, pN, if_pos e]
      rw [e2] at q
      exact q _ _ (t.app (.str _) hl)
    · refine if_bf (by simp [e]) ⟨_, rfl, f, acc, _, rfl, rfl, t.fo, t.big, ?_⟩
      have e2 : partP "X" p (.s y) = .s y := by simp only [partP, pN, if_neg e]
      rw [e2] at q
      exact q _ _ (t.app (.str _) hl)
  | i m =>
    obtain rfl := hx.int_inv
    refine if_bf rfl ⟨_, rfl, _, _, t1, u1, _, rfl, i1, i2, i3, _, rfl, if_bf rfl ?_⟩
    refine ⟨_, rfl, .inl ⟨rfl, acc, SqL.of t.fo⟩, _, rfl, rfl, _, rfl, if_bf (by simp) ?_⟩
    exact ⟨_, rfl, f, acc, _, rfl, rfl, t.fo, t.big, q _ _ (t.app (.int _) hl)⟩
end
end K71
/-! _law_put, the walk. -/
namespace K71
open PySem L2
theorem mapIdx_at {α β : Type} {F : Nat → α → β} {l : List α} {i : Nat} {x : α} (h : l[i]? = some x) : (l.mapIdx F)[i]? = some (F i x) := by
  rw [List.getElem?_mapIdx, h] <;> rfl
section
variable {P : Program} {w : World} {K : PySem.W.Frag} {mg : Str → Option Value} {base : Heap}
theorem scPu : FnScope ["_law_thing", "_law_place", "_law_found", "_law_k", "_law_one_here"] ["_law_thing", "_law_place"] (defScope sPu) := ⟨rfl, rfl, rfl, by decide +kernel, rfl, by decide +kernel, by decide +kernel⟩
theorem ok_Pu1 {n : Nat} (D : Def K mg "_law_put" sPu ["_law_thing", "_law_place"]) (T : Txt K mg) (cF : Cal P w K mg base CX0 "_law_put" (n + 1) ["_law_thing", "_law_place"] (spPu n)) : Cal P w K mg base CX0 "_law_put" (n + 1 + 1) ["_law_thing", "_law_place"] (spPu (n + 1)) := by
  obtain ⟨fF, fdF, mF, FF, kF, bF⟩ := cF
  refine D.ok scPu (fun vs H Q E h => ?_) (fun fa cdv A outer s H vs Q E hr h => ?_)
  · obtain ⟨v, p, pt, R, rfl, _⟩ := h
    rfl
  obtain ⟨v, p, pt, R, rfl, hn, h1, hf, hd, q⟩ := h
  refine ⟨_, pss_cons (ps_if (pt_val (pe_callB call_isi (by rfl) T.isi (by decide +kernel) (pa_cons (pv 0) (pa_cons (pe_bltn (v := .ty "list") (by rfl) T.list (by decide +kernel) rfl) pa_nil))))
      (pss_one (ps_ret (pe_lc (own := [("_law_one_here", 4)]) (g := gName 4) (tt := tYes) (te := tIf (tTest (tOp rEq (tVar 4) (tC (.str "X")))) (tVar 1) (tVar 4)) rfl scPu.nd (pi_list (pv 0)) (blkOk_by (N := ["_law_thing", "_law_place", "_law_found", "_law_k", "_law_one_here"]) (sc := defScope sPu) (by decide +kernel))
        (fun _ _ _ _ _ => pg_name (i := 4) scPu.nd rfl (Or.inl rfl)) (fun _ _ _ _ _ => pts_nil) (fun _ _ _ _ _ => pe_ifExp (pt_cmpR op_eq (pv 4) pe_str (nomark _)) (pv 1) (pv 4))))) pss_nil)
    (pss_cons (ps_set (i := 2) scPu.nd rfl (Or.inl rfl) (pe_lst (pa_cons (pe_ix ix_tup (pv 0) pe_int (fun _ _ => rfl)) pa_nil)))
    (pss_cons (ps_for PassesOwn.never rfl (pi_enumT (by rfl) T.enum (pa_cons (pe_slice sl_tup (pv 0) (po_some pe_int) po_none) pa_nil)) (pg_tup rfl (pgs_cons (pg_name (i := 3) scPu.nd rfl (Or.inl rfl)) (pgs_cons (pg_name (i := 4) scPu.nd rfl (Or.inl rfl)) pgs_nil)))
      (pss_one (ps_if (PW.pt (pw_and (pt_cmpR op_in_seq (pe_ix ix_tup (pv 0) pe_int (fun _ _ => rfl)) (pe_tup (pa_cons pe_str (pa_cons pe_str pa_nil))) rfl) (pw_and1 (pt_cmpR op_eq (pv 3) pe_int (nomark _)))))
        (pss_one (ps_expr (pe_bm PySem.F.plainAttrs_list PySem.F.slot_list_append PySem.F.type_list_append mt_append (pv 2) (pa_cons (pv 4) pa_nil))))
        (pss_one (ps_if (PW.pt (pw_and (pt_cmpR op_in_seq (pe_ix ix_tup (pv 0) pe_int (fun _ _ => rfl)) (pe_tup (pa_cons pe_str (pa_cons pe_str pa_nil))) rfl) (pw_and (pt_cmpR op_eq (pv 3) pe_int (nomark _)) (pw_and1 (pt_cmpR op_eq (pe_ix ix_tup (pv 0) pe_int (fun _ _ => rfl)) pe_str (nomark _))))))
          (pss_one (ps_expr (pe_bm PySem.F.plainAttrs_list PySem.F.slot_list_append PySem.F.type_list_append mt_append (pv 2) (pa_cons (pv 4) pa_nil))))
          (pss_one (ps_if (PW.pt (pw_or (pt_val (pe_callB call_isi (by rfl) T.isi (by decide +kernel) (pa_cons (pv 4) (pa_cons (pe_bltn (v := .ty "tuple") (by rfl) T.tuple (by decide +kernel) rfl) pa_nil))))
          (pw_or1 (pt_val (pe_callB call_isi (by rfl) T.isi (by decide +kernel) (pa_cons (pv 4) (pa_cons (pe_bltn (v := .ty "list") (by rfl) T.list (by decide +kernel) rfl) pa_nil)))))))
        (pss_one (ps_expr (pe_bm PySem.F.plainAttrs_list PySem.F.slot_list_append PySem.F.type_list_append mt_append (pv 2) (pa_cons (pe_call FF hr rfl mF kF bF .nil pass0 (pa_cons (pv 4) (pa_cons (pv 1) pa_nil))) pa_nil))))
        (pss_one (ps_expr (pe_bm PySem.F.plainAttrs_list PySem.F.slot_list_append PySem.F.type_list_append mt_append (pv 2) (pa_cons (pe_ifExp (pt_cmpR op_eq (pv 4) pe_str (nomark _)) (pv 1) (pv 4)) pa_nil)))))))))))
    (pss_one (ps_ret (pe_callTy call_tuple_of (by rfl) T.tuple (by decide +kernel) (pa_cons (pv 2) pa_nil)))))), ?_⟩
  cases pt with
  | s y => exact absurd h1 (by show ¬ 1 ≤ 0; decide)
  | i y => exact absurd h1 (by show ¬ 1 ≤ 0; decide)
  | l xs =>
    obtain ⟨a, rfl, ha, hR⟩ := Dq.lstS (xs := xs) hd
    have hl := fit_len (xs := xs) hf
    refine ⟨_, rfl, _, _, _, _, true, rfl, .ty "list", .base (.lst ha), kit_ll, _, rfl, if_bt rfl ?_⟩
    refine ⟨_, rfl, a, rfl, ⟨_, SqL.of ha⟩, fun Dl hDl => lc_strs (fun _ => true) (pN "X" p) ha hDl (by omega) (fun _ => rfl) (fun y H' Q' _ s' q' => q') (fun y H' Q' _ s' _ q' => ?_) fun H' s' e' => ?_⟩
    · refine ⟨_, rfl, rfl, _, rfl, ?_⟩
      by_cases e : y = "X"
      · refine if_bt (by rw [e]; simp) ⟨_, rfl, ?_⟩
        have e2 : pN "X" p y = p := by unfold pN; rw [if_pos e]
        rw [e2] at q'
        exact q' H' (Same.refl _)
      · refine if_bf (by simp [e]) ⟨_, rfl, ?_⟩
        have e2 : pN "X" p y = y := by unfold pN; rw [if_neg e]
        rw [e2] at q'
        exact q' H' (Same.refl _)
    · rw [pick_all] at e'
      exact q _ _ s' (.lst e' (.inr hDl) (DqA.strs _))
  | g g =>
    have hD : partD (.g g) = .tuple (.str (gWord g) :: (gParts g).map partD) := gD_parts g
    rw [hD] at hd hf
    obtain ⟨a, xs, rfl, ha, hx⟩ := hd.tup_inv
    obtain ⟨v0, ys, rfl, h0, hy⟩ := hx.cons_inv
    obtain rfl := h0.str_inv
    have hys := hy.len
    rw [List.length_map] at hys
    have hlen := fit_tlen hf
    rw [List.length_cons, List.length_map] at hlen
    refine ⟨_, rfl, _, _, _, _, false, rfl, .ty "list", .base (.tup ha), kit_tl, _, rfl, if_bf rfl ?_⟩
    refine ⟨_, rfl, a, _, _, _, rfl, rfl, SqT.of ha, at0, (by show 1 ≤ sizeLine; decide), fun f hfn => ?_⟩
    have s1 := same_new hfn (.lst [.str (gWord g)])
    refine ⟨_, rfl, _, rfl, a, _, rfl, SqT.of (s1 _ _ ha), cut1_part (List.cons_ne_nil _ _), fun l hl => ?_⟩
    rw [cut1]
    have s2 := s1.trans (same_new hl (.tup ys))
    have hlf : l ≠ f := fun e => by rw [e, upd_same] at hl; cases hl
    refine ⟨l, ys, rfl, SqT.of upd_same, for_it (walk_enumT (K := K) (a := l) (xs := ys)) (fun i σ H' => ∃ acc k o, σ = [some (.ref a), some (.str p), some (.ref f), k, o] ∧ TurnP l ys R H H' f acc (.str (gWord g) :: (((gParts g).mapIdx (outP "X" p g)).take i).map partD))
      ⟨_, none, none, rfl, ⟨upd_same, Kf.of s2, hfn, by rw [upd_ne (Ne.symm hlf), upd_same], .cons (.str _) .nil, by simp⟩⟩ (fun i σ H' _ ⟨acc, k, o, _, z⟩ => SqT.of z.lo) ?_ ?_⟩
    · rintro i x σ H1 H2 hi ⟨acc, k, o, rfl, tp⟩ ⟨t0, xi, xy, rfl, ht0, rfl, e1, e2⟩
      have e1' : xi = .int (i : Nat) := (Option.some.inj e1).symm
      subst e1'
      obtain ⟨d, hd', hv⟩ := hy.at e2
      obtain ⟨pt, hpt, rfl⟩ : ∃ pt, (gParts g)[i]? = some pt ∧ d = partD pt := by
        rw [List.getElem?_map] at hd'
        cases e : (gParts g)[i]? with
        | none => rw [e] at hd'; cases hd'
        | some pt => rw [e] at hd'; exact ⟨pt, rfl, (Option.some.inj hd').symm⟩
      have hmem : pt ∈ gParts g := List.mem_of_getElem? hpt
      have hfp : fit (partD pt) = true := fit_tup hf (List.mem_cons_of_mem _ (List.mem_map_of_mem hmem))
      have hmp : mP pt ≤ n := by
        cases pt with
        | s y => exact Nat.zero_le _
        | i y => exact Nat.zero_le _
        | l y =>
          have := gH_pos g
          show 1 ≤ n
          have : gH g + 1 ≤ n + 1 := hn
          omega
        | g t =>
          have := part_lt hmem
          have : gH g + 1 ≤ n + 1 := hn
          show gH t + 1 ≤ n
          omega
      have emore := take_more (mapIdx_at (F := outP "X" p g) hpt)
      have hsh : ∀ {H' acc'}, TurnP l ys R H H' f acc' ((.str (gWord g) :: (((gParts g).mapIdx (outP "X" p g)).take i).map partD) ++ [partD (outP "X" p g i pt)]) →
          ∃ acc k o, [some (V.ref a), some (.str p), some (.ref f), some (.int (i : Nat)), some xy] = [some (V.ref a), some (.str p), some (.ref f), k, o] ∧ TurnP l ys R H H' f acc (.str (gWord g) :: (((gParts g).mapIdx (outP "X" p g)).take (i + 1)).map partD) := fun {H' acc'} t => by
        refine ⟨acc', _, _, rfl, ?_⟩
        rw [emore, List.map_append]
        exact t
      have ha1 : H1 a = some (.tup (.str (gWord g) :: ys)) := tp.kf _ _ (fun e => by rw [e, hfn] at ha; cases ha) ha
      have s3 := same_new ht0 (.tup [.int (i : Nat), xy])
      have hln : (V.str (gWord g) :: ys).length ≤ 501 := by rw [List.length_cons]; omega
      have hdl : (PyData.str (gWord g) :: (((gParts g).mapIdx (outP "X" p g)).take i).map partD).length < 600 := by
        rw [List.length_cons, List.length_map, List.length_take, List.length_mapIdx]
        omega
      refine ⟨t0, _, rfl, SqT.of upd_same, rfl, _, _, rfl, _, _, rfl, rfl, ?_⟩
      refine ⟨_, rfl, a, _, _, _, rfl, rfl, SqT.of (s3 _ _ ha1), at0, (by show 2 ≤ sizeLine; decide), fun t1 n1 => ⟨t1, w3.map V.str, rfl, .inr (SqT.of upd_same), rfl, rfl, _, rfl, ?_⟩⟩
      have s4 := s3.trans (same_new n1 (.tup (w3.map V.str)))
      cases hq : quaX g with
      | none =>
        have hb : inV (.str (gWord g)) (w3.map V.str) = false := by rw [qua_w, hq] <;> rfl
        refine if_bf hb (if_bf rfl ?_)
        refine ⟨_, rfl, a, _, _, _, rfl, rfl, SqT.of (s4 _ _ ha1), at0, (by show 2 ≤ sizeLine; decide), fun t2 n2 => ⟨t2, w3.map V.str, rfl, .inr (SqT.of upd_same), rfl, rfl, _, rfl, if_bf hb (if_bf rfl ?_)⟩⟩
        have s5 := s4.trans (same_new n2 (.tup (w3.map V.str)))
        have eo : outP "X" p g i pt = partP "X" p pt := by simp [outP, hq]
        rw [eo] at hsh
        exact put_ok (tp.same s5) hdl hv hfp hmp fun H' acc' t => hsh t
      | some x =>
        have hb : inV (.str (gWord g)) (w3.map V.str) = true := by rw [qua_w, hq] <;> rfl
        obtain ⟨r, k', c, rfl⟩ : ∃ r k' c, g = .c (.qua r x k' c) := by
          cases g with
          | c c =>
            cases c with
            | qua r y k c =>
              have e : y = x := Option.some.inj hq
              subst e
              exact ⟨r, k, c, rfl⟩
            | _ => cases hq
          | _ => cases hq
        refine if_bt hb ⟨_, rfl, rfl, _, rfl, ?_⟩
        match i, hpt with
        | 0, hpt =>
          have e : Part.s x = pt := Option.some.inj hpt
          subst e
          exact if_bt (by decide) (keep_ok (pt := .s x) (tp.same s4) hdl hv fun H' acc' t => hsh t)
        | 1, hpt =>
          have e : Part.g (.k k') = pt := Option.some.inj hpt
          subst e
          refine if_bf (by decide) ?_
          refine ⟨_, rfl, a, _, _, _, rfl, rfl, SqT.of (s4 _ _ ha1), at0, (by show 2 ≤ sizeLine; decide), fun t2 n2 => ⟨t2, w3.map V.str, rfl, .inr (SqT.of upd_same), rfl, rfl, _, rfl, if_bt hb ⟨_, rfl, rfl, _, rfl, if_bf (by decide) (if_bf rfl ?_)⟩⟩⟩
          have s5 := s4.trans (same_new n2 (.tup (w3.map V.str)))
          exact put_ok (pt := .g (.k k')) (tp.same s5) hdl hv hfp hmp fun H' acc' t => hsh t
        | 2, hpt =>
          have e : Part.g (.c c) = pt := Option.some.inj hpt
          subst e
          refine if_bf (by decide) ?_
          refine ⟨_, rfl, a, _, _, _, rfl, rfl, SqT.of (s4 _ _ ha1), at0, (by show 2 ≤ sizeLine; decide), fun t2 n2 => ⟨t2, w3.map V.str, rfl, .inr (SqT.of upd_same), rfl, rfl, _, rfl, if_bt hb ⟨_, rfl, rfl, _, rfl, if_bt (by decide) ?_⟩⟩⟩
          have s5 := s4.trans (same_new n2 (.tup (w3.map V.str)))
          obtain ⟨y0, yr, rfl, hy0, _⟩ := hy.cons_inv
          obtain rfl := hy0.str_inv
          refine ⟨_, rfl, a, _, _, _, rfl, rfl, SqT.of (s5 _ _ ha1), ix_of (n := 1) rfl, rfl, _, rfl, ?_⟩
          by_cases ex : x = "X"
          · subst ex
            exact if_bt (by simp) (keep_ok (pt := .g (.c c)) (tp.same s5) hdl hv fun H' acc' t => hsh t)
          · refine if_bf (by simp [ex]) ?_
            have eo : outP "X" p (.c (.qua r x k' c)) 2 (.g (.c c)) = partP "X" p (.g (.c c)) := by simp [outP, quaX, ex]
            rw [eo] at hsh
            exact put_ok (pt := .g (.c c)) (tp.same s5) hdl hv hfp hmp fun H' acc' t => hsh t
        | j + 3, hpt => simp [gParts, cParts] at hpt
    · rintro σ H' ⟨acc, k, o, rfl, tp⟩
      have e0 : ((gParts g).mapIdx (outP "X" p g)).take ys.length = gParts (gP "X" p g) := by
        rw [gParts_P, hys]
        exact List.take_of_length_le (by rw [List.length_mapIdx]; exact Nat.le_refl _)
      refine ⟨_, rfl, f, acc, rfl, .inl ⟨SqL.of tp.fo, fun t ht => ?_⟩⟩
      have sH : Same H H' := fun b o' z => tp.kf b o' (fun e => by rw [e, hfn] at z; cases z) z
      refine q _ _ (sH.trans (same_new ht _)) ?_
      have e3 : partD (partP "X" p (.g g)) = .tuple (.str (gWord g) :: (gParts (gP "X" p g)).map partD) := by
        show gD (gP "X" p g) = _
        rw [gD_parts, gWord_P]
      rw [e3, ← e0]
      exact .tup upd_same ((tp.dq.imp fun z e => e.1).same (same_new ht _))
theorem ok_Pu (D : Def K mg "_law_put" sPu ["_law_thing", "_law_place"]) (T : Txt K mg) : ∀ n, Cal P w K mg base CX0 "_law_put" (n + 1) ["_law_thing", "_law_place"] (spPu n)
  | 0 => Cal.never D fun vs H Q E h => by
    obtain ⟨v, p, pt, R, _, h0, h1, _⟩ := h
    omega
  | n + 1 => ok_Pu1 D T (ok_Pu D T n)
end
end K71
/-! Plain: depths, fit after the put, names are texts; _law_due, _law_one. -/
namespace K71
open PySem L2
theorem da_strs : ∀ xs : List Str, PyData.depthAll (xs.map PyData.str) = 0
  | [] => by simp [PyData.depthAll]
  | x :: xs => by
    have ih := da_strs xs
    show PyData.depthAll (.str x :: xs.map PyData.str) = 0
    simp only [PyData.depthAll, PyData.depth, ih]
    rfl
theorem kD_dep : ∀ k : Knd, (kD k).depth ≤ 2
  | .all => by simp [kD, PyData.depth, PyData.depthAll]
  | .fr a => by simp [kD, PyData.depth, PyData.depthAll]
  | .to a => by simp [kD, PyData.depth, PyData.depthAll]
  | .these xs => by simp [kD, PyData.depth, PyData.depthAll, da_strs]
theorem tD_dep : ∀ t : Trm, (tD t).depth ≤ tH t + 2
  | .num n => by simp [tD, PyData.depth, PyData.depthAll]
  | .size k => by
    have := kD_dep k
    simp only [tD, PyData.depth, PyData.depthAll, tH]
    omega
  | .cnt w a b => by simp [tD, PyData.depth, PyData.depthAll]
  | .pairs k l => by
    have := kD_dep k
    have := kD_dep l
    simp only [tD, PyData.depth, PyData.depthAll, tH]
    omega
  | .times n t => by
    have := tD_dep t
    simp only [tD, PyData.depth, PyData.depthAll, tH]
    omega
  | .two w t u => by
    have := tD_dep t
    have := tD_dep u
    simp only [tD, PyData.depth, PyData.depthAll, tH]
    omega
theorem cD_dep : ∀ c : Clm, (cD c).depth ≤ cH c + 2
  | .way a b => by simp [cD, PyData.depth, PyData.depthAll]
  | .cost a b k => by simp [cD, PyData.depth, PyData.depthAll]
  | .ring r => by simp [cD, PyData.depth, PyData.depthAll]
  | .must a b x => by simp [cD, PyData.depth, PyData.depthAll]
  | .atmost t u => by
    have := tD_dep t
    have := tD_dep u
    simp only [cD, PyData.depth, PyData.depthAll, cH]
    omega
  | .neg c => by
    have := cD_dep c
    simp only [cD, PyData.depth, PyData.depthAll, cH]
    omega
  | .bin r c d => by
    have := cD_dep c
    have := cD_dep d
    simp only [cD, PyData.depth, PyData.depthAll, cH]
    omega
  | .qua r x k c => by
    have := kD_dep k
    have := cD_dep c
    have := cH_pos c
    simp only [cD, PyData.depth, PyData.depthAll, cH]
    omega
theorem tH_P (x p : Str) : ∀ t : Trm, tH (tP x p t) = tH t
  | .num n => rfl
  | .size k => rfl
  | .cnt w a b => rfl
  | .pairs k l => rfl
  | .times n t => by simp only [tP, tH, tH_P x p t]
  | .two w t u => by simp only [tP, tH, tH_P x p t, tH_P x p u]
theorem cH_P (x p : Str) : ∀ c : Clm, cH (cP x p c) = cH c
  | .way a b => rfl
  | .cost a b k => rfl
  | .ring r => rfl
  | .must a b x => rfl
  | .atmost t u => by simp only [cP, cH, tH_P]
  | .neg c => by simp only [cP, cH, cH_P x p c]
  | .bin r c d => by simp only [cP, cH, cH_P x p c, cH_P x p d]
  | .qua r y k c => by
    by_cases e : y = x
    · simp only [cP, cH, if_pos e]
    · simp only [cP, cH, if_neg e, cH_P x p c]
theorem pN_ok {x p y : Str} (hp : PyData.strOk p = true) (h : PyData.strOk y = true) : PyData.strOk (pN x p y) = true := by
  unfold pN
  split
  · exact hp
  · exact h
theorem kP_fit {x p : Str} (hp : PyData.strOk p = true) : ∀ {k : Knd}, fit (kD k) = true → fit (kD (kP x p k)) = true
  | .all, h => h
  | .fr a, h => by
    simp only [kD, kP, fit, fitA, Bool.and_eq_true] at h ⊢
    exact ⟨h.1, h.2.1, pN_ok hp h.2.2.1, h.2.2.2⟩
  | .to a, h => by
    simp only [kD, kP, fit, fitA, Bool.and_eq_true] at h ⊢
    exact ⟨h.1, h.2.1, pN_ok hp h.2.2.1, h.2.2.2⟩
  | .these xs, h => by
    simp only [kD, kP, fit, fitA, Bool.and_eq_true, List.length_map] at h ⊢
    refine ⟨h.1, h.2.1, ⟨h.2.2.1.1, fitS_of fun y hy => ?_⟩, h.2.2.2⟩
    obtain ⟨z, hz, rfl⟩ := List.mem_map.mp hy
    obtain ⟨zs, e, ha⟩ := fitS_strs h.2.2.1.2
    have e2 : xs = zs := List.map_inj_right (fun a b q => by injection q) |>.mp e
    subst e2
    exact pN_ok hp (ha z hz)
theorem tP_fit {x p : Str} (hp : PyData.strOk p = true) : ∀ {t : Trm}, fit (tD t) = true → fit (tD (tP x p t)) = true
  | .num n, h => h
  | .size k, h => by
    simp only [tD, tP, fit, fitA, Bool.and_eq_true] at h ⊢
    exact ⟨h.1, h.2.1, kP_fit hp h.2.2.1, h.2.2.2⟩
  | .cnt w a b, h => by
    simp only [tD, tP, fit, fitA, Bool.and_eq_true] at h ⊢
    exact ⟨h.1, h.2.1, pN_ok hp h.2.2.1, pN_ok hp h.2.2.2.1, h.2.2.2.2⟩
  | .pairs k l, h => by
    simp only [tD, tP, fit, fitA, Bool.and_eq_true] at h ⊢
    exact ⟨h.1, h.2.1, kP_fit hp h.2.2.1, kP_fit hp h.2.2.2.1, h.2.2.2.2⟩
  | .times n t, h => by
    simp only [tD, tP, fit, fitA, Bool.and_eq_true] at h ⊢
    exact ⟨h.1, h.2.1, h.2.2.1, tP_fit hp h.2.2.2.1, h.2.2.2.2⟩
  | .two w t u, h => by
    simp only [tD, tP, fit, fitA, Bool.and_eq_true] at h ⊢
    exact ⟨h.1, h.2.1, tP_fit hp h.2.2.1, tP_fit hp h.2.2.2.1, h.2.2.2.2⟩
theorem cP_fit {x p : Str} (hp : PyData.strOk p = true) : ∀ {c : Clm}, fit (cD c) = true → fit (cD (cP x p c)) = true
  | .way a b, h => by
    simp only [cD, cP, fit, fitA, Bool.and_eq_true] at h ⊢
    exact ⟨h.1, h.2.1, pN_ok hp h.2.2.1, pN_ok hp h.2.2.2.1, h.2.2.2.2⟩
  | .cost a b k, h => by
    simp only [cD, cP, fit, fitA, Bool.and_eq_true] at h ⊢
    exact ⟨h.1, h.2.1, pN_ok hp h.2.2.1, pN_ok hp h.2.2.2.1, h.2.2.2.2⟩
  | .ring r, h => h
  | .must a b z, h => by
    simp only [cD, cP, fit, fitA, Bool.and_eq_true] at h ⊢
    exact ⟨h.1, h.2.1, pN_ok hp h.2.2.1, pN_ok hp h.2.2.2.1, pN_ok hp h.2.2.2.2.1, h.2.2.2.2.2⟩
  | .atmost t u, h => by
    simp only [cD, cP, fit, fitA, Bool.and_eq_true] at h ⊢
    exact ⟨h.1, h.2.1, tP_fit hp h.2.2.1, tP_fit hp h.2.2.2.1, h.2.2.2.2⟩
  | .neg c, h => by
    simp only [cD, cP, fit, fitA, Bool.and_eq_true] at h ⊢
    exact ⟨h.1, h.2.1, cP_fit hp h.2.2.1, h.2.2.2⟩
  | .bin r c d, h => by
    simp only [cD, cP, fit, fitA, Bool.and_eq_true] at h ⊢
    exact ⟨h.1, h.2.1, cP_fit hp h.2.2.1, cP_fit hp h.2.2.2.1, h.2.2.2.2⟩
  | .qua r y k c, h => by
    simp only [cD, cP, fit, fitA, Bool.and_eq_true] at h ⊢
    refine ⟨h.1, h.2.1, h.2.2.1, kP_fit hp h.2.2.2.1, ?_, h.2.2.2.2.2⟩
    split
    · exact h.2.2.2.2.1
    · exact cP_fit hp h.2.2.2.2.1
theorem kN_ok : ∀ {k : Knd}, fit (kD k) = true → ∀ x ∈ kN k, PyData.strOk x = true
  | .all, _, _, h => by cases h
  | .fr a, h, x, hx => by
    simp only [kD, fit, fitA, Bool.and_eq_true] at h
    rw [List.mem_singleton.mp hx]
    exact h.2.2.1
  | .to a, h, x, hx => by
    simp only [kD, fit, fitA, Bool.and_eq_true] at h
    rw [List.mem_singleton.mp hx]
    exact h.2.2.1
  | .these xs, h, x, hx => by
    simp only [kD, fit, fitA, Bool.and_eq_true] at h
    obtain ⟨zs, e, ha⟩ := fitS_strs h.2.2.1.2
    have e2 : xs = zs := List.map_inj_right (fun a b q => by injection q) |>.mp e
    subst e2
    exact ha x hx
theorem mem2 {α : Type} {P : α → Prop} {xs ys : List α} (h : ∀ x ∈ xs, P x) (k : ∀ x ∈ ys, P x) : ∀ x ∈ xs ++ ys, P x := fun x hx => (List.mem_append.mp hx).elim (h x) (k x)
theorem mem_c {α : Type} {P : α → Prop} {a : α} {xs : List α} (h : P a) (k : ∀ x ∈ xs, P x) : ∀ x ∈ a :: xs, P x := fun x hx => by
  rcases List.mem_cons.mp hx with e | e
  · rw [e]; exact h
  · exact k x e
theorem mem_n {α : Type} {P : α → Prop} : ∀ x ∈ ([] : List α), P x := fun x hx => by cases hx
theorem tN_ok : ∀ {t : Trm}, fit (tD t) = true → ∀ x ∈ tN t, PyData.strOk x = true
  | .num n, _, _, h => by cases h
  | .size k, h, x, hx => kN_ok (k := k) (fit_i1 h) x hx
  | .cnt w a b, h, x, hx => by
    simp only [tD, fit, fitA, Bool.and_eq_true] at h
    exact mem_c (P := fun q => PyData.strOk q = true) (xs := [b]) h.2.2.1 (mem_c (P := fun q => PyData.strOk q = true) h.2.2.2.1 mem_n) x hx
  | .pairs k l, h, x, hx => mem2 (kN_ok (fit_i1 h)) (kN_ok (fit_i2 h)) x hx
  | .times n t, h, x, hx => tN_ok (t := t) (fit_i2 h) x hx
  | .two w t u, h, x, hx => mem2 (tN_ok (fit_i1 h)) (tN_ok (fit_i2 h)) x hx
theorem cN_ok : ∀ {c : Clm}, fit (cD c) = true → ∀ x ∈ cN c, PyData.strOk x = true
  | .way a b, h, x, hx => by
    simp only [cD, fit, fitA, Bool.and_eq_true] at h
    exact mem_c (P := fun q => PyData.strOk q = true) (xs := [b]) h.2.2.1 (mem_c (P := fun q => PyData.strOk q = true) h.2.2.2.1 mem_n) x hx
  | .cost a b k, h, x, hx => by
    simp only [cD, fit, fitA, Bool.and_eq_true] at h
    exact mem_c (P := fun q => PyData.strOk q = true) (xs := [b]) h.2.2.1 (mem_c (P := fun q => PyData.strOk q = true) h.2.2.2.1 mem_n) x hx
  | .ring r, _, _, h => by cases h
  | .must a b z, h, x, hx => by
    simp only [cD, fit, fitA, Bool.and_eq_true] at h
    exact mem_c (P := fun q => PyData.strOk q = true) (xs := [b, z]) h.2.2.1 (mem_c (P := fun q => PyData.strOk q = true) h.2.2.2.1 (mem_c (P := fun q => PyData.strOk q = true) h.2.2.2.2.1 mem_n)) x hx
  | .atmost t u, h, x, hx => mem2 (tN_ok (fit_i1 h)) (tN_ok (fit_i2 h)) x hx
  | .neg c, h, x, hx => cN_ok (c := c) (fit_i1 h) x hx
  | .bin r c d, h, x, hx => mem2 (cN_ok (fit_i1 h)) (cN_ok (fit_i2 h)) x hx
  | .qua r y k c, h, x, hx => mem2 (kN_ok (fit_i2 h)) (fun z hz => cN_ok (c := c) (fit_i3 h) z (List.mem_filter.mp hz).1) x hx
theorem gN_ok {g : Thg} (h : fit (gD g) = true) : ∀ x ∈ gN g, PyData.strOk x = true := by
  cases g with
  | k k => exact kN_ok (k := k) h
  | t t => exact tN_ok (t := t) h
  | c c => exact cN_ok (c := c) h
theorem sh_strs {xs : List Str} (h : ∀ x ∈ xs, PyData.strOk x = true) : SeqAt.shaped (.list (xs.map PyData.str)) = true := by
  unfold SeqAt.shaped
  rw [Bool.and_eq_true]
  refine ⟨?_, ?_⟩
  · simp only [PyData.canLay0]
    exact fitS_lay (fitS_of h)
  · simp only [PyData.depth, da_strs]
    decide
theorem sh_fit {d : PyData} (h : fit d = true) (k : d.depth ≤ 64) : SeqAt.shaped d = true := by
  unfold SeqAt.shaped
  rw [Bool.and_eq_true]
  exact ⟨fit_lay h, decide_eq_true k⟩
theorem sh_ans {ks xs : List Str} (h : ∀ x ∈ xs, PyData.strOk x = true) : SeqAt.shaped (ansD ks xs) = true := by
  unfold ansD
  cases e : strange ks xs with
  | none => decide +kernel
  | some x =>
    have hx : x ∈ xs := List.mem_of_find?_eq_some e
    have e1 : PyData.strOk "refused" = true := by decide +kernel
    simp [SeqAt.shaped, PyData.canLay0, PyData.canLayAll0, PyData.depth, PyData.depthAll, h x hx, e1]
theorem sh_eqv {d : PyData} (h : SeqAt.shaped d = true) : PyData.eqv d d = true := by
  unfold SeqAt.shaped at h
  rw [Bool.and_eq_true] at h
  exact PySem.SeqAt.eqv_refl d h.1
theorem strange_head (ks xs : List Str) : strange ks xs = (xs.filter fun x => !decide (x ∈ ks)).head? := by
  unfold strange
  rw [List.head?_filter]
end K71
/-! _law_due, _law_one. -/
namespace K71
open PySem L2
abbrev sDu : Stmt := top 48
def spDu : Sp := fun vs H Q _ => ∃ (a : Addr) (v : V) (ks : List Str) (g : Thg), vs = [.ref a, v] ∧ H a = some (.lst (ks.map V.str)) ∧ gH g ≤ 12 ∧ fit (gD g) = true ∧ Dt H v (gD g) ∧ ∀ v' H', Same H H' → Dt H' v' (ansD ks (gN g)) → Q v' H'
abbrev sOn : Stmt := top 49
def spOn (C : Addr) : Sp := fun vs H Q _ => ∃ (p a : Addr) (v : V) (ks : List Str) (ts : List Tie) (c : Clm), vs = [.ref p, .ref a, v] ∧ NetIn C H p ks ts ∧ H a = some (.lst (ks.map V.str)) ∧ cH c ≤ 12 ∧ fit (cD c) = true ∧ Dt H v (cD c) ∧ ∀ H', Same H H' → Q (.bl true) H'
section
variable {P : Program} {w : World} {K : PySem.W.Frag} {mg : Str → Option Value} {base : Heap} {C : Addr}
theorem scDu : FnScope ["_law_places", "_law_thing", "_law_strange", "_law_name_here"] ["_law_places", "_law_thing"] (defScope sDu) := ⟨rfl, rfl, rfl, by decide +kernel, rfl, by decide +kernel, by decide +kernel⟩
theorem ok_Du (D : Def K mg "_law_due" sDu ["_law_places", "_law_thing"]) (cF : Cal P w K mg base CX0 "_law_names" 13 ["_law_thing"] (spNa 12)) : Cal P w K mg base CX0 "_law_due" 14 ["_law_places", "_law_thing"] spDu := by
  obtain ⟨fF, fdF, mF, FF, kF, bF⟩ := cF
  refine D.ok scDu (fun vs H Q E h => ?_) (fun f cdv A outer s H vs Q E hr h => ?_)
  · obtain ⟨a, v, ks, g, rfl, _⟩ := h
    rfl
  obtain ⟨a, v, ks, g, rfl, ha, h12, hf, hd, q⟩ := h
  refine ⟨_, pss_cons (ps_setLc (i := 2) (own := [("_law_name_here", 3)]) (g := gName 3) (tt := tTest (tOp (rIn K true) (tVar 3) (tVar 0))) (te := tVar 3) rfl scDu.nd rfl rfl (sw_true rfl rfl rfl rfl)
      (pi_list (pe_call FF hr rfl mF kF bF .nil pass0 (pa_cons (pv 1) pa_nil))) (blkOk_by (N := ["_law_places", "_law_thing", "_law_strange", "_law_name_here"]) (sc := defScope sDu) (by decide +kernel))
        (fun _ _ _ _ _ => pg_name (i := 3) scDu.nd rfl (Or.inl rfl)) (fun _ _ _ _ _ => pts_one (pt_cmpR op_notIn_seq (pv 3) (pv 0) rfl)) (fun _ _ _ _ _ => pv 3))
    (pss_cons (ps_if (pt_cmpR (op_eqD hr.units) (pv 2) (pe_lst pa_nil) (nomark _)) (pss_one (ps_ret (pe_lst (pa_cons pe_str (pa_cons pe_non pa_nil))))) pss_nil)
    (pss_one (ps_ret (pe_lst (pa_cons pe_str (pa_cons (pe_ix ix_list (pv 2) pe_int (fun _ _ => rfl)) pa_nil)))))), ?_⟩
  refine ⟨_, rfl, v, g, rfl, h12, h12, hf, hd, fun p H1 g1 e1 => ?_⟩
  have hlen := gN_len hf h12
  refine ⟨p, rfl, ⟨_, SqL.of e1⟩, fun Dl hDl => lc_strs (fun y => !decide (y ∈ ks)) id e1 hDl (by omega) (fun _ => rfl) (fun y H' Q' _ s' q' => ?_) (fun y H' Q' _ s' _ q' => ?_) fun H' s' e' => ?_⟩
  · refine ⟨_, rfl, _, rfl, a, _, rfl, .inl (SqL.of (s' _ _ (g1 _ _ ha))), rfl, flat_strs ks, _, rfl, ?_⟩
    rw [if_pos rfl, inV_strs]
    exact q'
  · exact ⟨_, rfl, q' H' (Same.refl _)⟩
  · rw [pick_id] at e'
    have hok : ∀ x ∈ (gN g).filter (fun y => !decide (y ∈ ks)), PyData.strOk x = true := fun x hx => gN_ok hf x (List.mem_filter.mp hx).1
    refine ⟨_, rfl, Nat.zero_le _, fun l0 n0 => ?_⟩
    have s1 := s'.trans (same_new n0 (.lst []))
    have e2 := same_new n0 (.lst []) _ _ e'
    refine ⟨.list (((gN g).filter (fun y => !decide (y ∈ ks))).map PyData.str), .list [], Dq.dp (P := fun _ => True) _ _ (.lst e2 trivial (DqA.strs _)), .lst (SqL.of upd_same) .nil, sh_strs hok, by decide +kernel, _, rfl, ?_⟩
    unfold ansD at q
    rw [strange_head] at q
    cases hx : (gN g).filter (fun y => !decide (y ∈ ks)) with
    | nil =>
      rw [hx] at q
      refine if_bt (by simp [PyData.eqv, PyData.eqvAll]) ⟨(by show 2 ≤ sizeLine; decide), fun l hl => ?_⟩
      exact q _ _ ((g1.trans s1).trans (same_new hl _)) (.lst upd_same trivial (.cons (.str _) (.cons .non .nil)))
    | cons x xs =>
      rw [hx] at q e2
      refine if_bf (by simp [PyData.eqv, PyData.eqvAll]) ⟨_, rfl, _, _, _, _, rfl, rfl, SqL.of e2, at0, (by show 2 ≤ sizeLine; decide), fun l hl => ?_⟩
      exact q _ _ ((g1.trans s1).trans (same_new hl _)) (.lst upd_same trivial (.cons (.str _) (.cons (.str _) .nil)))
theorem scOn : FnScope ["_law_net_here", "_law_places", "_law_claim_here", "_law_copy_here", "_law_term_here"] ["_law_net_here", "_law_places", "_law_claim_here"] (defScope sOn) := ⟨rfl, rfl, rfl, by decide +kernel, rfl, by decide +kernel, by decide +kernel⟩
theorem ok_On (D : Def K mg "_law_one" sOn ["_law_net_here", "_law_places", "_law_claim_here"]) (cK : Cal P w K mg base CX0 "_law_copy" 41 ["_law_claim_here"] (spKC 40)) (cC : Cal P w K mg base CX0 "_law_caught" 29 ["_law_net_here", "_law_word", "_law_thing"] (spCa C))
    (cD' : Cal P w K mg base CX0 "_law_due" 14 ["_law_places", "_law_thing"] spDu) : Cal P w K mg base CX0 "_law_one" 42 ["_law_net_here", "_law_places", "_law_claim_here"] (spOn C) := by
  obtain ⟨fK, fdK, mK, FK, kK, bK⟩ := cK
  obtain ⟨fC, fdC, mC, FC, kC, bC⟩ := cC
  obtain ⟨fD, fdD, mD, FD, kD', bD⟩ := cD'
  refine D.ok scOn (fun vs H Q E h => ?_) (fun f cdv A outer s H vs Q E hr h => ?_)
  · obtain ⟨p, a, v, ks, ts, c, rfl, _⟩ := h
    rfl
  obtain ⟨p, a, v, ks, ts, c, rfl, hN, ha, h12, hf, hd, q⟩ := h
  have hr1 : Room 41 _ := hr.mono (by omega)
  have hr2 : Room 29 _ := hr.mono (by omega)
  have hr3 : Room 14 _ := hr.mono (by omega)
  refine ⟨_, pss_cons (ps_set (i := 3) scOn.nd rfl (Or.inl rfl) (pe_call FK hr1 rfl mK kK bK .nil pass0 (pa_cons (pv 2) pa_nil)))
    (pss_cons (ps_if (PW.pt (pw_or (pt_cmpR (op_neD hr.units) (pe_call FC hr2 rfl mC kC bC .nil pass0 (pa_cons (pv 0) (pa_cons pe_str (pa_cons (pv 2) pa_nil)))) (pe_call FD hr3 rfl mD kD' bD .nil pass0 (pa_cons (pv 1) (pa_cons (pv 2) pa_nil))) (nomark _))
        (pw_or1 (pt_cmpR (op_neD hr.units) (pv 2) (pv 3) (nomark _))))) (pss_one (ps_ret pe_bl)) pss_nil)
    (pss_cons (ps_if (pt_cmpR op_eq (pe_ix ix_tup (pv 2) pe_int (fun _ _ => rfl)) pe_str (nomark _))
      (pss_one (ps_for PassesOwn.never rfl (pi_tup (pe_slice sl_tup (pv 2) (po_some pe_int) po_none)) (pg_name (i := 4) scOn.nd rfl (Or.inl rfl))
        (pss_one (ps_if (pt_cmpR (op_neD hr.units) (pe_call FC hr2 rfl mC kC bC .nil pass0 (pa_cons (pv 0) (pa_cons pe_str (pa_cons (pv 4) pa_nil)))) (pe_call FD hr3 rfl mD kD' bD .nil pass0 (pa_cons (pv 1) (pa_cons (pv 4) pa_nil))) (nomark _)) (pss_one (ps_ret pe_bl)) pss_nil)))) pss_nil)
    (pss_one (ps_ret (pe_cmpR (op_eqD hr.units) (pv 2) (pv 3) (nomark _)))))), ?_⟩
  have hdep := cD_dep c
  have shc : SeqAt.shaped (cD c) = true := sh_fit hf (by omega)
  have sha : SeqAt.shaped (ansD ks (cN c)) = true := sh_ans (cN_ok hf)
  refine ⟨_, rfl, v, cD c, rfl, by omega, hf, hd, fun v2 H1 g1 e1 => ?_⟩
  refine ⟨_, rfl, _, rfl, p, "claim", v, ks, cN c, ts, rfl, hN.same g1, .inr ⟨rfl, c, h12, hf, hd.same g1, rfl⟩, fun v3 H2 g2 e2 => ?_⟩
  refine ⟨_, rfl, _, rfl, a, v, ks, .c c, rfl, g2 _ _ (g1 _ _ ha), h12, hf, (hd.same g1).same g2, fun v4 H3 g3 e3 => ?_⟩
  have s3 := g1.trans (g2.trans g3)
  have d3 : Dt H3 v (cD c) := hd.same s3
  have c3 : Dt H3 v2 (cD c) := (e1.dt.same g2).same g3
  refine ⟨_, _, Dq.dp _ _ (e2.same g3), Dq.dp _ _ e3, sha, sha, _, rfl, if_bf (by show (!PyData.eqv (ansD ks (cN c)) (ansD ks (cN c))) = false; rw [sh_eqv sha] <;> rfl) ?_⟩
  refine ⟨_, rfl, _, rfl, _, _, Dq.dp _ _ d3, Dq.dp _ _ c3, shc, shc, _, rfl, if_bf (by rw [sh_eqv shc] <;> rfl) ?_⟩
  have hD := gD_parts (.c c)
  have d4 := d3
  rw [show cD c = .tuple (.str (gWord (.c c)) :: (gParts (.c c)).map partD) from hD] at d4
  obtain ⟨b, xs, rfl, hb, hx⟩ := d4.tup_inv
  obtain ⟨v0, ys, rfl, h0, hy⟩ := hx.cons_inv
  obtain rfl := h0.str_inv
  have fin : ∀ (H' : Hp) (o : Option V), Same H3 H' → tRet (tOp (rEqD K) (tVar 2) (tVar 3)) { nx := fun _ H' => Q .non H', rt := Q } [some (.ref p), some (.ref a), some (.ref b), some v2, o] H' := fun H' o s' =>
    ⟨_, rfl, _, rfl, _, _, Dq.dp _ _ (d3.same s'), Dq.dp _ _ (c3.same s'), shc, shc, by rw [sh_eqv shc]; exact q H' (s3.trans s')⟩
  refine ⟨_, rfl, b, _, _, _, rfl, rfl, SqT.of hb, at0, rfl, _, rfl, ?_⟩
  have nw : ∀ x : Str, x ≠ "atmost" → decide (V.str x = V.str "atmost") = false := fun x h => by simp [h]
  cases c with
  | atmost t u =>
    refine if_bt (by show decide (V.str "atmost" = V.str "atmost") = true; decide +kernel) ?_
    obtain ⟨y1, ys, rfl, h1, hy⟩ := hy.cons_inv
    obtain ⟨y2, ys, rfl, h2, hy⟩ := hy.cons_inv
    obtain rfl := hy.nil_inv
    simp only [cH] at h12
    have f1 : fit (tD t) = true := fit_i1 hf
    have f2 : fit (tD u) = true := fit_i2 hf
    refine ⟨_, rfl, _, rfl, b, _, rfl, SqT.of hb, cut1_part (List.cons_ne_nil _ _), fun l hl => ?_⟩
    rw [cut1]
    have s4 := same_new hl (.tup [y1, y2])
    have turn : ∀ (t : Trm) (y : V) (H' : Hp) (D' : Ends), tH t ≤ 12 → fit (tD t) = true → Dt H3 y (tD t) → Same H3 H' → (∀ H2, Same H3 H2 → H' l = some (.tup [y1, y2]) → H2 l = some (.tup [y1, y2]) → D'.nx [some (.ref p), some (.ref a), some (.ref b), some v2, some y] H2) → H' l = some (.tup [y1, y2]) →
        tIfS (tTest (tOp (rNeD K) (tCall (spCa C) [] E0 (tCons (tVar 0) (tCons (tC (.str "term")) (tCons (tVar 4) tNil)))) (tCall spDu [] E0 (tCons (tVar 1) (tCons (tVar 4) tNil))))) (tRet (tC (.bl false))) tNext D' [some (.ref p), some (.ref a), some (.ref b), some v2, some y] H' := fun t y H' D' ht ft dt s' k hl' => by
      have sht : SeqAt.shaped (ansD ks (tN t)) = true := sh_ans (tN_ok ft)
      refine ⟨_, rfl, _, rfl, p, "term", y, ks, tN t, ts, rfl, hN.same (s3.trans s'), .inl ⟨rfl, t, ht, ft, dt.same s', rfl⟩, fun w1 G1 k1 e1 => ?_⟩
      refine ⟨_, rfl, _, rfl, a, y, ks, .t t, rfl, k1 _ _ (s' _ _ (s3 _ _ ha)), ht, ft, (dt.same s').same k1, fun w2 G2 k2 e2 => ?_⟩
      exact ⟨_, _, Dq.dp _ _ (e1.same k2), Dq.dp _ _ e2, sht, sht, _, rfl, if_bf (by show (!PyData.eqv (ansD ks (tN t)) (ansD ks (tN t))) = false; rw [sh_eqv sht] <;> rfl) (k G2 (s'.trans (k1.trans k2)) hl' (k2 _ _ (k1 _ _ hl')))⟩
    refine ⟨l, rfl, ⟨_, SqT.of upd_same⟩, for_tup (K := K) (a := l) (xs := [y1, y2]) (fun i σ H' => Same H3 H' ∧ H' l = some (.tup [y1, y2]) ∧ ∃ o, σ = [some (.ref p), some (.ref a), some (.ref b), some v2, o])
      ⟨s4, upd_same, none, rfl⟩ (fun i σ H' _ ⟨_, k, _⟩ => SqT.of k) ?_ ?_⟩
    · rintro i x σ H' hi ⟨s', hl', o, rfl⟩
      match i, hi with
      | 0, hi =>
        have e : y1 = x := Option.some.inj hi
        subst e
        exact turn t y1 H' _ (by omega) f1 h1 s' (fun H2 z _ k => ⟨z, k, _, rfl⟩) hl'
      | 1, hi =>
        have e : y2 = x := Option.some.inj hi
        subst e
        exact turn u y2 H' _ (by omega) f2 h2 s' (fun H2 z _ k => ⟨z, k, _, rfl⟩) hl'
      | j + 2, hi => simp at hi
    · rintro σ H' ⟨s', _, o, rfl⟩
      exact fin H' o s'
  | ring r =>
    cases r with
    | true => exact if_bf (nw "ring" (by decide +kernel)) (fin H3 none (Same.refl _))
    | false => exact if_bf (nw "round" (by decide +kernel)) (fin H3 none (Same.refl _))
  | bin r c d =>
    cases r with
    | true => exact if_bf (nw "and" (by decide +kernel)) (fin H3 none (Same.refl _))
    | false => exact if_bf (nw "or" (by decide +kernel)) (fin H3 none (Same.refl _))
  | qua r x k c =>
    cases r with
    | true => exact if_bf (nw "each" (by decide +kernel)) (fin H3 none (Same.refl _))
    | false => exact if_bf (nw "some" (by decide +kernel)) (fin H3 none (Same.refl _))
  | way x y => exact if_bf (nw "way" (by decide +kernel)) (fin H3 none (Same.refl _))
  | cost x y k => exact if_bf (nw "cost" (by decide +kernel)) (fin H3 none (Same.refl _))
  | must x y z => exact if_bf (nw "must" (by decide +kernel)) (fin H3 none (Same.refl _))
  | neg c => exact if_bf (nw "not" (by decide +kernel)) (fin H3 none (Same.refl _))
end
end K71
/-! The net: is_name, look_at_name, Net.__init__, place, tie_named, tie. -/
namespace K71
open PySem L2
def AZ : Str := "abcdefghijklmnopqrstuvwxyz"
/-- one to twelve small letters -/
def Good (x : Str) : Prop := x ≠ "" ∧ x.length ≤ 12 ∧ ∀ (i : Nat) (c : Nat), x.cps[i]? = some c → 97 ≤ c ∧ c ≤ 122
theorem az_fin : ∀ k : Fin 26, (Builtin.Str.occurrences AZ ⟨#[97 + k.val]⟩ 0 AZ.length 1).isEmpty = false := by decide +kernel
theorem az_in {c : Nat} (h1 : 97 ≤ c) (h2 : c ≤ 122) : (Builtin.Str.occurrences AZ ⟨#[c]⟩ 0 AZ.length 1).isEmpty = false := by
  have := az_fin ⟨c - 97, by omega⟩
  rw [show 97 + (⟨c - 97, by omega⟩ : Fin 26).val = c by show 97 + (c - 97) = c; omega] at this
  exact this
abbrev sIN : Stmt := top 18
abbrev sLN : Stmt := top 19
def spIN : Sp := fun vs H Q _ => ∃ x : Str, vs = [.str x] ∧ Good x ∧ Q (.bl true) H
def spLN : Sp := fun vs H Q _ => ∃ x : Str, vs = [.str x] ∧ Good x ∧ Q .non H
section
variable {P : Program} {w : World} {K : PySem.W.Frag} {mg : Str → Option Value} {base : Heap}
theorem scIN : FnScope ["text", "sign"] ["text"] (defScope sIN) := ⟨rfl, rfl, rfl, by decide +kernel, rfl, by decide +kernel, by decide +kernel⟩
theorem ok_IN (D : Def K mg "is_name" sIN ["text"]) (T : Txt K mg) : Cal P w K mg base CX0 "is_name" 1 ["text"] spIN := by
  obtain ⟨tl, ml⟩ := T.letters
  obtain ⟨tn, mn⟩ := T.longest
  refine D.ok scIN (fun vs H Q E h => ?_) (fun f cdv A outer s H vs Q E hr h => ?_)
  · obtain ⟨x, rfl, _⟩ := h
    rfl
  obtain ⟨x, rfl, ⟨g1, g2, g3⟩, q⟩ := h
  refine ⟨_, pss_cons (ps_if (PW.pt (pw_or (pt_cmpR op_eq (pv 0) pe_str (nomark _)) (pw_or1 (pt_cmpR op_gt (pe_callB call_len_str (by rfl) T.len PySem.boot_len (pa_cons (pv 0) pa_nil)) (pe_glob (v := .int 12) (by rfl) mn ⟨_, rfl⟩) (nomark _))))) (pss_one (ps_ret pe_bl)) pss_nil)
    (pss_cons (ps_for PassesOwn.never rfl (pi_str (pv 0)) (pg_name (i := 1) scIN.nd rfl (Or.inl rfl)) (pss_one (ps_if (pt_cmpR op_notin_str (pv 1) (pe_glob (v := .str AZ) (by rfl) ml ⟨_, rfl⟩) rfl) (pss_one (ps_ret pe_bl)) pss_nil)))
    (pss_one (ps_ret pe_bl))), ?_⟩
  refine ⟨_, rfl, rfl, _, rfl, if_bf (by simp [g1]) ?_⟩
  refine ⟨_, rfl, x, rfl, Nat.le_trans g2 (by decide), _, _, rfl, rfl, _, rfl, if_bf (by simp; omega) ?_⟩
  refine ⟨_, rfl, x, rfl, for_it walk_str (fun i σ H' => H' = H ∧ ∃ v, σ = [some (.str x), v]) ⟨rfl, none, rfl⟩ (fun _ _ _ _ _ => trivial) ?_ ?_⟩
  · rintro i y σ H1 H2 hi ⟨rfl, v, rfl⟩ ⟨rfl, c, hc, rfl⟩
    obtain ⟨c1, c2⟩ := g3 i c hc
    refine ⟨_, rfl, _, _, rfl, rfl, _, rfl, if_bf (by rw [az_in c1 c2] <;> rfl) ⟨rfl, _, rfl⟩⟩
  · rintro σ H1 ⟨rfl, v, rfl⟩
    exact q
theorem scLN : FnScope ["text"] ["text"] (defScope sLN) := ⟨rfl, rfl, rfl, by decide +kernel, rfl, by decide +kernel, by decide +kernel⟩
theorem ok_LN (D : Def K mg "look_at_name" sLN ["text"]) (cI : Cal P w K mg base CX0 "is_name" 1 ["text"] spIN) : Cal P w K mg base CX0 "look_at_name" 2 ["text"] spLN := by
  obtain ⟨fI, fdI, mI, FI, kI, bI⟩ := cI
  refine D.ok scLN (fun vs H Q E h => ?_) (fun f cdv A outer s H vs Q E hr h => ?_)
  · obtain ⟨x, rfl, _⟩ := h
    rfl
  obtain ⟨x, rfl, hg, q⟩ := h
  refine ⟨_, pss_one (ps_if (pt_not (pt_val (pe_call FI hr rfl mI kI bI .nil pass0 (pa_cons (pv 0) pa_nil)))) pss_never pss_nil), ?_⟩
  exact ⟨_, rfl, x, rfl, hg, _, rfl, q⟩
end

/-! ### the net as it grows -/
def NetAt (C : Addr) (H0 H : Hp) (p : Addr) (ks : List Str) (ts : List Tie) : Prop :=
  Same H0 H ∧ H0 p = none ∧ ∃ (dx lk lt : Addr) (vs : List V), H0 lk = none ∧ H0 lt = none ∧ lk ≠ lt ∧ H p = some (.ins C dx (nf lk lt)) ∧ H lk = some (.lst (ks.map V.str)) ∧ H lt = some (.lst vs) ∧ DqA H (fun _ => False) vs (ts.map tieD)
theorem NetAt.net {C : Addr} {H0 H : Hp} {p : Addr} {ks : List Str} {ts : List Tie} (h : NetAt C H0 H p ks ts) : NetIn C H p ks ts := by
  obtain ⟨_, _, dx, lk, lt, vs, _, _, _, h1, h2, h3, h4⟩ := h
  exact ⟨dx, lk, lt, vs, h1, h2, h3, h4⟩
theorem NetAt.same {C : Addr} {H0 H H' : Hp} {p : Addr} {ks : List Str} {ts : List Tie} (g : Same H H') (h : NetAt C H0 H p ks ts) : NetAt C H0 H' p ks ts := by
  obtain ⟨s, p0, dx, lk, lt, vs, n1, n2, n3, h1, h2, h3, h4⟩ := h
  exact ⟨s.trans g, p0, dx, lk, lt, vs, n1, n2, n3, g _ _ h1, g _ _ h2, g _ _ h3, h4.same g⟩
abbrev sNew : Stmt := inClass (top 20) 0
abbrev sPlc : Stmt := inClass (top 20) 1
abbrev sTie : Stmt := inClass (top 20) 2
abbrev sTN : Stmt := inClass (top 20) 3
def spNew (C : Addr) : Sp := fun vs H Q _ => ∃ (H0 : Hp) (p dx : Addr), vs = [.ref p] ∧ Same H0 H ∧ H0 p = none ∧ H p = some (.ins C dx []) ∧ ∀ H' : Hp, NetAt C H0 H' p [] [] → Q .non H'
def spPlc (C : Addr) : Sp := fun vs H Q _ => ∃ (H0 : Hp) (p : Addr) (x : Str) (ks : List Str) (ts : List Tie), vs = [.ref p, .str x] ∧ NetAt C H0 H p ks ts ∧ Good x ∧ x ∉ ks ∧ ks.length < 20 ∧ ∀ H' : Hp, NetAt C H0 H' p (ks ++ [x]) ts → Q .non H'
def spTN (C : Addr) : Sp := fun vs H Q _ => ∃ (p : Addr) (x : Str) (ks : List Str) (ts : List Tie), vs = [.ref p, .str x] ∧ NetIn C H p ks ts ∧ (∀ t ∈ ts, t.name ≠ x) ∧ Q .non H
def spTie (C : Addr) : Sp := fun vs H Q _ => ∃ (H0 : Hp) (p : Addr) (t : Tie) (ks : List Str) (ts : List Tie), vs = [.ref p, .str t.name, .str t.a, .str t.b, .int t.width, .int t.cost] ∧ NetAt C H0 H p ks ts ∧ Good t.name ∧ Good t.a ∧ Good t.b ∧
  (∀ u ∈ ts, u.name ≠ t.name) ∧ t.a ≠ t.b ∧ 1 ≤ t.width ∧ t.a ∈ ks ∧ t.b ∈ ks ∧ ks.length ≤ 20 ∧ ts.length < 40 ∧ ∀ H' : Hp, NetAt C H0 H' p ks (ts ++ [t]) → Q .non H'
def MkC (P : Program) (w : World) (K : PySem.W.Frag) (mg : Str → Option Value) (base : Heap) (C : Addr) : Prop := ∃ f fd, Mk K C f ∧ FnOk P w K mg base CX0 1 f fd ["self"] (spNew C) ∧ Binds K fd ["self"] []
def MkD (K : PySem.W.Frag) (C : Addr) : Prop := ∃ f fd, Mk K C f ∧ Fun K "__init__" "Net.__init__" sNew f fd ∧ Binds K fd ["self"] []
section
variable {P : Program} {w : World} {K : PySem.W.Frag} {mg : Str → Option Value} {base : Heap} {C : Addr}
theorem scNew : FnScope ["self"] ["self"] (defScope sNew) := ⟨rfl, rfl, rfl, by decide +kernel, rfl, by decide +kernel, by decide +kernel⟩
theorem ok_New (D : MkD K C) (N : NetT K mg C) : MkC P w K mg base C := by
  obtain ⟨f, fd, M, F, b⟩ := D
  refine ⟨f, fd, M, F.ok scNew (fun vs H Q E h => ?_) (fun cdv A outer s H vs Q E hr h => ?_), b⟩
  · obtain ⟨H0, p, dx, rfl, _⟩ := h
    rfl
  obtain ⟨H0, p, dx, rfl, s0, p0, hp, q⟩ := h
  refine ⟨_, pss_cons (ps_fld (pv 0) (pe_lst pa_nil) rfl) (pss_one (ps_fld (pv 0) (pe_lst pa_nil) rfl)), ?_⟩
  refine ⟨Nat.zero_le _, fun lk hk => ?_⟩
  have npk : p ≠ lk := ne_of_none hp hk
  refine ⟨_, rfl, p, C, dx, [], rfl, (by rw [upd_ne npk]; exact hp), N.cl, N.nK, (by show 0 < 1000; decide), ?_⟩
  refine ⟨Nat.zero_le _, fun lt ht => ?_⟩
  have npt : p ≠ lt := fun e => by rw [e, upd_same] at ht; cases ht
  have nkt : lk ≠ lt := fun e => by
    rw [e, upd_ne (fun z => npt z.symm), upd_same] at ht
    cases ht
  have ht0 : H lt = none := by rwa [upd_ne npt.symm, upd_ne (Ne.symm nkt)] at ht
  refine ⟨_, rfl, p, C, dx, _, rfl, (by rw [upd_ne npt, upd_same]), N.cl, N.nL, (by show 1 < 1000; decide), ?_⟩
  refine q _ ⟨fun b o e => ?_, p0, dx, lk, lt, [], s0.free hk, s0.free ht0, nkt, upd_same, ?_, ?_, .nil⟩
  · have nbp : b ≠ p := fun z => by rw [z, p0] at e; cases e
    rw [upd_ne nbp, upd_ne (ne_of_none (s0 _ _ e) ht0), upd_ne nbp, upd_ne (ne_of_none (s0 _ _ e) hk)]
    exact s0 _ _ e
  · rw [upd_ne npk.symm, upd_ne nkt, upd_ne npk.symm, upd_same] <;> rfl
  · rw [upd_ne npt.symm, upd_same]
theorem scPlc : FnScope ["self", "name"] ["self", "name"] (defScope sPlc) := ⟨rfl, rfl, rfl, by decide +kernel, rfl, by decide +kernel, by decide +kernel⟩
theorem ok_Plc (D : MDef K C "place" "Net.place" sPlc ["self", "name"]) (T : Txt K mg) (N : NetT K mg C) (cL : Cal P w K mg base CX0 "look_at_name" 2 ["text"] spLN) : MCal P w K mg base CX0 C "place" 3 ["self", "name"] (spPlc C) := by
  obtain ⟨fL, fdL, mL, FL, kL, bL⟩ := cL
  obtain ⟨tn, mn⟩ := T.places
  refine D.ok scPlc (fun vs H Q E h => ?_) (fun f cdv A outer s H vs Q E hr h => ?_)
  · obtain ⟨H0, p, x, ks, ts, rfl, _⟩ := h
    rfl
  obtain ⟨H0, p, x, ks, ts, rfl, ⟨s0, p0, dx, lk, lt, vs, n1, n2, n3, h1, h2, h3, h4⟩, hg, hx, h20, q⟩ := h
  refine ⟨_, pss_cons (ps_expr (pe_call FL hr rfl mL kL bL .nil pass0 (pa_cons (pv 1) pa_nil)))
    (pss_cons (ps_if (pt_cmpR op_in_seq (pv 1) (pe_fld (pv 0) rfl) rfl) pss_never pss_nil)
    (pss_cons (ps_if (pt_cmpR op_ge (pe_callB call_len_seq (by rfl) T.len PySem.boot_len (pa_cons (pe_fld (pv 0) rfl) pa_nil)) (pe_glob (v := .int 20) (by rfl) mn ⟨_, rfl⟩) (nomark _)) pss_never pss_nil)
    (pss_one (ps_expr (pe_bm PySem.F.plainAttrs_list PySem.F.slot_list_append PySem.F.type_list_append mt_append (pe_fld (pv 0) rfl) (pa_cons (pv 1) pa_nil)))))), ?_⟩
  refine ⟨_, rfl, x, rfl, hg, ?_⟩
  refine ⟨_, rfl, _, rfl, p, C, dx, _, _, rfl, h1, N.cl, N.nK, nf_known _ _, lk, _, rfl, .inl (SqL.of h2), rfl, flat_strs ks, _, rfl, if_bf (by rw [if_neg Bool.false_ne_true, inV_strs]; simp [hx]) ?_⟩
  refine ⟨_, rfl, p, C, dx, _, _, rfl, h1, N.cl, N.nK, nf_known _ _, lk, _, rfl, .inl (SqL.of h2), _, _, rfl, rfl, _, rfl, if_bf (by rw [len_map_str]; simp; omega) ?_⟩
  refine ⟨_, rfl, p, C, dx, _, _, rfl, h1, N.cl, N.nK, nf_known _ _, .inl ⟨rfl, _, SqL.of h2⟩, _, rfl, lk, _, _, rfl, rfl, h2, by rw [len_map_str]; exact big_ok (by omega), ?_⟩
  have nkp : lk ≠ p := ne_of h2 h1 (by intro z; cases z)
  refine q _ ⟨fun b o e => ?_, p0, dx, lk, lt, vs, n1, n2, n3, by rw [upd_ne nkp.symm]; exact h1, by rw [upd_same, List.map_append] <;> rfl, by rw [upd_ne (Ne.symm n3)]; exact h3, ?_⟩
  · have nbl : b ≠ lk := fun z => by rw [z, n1] at e; cases e
    rw [upd_ne nbl]
    exact s0 _ _ e
  · exact DqA.mono (fun a xs z => by rw [upd_ne (fun e => by rw [e, h2] at z; cases z)]; exact z) (fun a xs z => z.elim) _ _ h4
theorem scTN : FnScope ["self", "name", "one"] ["self", "name"] (defScope sTN) := ⟨rfl, rfl, rfl, by decide +kernel, rfl, by decide +kernel, by decide +kernel⟩
theorem tie_at {H : Hp} {R : Addr → Prop} {v : V} {t : Tie} (h : Dq H R v (tieD t)) : ∃ a, v = .ref a ∧ H a = some (.tup [.str t.name, .str t.a, .str t.b, .int t.width, .int t.cost]) := by
  obtain ⟨a, xs, rfl, ha, hx⟩ := h.tup_inv
  obtain ⟨v0, xs0, e0, h0, hx0⟩ := hx.cons_inv
  obtain ⟨v1, xs1, e1, h1, hx1⟩ := hx0.cons_inv
  obtain ⟨v2, xs2, e2, h2, hx2⟩ := hx1.cons_inv
  obtain ⟨v3, xs3, e3, h3, hx3⟩ := hx2.cons_inv
  obtain ⟨v4, xs4, e4, h4, hx4⟩ := hx3.cons_inv
  have e5 := hx4.nil_inv
  subst e5 e4 e3 e2 e1 e0
  obtain rfl := h0.str_inv
  obtain rfl := h1.str_inv
  obtain rfl := h2.str_inv
  obtain rfl := h3.int_inv
  obtain rfl := h4.int_inv
  exact ⟨a, rfl, ha⟩
theorem ties_at {H : Hp} {R : Addr → Prop} {vs : List V} {ts : List Tie} {i : Nat} {x : V} (h : DqA H R vs (ts.map tieD)) (e : vs[i]? = some x) : ∃ a t, ts[i]? = some t ∧ x = .ref a ∧ H a = some (.tup [.str t.name, .str t.a, .str t.b, .int t.width, .int t.cost]) := by
  obtain ⟨d, hd, hv⟩ := h.at e
  rw [List.getElem?_map] at hd
  cases q : ts[i]? with
  | none => rw [q] at hd; cases hd
  | some t =>
    rw [q] at hd
    have e2 : tieD t = d := Option.some.inj hd
    subst e2
    obtain ⟨a, e3, ha⟩ := tie_at hv
    exact ⟨a, t, rfl, e3, ha⟩
theorem ok_TN (D : MDef K C "tie_named" "Net.tie_named" sTN ["self", "name"]) (N : NetT K mg C) : MCal P w K mg base CX0 C "tie_named" 1 ["self", "name"] (spTN C) := by
  refine D.ok scTN (fun vs H Q E h => ?_) (fun f cdv A outer s H vs Q E hr h => ?_)
  · obtain ⟨p, x, ks, ts, rfl, _⟩ := h
    rfl
  obtain ⟨p, x, ks, ts, rfl, ⟨dx, lk, lt, vs, h1, h2, h3, h4⟩, hx, q⟩ := h
  refine ⟨_, pss_cons (ps_for PassesOwn.never rfl (pi_list (pe_fld (pv 0) rfl)) (pg_name (i := 2) scTN.nd rfl (Or.inl rfl)) (pss_one (ps_if (pt_cmpR op_eq (pe_ix ix_tup (pv 2) pe_int (fun _ _ => rfl)) (pv 1) (nomark _)) (pss_one (ps_ret (pv 2))) pss_nil)))
    (pss_one (ps_ret pe_non)), ?_⟩
  refine ⟨_, rfl, p, C, dx, _, _, rfl, h1, N.cl, N.nL, nf_laid _ _, lt, rfl, ⟨_, SqL.of h3⟩, for_list (K := K) (a := lt) (xs := vs) (fun i σ H' => H' = H ∧ ∃ v, σ = [some (.ref p), some (.str x), v]) ⟨rfl, none, rfl⟩ (fun i σ H' _ ⟨e, _⟩ => e ▸ SqL.of h3) ?_ ?_⟩
  · rintro i y σ H1 hi ⟨rfl, v, rfl⟩
    obtain ⟨a, t, ht, rfl, ha⟩ := ties_at h4 hi
    have hm : t ∈ ts := List.mem_of_getElem? ht
    refine ⟨_, rfl, a, _, _, _, rfl, rfl, SqT.of ha, rfl, _, rfl, rfl, _, rfl, if_bf (by simp [hx t hm]) ⟨rfl, _, rfl⟩⟩
  · rintro σ H1 ⟨rfl, v, rfl⟩
    exact q
end
end K71
/-! Net.tie. -/
namespace K71
open PySem L2
section
variable {P : Program} {w : World} {K : PySem.W.Frag} {mg : Str → Option Value} {base : Heap} {C : Addr}
theorem scTie : FnScope ["self", "name", "a", "b", "width", "cost", "text", "fresh", "one"] ["self", "name", "a", "b", "width", "cost"] (defScope sTie) := ⟨rfl, rfl, rfl, by decide +kernel, rfl, by decide +kernel, by decide +kernel⟩
theorem ok_Tie (D : MDef K C "tie" "Net.tie" sTie ["self", "name", "a", "b", "width", "cost"]) (T : Txt K mg) (N : NetT K mg C) (cL : Cal P w K mg base CX0 "look_at_name" 2 ["text"] spLN)
    (cT : MCal P w K mg base CX0 C "tie_named" 1 ["self", "name"] (spTN C)) : MCal P w K mg base CX0 C "tie" 3 ["self", "name", "a", "b", "width", "cost"] (spTie C) := by
  obtain ⟨fL, fdL, mL, FL, kL, bL⟩ := cL
  obtain ⟨fT, fdT, mT, FT, bT⟩ := cT
  obtain ⟨tn, mn⟩ := T.places
  obtain ⟨tm, mm⟩ := T.ties
  refine D.ok scTie (fun vs H Q E h => ?_) (fun f cdv A outer s H vs Q E hr h => ?_)
  · obtain ⟨H0, p, t, ks, ts, rfl, _⟩ := h
    rfl
  obtain ⟨H0, p, t, ks, ts, rfl, hA, g1, g2, g3, hnm, hab, hw, ha, hb, h20, h40, q⟩ := h
  have hr1 : Room 1 _ := hr.mono (by omega)
  refine ⟨_, pss_cons (ps_for PassesOwn.never rfl (pi_list (pe_lst (pa_cons (pv 1) (pa_cons (pv 2) (pa_cons (pv 3) pa_nil))))) (pg_name (i := 6) scTie.nd rfl (Or.inl rfl)) (pss_one (ps_expr (pe_call FL hr rfl mL kL bL .nil pass0 (pa_cons (pv 6) pa_nil)))))
    (pss_cons (ps_if (pt_cmpR op_notN (pe_meth (pv 0) N.cl mT FT hr1 bT .nil pass0 (pa_cons (pv 1) pa_nil)) pe_non (nomark _)) pss_never pss_nil)
    (pss_cons (ps_if (pt_cmpR op_eq (pv 2) (pv 3) (nomark _)) pss_never pss_nil)
    (pss_cons (ps_if (pt_cmpR op_lt (pv 4) pe_int (nomark _)) pss_never pss_nil)
    (pss_cons (ps_setLc (i := 7) (own := [("one", 8)]) (g := gName 8) (tt := tTest (tOp (rIn K true) (tVar 8) (tFld K (tVar 0) "known"))) (te := tVar 8) rfl scTie.nd rfl rfl (sw_true rfl rfl rfl rfl)
      (pi_list (pe_lst (pa_cons (pv 2) (pa_cons (pv 3) pa_nil)))) (blkOk_by (N := ["self", "name", "a", "b", "width", "cost", "text", "fresh", "one"]) (sc := defScope sTie) (by decide +kernel))
        (fun _ _ _ _ _ => pg_name (i := 8) scTie.nd rfl (Or.inl rfl)) (fun _ _ _ _ _ => pts_one (pt_cmpR op_notIn_seq (pv 8) (pe_fld (pv 0) rfl) rfl)) (fun _ _ _ _ _ => pv 8))
    (pss_cons (ps_if (PW.pt (pw_or (pt_cmpR op_ge (pe_callB call_len_seq (by rfl) T.len PySem.boot_len (pa_cons (pe_fld (pv 0) rfl) pa_nil)) (pe_glob (v := .int 40) (by rfl) mm ⟨_, rfl⟩) (nomark _))
        (pw_or1 (pt_cmpR op_gt (pe_op op_add (pe_callB call_len_seq (by rfl) T.len PySem.boot_len (pa_cons (pe_fld (pv 0) rfl) pa_nil)) (pe_callB call_len_seq (by rfl) T.len PySem.boot_len (pa_cons (pv 7) pa_nil))) (pe_glob (v := .int 20) (by rfl) mn ⟨_, rfl⟩) (nomark _))))) pss_never pss_nil)
    (pss_cons (ps_expr (pe_bm PySem.F.plainAttrs_list PySem.F.slot_list_extend PySem.F.type_list_extend mt_extend (pe_fld (pv 0) rfl) (pa_cons (pv 7) pa_nil)))
    (pss_one (ps_expr (pe_bm PySem.F.plainAttrs_list PySem.F.slot_list_append PySem.F.type_list_append mt_append (pe_fld (pv 0) rfl) (pa_cons (pe_tup (pa_cons (pv 1) (pa_cons (pv 2) (pa_cons (pv 3) (pa_cons (pv 4) (pa_cons (pv 5) pa_nil)))))) pa_nil)))))))))), ?_⟩
  refine ⟨_, rfl, _, rfl, _, rfl, (by show 3 ≤ sizeLine; decide), fun l1 n1 => ?_⟩
  have s1 := same_new n1 (.lst [.str t.name, .str t.a, .str t.b])
  refine ⟨l1, rfl, ⟨_, SqL.of upd_same⟩, for_list (K := K) (a := l1) (xs := [.str t.name, .str t.a, .str t.b]) (fun i σ H' => H' = upd H l1 (.lst [.str t.name, .str t.a, .str t.b]) ∧ ∃ o, σ = [some (.ref p), some (.str t.name), some (.str t.a), some (.str t.b), some (.int t.width), some (.int t.cost), o, none, none])
    ⟨rfl, none, rfl⟩ (fun i σ H' _ ⟨e, _⟩ => by rw [e]; exact SqL.of upd_same) ?_ ?_⟩
  · rintro i y σ H1 hi ⟨rfl, o, rfl⟩
    match i, hi with
    | 0, hi =>
      have e : V.str t.name = y := Option.some.inj hi
      subst e
      exact ⟨_, rfl, _, rfl, g1, rfl, _, rfl⟩
    | 1, hi =>
      have e : V.str t.a = y := Option.some.inj hi
      subst e
      exact ⟨_, rfl, _, rfl, g2, rfl, _, rfl⟩
    | 2, hi =>
      have e : V.str t.b = y := Option.some.inj hi
      subst e
      exact ⟨_, rfl, _, rfl, g3, rfl, _, rfl⟩
    | j + 3, hi => simp at hi
  rintro σ H1 ⟨rfl, o, rfl⟩
  have hA1 := hA.same s1
  obtain ⟨s0, p0, dx, lk, lt, vs, m1, m2, m3, h1, h2, h3, h4⟩ := id hA1
  refine ⟨_, rfl, p, dx, _, rfl, h1, nf_no _ _ (by decide +kernel) (by decide +kernel), _, rfl, p, t.name, ks, ts, rfl, hA1.net, hnm, rfl, _, rfl, if_bf (by simp) ?_⟩
  refine ⟨_, rfl, _, rfl, rfl, _, rfl, if_bf (by simp [hab]) ?_⟩
  refine ⟨_, rfl, _, _, rfl, rfl, _, rfl, if_bf (by simp; omega) ?_⟩
  refine ⟨_, rfl, _, rfl, (by show 2 ≤ sizeLine; decide), fun l2 n2 => ?_⟩
  have s2 := same_new n2 (.lst [.str t.a, .str t.b])
  refine ⟨l2, rfl, ⟨_, SqL.of upd_same⟩, fun Dl hDl => lc_strs (fun y => !decide (y ∈ ks)) id (xs := [t.a, t.b]) upd_same hDl (by show 2 ≤ 5000000; decide) (fun _ => rfl) (fun y H' Q' _ s' q' => ?_) (fun y H' Q' _ s' _ q' => ?_) fun H' s' e' => ?_⟩
  · refine ⟨_, rfl, _, rfl, p, C, dx, _, _, rfl, s' _ _ (s2 _ _ h1), N.cl, N.nK, nf_known _ _, lk, _, rfl, .inl (SqL.of (s' _ _ (s2 _ _ h2))), rfl, flat_strs ks, _, rfl, ?_⟩
    rw [if_pos rfl, inV_strs]
    exact q'
  · exact ⟨_, rfl, q' H' (Same.refl _)⟩
  have e2 : pick (fun y => !decide (y ∈ ks)) id [t.a, t.b] = [] := by simp [pick, ha, hb]
  rw [e2] at e'
  have hA2 := (hA1.same s2).same s'
  clear hA hA1 s0 p0 h1 h2 h3 h4 m1 m2 m3
  obtain ⟨s0, p0, dx, lk, lt, vs, m1, m2, m3, h1, h2, h3, h4⟩ := hA2
  have lts : vs.length = ts.length := by rw [h4.len, List.length_map]
  refine ⟨_, rfl, p, C, dx, _, _, rfl, h1, N.cl, N.nL, nf_laid _ _, lt, _, rfl, .inl (SqL.of h3), _, _, rfl, rfl, _, rfl, if_bf (by rw [lts]; simp; omega) ?_⟩
  refine ⟨_, rfl, p, C, dx, _, _, rfl, h1, N.cl, N.nK, nf_known _ _, lk, _, rfl, .inl (SqL.of h2), _, rfl, Dl, _, rfl, .inl (SqL.of e'), _, _, rfl, rfl, _, _, rfl, rfl, _, rfl, if_bf (by rw [len_map_str]; simp; omega) ?_⟩
  refine ⟨_, rfl, p, C, dx, _, _, rfl, h1, N.cl, N.nK, nf_known _ _, .inl ⟨rfl, _, SqL.of h2⟩, _, rfl, lk, Dl, _, _, rfl, rfl, h2, e', ?_, ?_⟩
  · rw [len_map_str]
    show ks.length + 0 ≤ sizeLine
    exact Nat.le_trans (Nat.add_le_add_right h20 0) (by decide)
  have nkp : lk ≠ p := ne_of h2 h1 (by intro z; cases z)
  have ntp : lt ≠ p := ne_of h3 h1 (by intro z; cases z)
  have h1' : (upd H' lk (.lst (ks.map V.str ++ ([] : List Str).map V.str))) p = some (.ins C dx (nf lk lt)) := by rw [upd_ne nkp.symm]; exact h1
  have h3' : (upd H' lk (.lst (ks.map V.str ++ ([] : List Str).map V.str))) lt = some (.lst vs) := by rw [upd_ne (Ne.symm m3)]; exact h3
  refine ⟨_, rfl, p, C, dx, _, _, rfl, h1', N.cl, N.nL, nf_laid _ _, .inl ⟨rfl, _, SqL.of h3'⟩, _, rfl, _, rfl, _, rfl, _, rfl, _, rfl, (by show 5 ≤ sizeLine; decide), fun tp ntpl => ?_⟩
  have tpk : lk ≠ tp := fun e => by rw [← e, upd_same] at ntpl; cases ntpl
  have tpt : lt ≠ tp := ne_of_none h3' ntpl
  have tpp : p ≠ tp := ne_of_none h1' ntpl
  refine ⟨lt, vs, _, rfl, rfl, by rw [upd_ne tpt]; exact h3', by rw [lts]; exact big_ok (by omega), ?_⟩
  refine q _ ⟨fun b o e => ?_, p0, dx, lk, lt, vs ++ [.ref tp], m1, m2, m3, ?_, ?_, upd_same, ?_⟩
  · have nbk : b ≠ lk := fun z => by rw [z, m1] at e; cases e
    have nbt : b ≠ lt := fun z => by rw [z, m2] at e; cases e
    have hb' : (upd H' lk (.lst (ks.map V.str ++ ([] : List Str).map V.str))) b = some o := by rw [upd_ne nbk]; exact s0 _ _ e
    rw [upd_ne nbt, upd_ne (ne_of_none hb' ntpl)]
    exact hb'
  · rw [upd_ne ntp.symm, upd_ne tpp]
    exact h1'
  · rw [upd_ne m3, upd_ne tpk, upd_same]
    simp
  · rw [List.map_append]
    refine .append (DqA.mono (fun a xs z => ?_) (fun a xs z => z.elim) _ _ h4) (.one (.tup (by rw [upd_ne tpt.symm, upd_same]) (.cons (.str _) (.cons (.str _) (.cons (.str _) (.cons (.int _) (.cons (.int _) .nil)))))))
    have nak : a ≠ lk := fun e => by rw [e, h2] at z; cases z
    have nat : a ≠ lt := fun e => by rw [e, h3] at z; cases z
    have hz : (upd H' lk (.lst (ks.map V.str ++ ([] : List Str).map V.str))) a = some (.tup xs) := by rw [upd_ne nak]; exact z
    rw [upd_ne nat, upd_ne (ne_of_none hz ntpl)]
    exact hz
end
end K71
/-! _law_net. -/
namespace K71
open PySem L2
theorem nd_take {α : Type} {l : List α} (hN : l.Nodup) {i : Nat} {x : α} (h : l[i]? = some x) : x ∉ l.take i := fun hm => by
  have e := take_more h
  have n : (l.take (i + 1)).Nodup := hN.sublist (List.take_sublist _ _)
  rw [e, List.nodup_append] at n
  exact n.2.2 x hm x (List.mem_singleton.mpr rfl) rfl
def TieOk (ks : List Str) (t : Tie) : Prop := Good t.name ∧ Good t.a ∧ Good t.b ∧ t.a ≠ t.b ∧ 1 ≤ t.width ∧ t.a ∈ ks ∧ t.b ∈ ks
structure NetOk (ks : List Str) (ts : List Tie) : Prop where
  good : ∀ k ∈ ks, Good k
  nd : ks.Nodup
  l20 : ks.length ≤ 20
  tok : ∀ t ∈ ts, TieOk ks t
  tnd : (ts.map Tie.name).Nodup
  l40 : ts.length ≤ 40
abbrev sNet : Stmt := top 39
def spNet (C : Addr) : Sp := fun vs H Q _ => ∃ (a b : Addr) (ks : List Str) (ts : List Tie) (us : List V), vs = [.ref a, .ref b] ∧ H a = some (.lst (ks.map V.str)) ∧ H b = some (.lst us) ∧ DqA H (fun _ => False) us (ts.map tieD) ∧ NetOk ks ts ∧
  ∀ (p : Addr) (H' : Hp), NetAt C H H' p ks ts → Q (.ref p) H'
section
variable {P : Program} {w : World} {K : PySem.W.Frag} {mg : Str → Option Value} {base : Heap} {C : Addr}
theorem scNet : FnScope ["_law_places", "_law_ties", "_law_net_here", "_law_name_here", "_law_a", "_law_b", "_law_width", "_law_cost"] ["_law_places", "_law_ties"] (defScope sNet) := ⟨rfl, rfl, rfl, by decide +kernel, rfl, by decide +kernel, by decide +kernel⟩
theorem ok_Net (D : Def K mg "_law_net" sNet ["_law_places", "_law_ties"]) (N : NetT K mg C) (cM : MkC P w K mg base C) (cP : MCal P w K mg base CX0 C "place" 3 ["self", "name"] (spPlc C)) (cT : MCal P w K mg base CX0 C "tie" 3 ["self", "name", "a", "b", "width", "cost"] (spTie C)) :
    Cal P w K mg base CX0 "_law_net" 4 ["_law_places", "_law_ties"] (spNet C) := by
  obtain ⟨fM, fdM, M, FM, bM⟩ := cM
  obtain ⟨fP, fdP, mP, FP, bP⟩ := cP
  obtain ⟨fT, fdT, mT, FT, bT⟩ := cT
  refine D.ok scNet (fun vs H Q E h => ?_) (fun f cdv A outer s H vs Q E hr h => ?_)
  · obtain ⟨a, b, ks, ts, us, rfl, _⟩ := h
    rfl
  obtain ⟨a, b, ks, ts, us, rfl, ha, hb, hu, ok, q⟩ := h
  have hr2 : Room 2 _ := hr.mono (by omega)
  refine ⟨_, pss_cons (ps_set (i := 2) scNet.nd rfl (Or.inl rfl) (pe_make0 M FM hr2 rfl N.mgC bM .nil pass0))
    (pss_cons (ps_for PassesOwn.never rfl (pi_list (pv 0)) (pg_name (i := 3) scNet.nd rfl (Or.inl rfl)) (pss_one (ps_expr (pe_meth (pv 2) N.cl mP FP hr bP .nil pass0 (pa_cons (pv 3) pa_nil)))))
    (pss_cons (ps_for PassesOwn.never rfl (pi_list (pv 1)) (pg_tup rfl (pgs_cons (pg_name (i := 3) scNet.nd rfl (Or.inl rfl)) (pgs_cons (pg_name (i := 4) scNet.nd rfl (Or.inl rfl)) (pgs_cons (pg_name (i := 5) scNet.nd rfl (Or.inl rfl)) (pgs_cons (pg_name (i := 6) scNet.nd rfl (Or.inl rfl)) (pgs_cons (pg_name (i := 7) scNet.nd rfl (Or.inl rfl)) pgs_nil))))))
      (pss_one (ps_expr (pe_meth (pv 2) N.cl mT FT hr bT .nil pass0 (pa_cons (pv 3) (pa_cons (pv 4) (pa_cons (pv 5) (pa_cons (pv 6) (pa_cons (pv 7) pa_nil)))))))))
    (pss_one (ps_ret (pv 2))))), ?_⟩
  refine fun p dx np nd ne => ⟨H, p, dx, rfl, fun b o e => ?_, np, upd_same, fun H1 hA => ⟨rfl, ?_⟩⟩
  · rw [upd_ne (ne_of_none e np), upd_ne (ne_of_none e nd)]
    exact e
  refine ⟨_, rfl, a, rfl, ⟨_, SqL.of (hA.1 _ _ ha)⟩, for_list (K := K) (a := a) (xs := ks.map V.str) (fun i σ H' => NetAt C H H' p (ks.take i) [] ∧ ∃ o, σ = [some (.ref a), some (.ref b), some (.ref p), o, none, none, none, none])
    ⟨hA, none, rfl⟩ (fun i σ H' _ z => SqL.of (z.1.1 _ _ ha)) ?_ ?_⟩
  · rintro i y σ H' hi ⟨hn, o, rfl⟩
    obtain ⟨y, hy, rfl⟩ := map_at hi
    have hm : y ∈ ks := List.mem_of_getElem? hy
    have hl := ok.l20
    have hil := (List.getElem?_eq_some_iff.mp hy).1
    obtain ⟨dx', lk, lt, vs', m1, m2, m3, h1, _⟩ := hn.2.2
    refine ⟨_, rfl, p, dx', _, rfl, h1, nf_no _ _ (by decide +kernel) (by decide +kernel), _, rfl, H, p, y, ks.take i, [], rfl, hn, ok.good y hm, nd_take ok.nd hy, by rw [List.length_take]; omega, fun H2 h2 => ?_⟩
    rw [← take_more hy] at h2
    exact ⟨h2, _, rfl⟩
  rintro σ H2 ⟨hn, o, rfl⟩
  rw [List.length_map, List.take_length] at hn
  refine ⟨_, rfl, b, rfl, ⟨_, SqL.of (hn.1 _ _ hb)⟩, for_list (K := K) (a := b) (xs := us) (fun i σ H' => NetAt C H H' p ks (ts.take i) ∧ ∃ o1 o2 o3 o4 o5, σ = [some (.ref a), some (.ref b), some (.ref p), o1, o2, o3, o4, o5])
    ⟨hn, _, _, _, _, _, rfl⟩ (fun i σ H' _ z => SqL.of (z.1.1 _ _ hb)) ?_ ?_⟩
  · rintro i y σ H' hi ⟨hn, o1, o2, o3, o4, o5, rfl⟩
    obtain ⟨c, t, ht, rfl, hc⟩ := ties_at hu hi
    have hm : t ∈ ts := List.mem_of_getElem? ht
    have hl := ok.l40
    have hil := (List.getElem?_eq_some_iff.mp ht).1
    obtain ⟨g1, g2, g3, g4, g5, g6, g7⟩ := ok.tok t hm
    obtain ⟨dx', lk, lt, vs', m1, m2, m3, h1, _⟩ := hn.2.2
    refine ⟨c, _, rfl, SqT.of (hn.1 _ _ hc), rfl, _, _, rfl, _, _, rfl, _, _, rfl, _, _, rfl, _, _, rfl, rfl, ?_⟩
    refine ⟨_, rfl, p, dx', _, rfl, h1, nf_no _ _ (by decide +kernel) (by decide +kernel), _, rfl, _, rfl, _, rfl, _, rfl, _, rfl, H, p, t, ks, ts.take i, rfl, hn, g1, g2, g3, fun u hu' e => ?_, g4, g5, g6, g7, ok.l20, by rw [List.length_take]; omega, fun H3 h3 => ?_⟩
    · have z := nd_take ok.tnd (i := i) (x := t.name) (by rw [List.getElem?_map, ht] <;> rfl)
      exact z (by rw [← List.map_take]; exact List.mem_map.mpr ⟨u, hu', e⟩)
    · rw [← take_more ht] at h3
      exact ⟨h3, _, _, _, _, _, rfl⟩
  · rintro σ H3 ⟨hn, o1, o2, o3, o4, o5, rfl⟩
    have e : us.length = ts.length := by rw [hu.len, List.length_map]
    rw [e, List.take_length] at hn
    exact ⟨_, rfl, q p H3 hn⟩
end
end K71
/-! _law_cell_at, _law_name. -/
namespace K71
open PySem L2
theorem sqL_same {K : PySem.W.Frag} {H H' : Hp} {a : Addr} {xs : List V} (s : Same H H') (h : SqL K H a xs) : SqL K H' a xs := by
  rcases h with (h | ⟨o, h⟩) | h
  · exact .inl (.inl (s _ _ h))
  · exact .inl (.inr ⟨o, s _ _ h⟩)
  · exact .inr h
/-! ### the name's signs -/
def signs (c : Int) : List Nat := (List.range (1 + (c % 5).toNat)).map fun (j : Nat) => 97 + ((c / 5 + (j : Int) * (j : Int)) % 26).toNat
def nmAt (c : Int) : Nat := ((c / 130) % ((1 + (c % 5).toNat : Nat) : Int)).toNat
def nmL (c k : Int) : List Nat := (signs c).take (nmAt c) ++ [97 + ((c / 650 + k) % 26).toNat] ++ (signs c).drop (nmAt c + 1)
def lname (c k : Int) : Str := ⟨(nmL c k).toArray⟩
theorem signs_len (c : Int) : (signs c).length = 1 + (c % 5).toNat := by unfold signs; rw [List.length_map, List.length_range]
theorem signs_le (c : Int) : (signs c).length ≤ 5 := by
  rw [signs_len]
  have := Int.emod_lt_of_pos c (show (0 : Int) < 5 by decide)
  have := Int.emod_nonneg c (show (5 : Int) ≠ 0 by decide)
  omega
theorem nmAt_lt (c : Int) : nmAt c < (signs c).length := by
  rw [signs_len]
  unfold nmAt
  have h : (0 : Int) < ((1 + (c % 5).toNat : Nat) : Int) := by omega
  have := Int.emod_lt_of_pos (c / 130) h
  have := Int.emod_nonneg (c / 130) (show ((1 + (c % 5).toNat : Nat) : Int) ≠ 0 by omega)
  omega
theorem nmL_len (c k : Int) : (nmL c k).length = (signs c).length := by
  have := nmAt_lt c
  unfold nmL
  rw [List.length_append, List.length_append, List.length_take, List.length_drop, List.length_singleton]
  omega
theorem nmL_mem {c k : Int} {x : Nat} (h : x ∈ nmL c k) : 97 ≤ x ∧ x ≤ 122 := by
  have hs : ∀ y ∈ signs c, 97 ≤ y ∧ y ≤ 122 := fun y hy => by
    obtain ⟨j, _, rfl⟩ := List.mem_map.mp hy
    have := Int.emod_lt_of_pos (c / 5 + (j : Int) * (j : Int)) (show (0 : Int) < 26 by decide)
    omega
  unfold nmL at h
  rcases List.mem_append.mp h with h | h
  · rcases List.mem_append.mp h with h | h
    · exact hs x (List.mem_of_mem_take h)
    · rw [List.mem_singleton.mp h]
      have := Int.emod_lt_of_pos (c / 650 + k) (show (0 : Int) < 26 by decide)
      omega
  · exact hs x (List.mem_of_mem_drop h)
theorem lname_len (c k : Int) : (lname c k).length = (signs c).length := by
  show (nmL c k).toArray.size = _
  rw [List.size_toArray, nmL_len]
theorem lname_good (c k : Int) : Good (lname c k) := by
  have h := lname_len c k
  have h1 := signs_len c
  have h5 := signs_le c
  refine ⟨fun e => ?_, by omega, fun i x hx => ?_⟩
  · rw [e] at h
    have : ("" : Str).length = 0 := by decide +kernel
    omega
  · have hx' : (nmL c k)[i]? = some x := by simpa [lname] using hx
    exact nmL_mem (List.mem_of_getElem? hx')
theorem nmL_at (c k : Int) : (nmL c k)[nmAt c]? = some (97 + ((c / 650 + k) % 26).toNat) := by
  have h := nmAt_lt c
  unfold nmL
  rw [List.append_assoc, List.getElem?_append_right (by rw [List.length_take]; omega)]
  rw [List.length_take, Nat.min_eq_left (Nat.le_of_lt h), Nat.sub_self] <;> rfl
theorem lname_ne {c : Int} {j k : Nat} (hj : j < 26) (hk : k < 26) (h : lname c j = lname c k) : j = k := by
  have e : nmL c j = nmL c k := by
    have : (nmL c j).toArray = (nmL c k).toArray := by injection h
    simpa using this
  have a := nmL_at c j
  rw [e, nmL_at] at a
  have a' := Option.some.inj a
  have := Int.emod_lt_of_pos (c / 650 + j) (show (0 : Int) < 26 by decide)
  have := Int.emod_nonneg (c / 650 + j) (show (26 : Int) ≠ 0 by decide)
  have := Int.emod_lt_of_pos (c / 650 + k) (show (0 : Int) < 26 by decide)
  have := Int.emod_nonneg (c / 650 + k) (show (26 : Int) ≠ 0 by decide)
  omega
theorem good_ok {x : Str} (h : Good x) : PyData.strOk x = true := by
  unfold PyData.strOk
  rw [Array.all_eq_true]
  intro i hi
  have := h.2.2 i x.cps[i] (by rw [Array.getElem?_eq_getElem hi])
  exact decide_eq_true (by omega)
theorem az_at : ∀ k : Fin 26, AZ.cps.toList[k.val]? = some (97 + k.val) := by decide +kernel
theorem az_ix (z : Int) : atI AZ.cps.toList (z % 26) = some (97 + (z % 26).toNat) := by
  have h1 := Int.emod_lt_of_pos z (show (0 : Int) < 26 by decide)
  have h2 := Int.emod_nonneg z (show (26 : Int) ≠ 0 by decide)
  have e : z % 26 = ((z % 26).toNat : Nat) := by omega
  have := az_at ⟨(z % 26).toNat, by omega⟩
  rw [e]
  exact atI_nat this
theorem az_len : AZ.length ≤ sizeLine := by
  have : AZ.length = 26 := by decide +kernel
  rw [this]
  decide
theorem app_mk (a b : List Nat) : (⟨a.toArray⟩ : Str) ++ (⟨b.toArray⟩ : Str) = ⟨(a ++ b).toArray⟩ := by
  show (⟨a.toArray ++ b.toArray⟩ : Str) = _
  simp
theorem mk_len (a : List Nat) : (⟨a.toArray⟩ : Str).length = a.length := by
  show a.toArray.size = _
  rw [List.size_toArray]
theorem cut_to (l : List Nat) {n : Nat} (h : n ≤ l.length) : cutS ⟨l.toArray⟩ none (some (n : Int)) = ⟨(l.take n).toArray⟩ := by
  unfold cutS
  rw [mk_len, HT.sIx_nat, HT.sIx_none, Nat.min_eq_left h, List.drop_zero, Nat.sub_zero]
theorem cut_from (l : List Nat) {n : Nat} (h : n ≤ l.length) : cutS ⟨l.toArray⟩ (some (n : Int)) none = ⟨(l.drop n).toArray⟩ := by
  unfold cutS
  rw [mk_len, HT.sIx_nat, HT.sIx_none, Nat.min_eq_left h]
  show (⟨((l.drop n).take (l.length - n)).toArray⟩ : Str) = _
  rw [List.take_of_length_le (by rw [List.length_drop]; exact Nat.le_refl _)]
abbrev sCe : Stmt := top 36
abbrev sNm : Stmt := top 37
def spCe (K : PySem.W.Frag) : Sp := fun vs H Q _ => ∃ (a : Addr) (k : Nat) (ns : List Int), vs = [.ref a, .int k] ∧ SqL K H a (ns.map V.int) ∧ Q (.int (ns.getD k 0)) H
def spNm : Sp := fun vs H Q _ => ∃ c k : Int, vs = [.int c, .int k] ∧ Q (.str (lname c k)) H
section
variable {P : Program} {w : World} {K : PySem.W.Frag} {mg : Str → Option Value} {base : Heap}
theorem scCe : FnScope ["_law_script", "_law_k"] ["_law_script", "_law_k"] (defScope sCe) := ⟨rfl, rfl, rfl, by decide +kernel, rfl, by decide +kernel, by decide +kernel⟩
theorem ok_Ce (D : Def K mg "_law_cell_at" sCe ["_law_script", "_law_k"]) (T : Txt K mg) : Cal P w K mg base CX0 "_law_cell_at" 1 ["_law_script", "_law_k"] (spCe K) := by
  refine D.ok scCe (fun vs H Q E h => ?_) (fun f cdv A outer s H vs Q E hr h => ?_)
  · obtain ⟨a, k, ns, rfl, _⟩ := h
    rfl
  obtain ⟨a, k, ns, rfl, hs, q⟩ := h
  refine ⟨_, pss_cons (ps_if (pt_cmpR op_lt (pv 1) (pe_callB call_len_seq (by rfl) T.len PySem.boot_len (pa_cons (pv 0) pa_nil)) (nomark _)) (pss_one (ps_ret (pe_ix ix_list (pv 0) (pv 1) (fun _ _ => rfl)))) pss_nil) (pss_one (ps_ret pe_int)), ?_⟩
  refine ⟨_, rfl, _, rfl, a, _, rfl, .inl hs, _, _, rfl, rfl, _, rfl, ?_⟩
  rw [List.length_map]
  by_cases hk : k < ns.length
  · refine if_bt (by simpa using hk) ⟨_, rfl, _, rfl, a, _, _, .int (ns.getD k 0), rfl, rfl, hs, ix_of (n := k) ?_, q⟩
    rw [List.getElem?_map, List.getElem?_eq_getElem hk, List.getD_eq_getElem?_getD, List.getElem?_eq_getElem hk] <;> rfl
  · refine if_bf (by simpa using hk) ?_
    rw [List.getD_eq_getElem?_getD, List.getElem?_eq_none (by omega)] at q
    exact q
theorem scNm : FnScope ["_law_cell", "_law_k", "_law_letters", "_law_found", "_law_j", "_law_at"] ["_law_cell", "_law_k"] (defScope sNm) := ⟨rfl, rfl, rfl, by decide +kernel, rfl, by decide +kernel, by decide +kernel⟩
theorem ok_Nm (D : Def K mg "_law_name" sNm ["_law_cell", "_law_k"]) (T : Txt K mg) : Cal P w K mg base CX0 "_law_name" 1 ["_law_cell", "_law_k"] spNm := by
  refine D.ok scNm (fun vs H Q E h => ?_) (fun f cdv A outer s H vs Q E hr h => ?_)
  · obtain ⟨a, k, rfl, _⟩ := h
    rfl
  obtain ⟨c, k, rfl, q⟩ := h
  refine ⟨_, pss_cons (ps_set (i := 2) scNm.nd rfl (Or.inl rfl) pe_str)
    (pss_cons (ps_set (i := 3) scNm.nd rfl (Or.inl rfl) pe_str)
    (pss_cons (ps_for PassesOwn.never rfl (pi_range1 (by rfl) T.range (pa_cons (pe_op op_add pe_int (pe_op op_mod (pv 0) pe_int)) pa_nil)) (pg_name (i := 4) scNm.nd rfl (Or.inl rfl))
      (pss_one (ps_set (i := 3) scNm.nd rfl (Or.inl rfl) (pe_op op_add_str (pv 3) (pe_ix ix_str (pv 2) (pe_op op_mod (pe_op op_add (pe_op op_fdiv (pv 0) pe_int) (pe_op op_mul (pv 4) (pv 4))) pe_int) (fun _ _ => rfl))))))
    (pss_cons (ps_set (i := 5) scNm.nd rfl (Or.inl rfl) (pe_op op_mod (pe_op op_fdiv (pv 0) pe_int) (pe_callB call_len_str (by rfl) T.len PySem.boot_len (pa_cons (pv 3) pa_nil))))
    (pss_one (ps_ret (pe_op op_add_str (pe_op op_add_str (pe_slice sl_str (pv 3) po_none (po_some (pv 5))) (pe_ix ix_str (pv 2) (pe_op op_mod (pe_op op_add (pe_op op_fdiv (pv 0) pe_int) (pv 1)) pe_int) (fun _ _ => rfl))) (pe_slice sl_str (pv 3) (po_some (pe_op op_add (pv 5) pe_int)) po_none))))))), ?_⟩
  have h5 := Int.emod_lt_of_pos c (show (0 : Int) < 5 by decide)
  have h0 := Int.emod_nonneg c (show (5 : Int) ≠ 0 by decide)
  have hl5 := signs_le c
  have hl := signs_len c
  have small5 : ∀ {n : Nat}, n ≤ 100 → n ≤ sizeLine := fun h => Nat.le_trans h (by decide)
  refine ⟨_, rfl, _, _, rfl, rfl, (show (0 : Int) < 5 by decide), _, _, rfl, rfl, _, rfl, (by omega), (by omega), ?_⟩
  have en : (1 + c % 5).toNat = 1 + (c % 5).toNat := by omega
  rw [en]
  refine for_range (lo := 0) (n := 1 + (c % 5).toNat) (fun i σ H' => H' = H ∧ ∃ o, σ = [some (.int c), some (.int k), some (.str AZ), some (.str ⟨((signs c).take i).toArray⟩), o, none]) ⟨rfl, none, rfl⟩ ?_ ?_
  · rintro i σ H' hi ⟨rfl, o, rfl⟩
    have hs : (signs c)[i]? = some (97 + ((c / 5 + (i : Int) * (i : Int)) % 26).toNat) := by
      unfold signs
      rw [List.getElem?_map, List.getElem?_range hi] <;> rfl
    refine ⟨_, rfl, _, rfl, _, rfl, _, _, rfl, rfl, (by show (0 : Int) < 5 ∧ (5 : Int) < 1073741824; decide), _, rfl, _, rfl, _, _, rfl, rfl, .inl (by omega), _, _, rfl, rfl, _, _, rfl, rfl, (show (0 : Int) < 26 by decide), _, _, _, rfl, rfl, az_len, az_ix _, ?_⟩
    rw [show (0 : Int) + (i : Int) = (i : Int) from Int.zero_add _]
    refine ⟨_, _, rfl, rfl, ?_, rfl, some (.int (i : Int)), ?_⟩
    · rw [mk_len, List.length_take]
      show min i _ + 1 ≤ _
      exact small5 (by omega)
    · rw [take_more hs, ← app_mk] <;> rfl
  · rintro σ H' ⟨rfl, o, rfl⟩
    rw [← hl, List.take_length]
    have hA := nmAt_lt c
    have hz : ((⟨(signs c).toArray⟩ : Str)).length = (signs c).length := mk_len _
    refine ⟨_, rfl, _, _, rfl, rfl, (by show (0 : Int) < 130 ∧ (130 : Int) < 1073741824; decide), _, rfl, _, rfl, small5 (by rw [hz]; omega), _, _, rfl, rfl, (by rw [hz]; omega), ?_⟩
    have ea : c / 130 % (((⟨(signs c).toArray⟩ : Str).length : Nat) : Int) = ((nmAt c : Nat) : Int) := by
      rw [hz]
      unfold nmAt
      rw [hl]
      have := Int.emod_nonneg (c / 130) (show ((1 + (c % 5).toNat : Nat) : Int) ≠ 0 by omega)
      omega
    dsimp only
    rw [ea]
    refine ⟨_, rfl, _, rfl, _, rfl, _, rfl, small5 (by rw [hz]; omega), _, rfl, _, rfl, _, _, rfl, rfl, (by show (0 : Int) < 650 ∧ (650 : Int) < 1073741824; decide), _, rfl, _, _, rfl, rfl, _, _, rfl, rfl, (show (0 : Int) < 26 by decide), _, _, _, rfl, rfl, az_len, az_ix _, _, _, rfl, rfl, ?_, _, rfl, _, rfl, _, _, rfl, rfl, _, rfl, _, rfl, small5 (by rw [hz]; omega), _, _, rfl, rfl, ?_, ?_⟩
    · rw [cut_to _ (Nat.le_of_lt hA), mk_len, List.length_take]
      show min _ _ + 1 ≤ _
      exact small5 (by omega)
    · rw [show ((nmAt c : Nat) : Int) + 1 = ((nmAt c + 1 : Nat) : Int) by omega, cut_to _ (Nat.le_of_lt hA), cut_from _ hA]
      rw [show (⟨#[97 + ((c / 650 + k) % 26).toNat]⟩ : Str) = ⟨([97 + ((c / 650 + k) % 26).toNat] : List Nat).toArray⟩ from rfl, app_mk, mk_len, mk_len, List.length_append, List.length_take, List.length_drop, List.length_singleton]
      exact small5 (by omega)
    · rw [show ((nmAt c : Nat) : Int) + 1 = ((nmAt c + 1 : Nat) : Int) by omega, cut_to _ (Nat.le_of_lt hA), cut_from _ hA]
      rw [show (⟨#[97 + ((c / 650 + k) % 26).toNat]⟩ : Str) = ⟨([97 + ((c / 650 + k) % 26).toNat] : List Nat).toArray⟩ from rfl, app_mk, app_mk]
      exact q
end
end K71
/-! _law_parts. -/
namespace K71
open PySem L2
def cutI (ns : List Int) (lo hi : Option Int) : List Int := (ns.drop (HT.sIx ns.length 0 lo)).take (HT.sIx ns.length ns.length hi - HT.sIx ns.length 0 lo)
theorem cutV_ints (ns : List Int) (lo hi : Option Int) : cutV (ns.map V.int) lo hi = (cutI ns lo hi).map V.int := by
  unfold cutV cutI
  rw [List.length_map, List.map_take, List.map_drop]
theorem cutI_le (ns : List Int) (j k : Nat) : (cutI ns (some (j : Int)) (some (k : Int))).length ≤ k - j := by
  unfold cutI
  rw [HT.sIx_nat, HT.sIx_nat, List.length_take, List.length_drop]
  omega
/-- the item of ks at z, by its length -/
def at_ (ks : List Str) (z : Int) : Str := ks.getD (z % (ks.length : Int)).toNat ""
theorem at_ix {ks : List Str} (h : 1 ≤ ks.length) (z : Int) : ks[(z % (ks.length : Int)).toNat]? = some (at_ ks z) := by
  have h1 := Int.emod_lt_of_pos z (show (0 : Int) < (ks.length : Int) by omega)
  have h2 := Int.emod_nonneg z (show (ks.length : Int) ≠ 0 by omega)
  unfold at_
  rw [List.getD_eq_getElem?_getD, List.getElem?_eq_getElem (by omega)] <;> rfl
theorem at_mem {ks : List Str} (h : 1 ≤ ks.length) (z : Int) : at_ ks z ∈ ks := List.mem_of_getElem? (at_ix h z)
theorem at_read {ks : List Str} (h : 1 ≤ ks.length) (z : Int) : atI (ks.map V.str) (z % (((ks.map V.str).length : Nat) : Int)) = some (.str (at_ ks z)) := by
  rw [List.length_map]
  have h2 := Int.emod_nonneg z (show (ks.length : Int) ≠ 0 by omega)
  exact at_of (j := (z % (ks.length : Int)).toNat) (by omega) (by rw [List.getElem?_map, at_ix h] <;> rfl)
theorem at_ne {ks : List Str} (h : 1 ≤ ks.length) (nd : ks.Nodup) {y z : Int} (n : ¬ y % (((ks.map V.str).length : Nat) : Int) = z % (((ks.map V.str).length : Nat) : Int)) : at_ ks y ≠ at_ ks z := fun e => by
  rw [List.length_map] at n
  have a := at_ix h y
  have b := at_ix h z
  rw [← e] at b
  have := nd_ix nd a b
  have h2 := Int.emod_nonneg z (show (ks.length : Int) ≠ 0 by omega)
  have h3 := Int.emod_nonneg y (show (ks.length : Int) ≠ 0 by omega)
  omega
/-- the net's places -/
def places (c : Int) (n : Nat) : List Str := (List.range n).map fun (k : Nat) => lname c (k : Int)
theorem places_len (c : Int) (n : Nat) : (places c n).length = n := by unfold places; rw [List.length_map, List.length_range]
theorem places_nd {c : Int} {n : Nat} (h : n ≤ 26) : (places c n).Nodup := by
  unfold places
  refine List.pairwise_map.mpr (List.pairwise_lt_range.imp_of_mem fun {a b} ha hb hab e => ?_)
  have := List.mem_range.mp ha
  have := List.mem_range.mp hb
  have := lname_ne (c := c) (j := a) (k := b) (by omega) (by omega) e
  omega
theorem places_more (c : Int) (n : Nat) : places c (n + 1) = places c n ++ [lname c n] := by
  unfold places
  rw [List.range_succ, List.map_append] <;> rfl
theorem places_good {c : Int} {n : Nat} : ∀ k ∈ places c n, Good k := fun k hk => by
  obtain ⟨j, _, rfl⟩ := List.mem_map.mp hk
  exact lname_good c j
abbrev sPa : Stmt := top 38
def spPa (K : PySem.W.Frag) : Sp := fun vs H Q _ => ∃ (a : Addr) (ns : List Int), vs = [.ref a] ∧ SqL K H a (ns.map V.int) ∧
  ∀ (t a b : Addr) (ks : List Str) (ts : List Tie) (us : List V) (H' : Hp), Same H H' → H' t = some (.tup [.ref a, .ref b]) → H' a = some (.lst (ks.map V.str)) → H' b = some (.lst us) → DqA H' (fun _ => False) us (ts.map tieD) → NetOk ks ts → 1 ≤ ks.length → ks.length ≤ 4 → Q (.ref t) H'
section
variable {P : Program} {w : World} {K : PySem.W.Frag} {mg : Str → Option Value} {base : Heap}
theorem scPa : FnScope ["_law_script", "_law_first", "_law_places", "_law_ties", "_law_k", "_law_cell", "_law_a", "_law_b", "_law_name_here"] ["_law_script"] (defScope sPa) := ⟨rfl, rfl, rfl, by decide +kernel, rfl, by decide +kernel, by decide +kernel⟩
theorem ok_Pa (D : Def K mg "_law_parts" sPa ["_law_script"]) (T : Txt K mg) (cC : Cal P w K mg base CX0 "_law_cell_at" 1 ["_law_script", "_law_k"] (spCe K)) (cN : Cal P w K mg base CX0 "_law_name" 1 ["_law_cell", "_law_k"] spNm) :
    Cal P w K mg base CX0 "_law_parts" 2 ["_law_script"] (spPa K) := by
  obtain ⟨fC, fdC, mC, FC, kC, bC⟩ := cC
  obtain ⟨fN, fdN, mN, FN, kN', bN⟩ := cN
  refine D.ok scPa (fun vs H Q E h => ?_) (fun fa cdv A outer s H vs Q E hr h => ?_)
  · obtain ⟨a, ns, rfl, _⟩ := h
    rfl
  obtain ⟨a, ns, rfl, hs, q⟩ := h
  refine ⟨_, pss_cons (ps_set (i := 1) scPa.nd rfl (Or.inl rfl) (pe_call FC hr rfl mC kC bC .nil pass0 (pa_cons (pv 0) (pa_cons pe_int pa_nil))))
    (pss_cons (ps_setLc (i := 2) (own := [("_law_k", 4)]) (g := gName 4) (tt := tYes) (te := tCall spNm [] E0 (tCons (tCall (spCe K) [] E0 (tCons (tVar 0) (tCons (tC (.int 1)) tNil))) (tCons (tVar 4) tNil))) rfl scPa.nd rfl rfl (sw_true rfl rfl rfl rfl)
      (pi_range1 (by rfl) T.range (pa_cons (pe_op op_add pe_int (pe_op op_mod (pv 1) pe_int)) pa_nil)) (blkOk_by (N := ["_law_script", "_law_first", "_law_places", "_law_ties", "_law_k", "_law_cell", "_law_a", "_law_b", "_law_name_here"]) (sc := defScope sPa) (by decide +kernel))
        (fun _ _ _ _ _ => pg_name (i := 4) scPa.nd rfl (Or.inl rfl)) (fun _ _ _ _ _ => pts_nil) (fun _ _ _ _ _ => pe_call FN hr rfl mN kN' bN .nil pass0 (pa_cons (pe_call FC hr rfl mC kC bC .nil pass0 (pa_cons (pv 0) (pa_cons pe_int pa_nil))) (pa_cons (pv 4) pa_nil))))
    (pss_cons (ps_set (i := 3) scPa.nd rfl (Or.inl rfl) (pe_lst pa_nil))
    (pss_cons (ps_for PassesOwn.never rfl (pi_enum (by rfl) T.enum (pa_cons (pe_slice sl_list (pv 0) (po_some pe_int) (po_some (pe_op op_add pe_int (pe_op op_mod (pe_op op_fdiv (pv 1) pe_int) pe_int)))) pa_nil)) (pg_tup rfl (pgs_cons (pg_name (i := 4) scPa.nd rfl (Or.inl rfl)) (pgs_cons (pg_name (i := 5) scPa.nd rfl (Or.inl rfl)) pgs_nil)))
      (pss_cons (ps_set (i := 6) scPa.nd rfl (Or.inl rfl) (pe_op op_mod (pv 5) (pe_callB call_len_seq (by rfl) T.len PySem.boot_len (pa_cons (pv 2) pa_nil))))
      (pss_cons (ps_set (i := 7) scPa.nd rfl (Or.inl rfl) (pe_op op_mod (pe_op op_add (pe_op op_add (pv 6) pe_int) (pe_op op_mod (pe_op op_fdiv (pv 5) pe_int) (pe_callB (call_max2 rfl) (by rfl) T.max PyProof.Rows.boot_max (pa_cons pe_int (pa_cons (pe_op op_sub (pe_callB call_len_seq (by rfl) T.len PySem.boot_len (pa_cons (pv 2) pa_nil)) pe_int) pa_nil))))) (pe_callB call_len_seq (by rfl) T.len PySem.boot_len (pa_cons (pv 2) pa_nil))))
      (C8.pss_cut (ps_if (pt_cmpR op_eq (pe_op op_mod (pe_op op_fdiv (pv 1) pe_int) pe_int) pe_int (nomark _)) (pss_one (ps_set (i := 7) scPa.nd rfl (Or.inl rfl) (pe_op op_mod (pe_op op_add (pv 6) pe_int) (pe_callB call_len_seq (by rfl) T.len PySem.boot_len (pa_cons (pv 2) pa_nil))))) pss_nil)
      (pss_one (ps_if (pt_cmpR op_ne (pv 6) (pv 7) (nomark _))
        (pss_cons (ps_set (i := 8) scPa.nd rfl (Or.inl rfl) (pe_call FN hr rfl mN kN' bN .nil pass0 (pa_cons (pe_call FC hr rfl mC kC bC .nil pass0 (pa_cons (pv 0) (pa_cons pe_int pa_nil))) (pa_cons (pv 4) pa_nil))))
        (pss_one (ps_expr (pe_bm PySem.F.plainAttrs_list PySem.F.slot_list_append PySem.F.type_list_append mt_append (pv 3) (pa_cons (pe_tup (pa_cons (pv 8) (pa_cons (pe_ix ix_list (pv 2) (pv 6) (fun _ _ => rfl)) (pa_cons (pe_ix ix_list (pv 2) (pv 7) (fun _ _ => rfl)) (pa_cons (pe_op op_add pe_int (pe_op op_mod (pe_op op_fdiv (pv 5) pe_int) pe_int)) (pa_cons (pe_op op_sub (pe_op op_mod (pe_op op_fdiv (pv 5) pe_int) pe_int) pe_int) pa_nil)))))) pa_nil))))) pss_nil))))))
    (pss_one (ps_ret (pe_tup (pa_cons (pv 2) (pa_cons (pv 3) pa_nil)))))))), ?_⟩
  refine ⟨_, rfl, a, 0, ns, rfl, hs, ?_⟩
  have hm1 := Int.emod_lt_of_pos (ns.getD 0 0) (show (0 : Int) < 4 by decide)
  have hm0 := Int.emod_nonneg (ns.getD 0 0) (show (4 : Int) ≠ 0 by decide)
  refine ⟨_, rfl, _, _, rfl, rfl, (show (0 : Int) < 4 by decide), _, _, rfl, rfl, _, rfl, (by omega), (by omega), fun pl hpl => ?_⟩
  obtain ⟨n, en⟩ : ∃ n : Nat, (1 + ns.getD 0 0 % 4).toNat = n := ⟨_, rfl⟩
  rw [en]
  have hn1 : 1 ≤ n := by omega
  have hn4 : n ≤ 4 := by omega
  refine lc_range (lo := 0) (n := n) (fun i H' => Same H H' ∧ H' pl = some (.lst ((places (ns.getD 1 0) i).map V.str))) ⟨same_new hpl _, upd_same⟩ ?_ ?_
  · rintro i H' hi ⟨s1, e1⟩
    refine ⟨rfl, ?_⟩
    show tCall spNm [] E0 (tCons (tCall (spCe K) [] E0 (tCons (tVar 0) (tCons (tC (.int 1)) tNil))) (tCons (tVar 4) tNil)) _ H' _
    rw [show (0 : Int) + (i : Int) = (i : Int) from Int.zero_add _]
    refine ⟨_, rfl, a, 1, ns, rfl, sqL_same s1 hs, _, rfl, _, _, rfl, _, e1, ?_, ?_, ?_⟩
    · rw [len_map_str, places_len]
      exact big_ok (by omega)
    · intro b o z
      rw [upd_ne (ne_of_none z hpl)]
      exact s1 _ _ z
    · rw [upd_same, places_more, List.map_append] <;> rfl
  rintro H1 ⟨s1, e1⟩
  refine ⟨Nat.zero_le _, fun f hf => ?_⟩
  have s2 := same_new hf (.lst [])
  have hs2 := sqL_same (s1.trans s2) hs
  refine ⟨_, rfl, _, rfl, _, rfl, _, _, rfl, rfl, (show (0 : Int) < 4 ∧ (4 : Int) < 1073741824 by decide), _, _, rfl, rfl, (show (0 : Int) < 8 by decide), _, _, rfl, rfl, _, rfl, a, _, rfl, hs2, fun sl hsl => ?_⟩
  rw [cutV_ints]
  have hm8 := Int.emod_lt_of_pos (ns.getD 0 0 / 4) (show (0 : Int) < 8 by decide)
  have hm80 := Int.emod_nonneg (ns.getD 0 0 / 4) (show (8 : Int) ≠ 0 by decide)
  obtain ⟨cs, ecs⟩ : ∃ cs, cutI ns (some 4) (some (4 + ns.getD 0 0 / 4 % 8)) = cs := ⟨_, rfl⟩
  have hcs : cs.length ≤ 7 := by
    have e : (4 + ns.getD 0 0 / 4 % 8 : Int) = ((4 + (ns.getD 0 0 / 4 % 8).toNat : Nat) : Int) := by omega
    have := cutI_le ns 4 (4 + (ns.getD 0 0 / 4 % 8).toNat)
    rw [← e, show ((4 : Nat) : Int) = 4 from rfl, ecs] at this
    omega
  rw [ecs]
  have hsf : sl ≠ f := fun e => by rw [e, upd_same] at hsl; cases hsl
  obtain ⟨ks, eks⟩ : ∃ ks, places (ns.getD 1 0) n = ks := ⟨_, rfl⟩
  rw [eks] at e1
  have hkl : ks.length = n := by rw [← eks, places_len]
  have hk1 : 1 ≤ ks.length := by omega
  have hkn : ks.Nodup := by rw [← eks]; exact places_nd (by omega)
  have hkg : ∀ k ∈ ks, Good k := by rw [← eks]; exact places_good
  have hpos : (0 : Int) < (((ks.map V.str).length : Nat) : Int) := by rw [List.length_map]; omega
  refine ⟨sl, _, rfl, SqL.of upd_same, for_it (walk_enum (K := K) (a := sl) (xs := cs.map V.int)) (fun i σ H' => ∃ us ts o4 o5 o6 o7 o8, σ = [some (.ref a), some (.int (ns.getD 0 0)), some (.ref pl), some (.ref f), o4, o5, o6, o7, o8] ∧ H' sl = some (.lst (cs.map V.int)) ∧ Same H1 H' ∧ H' f = some (.lst us) ∧
      DqA H' (fun _ => False) us (ts.map tieD) ∧ (∀ t ∈ ts, TieOk ks t) ∧ (∀ t ∈ ts, ∃ j : Nat, j < i ∧ t.name = lname (ns.getD 2 0) j) ∧ (ts.map Tie.name).Nodup ∧ ts.length ≤ i)
    ⟨[], [], none, none, none, none, none, rfl, upd_same, s2.trans (same_new hsl _), by rw [upd_ne (Ne.symm hsf), upd_same], .nil, mem_n, mem_n, List.nodup_nil, Nat.le_refl _⟩ (fun i σ H' _ ⟨_, _, _, _, _, _, _, _, z, _⟩ => SqL.of z) ?_ ?_⟩
  · rintro i x σ G1 G2 hi ⟨us, ts, o4, o5, o6, o7, o8, rfl, esl, sG, ef, hd, ok1, ok2, ok3, ok4⟩ ⟨t0, xi, xy, rfl, ht0, rfl, q1, q2⟩
    have q1' : xi = .int (i : Nat) := (Option.some.inj q1).symm
    subst q1'
    obtain ⟨cell, hcell, rfl⟩ := map_at q2
    have s3 := same_new ht0 (.tup [.int (i : Nat), .int cell])
    have sH := sG.trans s3
    have hp3 := sH _ _ e1
    have hi7 : i < 7 := by rw [List.length_map] at hi; omega
    refine ⟨t0, _, rfl, SqT.of upd_same, rfl, _, _, rfl, _, _, rfl, rfl, ?_⟩
    refine ⟨_, rfl, _, rfl, pl, _, rfl, .inl (SqL.of hp3), _, _, rfl, rfl, hpos, ?_⟩
    refine ⟨_, rfl, _, _, rfl, rfl, _, rfl, _, _, rfl, rfl, (show (0 : Int) < 4 ∧ (4 : Int) < 1073741824 by decide), _, rfl, pl, _, rfl, .inl (SqL.of hp3), _, _, rfl, rfl, _, _, rfl, _, _, rfl, rfl, ?_, _, _, rfl, rfl, _, rfl, pl, _, rfl, .inl (SqL.of hp3), _, _, rfl, rfl, hpos, ?_⟩
    · show (0 : Int) < if _ > _ then _ else _
      split <;> omega
    refine ⟨fun σ' H' => H' = upd G1 t0 (.tup [.int (i : Nat), .int cell]) ∧ ∃ zb : Int, σ' = [some (.ref a), some (.int (ns.getD 0 0)), some (.ref pl), some (.ref f), some (.int (i : Nat)), some (.int cell), some (.int (cell % (((ks.map V.str).length : Nat) : Int))), some (.int (zb % (((ks.map V.str).length : Nat) : Int))), o8], ?_, ?_⟩
    · refine ⟨_, rfl, _, _, rfl, rfl, (show (0 : Int) < 32 ∧ (32 : Int) < 1073741824 by decide), _, _, rfl, rfl, (show (0 : Int) < 4 by decide), rfl, _, rfl, ?_⟩
      by_cases hz : ns.getD 0 0 / 32 % 4 = 1
      · refine if_bt (by simpa using hz) ?_
        exact ⟨_, rfl, _, _, rfl, rfl, _, rfl, pl, _, rfl, .inl (SqL.of hp3), _, _, rfl, rfl, hpos, rfl, _, rfl⟩
      · refine if_bf (by simpa using hz) ?_
        exact ⟨rfl, _, rfl⟩
    · rintro σ' H' ⟨rfl, zb, rfl⟩
      refine ⟨_, rfl, _, rfl, rfl, _, rfl, ?_⟩
      have esl3 := s3 _ _ esl
      have ef3 := s3 _ _ ef
      by_cases hz : cell % (((ks.map V.str).length : Nat) : Int) = zb % (((ks.map V.str).length : Nat) : Int)
      · refine if_bf (by rw [hz]; simp) ?_
        exact ⟨us, ts, _, _, _, _, _, rfl, esl3, sH, ef3, hd.same s3, ok1, fun t ht => (ok2 t ht).imp fun j z => ⟨by omega, z.2⟩, ok3, by omega⟩
      · have hne : ¬ (V.int (cell % (((ks.map V.str).length : Nat) : Int)) = V.int (zb % (((ks.map V.str).length : Nat) : Int))) := fun e => hz (by injection e)
        refine if_bt (by simp only [hne]; rfl) ?_
        refine ⟨_, rfl, a, 2, ns, rfl, sqL_same (s1.trans sH) hs, _, rfl, _, _, rfl, ?_⟩
        refine ⟨_, rfl, .inl ⟨rfl, us, SqL.of ef3⟩, _, rfl, _, rfl, _, rfl, pl, _, _, _, rfl, rfl, SqL.of hp3, at_read hk1 cell, _, rfl, _, rfl, pl, _, _, _, rfl, rfl, SqL.of hp3, at_read hk1 zb,
          _, rfl, _, _, rfl, rfl, (show (0 : Int) < 16 ∧ (16 : Int) < 1073741824 by decide), _, _, rfl, rfl, (show (0 : Int) < 3 by decide), _, _, rfl, rfl,
          _, rfl, _, _, rfl, rfl, (show (0 : Int) < 48 ∧ (48 : Int) < 1073741824 by decide), _, _, rfl, rfl, (show (0 : Int) < 7 by decide), _, _, rfl, rfl, (by show 5 ≤ sizeLine; decide), fun tp ntp => ?_⟩
        have s4 := same_new ntp (.tup [.str (lname (ns.getD 2 0) i), .str (at_ ks cell), .str (at_ ks zb), .int (1 + cell / 16 % 3), .int (cell / 48 % 7 - 3)])
        have lus : us.length = ts.length := by rw [hd.len, List.length_map]
        refine ⟨f, us, _, rfl, rfl, s4 _ _ ef3, by rw [lus]; exact big_ok (by omega), ?_⟩
        have hF1 : H1 f = none := hf
        refine ⟨us ++ [.ref tp], ts ++ [⟨lname (ns.getD 2 0) i, at_ ks cell, at_ ks zb, 1 + cell / 16 % 3, cell / 48 % 7 - 3⟩], _, _, _, _, _, rfl, ?_, fun b o z => ?_, upd_same, ?_, ?_, ?_, ?_, ?_⟩
        · rw [upd_ne hsf]
          exact s4 _ _ esl3
        · rw [upd_ne (ne_of_none z hF1)]
          exact s4 _ _ (sH _ _ z)
        · rw [List.map_append]
          have nf : ∀ (b : Addr) (xs : List V), (upd (upd G1 t0 (.tup [.int (i : Nat), .int cell])) tp (.tup [.str (lname (ns.getD 2 0) i), .str (at_ ks cell), .str (at_ ks zb), .int (1 + cell / 16 % 3), .int (cell / 48 % 7 - 3)])) b = some (.tup xs) → b ≠ f := fun b xs z e => by
            rw [e, s4 _ _ ef3] at z
            cases z
          refine .append (DqA.mono (fun b xs z => by rw [upd_ne (nf b xs z)]; exact z) (fun b xs z => z.elim) _ _ ((hd.same s3).same s4)) (.one (.tup (by rw [upd_ne (nf tp _ upd_same), upd_same]) (.cons (.str _) (.cons (.str _) (.cons (.str _) (.cons (.int _) (.cons (.int _) .nil)))))))
        · refine mem2 ok1 (mem_c ⟨lname_good _ _, hkg _ (at_mem hk1 _), hkg _ (at_mem hk1 _), at_ne hk1 hkn hz, ?_, at_mem hk1 _, at_mem hk1 _⟩ mem_n)
          have := Int.emod_nonneg (cell / 16) (show (3 : Int) ≠ 0 by decide)
          show 1 ≤ 1 + cell / 16 % 3
          omega
        · exact mem2 (fun t ht => (ok2 t ht).imp fun j z => ⟨by omega, z.2⟩) (mem_c ⟨i, by omega, rfl⟩ mem_n)
        · rw [List.map_append, List.nodup_append]
          refine ⟨ok3, by simp, fun x hx y hy e => ?_⟩
          obtain ⟨t, ht, rfl⟩ := List.mem_map.mp hx
          obtain ⟨j, hj, en2⟩ := ok2 t ht
          have ey : y = lname (ns.getD 2 0) i := List.mem_singleton.mp hy
          rw [ey, en2] at e
          have := lname_ne (c := ns.getD 2 0) (j := j) (k := i) (by omega) (by omega) e
          omega
        · rw [List.length_append, List.length_singleton]
          omega
  · rintro σ H' ⟨us, ts, o4, o5, o6, o7, o8, rfl, esl, sG, ef, hd, ok1, ok2, ok3, ok4⟩
    rw [List.length_map] at ok4
    refine ⟨_, rfl, _, rfl, (by show 2 ≤ sizeLine; decide), fun t ht => ?_⟩
    have st := same_new ht (.tup [.ref pl, .ref f])
    exact q t pl f ks ts us _ ((s1.trans sG).trans st) upd_same (st _ _ (sG _ _ e1)) (st _ _ ef) (hd.same st) ⟨hkg, hkn, by omega, ok1, ok3, by omega⟩ hk1 (by omega)
end
end K71
/-! _law_kind. -/
namespace K71
open PySem L2
theorem if_any {b : Bool} {A B : Prop} (x : A) (y : B) : if b = true then A else B := by
  split
  · exact x
  · exact y
def cutL {α : Type} (xs : List α) (lo hi : Option Int) : List α := (xs.drop (HT.sIx xs.length 0 lo)).take (HT.sIx xs.length xs.length hi - HT.sIx xs.length 0 lo)
theorem cutV_map {α : Type} (f : α → V) (xs : List α) (lo hi : Option Int) : cutV (xs.map f) lo hi = (cutL xs lo hi).map f := by
  unfold cutV cutL
  rw [List.length_map, List.map_take, List.map_drop]
theorem cutL_mem {α : Type} {xs : List α} {lo hi : Option Int} {x : α} (h : x ∈ cutL xs lo hi) : x ∈ xs := List.mem_of_mem_drop (List.mem_of_mem_take h)
theorem cutL_len {α : Type} (xs : List α) (lo hi : Option Int) : (cutL xs lo hi).length ≤ xs.length := by
  unfold cutL
  rw [List.length_take, List.length_drop]
  omega
abbrev sKi : Stmt := top 40
/-- names at hand: a list that stands, not empty, not long, all of texts -/
structure NmOk (H : Hp) (a : Addr) (ns : List Str) : Prop where
  at_ : H a = some (.lst (ns.map V.str))
  l1 : 1 ≤ ns.length
  l100 : ns.length ≤ 100
  ok : ∀ x ∈ ns, PyData.strOk x = true
theorem NmOk.same {H H' : Hp} {a : Addr} {ns : List Str} (h : NmOk H a ns) (s : Same H H') : NmOk H' a ns := ⟨s _ _ h.at_, h.l1, h.l100, h.ok⟩
def spKi : Sp := fun vs H Q _ => ∃ (c : Int) (a : Addr) (ns : List Str), vs = [.int c, .ref a] ∧ NmOk H a ns ∧ ∀ (k : Knd) (v : V) (H' : Hp), Same H H' → Dt H' v (kD k) → fit (kD k) = true → (∀ x ∈ kN k, x ∈ ns) → Q v H'
theorem fit_fr {x : Str} (h : PyData.strOk x = true) : fit (kD (.fr x)) = true := by
  have e : PyData.strOk "from" = true := by decide +kernel
  simp [kD, fit, fitA, h, e]
theorem fit_to {x : Str} (h : PyData.strOk x = true) : fit (kD (.to x)) = true := by
  have e : PyData.strOk "to" = true := by decide +kernel
  simp [kD, fit, fitA, h, e]
theorem fit_these {xs : List Str} (h : ∀ x ∈ xs, PyData.strOk x = true) (l : xs.length ≤ 500) : fit (kD (.these xs)) = true := by
  have e : PyData.strOk "these" = true := by decide +kernel
  simp [kD, fit, fitA, fitS_of h, l, e]
abbrev NKi : List Str := ["_law_cell", "_law_names_here", "_law_one_here", "_law_some", "_law_k", "_law_name_here"]
section
variable {P : Program} {w : World} {K : PySem.W.Frag} {mg : Str → Option Value} {base : Heap}
theorem scKi : FnScope NKi ["_law_cell", "_law_names_here"] (defScope sKi) := ⟨rfl, rfl, rfl, by decide +kernel, rfl, by decide +kernel, by decide +kernel⟩
theorem ok_Ki (D : Def K mg "_law_kind" sKi ["_law_cell", "_law_names_here"]) (T : Txt K mg) : Cal P w K mg base CX0 "_law_kind" 1 ["_law_cell", "_law_names_here"] spKi := by
  refine D.ok scKi (fun vs H Q E h => ?_) (fun fa cdv A outer s H vs Q E hr h => ?_)
  · obtain ⟨c, a, ns, rfl, _⟩ := h
    rfl
  obtain ⟨c, a, ns, rfl, hN, q⟩ := h
  refine ⟨_, pss_cons (ps_set (i := 2) scKi.nd rfl (Or.inl rfl) (pe_ix ix_list (pv 1) (pe_op op_mod (pe_op op_fdiv (pv 0) pe_int) (pe_callB call_len_seq (by rfl) T.len PySem.boot_len (pa_cons (pv 1) pa_nil))) (fun _ _ => rfl)))
    (pss_cons (ps_if (pt_cmpR op_eq (pe_op op_mod (pv 0) pe_int) pe_int (nomark _)) (pss_one (ps_ret (pe_tup (pa_cons pe_str pa_nil)))) pss_nil)
    (pss_cons (ps_if (pt_cmpR op_eq (pe_op op_mod (pv 0) pe_int) pe_int (nomark _)) (pss_one (ps_ret (pe_tup (pa_cons pe_str (pa_cons (pv 2) pa_nil))))) pss_nil)
    (pss_cons (ps_if (pt_cmpR op_eq (pe_op op_mod (pv 0) pe_int) pe_int (nomark _)) (pss_one (ps_ret (pe_tup (pa_cons pe_str (pa_cons (pv 2) pa_nil))))) pss_nil)
    (pss_cons (ps_setLc (i := 3) (own := [("_law_k", 4), ("_law_name_here", 5)]) (g := gTup K 2 (gCons (gName 4) (gCons (gName 5) gNil)))
        (tt := tTest (tOp (rI0 fun i j => .bl (decide (j < i))) (tOp (rI (fun _ j => 0 < j) fun i j => .int (i % j)) (tOp (rI CDiv fun i j => .int (i / j)) (tVar 0) (tOp (rI0 fun i j => .int (i + j)) (tC (.int 4)) (tVar 4))) (tC (.int 3))) (tC (.int 0)))) (te := tVar 5) rfl scKi.nd rfl rfl (sw_true rfl rfl rfl rfl)
        (pi_enum (by rfl) T.enum (pa_cons (pv 1) pa_nil)) (blkOk_by (N := NKi) (sc := defScope sKi) (by decide +kernel))
        (fun _ _ _ _ _ => pg_tup rfl (pgs_cons (pg_name (i := 4) scKi.nd rfl (Or.inl rfl)) (pgs_cons (pg_name (i := 5) scKi.nd rfl (Or.inl rfl)) pgs_nil)))
        (fun _ _ _ _ _ => pts_one (pt_cmpR op_gt (pe_op op_mod (pe_op op_fdiv (pv 0) (pe_op op_add pe_int (pv 4))) pe_int) pe_int (nomark _))) (fun _ _ _ _ _ => pv 5))
    (C8.pss_cut (ps_if (pt_cmpR op_eq (pe_op op_mod (pe_op op_fdiv (pv 0) pe_int) pe_int) pe_int (nomark _)) (pss_one (ps_set (i := 3) scKi.nd rfl (Or.inl rfl) (pe_op op_cat
        (pe_lc (own := [("_law_one_here", 2)]) (g := gName 2) (tt := tYes) (te := tVar 2) rfl scKi.nd (pi_reversed (by rfl) T.rev (pa_cons (pv 3) pa_nil)) (blkOk_by (N := NKi) (sc := defScope sKi) (by decide +kernel))
          (fun _ _ _ _ _ => pg_name (i := 2) scKi.nd rfl (Or.inl rfl)) (fun _ _ _ _ _ => pts_nil) (fun _ _ _ _ _ => pv 2))
        (pe_slice sl_list (pv 3) po_none (po_some pe_int))))) pss_nil)
    (pss_one (ps_ret (pe_tup (pa_cons pe_str (pa_cons (pv 3) pa_nil)))))))))), ?_⟩
  have hpos : (0 : Int) < (((ns.map V.str).length : Nat) : Int) := by rw [List.length_map]; have := hN.l1; omega
  have hok : PyData.strOk (at_ ns (c / 4)) = true := hN.ok _ (at_mem hN.l1 _)
  refine ⟨_, rfl, _, rfl, _, _, rfl, rfl, (show (0 : Int) < 4 ∧ (4 : Int) < 1073741824 by decide), _, rfl, a, _, rfl, .inl (SqL.of hN.at_), _, _, rfl, rfl, hpos, a, _, _, _, rfl, rfl, SqL.of hN.at_, at_read hN.l1 (c / 4), ?_⟩
  refine ⟨_, rfl, _, _, rfl, rfl, (show (0 : Int) < 4 by decide), rfl, _, rfl, ?_⟩
  by_cases h0 : c % 4 = 0
  · refine if_bt (by simpa using h0) ⟨(by show 1 ≤ sizeLine; decide), fun t ht => ?_⟩
    exact q .all _ _ (same_new ht _) (.tup upd_same (.cons (.str _) .nil)) (by decide +kernel) mem_n
  refine if_bf (by simpa using h0) ?_
  refine ⟨_, rfl, _, _, rfl, rfl, (show (0 : Int) < 4 by decide), rfl, _, rfl, ?_⟩
  by_cases h1 : c % 4 = 1
  · refine if_bt (by simpa using h1) ⟨_, rfl, (by show 2 ≤ sizeLine; decide), fun t ht => ?_⟩
    exact q (.fr (at_ ns (c / 4))) _ _ (same_new ht _) (.tup upd_same (.cons (.str _) (.cons (.str _) .nil))) (fit_fr hok) (mem_c (at_mem hN.l1 _) mem_n)
  refine if_bf (by simpa using h1) ?_
  refine ⟨_, rfl, _, _, rfl, rfl, (show (0 : Int) < 4 by decide), rfl, _, rfl, ?_⟩
  by_cases h2 : c % 4 = 2
  · refine if_bt (by simpa using h2) ⟨_, rfl, (by show 2 ≤ sizeLine; decide), fun t ht => ?_⟩
    exact q (.to (at_ ns (c / 4))) _ _ (same_new ht _) (.tup upd_same (.cons (.str _) (.cons (.str _) .nil))) (fit_to hok) (mem_c (at_mem hN.l1 _) mem_n)
  refine if_bf (by simpa using h2) ?_
  refine ⟨_, rfl, a, _, rfl, SqL.of hN.at_, fun l hl => lc_it (walk_enum (K := K) (a := a) (xs := ns.map V.str)) (fun i H' => Same H H' ∧ ∃ xs : List Str, H' l = some (.lst (xs.map V.str)) ∧ (∀ x ∈ xs, x ∈ ns) ∧ xs.length ≤ i)
    ⟨same_new hl _, [], upd_same, mem_n, Nat.le_refl _⟩ (fun i H' _ z => SqL.of (z.1 _ _ hN.at_)) ?_ ?_⟩
  · rintro i x G1 G2 hi ⟨s1, xs, e1, hx, hxl⟩ ⟨t0, xi, xy, rfl, ht0, rfl, q1, q2⟩
    have q1' : xi = .int (i : Nat) := (Option.some.inj q1).symm
    subst q1'
    obtain ⟨y, hy, rfl⟩ := map_at q2
    have s2 := same_new ht0 (.tup [.int (i : Nat), .str y])
    have hi100 : i < 100 := by rw [List.length_map] at hi; have := hN.l100; omega
    refine ⟨t0, _, rfl, SqT.of upd_same, rfl, _, _, rfl, _, _, rfl, rfl, rfl, ?_⟩
    refine ⟨_, rfl, _, rfl, _, _, rfl, rfl, _, _, rfl, rfl, (show (0 : Int) < 4 + (i : Int) ∧ 4 + (i : Int) < 1073741824 by omega), _, _, rfl, rfl, (show (0 : Int) < 3 by decide), _, _, rfl, rfl, _, rfl, ?_⟩
    have e2 := s2 _ _ e1
    refine if_any ?_ ?_
    · refine ⟨_, rfl, _, e2, by rw [len_map_str]; exact big_ok (by omega), fun b o z => ?_, xs ++ [y], ?_, mem2 hx (mem_c (List.mem_of_getElem? hy) mem_n), by rw [List.length_append, List.length_singleton]; omega⟩
      · rw [upd_ne (ne_of_none z hl)]
        exact s2 _ _ (s1 _ _ z)
      · rw [upd_same, List.map_append] <;> rfl
    · exact ⟨s1.trans s2, xs, e2, hx, by omega⟩
  rintro H1 ⟨s1, xs, e1, hx, hxl⟩
  rw [List.length_map] at hxl
  have h100 := hN.l100
  refine ⟨fun σ' H' => ∃ (l' : Addr) (ys : List Str), σ' = [some (.int c), some (.ref a), some (.str (at_ ns (c / 4))), some (.ref l'), none, none] ∧ Same H H' ∧ H' l' = some (.lst (ys.map V.str)) ∧ (∀ x ∈ ys, x ∈ ns) ∧ ys.length ≤ 200, ?_, ?_⟩
  · refine ⟨_, rfl, _, _, rfl, rfl, (show (0 : Int) < 4 ∧ (4 : Int) < 1073741824 by decide), _, _, rfl, rfl, (show (0 : Int) < 5 by decide), rfl, _, rfl, ?_⟩
    refine if_any ?_ ?_
    · refine ⟨_, rfl, l, _, rfl, SqL.of e1, fun m hm => lc_it (walk_rev (K := K) (a := l) (xs := xs.map V.str)) (fun i H' => Same H1 H' ∧ ∃ ys : List Str, H' m = some (.lst (ys.map V.str)) ∧ (∀ x ∈ ys, x ∈ ns) ∧ ys.length ≤ i)
        ⟨same_new hm _, [], upd_same, mem_n, Nat.le_refl _⟩ (fun i H' _ z => SqL.of (z.1 _ _ e1)) ?_ ?_⟩
      · rintro i x G1 G2 hi ⟨s2, ys, e2, hy, hyl⟩ ⟨rfl, hz⟩
        obtain ⟨y, hy', rfl⟩ := map_at hz
        rw [List.length_map] at hi
        refine ⟨rfl, _, rfl, _, e2, by rw [len_map_str]; exact big_ok (by omega), fun b o z => ?_, ys ++ [y], ?_, mem2 hy (mem_c (hx _ (List.mem_of_getElem? hy')) mem_n), by rw [List.length_append, List.length_singleton]; omega⟩
        · rw [upd_ne (ne_of_none z hm)]
          exact s2 _ _ z
        · rw [upd_same, List.map_append] <;> rfl
      · rintro H2 ⟨s2, ys, e2, hy, hyl⟩
        rw [List.length_map] at hyl
        refine ⟨_, rfl, _, rfl, l, _, rfl, SqL.of (s2 _ _ e1), fun m2 hm2 => ?_⟩
        rw [cutV_map]
        have s3 := same_new hm2 (.lst ((cutL xs none (some 1)).map V.str))
        have hcl := cutL_len xs none (some 1)
        refine ⟨m, m2, _, _, rfl, rfl, s3 _ _ e2, upd_same, ?_, fun r hr' => ⟨r, ys ++ cutL xs none (some 1), rfl, (s1.trans (s2.trans s3)).trans (same_new hr' _), by rw [upd_same, List.map_append], mem2 hy (fun x h => hx x (cutL_mem h)), by rw [List.length_append]; omega⟩⟩
        rw [len_map_str, len_map_str]
        exact sum_fits (by omega) (by omega)
    · exact ⟨l, xs, rfl, s1, e1, hx, by omega⟩
  · rintro σ' H' ⟨l', ys, rfl, s', e', hy, hyl⟩
    refine ⟨_, rfl, (by show 2 ≤ sizeLine; decide), fun t ht => ?_⟩
    have s2 := same_new ht (.tup [.str "these", .ref l'])
    exact q (.these ys) _ _ (s'.trans s2) (.tup upd_same (.cons (.str _) (.cons (.lst (s2 _ _ e') trivial (DqA.strs _)) .nil))) (fit_these (fun x h => hN.ok x (hy x h)) (by omega)) hy
end
end K71
/-! _law_term. -/
namespace K71
open PySem L2
/-- the cells at hand -/
structure CeOk (H : Hp) (a : Addr) (cs : List Int) : Prop where
  at_ : H a = some (.lst (cs.map V.int))
  l1 : 1 ≤ cs.length
theorem CeOk.same {H H' : Hp} {a : Addr} {cs : List Int} (h : CeOk H a cs) (s : Same H H') : CeOk H' a cs := ⟨s _ _ h.at_, h.l1⟩
def atJ (cs : List Int) (z : Int) : Int := cs.getD (z % (cs.length : Int)).toNat 0
theorem atJ_read {cs : List Int} (h : 1 ≤ cs.length) (z : Int) : atI (cs.map V.int) (z % (((cs.map V.int).length : Nat) : Int)) = some (.int (atJ cs z)) := by
  rw [List.length_map]
  have h1 := Int.emod_lt_of_pos z (show (0 : Int) < (cs.length : Int) by omega)
  have h2 := Int.emod_nonneg z (show (cs.length : Int) ≠ 0 by omega)
  refine at_of (j := (z % (cs.length : Int)).toNat) (by omega) ?_
  unfold atJ
  rw [List.getElem?_map, List.getD_eq_getElem?_getD, List.getElem?_eq_getElem (by omega)] <;> rfl
theorem CeOk.pos {H : Hp} {a : Addr} {cs : List Int} (h : CeOk H a cs) : (0 : Int) < (((cs.map V.int).length : Nat) : Int) := by
  rw [List.length_map]
  have := h.l1
  omega
theorem NmOk.pos {H : Hp} {a : Addr} {ns : List Str} (h : NmOk H a ns) : (0 : Int) < (((ns.map V.str).length : Nat) : Int) := by
  rw [List.length_map]
  have := h.l1
  omega
theorem c64 {i j : Int} (h1 : -(2 ^ 64) < i) (h2 : i < 2 ^ 64) : CMul i j := .inl ⟨h1, h2⟩
theorem cdiv {j : Int} (i : Int) (h1 : 0 < j) (h2 : j < 1073741824) : CDiv i j := ⟨h1, h2⟩
theorem fit_num {n : Int} : fit (tD (.num n)) = true := by
  have e : PyData.strOk "number" = true := by decide +kernel
  simp [tD, fit, fitA, e]
theorem fit_size {k : Knd} (h : fit (kD k) = true) : fit (tD (.size k)) = true := by
  have e : PyData.strOk "size" = true := by decide +kernel
  simp [tD, fit, fitA, e, h]
theorem fit_pairs {k l : Knd} (h : fit (kD k) = true) (h' : fit (kD l) = true) : fit (tD (.pairs k l)) = true := by
  have e : PyData.strOk "pairs" = true := by decide +kernel
  simp [tD, fit, fitA, e, h, h']
theorem fit_cnt {w : W3} {x y : Str} (h : PyData.strOk x = true) (h' : PyData.strOk y = true) : fit (tD (.cnt w x y)) = true := by
  have e : PyData.strOk (cntW w) = true := by cases w <;> decide +kernel
  simp [tD, fit, fitA, e, h, h']
theorem fit_times {n : Int} {t : Trm} (h : fit (tD t) = true) : fit (tD (.times n t)) = true := by
  have e : PyData.strOk "times" = true := by decide +kernel
  simp [tD, fit, fitA, e, h]
theorem fit_two {w : W3} {t u : Trm} (h : fit (tD t) = true) (h' : fit (tD u) = true) : fit (tD (.two w t u)) = true := by
  have e : PyData.strOk (twoW w) = true := by cases w <;> decide +kernel
  simp [tD, fit, fitA, e, h, h']
abbrev sTe : Stmt := top 41
def spTe (n : Nat) : Sp := fun vs H Q _ => ∃ (c : Addr) (z y : Int) (d : Nat) (a : Addr) (cs : List Int) (ns : List Str), vs = [.ref c, .int z, .int y, .ref a] ∧ y = (d : Int) ∧ d < n ∧ CeOk H c cs ∧ NmOk H a ns ∧
  ∀ (t : Trm) (v : V) (H' : Hp), Same H H' → Dt H' v (tD t) → fit (tD t) = true → tH t ≤ d + 2 → (∀ x ∈ tN t, x ∈ ns) → Q v H'
abbrev NTe : List Str := ["_law_cells", "_law_at", "_law_deep", "_law_names_here", "_law_cell", "_law_some", "_law_way", "_law_one_here"]
abbrev PTe : List Str := ["_law_cells", "_law_at", "_law_deep", "_law_names_here"]
section
variable {P : Program} {w : World} {K : PySem.W.Frag} {mg : Str → Option Value} {base : Heap}
theorem scTe : FnScope NTe PTe (defScope sTe) := ⟨rfl, rfl, rfl, by decide +kernel, rfl, by decide +kernel, by decide +kernel⟩
theorem ok_Te1 {n : Nat} (D : Def K mg "_law_term" sTe PTe) (T : Txt K mg) (cK : Cal P w K mg base CX0 "_law_kind" 1 ["_law_cell", "_law_names_here"] spKi) (cT : Cal P w K mg base CX0 "_law_term" (n + 2) PTe (spTe n)) : Cal P w K mg base CX0 "_law_term" (n + 1 + 2) PTe (spTe (n + 1)) := by
  obtain ⟨fK, fdK, mK, FK, kK, bK⟩ := cK
  obtain ⟨fT, fdT, mT, FT, kT, bT⟩ := cT
  refine D.ok scTe (fun vs H Q E h => ?_) (fun fa cdv A outer s H vs Q E hr h => ?_)
  · obtain ⟨c, z, y, d, a, cs, ns, rfl, _⟩ := h
    rfl
  obtain ⟨c, z, y, d, a, cs, ns, rfl, hy, hdn, hC, hN, q⟩ := h
  have hr1 : Room 1 _ := hr.mono (by omega)
  refine ⟨_, pss_cons (ps_set (i := 4) scTe.nd rfl (Or.inl rfl) (pe_ix ix_list (pv 0) (pe_op op_mod (pv 1) (pe_callB call_len_seq (by rfl) T.len PySem.boot_len (pa_cons (pv 0) pa_nil))) (fun _ _ => rfl)))
    (pss_cons (ps_set (i := 5) scTe.nd rfl (Or.inl rfl) (pe_op op_fdiv (pv 4) pe_int))
    (pss_cons (ps_set (i := 6) scTe.nd rfl (Or.inl rfl) (pe_op op_mod (pv 4) pe_int))
    (C8.pss_cut (ps_if (pt_cmpR op_eq (pv 2) pe_int (nomark _)) (pss_one (ps_set (i := 6) scTe.nd rfl (Or.inl rfl) (pe_op op_mod (pv 6) pe_int))) pss_nil)
    (pss_cons (ps_if (pt_cmpR op_eq (pv 6) pe_int (nomark _)) (pss_one (ps_ret (pe_tup (pa_cons pe_str (pa_cons (pe_op op_sub (pe_op op_mod (pv 5) pe_int) pe_int) pa_nil))))) pss_nil)
    (pss_cons (ps_if (pt_cmpR op_eq (pv 6) pe_int (nomark _)) (pss_one (ps_ret (pe_tup (pa_cons pe_str (pa_cons (pe_call FK hr1 rfl mK kK bK .nil pass0 (pa_cons (pv 5) (pa_cons (pv 3) pa_nil))) pa_nil))))) pss_nil)
    (pss_cons (ps_if (pt_cmpR op_eq (pv 6) pe_int (nomark _)) (pss_one (ps_ret (pe_tup (pa_cons pe_str (pa_cons (pe_call FK hr1 rfl mK kK bK .nil pass0 (pa_cons (pv 5) (pa_cons (pv 3) pa_nil))) (pa_cons (pe_call FK hr1 rfl mK kK bK .nil pass0 (pa_cons (pe_op op_fdiv (pv 5) pe_int) (pa_cons (pv 3) pa_nil))) pa_nil)))))) pss_nil)
    (pss_cons (ps_if (pt_cmpR op_lt (pv 6) pe_int (nomark _)) (pss_one (ps_ret (pe_tup (pa_cons (pe_ix ix_list (pe_lst (pa_cons pe_str (pa_cons pe_str (pa_cons pe_str pa_nil)))) (pe_op op_sub (pv 6) pe_int) (fun _ _ => rfl))
        (pa_cons (pe_ix ix_list (pv 3) (pe_op op_mod (pv 5) (pe_callB call_len_seq (by rfl) T.len PySem.boot_len (pa_cons (pv 3) pa_nil))) (fun _ _ => rfl))
        (pa_cons (pe_ix ix_list (pv 3) (pe_op op_mod (pe_op op_fdiv (pv 5) pe_int) (pe_callB call_len_seq (by rfl) T.len PySem.boot_len (pa_cons (pv 3) pa_nil))) (fun _ _ => rfl)) pa_nil)))))) pss_nil)
    (pss_cons (ps_set (i := 7) scTe.nd rfl (Or.inl rfl) (pe_call FT hr rfl mT kT bT .nil pass0 (pa_cons (pv 0) (pa_cons (pe_op op_add (pe_op op_mul pe_int (pv 1)) pe_int) (pa_cons (pe_op op_sub (pv 2) pe_int) (pa_cons (pv 3) pa_nil))))))
    (pss_cons (ps_if (pt_cmpR op_eq (pv 6) pe_int (nomark _)) (pss_one (ps_ret (pe_tup (pa_cons pe_str (pa_cons (pe_op op_mod (pv 5) pe_int) (pa_cons (pv 7) pa_nil)))))) pss_nil)
    (pss_one (ps_ret (pe_tup (pa_cons (pe_ix ix_list (pe_lst (pa_cons pe_str (pa_cons pe_str (pa_cons pe_str pa_nil)))) (pe_op op_mod (pv 5) pe_int) (fun _ _ => rfl)) (pa_cons (pv 7)
      (pa_cons (pe_call FT hr rfl mT kT bT .nil pass0 (pa_cons (pv 0) (pa_cons (pe_op op_add (pe_op op_mul pe_int (pv 1)) pe_int) (pa_cons (pe_op op_sub (pv 2) pe_int) (pa_cons (pv 3) pa_nil))))) pa_nil))))))))))))))), ?_⟩
  refine ⟨_, rfl, _, rfl, _, rfl, c, _, rfl, .inl (SqL.of hC.at_), _, _, rfl, rfl, hC.pos, c, _, _, _, rfl, rfl, SqL.of hC.at_, atJ_read hC.l1 z, ?_⟩
  obtain ⟨m, em⟩ : ∃ m, atJ cs z = m := ⟨_, rfl⟩
  rw [em]
  refine ⟨_, rfl, _, _, rfl, rfl, cdiv _ (show (0 : Int) < 9 by decide) (by decide), ?_⟩
  refine ⟨_, rfl, _, _, rfl, rfl, (show (0 : Int) < 9 by decide), ?_⟩
  have hm := Int.emod_lt_of_pos m (show (0 : Int) < 9 by decide)
  have hm0 := Int.emod_nonneg m (show (9 : Int) ≠ 0 by decide)
  have hm6 := Int.emod_lt_of_pos (m % 9) (show (0 : Int) < 6 by decide)
  have hm60 := Int.emod_nonneg (m % 9) (show (6 : Int) ≠ 0 by decide)
  refine ⟨fun σ' H' => H' = H ∧ ∃ u : Int, σ' = [some (.ref c), some (.int z), some (.int y), some (.ref a), some (.int m), some (.int (m / 9)), some (.int u), none] ∧ 0 ≤ u ∧ u ≤ 8 ∧ (d = 0 → u ≤ 5), ?_, ?_⟩
  · refine ⟨_, rfl, rfl, _, rfl, ?_⟩
    by_cases h0 : y = 0
    · refine if_bt (by simp [h0]) ?_
      exact ⟨_, rfl, _, _, rfl, rfl, (show (0 : Int) < 6 by decide), rfl, _, rfl, hm60, by omega, fun _ => by omega⟩
    · refine if_bf (by simp [h0]) ?_
      exact ⟨rfl, _, rfl, hm0, by omega, fun e => absurd (by rw [hy, e] <;> rfl) h0⟩
  rintro σ' H' ⟨rfl, u, rfl, hu0, hu8, hud⟩
  refine ⟨_, rfl, rfl, _, rfl, ?_⟩
  by_cases c0 : u = 0
  · refine if_bt (by simp [c0]) ⟨_, rfl, _, _, rfl, rfl, (show (0 : Int) < 7 by decide), _, _, rfl, rfl, (by show 2 ≤ sizeLine; decide), fun t ht => ?_⟩
    exact q (.num _) _ _ (same_new ht _) (.tup upd_same (.cons (.str _) (.cons (.int _) .nil))) fit_num (by show 1 ≤ d + 2; omega) mem_n
  refine if_bf (by simp [c0]) ⟨_, rfl, rfl, _, rfl, ?_⟩
  by_cases c1 : u = 1
  · refine if_bt (by simp [c1]) ⟨_, rfl, _, rfl, _, a, ns, rfl, hN, fun k v H1 s1 hv hf hx => ⟨(by show 2 ≤ sizeLine; decide), fun t ht => ?_⟩⟩
    exact q (.size k) _ _ (s1.trans (same_new ht _)) (.tup upd_same (.cons (.str _) (.cons (hv.same (same_new ht _)) .nil))) (fit_size hf) (by show 2 ≤ d + 2; omega) hx
  refine if_bf (by simp [c1]) ⟨_, rfl, rfl, _, rfl, ?_⟩
  by_cases c5 : u = 5
  · refine if_bt (by simp [c5]) ⟨_, rfl, _, rfl, _, a, ns, rfl, hN, fun k v H1 s1 hv hf hx => ?_⟩
    refine ⟨_, rfl, _, _, rfl, rfl, cdiv _ (show (0 : Int) < 24 by decide) (by decide), _, rfl, _, a, ns, rfl, hN.same s1, fun l v' H2 s2 hv' hf' hx' => ⟨(by show 3 ≤ sizeLine; decide), fun t ht => ?_⟩⟩
    exact q (.pairs k l) _ _ ((s1.trans s2).trans (same_new ht _)) (.tup upd_same (.cons (.str _) (.cons ((hv.same s2).same (same_new ht _)) (.cons (hv'.same (same_new ht _)) .nil)))) (fit_pairs hf hf') (by show 2 ≤ d + 2; omega) (mem2 hx hx')
  refine if_bf (by simp [c5]) ⟨_, rfl, _, _, rfl, rfl, _, rfl, ?_⟩
  by_cases c4 : u < 5
  · refine if_bt (by simpa using c4) ⟨(by show 3 ≤ sizeLine; decide), fun l hl => ?_⟩
    obtain ⟨wd, hw⟩ : ∃ wd : W3, atI [V.str "flow", V.str "apart", V.str "bare"] (u - 2) = some (.str (cntW wd)) := by
      obtain rfl | rfl | rfl : u = 2 ∨ u = 3 ∨ u = 4 := by omega
      · exact ⟨.a, at_of (j := 0) (by omega) rfl⟩
      · exact ⟨.b, at_of (j := 1) (by omega) rfl⟩
      · exact ⟨.c, at_of (j := 2) (by omega) rfl⟩
    have s1 := same_new hl (.lst [V.str "flow", V.str "apart", V.str "bare"])
    have hn1 := s1 _ _ hN.at_
    refine ⟨_, rfl, _, _, rfl, rfl, l, _, _, _, rfl, rfl, SqL.of upd_same, hw, ?_⟩
    refine ⟨_, rfl, _, rfl, _, rfl, a, _, rfl, .inl (SqL.of hn1), _, _, rfl, rfl, hN.pos, a, _, _, _, rfl, rfl, SqL.of hn1, at_read hN.l1 (m / 9), ?_⟩
    refine ⟨_, rfl, _, rfl, _, _, rfl, rfl, cdiv _ (show (0 : Int) < 7 by decide) (by decide), _, rfl, a, _, rfl, .inl (SqL.of hn1), _, _, rfl, rfl, hN.pos, a, _, _, _, rfl, rfl, SqL.of hn1, at_read hN.l1 (m / 9 / 7), ?_⟩
    refine ⟨(by show 3 ≤ sizeLine; decide), fun t ht => ?_⟩
    exact q (.cnt wd _ _) _ _ (s1.trans (same_new ht _)) (.tup upd_same (.cons (.str _) (.cons (.str _) (.cons (.str _) .nil)))) (fit_cnt (hN.ok _ (at_mem hN.l1 _)) (hN.ok _ (at_mem hN.l1 _))) (by show 1 ≤ d + 2; omega) (mem_c (at_mem hN.l1 _) (mem_c (at_mem hN.l1 _) mem_n))
  refine if_bf (by simpa using c4) ?_
  have hd1 : 1 ≤ d := by
    rcases Nat.eq_zero_or_pos d with e | e
    · have := hud e
      omega
    · exact e
  refine ⟨_, rfl, _, rfl, _, _, rfl, rfl, c64 (by decide) (by decide), _, _, rfl, rfl, _, rfl, _, _, rfl, rfl, _, rfl, c, _, _, d - 1, a, cs, ns, rfl, by omega, by omega, hC, hN, fun t v H1 s1 hv hf hh hx => ?_⟩
  refine ⟨_, rfl, rfl, _, rfl, ?_⟩
  by_cases c8 : u = 8
  · refine if_bt (by simp [c8]) ⟨_, rfl, _, _, rfl, rfl, (show (0 : Int) < 4 by decide), _, rfl, (by show 3 ≤ sizeLine; decide), fun r hr' => ?_⟩
    exact q (.times _ t) _ _ (s1.trans (same_new hr' _)) (.tup upd_same (.cons (.str _) (.cons (.int _) (.cons (hv.same (same_new hr' _)) .nil)))) (fit_times hf) (by show tH t + 1 ≤ d + 2; omega) hx
  refine if_bf (by simp [c8]) ⟨(by show 3 ≤ sizeLine; decide), fun l hl => ?_⟩
  have hm3 := Int.emod_lt_of_pos (m / 9) (show (0 : Int) < 3 by decide)
  have hm30 := Int.emod_nonneg (m / 9) (show (3 : Int) ≠ 0 by decide)
  obtain ⟨wd, hw⟩ : ∃ wd : W3, atI [V.str "plus", V.str "least", V.str "most"] (m / 9 % 3) = some (.str (twoW wd)) := by
    obtain e | e | e : m / 9 % 3 = 0 ∨ m / 9 % 3 = 1 ∨ m / 9 % 3 = 2 := by omega
    · exact ⟨.a, at_of (j := 0) (by omega) rfl⟩
    · exact ⟨.b, at_of (j := 1) (by omega) rfl⟩
    · exact ⟨.c, at_of (j := 2) (by omega) rfl⟩
  have s2 := same_new hl (.lst [V.str "plus", V.str "least", V.str "most"])
  refine ⟨_, rfl, _, _, rfl, rfl, (show (0 : Int) < 3 by decide), l, _, _, _, rfl, rfl, SqL.of upd_same, hw, ?_⟩
  refine ⟨_, rfl, _, rfl, _, rfl, _, _, rfl, rfl, c64 (by decide) (by decide), _, _, rfl, rfl, _, rfl, _, _, rfl, rfl, _, rfl, c, _, _, d - 1, a, cs, ns, rfl, by omega, by omega, (hC.same s1).same s2, (hN.same s1).same s2, fun t' v' H3 s3 hv' hf' hh' hx' => ?_⟩
  refine ⟨(by show 3 ≤ sizeLine; decide), fun r hr' => ?_⟩
  exact q (.two wd t t') _ _ (((s1.trans s2).trans s3).trans (same_new hr' _)) (.tup upd_same (.cons (.str _) (.cons (((hv.same s2).same s3).same (same_new hr' _)) (.cons (hv'.same (same_new hr' _)) .nil)))) (fit_two hf hf') (by show max (tH t) (tH t') + 1 ≤ d + 2; omega) (mem2 hx hx')
theorem ok_Te (D : Def K mg "_law_term" sTe PTe) (T : Txt K mg) (cK : Cal P w K mg base CX0 "_law_kind" 1 ["_law_cell", "_law_names_here"] spKi) : ∀ n, Cal P w K mg base CX0 "_law_term" (n + 2) PTe (spTe n)
  | 0 => Cal.never D fun vs H Q E h => by
    obtain ⟨c, z, y, d, a, cs, ns, _, _, h0, _⟩ := h
    omega
  | n + 1 => ok_Te1 D T cK (ok_Te D T cK n)
end
end K71
/-! _law_claim. -/
namespace K71
open PySem L2
theorem fit_way {x y : Str} (h : PyData.strOk x = true) (h' : PyData.strOk y = true) : fit (cD (.way x y)) = true := by
  have e : PyData.strOk "way" = true := by decide +kernel
  simp [cD, fit, fitA, e, h, h']
theorem fit_cost {x y : Str} {k : Int} (h : PyData.strOk x = true) (h' : PyData.strOk y = true) : fit (cD (.cost x y k)) = true := by
  have e : PyData.strOk "cost" = true := by decide +kernel
  simp [cD, fit, fitA, e, h, h']
theorem fit_ring {r : Bool} : fit (cD (.ring r)) = true := by
  have e : PyData.strOk (ringW r) = true := by cases r <;> decide +kernel
  simp [cD, fit, fitA, e]
theorem fit_must {x y z : Str} (h : PyData.strOk x = true) (h' : PyData.strOk y = true) (h'' : PyData.strOk z = true) : fit (cD (.must x y z)) = true := by
  have e : PyData.strOk "must" = true := by decide +kernel
  simp [cD, fit, fitA, e, h, h', h'']
theorem fit_atmost {t u : Trm} (h : fit (tD t) = true) (h' : fit (tD u) = true) : fit (cD (.atmost t u)) = true := by
  have e : PyData.strOk "atmost" = true := by decide +kernel
  simp [cD, fit, fitA, e, h, h']
theorem fit_neg {c : Clm} (h : fit (cD c) = true) : fit (cD (.neg c)) = true := by
  have e : PyData.strOk "not" = true := by decide +kernel
  simp [cD, fit, fitA, e, h]
theorem fit_bin {r : Bool} {c d : Clm} (h : fit (cD c) = true) (h' : fit (cD d) = true) : fit (cD (.bin r c d)) = true := by
  have e : PyData.strOk (binW r) = true := by cases r <;> decide +kernel
  simp [cD, fit, fitA, e, h, h']
theorem fit_qua {r : Bool} {x : Str} {k : Knd} {c : Clm} (h : PyData.strOk x = true) (h' : fit (kD k) = true) (h'' : fit (cD c) = true) : fit (cD (.qua r x k c)) = true := by
  have e : PyData.strOk (quaW r) = true := by cases r <;> decide +kernel
  simp [cD, fit, fitA, e, h, h', h'']
abbrev sCl : Stmt := top 42
def spCl (n : Nat) : Sp := fun vs H Q _ => ∃ (c : Addr) (z y : Int) (d : Nat) (a : Addr) (cs : List Int) (ns : List Str), vs = [.ref c, .int z, .int y, .ref a] ∧ y = (d : Int) ∧ d < n ∧ CeOk H c cs ∧ NmOk H a ns ∧ ns.length + d ≤ 100 ∧
  ∀ (t : Clm) (v : V) (H' : Hp), Same H H' → Dt H' v (cD t) → fit (cD t) = true → cH t ≤ d + 4 → (∀ x ∈ cN t, x ∈ ns) → Q v H'
abbrev NCl : List Str := ["_law_cells", "_law_at", "_law_deep", "_law_names_here", "_law_cell", "_law_some", "_law_a", "_law_b", "_law_way", "_law_one_here", "_law_variable", "_law_inner"]
section
variable {P : Program} {w : World} {K : PySem.W.Frag} {mg : Str → Option Value} {base : Heap}
theorem scCl : FnScope NCl PTe (defScope sCl) := ⟨rfl, rfl, rfl, by decide +kernel, rfl, by decide +kernel, by decide +kernel⟩
theorem ok_Cl1 {n : Nat} (D : Def K mg "_law_claim" sCl PTe) (T : Txt K mg) (cK : Cal P w K mg base CX0 "_law_kind" 1 ["_law_cell", "_law_names_here"] spKi) (cT : Cal P w K mg base CX0 "_law_term" 4 PTe (spTe 2)) (cC : Cal P w K mg base CX0 "_law_claim" (n + 5) PTe (spCl n)) :
    Cal P w K mg base CX0 "_law_claim" (n + 1 + 5) PTe (spCl (n + 1)) := by
  obtain ⟨fK, fdK, mK, FK, kK, bK⟩ := cK
  obtain ⟨fT, fdT, mT, FT, kT, bT⟩ := cT
  obtain ⟨fC, fdC, mC, FC, kC, bC⟩ := cC
  refine D.ok scCl (fun vs H Q E h => ?_) (fun fa cdv A outer s H vs Q E hr h => ?_)
  · obtain ⟨c, z, y, d, a, cs, ns, rfl, _⟩ := h
    rfl
  obtain ⟨c, z, y, d, a, cs, ns, rfl, hy, hdn, hC, hN, h100, q⟩ := h
  have hr1 : Room 1 _ := hr.mono (by omega)
  have hr4 : Room 4 _ := hr.mono (by omega)
  refine ⟨_, pss_cons (ps_set (i := 4) scCl.nd rfl (Or.inl rfl) (pe_ix ix_list (pv 0) (pe_op op_mod (pv 1) (pe_callB call_len_seq (by rfl) T.len PySem.boot_len (pa_cons (pv 0) pa_nil))) (fun _ _ => rfl)))
    (pss_cons (ps_set (i := 5) scCl.nd rfl (Or.inl rfl) (pe_op op_fdiv (pv 4) pe_int))
    (pss_cons (ps_set (i := 6) scCl.nd rfl (Or.inl rfl) (pe_ix ix_list (pv 3) (pe_op op_mod (pv 5) (pe_callB call_len_seq (by rfl) T.len PySem.boot_len (pa_cons (pv 3) pa_nil))) (fun _ _ => rfl)))
    (pss_cons (ps_set (i := 7) scCl.nd rfl (Or.inl rfl) (pe_ix ix_list (pv 3) (pe_op op_mod (pe_op op_fdiv (pv 5) pe_int) (pe_callB call_len_seq (by rfl) T.len PySem.boot_len (pa_cons (pv 3) pa_nil))) (fun _ _ => rfl)))
    (pss_cons (ps_set (i := 8) scCl.nd rfl (Or.inl rfl) (pe_op op_mod (pv 4) pe_int))
    (C8.pss_cut (ps_if (pt_cmpR op_eq (pv 2) pe_int (nomark _)) (pss_one (ps_set (i := 8) scCl.nd rfl (Or.inl rfl) (pe_op op_mod (pv 8) pe_int))) pss_nil)
    (C8.pss_cut (ps_if (PW.pt (pw_and (pt_cmpR op_eq (pv 2) pe_int (nomark _)) (pw_and1 (pt_cmpR op_gt (pv 8) pe_int (nomark _))))) (pss_one (ps_set (i := 8) scCl.nd rfl (Or.inl rfl) (pe_op op_sub (pv 8) pe_int))) pss_nil)
    (pss_cons (ps_if (pt_cmpR op_eq (pv 8) pe_int (nomark _)) (pss_one (ps_ret (pe_tup (pa_cons pe_str (pa_cons (pv 6) (pa_cons (pv 7) pa_nil)))))) pss_nil)
    (pss_cons (ps_if (pt_cmpR op_eq (pv 8) pe_int (nomark _)) (pss_one (ps_ret (pe_tup (pa_cons pe_str (pa_cons (pv 6) (pa_cons (pv 7) (pa_cons (pe_op op_sub (pe_op op_mod (pe_op op_fdiv (pv 5) pe_int) pe_int) pe_int) pa_nil))))))) pss_nil)
    (pss_cons (ps_if (pt_cmpR op_eq (pv 8) pe_int (nomark _)) (pss_one (ps_ret (pe_tup (pa_cons (pe_ix ix_list (pe_lst (pa_cons pe_str (pa_cons pe_str pa_nil))) (pe_op op_mod (pv 5) pe_int) (fun _ _ => rfl)) pa_nil)))) pss_nil)
    (pss_cons (ps_if (pt_cmpR op_eq (pv 8) pe_int (nomark _)) (pss_one (ps_ret (pe_tup (pa_cons pe_str (pa_cons (pv 6) (pa_cons (pv 7) (pa_cons (pe_ix ix_list (pv 3) (pe_op op_mod (pe_op op_fdiv (pv 5) pe_int) (pe_callB call_len_seq (by rfl) T.len PySem.boot_len (pa_cons (pv 3) pa_nil))) (fun _ _ => rfl)) pa_nil))))))) pss_nil)
    (pss_cons (ps_if (pt_cmpR op_lt (pv 8) pe_int (nomark _)) (pss_one (ps_ret (pe_tup (pa_cons pe_str
        (pa_cons (pe_call FT hr4 rfl mT kT bT .nil pass0 (pa_cons (pv 0) (pa_cons (pe_op op_add (pv 1) pe_int) (pa_cons (pe_op op_mod (pv 5) pe_int) (pa_cons (pv 3) pa_nil)))))
        (pa_cons (pe_call FT hr4 rfl mT kT bT .nil pass0 (pa_cons (pv 0) (pa_cons (pe_op op_add (pv 1) pe_int) (pa_cons (pe_op op_mod (pe_op op_fdiv (pv 5) pe_int) pe_int) (pa_cons (pv 3) pa_nil))))) pa_nil)))))) pss_nil)
    (pss_cons (ps_set (i := 9) scCl.nd rfl (Or.inl rfl) (pe_call FC hr rfl mC kC bC .nil pass0 (pa_cons (pv 0) (pa_cons (pe_op op_add (pe_op op_mul pe_int (pv 1)) pe_int) (pa_cons (pe_op op_sub (pv 2) pe_int) (pa_cons (pv 3) pa_nil))))))
    (pss_cons (ps_if (pt_cmpR op_eq (pv 8) pe_int (nomark _)) (pss_one (ps_ret (pe_tup (pa_cons pe_str (pa_cons (pv 9) pa_nil))))) pss_nil)
    (pss_cons (ps_if (pt_cmpR op_lt (pv 8) pe_int (nomark _)) (pss_one (ps_ret (pe_tup (pa_cons (pe_ix ix_list (pe_lst (pa_cons pe_str (pa_cons pe_str pa_nil))) (pe_op op_sub (pv 8) pe_int) (fun _ _ => rfl)) (pa_cons (pv 9)
        (pa_cons (pe_call FC hr rfl mC kC bC .nil pass0 (pa_cons (pv 0) (pa_cons (pe_op op_add (pe_op op_mul pe_int (pv 1)) pe_int) (pa_cons (pe_op op_sub (pv 2) pe_int) (pa_cons (pv 3) pa_nil))))) pa_nil)))))) pss_nil)
    (pss_cons (ps_set (i := 10) scCl.nd rfl (Or.inl rfl) (pe_ix ix_list (pe_lst (pa_cons pe_str (pa_cons pe_str (pa_cons pe_str (pa_cons pe_str pa_nil))))) (pe_op op_mod (pe_op op_fdiv (pv 5) pe_int) pe_int) (fun _ _ => rfl)))
    (pss_cons (ps_set (i := 11) scCl.nd rfl (Or.inl rfl) (pe_call FC hr rfl mC kC bC .nil pass0 (pa_cons (pv 0) (pa_cons (pe_op op_add (pe_op op_mul pe_int (pv 1)) pe_int) (pa_cons (pe_op op_sub (pv 2) pe_int) (pa_cons (pe_op op_cat (pv 3) (pe_lst (pa_cons (pv 10) pa_nil))) pa_nil))))))
    (pss_one (ps_ret (pe_tup (pa_cons (pe_ix ix_list (pe_lst (pa_cons pe_str (pa_cons pe_str pa_nil))) (pe_op op_mod (pv 8) pe_int) (fun _ _ => rfl)) (pa_cons (pv 10) (pa_cons (pe_call FK hr1 rfl mK kK bK .nil pass0 (pa_cons (pv 5) (pa_cons (pv 3) pa_nil))) (pa_cons (pv 11) pa_nil))))))))))))))))))))))), ?_⟩
  refine ⟨_, rfl, _, rfl, _, rfl, c, _, rfl, .inl (SqL.of hC.at_), _, _, rfl, rfl, hC.pos, c, _, _, _, rfl, rfl, SqL.of hC.at_, atJ_read hC.l1 z, ?_⟩
  obtain ⟨m, em⟩ : ∃ m, atJ cs z = m := ⟨_, rfl⟩
  rw [em]
  refine ⟨_, rfl, _, _, rfl, rfl, cdiv _ (show (0 : Int) < 13 by decide) (by decide), ?_⟩
  refine ⟨_, rfl, _, rfl, _, rfl, a, _, rfl, .inl (SqL.of hN.at_), _, _, rfl, rfl, hN.pos, a, _, _, _, rfl, rfl, SqL.of hN.at_, at_read hN.l1 (m / 13), ?_⟩
  refine ⟨_, rfl, _, rfl, _, _, rfl, rfl, cdiv _ (show (0 : Int) < 7 by decide) (by decide), _, rfl, a, _, rfl, .inl (SqL.of hN.at_), _, _, rfl, rfl, hN.pos, a, _, _, _, rfl, rfl, SqL.of hN.at_, at_read hN.l1 (m / 13 / 7), ?_⟩
  refine ⟨_, rfl, _, _, rfl, rfl, (show (0 : Int) < 13 by decide), ?_⟩
  obtain ⟨x1, ex1⟩ : ∃ x, at_ ns (m / 13) = x := ⟨_, rfl⟩
  obtain ⟨x2, ex2⟩ : ∃ x, at_ ns (m / 13 / 7) = x := ⟨_, rfl⟩
  have i1 : x1 ∈ ns := by rw [← ex1]; exact at_mem hN.l1 _
  have i2 : x2 ∈ ns := by rw [← ex2]; exact at_mem hN.l1 _
  have o1 := hN.ok _ i1
  have o2 := hN.ok _ i2
  rw [ex1, ex2]
  have hm := Int.emod_lt_of_pos m (show (0 : Int) < 13 by decide)
  have hm0 := Int.emod_nonneg m (show (13 : Int) ≠ 0 by decide)
  have hm6 := Int.emod_lt_of_pos (m % 13) (show (0 : Int) < 7 by decide)
  have hm60 := Int.emod_nonneg (m % 13) (show (7 : Int) ≠ 0 by decide)
  refine ⟨fun σ' H' => H' = H ∧ ∃ u : Int, σ' = [some (.ref c), some (.int z), some (.int y), some (.ref a), some (.int m), some (.int (m / 13)), some (.str x1), some (.str x2), some (.int u), none, none, none] ∧ 0 ≤ u ∧ u ≤ 12 ∧ (d = 0 → u ≤ 6), ?_, ?_⟩
  · refine ⟨_, rfl, rfl, _, rfl, ?_⟩
    by_cases h0 : y = 0
    · refine if_bt (by simp [h0]) ?_
      exact ⟨_, rfl, _, _, rfl, rfl, (show (0 : Int) < 7 by decide), rfl, _, rfl, hm60, by omega, fun _ => by omega⟩
    · refine if_bf (by simp [h0]) ?_
      exact ⟨rfl, _, rfl, hm0, by omega, fun e => absurd (by rw [hy, e] <;> rfl) h0⟩
  rintro σ' H' ⟨rfl, u, rfl, hu0, hu12, hud⟩
  refine ⟨fun σ' H'' => H'' = H' ∧ ∃ u : Int, σ' = [some (.ref c), some (.int z), some (.int y), some (.ref a), some (.int m), some (.int (m / 13)), some (.str x1), some (.str x2), some (.int u), none, none, none] ∧ 0 ≤ u ∧ u ≤ 12 ∧ (d = 0 → u ≤ 6) ∧ (d = 1 → u ≤ 9), ?_, ?_⟩
  · refine ⟨_, rfl, rfl, _, rfl, ?_⟩
    by_cases h1 : y = 1
    · refine if_bt (by simp [h1]) ⟨_, rfl, _, _, rfl, rfl, _, rfl, ?_⟩
      by_cases h9 : 9 < u
      · refine if_bt (by simpa using h9) ?_
        exact ⟨_, rfl, _, _, rfl, rfl, rfl, _, rfl, by omega, by omega, fun _ => by omega, fun _ => by omega⟩
      · refine if_bf (by simpa using h9) ?_
        exact ⟨rfl, _, rfl, hu0, hu12, hud, fun _ => by omega⟩
    · refine if_bf (by simp [h1]) (if_bf rfl ?_)
      exact ⟨rfl, _, rfl, hu0, hu12, hud, fun e => absurd (by rw [hy, e] <;> rfl) h1⟩
  clear hud hu12 hu0 u
  rintro σ' H ⟨rfl, u, rfl, hu0, hu12, hud, hud1⟩
  refine ⟨_, rfl, rfl, _, rfl, ?_⟩
  by_cases c0 : u = 0
  · refine if_bt (by simp [c0]) ⟨_, rfl, _, rfl, (by show 3 ≤ sizeLine; decide), fun t ht => ?_⟩
    exact q (.way x1 x2) _ _ (same_new ht _) (.tup upd_same (.cons (.str _) (.cons (.str _) (.cons (.str _) .nil)))) (fit_way o1 o2) (by show 1 ≤ d + 4; omega) (mem_c i1 (mem_c i2 mem_n))
  refine if_bf (by simp [c0]) ⟨_, rfl, rfl, _, rfl, ?_⟩
  by_cases c1 : u = 1
  · refine if_bt (by simp [c1]) ⟨_, rfl, _, rfl, _, rfl, _, _, rfl, rfl, cdiv _ (show (0 : Int) < 49 by decide) (by decide), _, _, rfl, rfl, (show (0 : Int) < 13 by decide), _, _, rfl, rfl, (by show 4 ≤ sizeLine; decide), fun t ht => ?_⟩
    exact q (.cost x1 x2 _) _ _ (same_new ht _) (.tup upd_same (.cons (.str _) (.cons (.str _) (.cons (.str _) (.cons (.int _) .nil))))) (fit_cost o1 o2) (by show 1 ≤ d + 4; omega) (mem_c i1 (mem_c i2 mem_n))
  refine if_bf (by simp [c1]) ⟨_, rfl, rfl, _, rfl, ?_⟩
  have hm2 := Int.emod_lt_of_pos (m / 13) (show (0 : Int) < 2 by decide)
  have hm20 := Int.emod_nonneg (m / 13) (show (2 : Int) ≠ 0 by decide)
  by_cases c2 : u = 2
  · refine if_bt (by simp [c2]) ⟨(by show 2 ≤ sizeLine; decide), fun l hl => ?_⟩
    obtain ⟨wd, hw⟩ : ∃ wd : Bool, atI [V.str "ring", V.str "round"] (m / 13 % 2) = some (.str (ringW wd)) := by
      obtain e | e : m / 13 % 2 = 0 ∨ m / 13 % 2 = 1 := by omega
      · exact ⟨true, at_of (j := 0) (by omega) rfl⟩
      · exact ⟨false, at_of (j := 1) (by omega) rfl⟩
    refine ⟨_, rfl, _, _, rfl, rfl, (show (0 : Int) < 2 by decide), l, _, _, _, rfl, rfl, SqL.of upd_same, hw, (by show 1 ≤ sizeLine; decide), fun t ht => ?_⟩
    exact q (.ring wd) _ _ ((same_new hl _).trans (same_new ht _)) (.tup upd_same (.cons (.str _) .nil)) fit_ring (by show 1 ≤ d + 4; omega) mem_n
  refine if_bf (by simp [c2]) ⟨_, rfl, rfl, _, rfl, ?_⟩
  by_cases c3 : u = 3
  · refine if_bt (by simp [c3]) ⟨_, rfl, _, rfl, _, rfl, _, rfl, _, _, rfl, rfl, cdiv _ (show (0 : Int) < 49 by decide) (by decide), _, rfl, a, _, rfl, .inl (SqL.of hN.at_), _, _, rfl, rfl, hN.pos, a, _, _, _, rfl, rfl, SqL.of hN.at_, at_read hN.l1 (m / 13 / 49), (by show 4 ≤ sizeLine; decide), fun t ht => ?_⟩
    exact q (.must x1 x2 _) _ _ (same_new ht _) (.tup upd_same (.cons (.str _) (.cons (.str _) (.cons (.str _) (.cons (.str _) .nil))))) (fit_must o1 o2 (hN.ok _ (at_mem hN.l1 _))) (by show 1 ≤ d + 4; omega) (mem_c i1 (mem_c i2 (mem_c (at_mem hN.l1 _) mem_n)))
  refine if_bf (by simp [c3]) ⟨_, rfl, _, _, rfl, rfl, _, rfl, ?_⟩
  by_cases c7 : u < 7
  · refine if_bt (by simpa using c7) ?_
    have hm4 := Int.emod_lt_of_pos (m / 13 / 2) (show (0 : Int) < 2 by decide)
    have hm40 := Int.emod_nonneg (m / 13 / 2) (show (2 : Int) ≠ 0 by decide)
    refine ⟨_, rfl, _, rfl, _, _, rfl, rfl, _, rfl, _, _, rfl, rfl, (show (0 : Int) < 2 by decide), _, rfl, c, _, _, (m / 13 % 2).toNat, a, cs, ns, rfl, by omega, by omega, hC, hN, fun t v H1 s1 hv hf hh hx => ?_⟩
    refine ⟨_, rfl, _, rfl, _, _, rfl, rfl, _, rfl, _, _, rfl, rfl, cdiv _ (show (0 : Int) < 2 by decide) (by decide), _, _, rfl, rfl, (show (0 : Int) < 2 by decide), _, rfl, c, _, _, (m / 13 / 2 % 2).toNat, a, cs, ns, rfl, by omega, by omega, hC.same s1, hN.same s1, fun t' v' H2 s2 hv' hf' hh' hx' => ?_⟩
    refine ⟨(by show 3 ≤ sizeLine; decide), fun r hr' => ?_⟩
    exact q (.atmost t t') _ _ ((s1.trans s2).trans (same_new hr' _)) (.tup upd_same (.cons (.str _) (.cons ((hv.same s2).same (same_new hr' _)) (.cons (hv'.same (same_new hr' _)) .nil)))) (fit_atmost hf hf') (by show max (tH t) (tH t') + 1 ≤ d + 4; omega) (mem2 hx hx')
  refine if_bf (by simpa using c7) ?_
  have hd1 : 1 ≤ d := by
    rcases Nat.eq_zero_or_pos d with e | e
    · have := hud e
      omega
    · exact e
  refine ⟨_, rfl, _, rfl, _, _, rfl, rfl, c64 (by decide) (by decide), _, _, rfl, rfl, _, rfl, _, _, rfl, rfl, _, rfl, c, _, _, d - 1, a, cs, ns, rfl, by omega, by omega, hC, hN, by omega, fun t v H1 s1 hv hf hh hx => ?_⟩
  refine ⟨_, rfl, rfl, _, rfl, ?_⟩
  by_cases c8 : u = 7
  · refine if_bt (by simp [c8]) ⟨_, rfl, (by show 2 ≤ sizeLine; decide), fun r hr' => ?_⟩
    exact q (.neg t) _ _ (s1.trans (same_new hr' _)) (.tup upd_same (.cons (.str _) (.cons (hv.same (same_new hr' _)) .nil))) (fit_neg hf) (by show cH t + 1 ≤ d + 4; omega) hx
  refine if_bf (by simp [c8]) ⟨_, rfl, _, _, rfl, rfl, _, rfl, ?_⟩
  by_cases c10 : u < 10
  · refine if_bt (by simpa using c10) ⟨(by show 2 ≤ sizeLine; decide), fun l hl => ?_⟩
    obtain ⟨wd, hw⟩ : ∃ wd : Bool, atI [V.str "and", V.str "or"] (u - 8) = some (.str (binW wd)) := by
      obtain e | e : u - 8 = 0 ∨ u - 8 = 1 := by omega
      · exact ⟨true, at_of (j := 0) (by omega) rfl⟩
      · exact ⟨false, at_of (j := 1) (by omega) rfl⟩
    have s2 := same_new hl (.lst [V.str "and", V.str "or"])
    refine ⟨_, rfl, _, _, rfl, rfl, l, _, _, _, rfl, rfl, SqL.of upd_same, hw, ?_⟩
    refine ⟨_, rfl, _, rfl, _, rfl, _, _, rfl, rfl, c64 (by decide) (by decide), _, _, rfl, rfl, _, rfl, _, _, rfl, rfl, _, rfl, c, _, _, d - 1, a, cs, ns, rfl, by omega, by omega, (hC.same s1).same s2, (hN.same s1).same s2, by omega, fun t' v' H3 s3 hv' hf' hh' hx' => ?_⟩
    refine ⟨(by show 3 ≤ sizeLine; decide), fun r hr' => ?_⟩
    exact q (.bin wd t t') _ _ (((s1.trans s2).trans s3).trans (same_new hr' _)) (.tup upd_same (.cons (.str _) (.cons (((hv.same s2).same s3).same (same_new hr' _)) (.cons (hv'.same (same_new hr' _)) .nil)))) (fit_bin hf hf') (by show max (cH t) (cH t') + 1 ≤ d + 4; omega) (mem2 hx hx')
  refine if_bf (by simpa using c10) ⟨(by show 4 ≤ sizeLine; decide), fun l hl => ?_⟩
  have hd2 : 2 ≤ d := by
    rcases Nat.lt_or_ge d 2 with e | e
    · have := hud1 (by omega)
      omega
    · exact e
  have s2 := same_new hl (.lst [V.str "X", V.str "Y", V.str "XY", V.str "XYZ"])
  have hm4 := Int.emod_lt_of_pos (m / 13 / 3) (show (0 : Int) < 4 by decide)
  have hm40 := Int.emod_nonneg (m / 13 / 3) (show (4 : Int) ≠ 0 by decide)
  obtain ⟨x, hw, ox⟩ : ∃ x : Str, atI [V.str "X", V.str "Y", V.str "XY", V.str "XYZ"] (m / 13 / 3 % 4) = some (.str x) ∧ PyData.strOk x = true := by
    obtain e | e | e | e : m / 13 / 3 % 4 = 0 ∨ m / 13 / 3 % 4 = 1 ∨ m / 13 / 3 % 4 = 2 ∨ m / 13 / 3 % 4 = 3 := by omega
    · exact ⟨"X", at_of (j := 0) (by omega) rfl, by decide +kernel⟩
    · exact ⟨"Y", at_of (j := 1) (by omega) rfl, by decide +kernel⟩
    · exact ⟨"XY", at_of (j := 2) (by omega) rfl, by decide +kernel⟩
    · exact ⟨"XYZ", at_of (j := 3) (by omega) rfl, by decide +kernel⟩
  refine ⟨_, rfl, _, _, rfl, rfl, cdiv _ (show (0 : Int) < 3 by decide) (by decide), _, _, rfl, rfl, (show (0 : Int) < 4 by decide), l, _, _, _, rfl, rfl, SqL.of upd_same, hw, ?_⟩
  have n2 := (hN.same s1).same s2
  refine ⟨_, rfl, _, rfl, _, _, rfl, rfl, c64 (by decide) (by decide), _, _, rfl, rfl, _, rfl, _, _, rfl, rfl, _, rfl, _, rfl, (by show 1 ≤ sizeLine; decide), fun l2 hl2 => ?_⟩
  have s3 := same_new hl2 (.lst [V.str x])
  refine ⟨a, l2, _, _, rfl, rfl, s3 _ _ n2.at_, upd_same, ?_, fun l3 hl3 => ?_⟩
  · rw [len_map_str]
    show ns.length + 1 ≤ sizeLine
    exact small (by omega)
  have s4 := same_new hl3 (.lst (ns.map V.str ++ [V.str x]))
  have n4 := (n2.same s3).same s4
  have ne : ∀ H' : Hp, H' l3 = some (.lst (ns.map V.str ++ [V.str x])) → NmOk H' l3 (ns ++ [x]) := fun H' e => ⟨by rw [e, List.map_append] <;> rfl, by rw [List.length_append, List.length_singleton]; omega, by rw [List.length_append, List.length_singleton]; omega, mem2 hN.ok (mem_c ox mem_n)⟩
  refine ⟨c, _, _, d - 2, l3, cs, ns ++ [x], rfl, by omega, by omega, (((hC.same s1).same s2).same s3).same s4, ne _ upd_same, by rw [List.length_append, List.length_singleton]; omega, fun t' v' H5 s5 hv' hf' hh' hx' => ?_⟩
  refine ⟨(by show 2 ≤ sizeLine; decide), fun l6 hl6 => ?_⟩
  have s6 := same_new hl6 (.lst [V.str "each", V.str "some"])
  have hu2 := Int.emod_lt_of_pos u (show (0 : Int) < 2 by decide)
  have hu20 := Int.emod_nonneg u (show (2 : Int) ≠ 0 by decide)
  obtain ⟨wd, hwd⟩ : ∃ wd : Bool, atI [V.str "each", V.str "some"] (u % 2) = some (.str (quaW wd)) := by
    obtain e | e : u % 2 = 0 ∨ u % 2 = 1 := by omega
    · exact ⟨true, at_of (j := 0) (by omega) rfl⟩
    · exact ⟨false, at_of (j := 1) (by omega) rfl⟩
  refine ⟨_, rfl, _, _, rfl, rfl, (show (0 : Int) < 2 by decide), l6, _, _, _, rfl, rfl, SqL.of upd_same, hwd, ?_⟩
  refine ⟨_, rfl, _, rfl, _, rfl, _, a, ns, rfl, (n4.same s5).same s6, fun k vk H7 s7 hvk hfk hxk => ?_⟩
  refine ⟨_, rfl, (by show 4 ≤ sizeLine; decide), fun r hr' => ?_⟩
  refine q (.qua wd x k t') _ _ (((((s1.trans s2).trans (s3.trans s4)).trans s5).trans (s6.trans s7)).trans (same_new hr' _)) (.tup upd_same (.cons (.str _) (.cons (.str _) (.cons (hvk.same (same_new hr' _)) (.cons (((hv'.same s6).same s7).same (same_new hr' _)) .nil))))) (fit_qua ox hfk hf') (by show cH t' + 1 ≤ d + 4; omega) (mem2 hxk fun y hy => ?_)
  obtain ⟨hy1, hy2⟩ := List.mem_filter.mp hy
  rcases List.mem_append.mp (hx' y hy1) with e | e
  · exact e
  · rw [List.mem_singleton.mp e] at hy2
    simp at hy2
theorem ok_Cl (D : Def K mg "_law_claim" sCl PTe) (T : Txt K mg) (cK : Cal P w K mg base CX0 "_law_kind" 1 ["_law_cell", "_law_names_here"] spKi) (cT : Cal P w K mg base CX0 "_law_term" 4 PTe (spTe 2)) : ∀ n, Cal P w K mg base CX0 "_law_claim" (n + 5) PTe (spCl n)
  | 0 => Cal.never D fun vs H Q E h => by
    obtain ⟨c, z, y, d, a, cs, ns, _, _, h0, _⟩ := h
    omega
  | n + 1 => ok_Cl1 D T cK cT (ok_Cl D T cK cT n)
end
end K71
/-! put_in to the end; how many lists; what was told is spoiled. -/
namespace K71
open PySem L2
section
variable {P : Program} {w : World} {K : PySem.W.Frag} {mg : Str → Option Value} {base : Heap}
theorem ok_PC (D : Def K mg "put_in" sPC ["claim", "variable", "place"]) (T : Txt K mg) (cN : Cal P w K mg base CX0 "put_name" 1 ["name", "variable", "place"] spPN) (cS : Cal P w K mg base CX0 "put_in_set" 2 ["kind", "variable", "place"] spPS)
    (cT : Cal P w K mg base CX0 "put_in_term" 33 ["term", "variable", "place"] (spPT 30)) (cK : Cal P w K mg base CX0 "kept_claim" 41 ["claim"] (spKC 40)) : ∀ n, n ≤ 30 → Cal P w K mg base CX0 "put_in" (n + 42) ["claim", "variable", "place"] (spPC n)
  | 0, _ => Cal.never D fun vs H Q E h => by
    obtain ⟨v, x, p, c, _, h0, _⟩ := h
    have := cH_pos c
    omega
  | n + 1, h => ok_PC1 D T cN cS cT cK (by omega) (ok_PC D T cN cS cT cK n (by omega))
end
theorem nlA_strs : ∀ xs : List Str, nlA (xs.map PyData.str) = 0
  | [] => by simp [nlA]
  | x :: xs => by
    have ih := nlA_strs xs
    show nlA (.str x :: xs.map PyData.str) = 0
    simp only [nlA, nl, ih]
theorem kD_nl : ∀ k : Knd, nl (kD k) ≤ 1
  | .all => by simp [kD, nl, nlA]
  | .fr a => by simp [kD, nl, nlA]
  | .to a => by simp [kD, nl, nlA]
  | .these xs => by simp [kD, nl, nlA]
theorem pow_max (a b : Nat) : 2 ^ a + 2 ^ b ≤ 2 ^ (max a b + 1) := by
  have h1 : 2 ^ a ≤ 2 ^ max a b := Nat.pow_le_pow_right (by decide) (Nat.le_max_left _ _)
  have h2 : 2 ^ b ≤ 2 ^ max a b := Nat.pow_le_pow_right (by decide) (Nat.le_max_right _ _)
  rw [Nat.pow_succ]
  omega
theorem tD_nl : ∀ t : Trm, nl (tD t) ≤ 2 ^ tH t
  | .num n => by simp [tD, nl, nlA]
  | .size k => by
    have := kD_nl k
    simp only [tD, nl, nlA, tH]
    omega
  | .cnt w a b => by simp [tD, nl, nlA]
  | .pairs k l => by
    have := kD_nl k
    have := kD_nl l
    simp only [tD, nl, nlA, tH]
    omega
  | .times n t => by
    have := tD_nl t
    simp only [tD, nl, nlA, tH, Nat.pow_succ]
    omega
  | .two w t u => by
    have := tD_nl t
    have := tD_nl u
    have := pow_max (tH t) (tH u)
    simp only [tD, nl, nlA, tH]
    omega
theorem cD_nl : ∀ c : Clm, nl (cD c) ≤ 2 ^ cH c
  | .way a b => by simp [cD, nl, nlA]
  | .cost a b k => by simp [cD, nl, nlA]
  | .ring r => by simp [cD, nl, nlA]
  | .must a b x => by simp [cD, nl, nlA]
  | .atmost t u => by
    have := tD_nl t
    have := tD_nl u
    have := pow_max (tH t) (tH u)
    simp only [cD, nl, nlA, cH]
    omega
  | .neg c => by
    have := cD_nl c
    simp only [cD, nl, nlA, cH, Nat.pow_succ]
    omega
  | .bin r c d => by
    have := cD_nl c
    have := cD_nl d
    have := pow_max (cH c) (cH d)
    simp only [cD, nl, nlA, cH]
    omega
  | .qua r x k c => by
    have := cD_nl c
    have := kD_nl k
    have : 1 ≤ 2 ^ cH c := Nat.one_le_two_pow
    simp only [cD, nl, nlA, cH, Nat.pow_succ]
    omega
mutual
theorem Dq.sh2 {H : Hp} {P : Addr → Prop} : ∀ (d : PyData) (v : V), fit d = true → Dq H P v d → Sh H (fun a => P a ∧ ∃ xs, H a = some (.lst xs) ∧ xs.length ≤ 500) v d
  | .none, _, f, h => by rw [fit] at f; cases f
  | .bool _, _, f, h => by rw [fit] at f; cases f
  | .int _, _, f, h => by cases h; exact .int _
  | .str _, _, f, h => by cases h; exact .str _
  | .list ds, _, f, h => by
    rw [fit, Bool.and_eq_true] at f
    have := of_decide_eq_true f.1
    cases h with
    | lst h1 h2 h3 => exact .lst ⟨h2, _, h1, by rw [h3.len]; exact this⟩
  | .tuple ds, _, f, h => by
    rw [fit, Bool.and_eq_true] at f
    cases h with
    | tup h1 h2 => exact .tup h1 (DqA.sh2 ds _ f.2 h2)
  | .dict _, _, f, h => by rw [fit] at f; cases f
theorem DqA.sh2 {H : Hp} {P : Addr → Prop} : ∀ (ds : List PyData) (vs : List V), fitA ds = true → DqA H P vs ds → ShA H (fun a => P a ∧ ∃ xs, H a = some (.lst xs) ∧ xs.length ≤ 500) vs ds
  | [], _, f, h => by rw [h.nil_inv]; exact .nil
  | d :: ds, _, f, h => by
    rw [fitA, Bool.and_eq_true] at f
    obtain ⟨v, vs, rfl, h1, h2⟩ := h.cons_inv
    exact .cons (Dq.sh2 d v f.1 h1) (DqA.sh2 ds vs f.2 h2)
end
theorem ties_lay : ∀ {ts : List Tie} {ks : List Str}, (∀ t ∈ ts, TieOk ks t) → PyData.canLayAll0 (ts.map tieD) = true ∧ PyData.depthAll (ts.map tieD) ≤ 1
  | [], ks, _ => by simp [PyData.canLayAll0, PyData.depthAll]
  | t :: ts, ks, h => by
    obtain ⟨i1, i2⟩ := ties_lay (ts := ts) (ks := ks) fun u hu => h u (List.mem_cons_of_mem _ hu)
    obtain ⟨g1, g2, g3, _⟩ := h t List.mem_cons_self
    refine ⟨?_, ?_⟩
    · simp [tieD, PyData.canLay0, PyData.canLayAll0, i1, good_ok g1, good_ok g2, good_ok g3]
    · simp only [List.map_cons, tieD, PyData.depthAll, PyData.depth]
      omega
theorem sh_ties {ts : List Tie} {ks : List Str} (h : ∀ t ∈ ts, TieOk ks t) : SeqAt.shaped (.list (ts.map tieD)) = true := by
  obtain ⟨i1, i2⟩ := ties_lay h
  unfold SeqAt.shaped
  rw [Bool.and_eq_true]
  refine ⟨by simp only [PyData.canLay0, i1], decide_eq_true ?_⟩
  simp only [PyData.depth]
  omega
end K71
/-! law. -/
namespace K71
open PySem L2
abbrev sLaw : Stmt := top 50
abbrev NLaw : List Str := ["_law_script", "_law_places", "_law_ties", "_law_net_here", "_law_cells", "_law_k", "_law_cell", "_law_names_here", "_law_claim_here", "_law_place", "_law_copy_here", "_law_told"]
def spLaw (K : PySem.W.Frag) : Sp := fun vs H Q _ => ∃ (a : Addr) (ns : List Int), vs = [.ref a] ∧ SqL K H a (ns.map V.int) ∧ ns.length ≤ 63 ∧ ∀ H', Q (.bl true) H'
theorem ints_app (xs : List Int) (x : Int) : xs.map V.int ++ [V.int x] = (xs ++ [x]).map V.int := by rw [List.map_append] <;> rfl
theorem strs_app (xs : List Str) (x : Str) : xs.map V.str ++ [V.str x] = (xs ++ [x]).map V.str := by rw [List.map_append] <;> rfl
theorem cutI_all (ns : List Int) (lo hi : Option Int) : (cutI ns lo hi).length ≤ ns.length := by
  unfold cutI
  rw [List.length_take, List.length_drop]
  omega
section
variable {P : Program} {w : World} {K : PySem.W.Frag} {mg : Str → Option Value} {base : Heap} {C : Addr}
theorem scLaw : FnScope NLaw ["_law_script"] (defScope sLaw) := ⟨rfl, rfl, rfl, by decide +kernel, rfl, by decide +kernel, by decide +kernel⟩
theorem ok_Law {fL : Addr} {fdL : FuncData} (D : Fun K "law" "law" sLaw fL fdL) (T : Txt K mg) (N : NetT K mg C) (cPa : Cal P w K mg base CX0 "_law_parts" 2 ["_law_script"] (spPa K)) (cNet : Cal P w K mg base CX0 "_law_net" 4 ["_law_places", "_law_ties"] (spNet C))
    (cCe : Cal P w K mg base CX0 "_law_cell_at" 1 ["_law_script", "_law_k"] (spCe K)) (cCl : Cal P w K mg base CX0 "_law_claim" 10 PTe (spCl 5)) (cOn : Cal P w K mg base CX0 "_law_one" 42 ["_law_net_here", "_law_places", "_law_claim_here"] (spOn C))
    (cCo : Cal P w K mg base CX0 "_law_copy" 41 ["_law_claim_here"] (spKC 40)) (cPC : Cal P w K mg base CX0 "put_in" 54 ["claim", "variable", "place"] (spPC 12)) (cPu : Cal P w K mg base CX0 "_law_put" 13 ["_law_thing", "_law_place"] (spPu 12))
    (cCa : Cal P w K mg base CX0 "_law_caught" 29 ["_law_net_here", "_law_word", "_law_thing"] (spCa C)) (cSp : Cal P w K mg base CX0 "_law_spoil" 41 ["_law_thing"] (spSp 40))
    (cPl : MCal P w K mg base CX0 C "places" 1 ["self"] (spPl C)) (cTs : MCal P w K mg base CX0 C "ties" 1 ["self"] (spTs C)) : FnOk P w K mg base CX0 60 fL fdL ["_law_script"] (spLaw K) := by
  obtain ⟨fPa, fdPa, mPa, FPa, kPa, bPa⟩ := cPa
  obtain ⟨fNet, fdNet, mNet, FNet, kNet, bNet⟩ := cNet
  obtain ⟨fCe, fdCe, mCe, FCe, kCe, bCe⟩ := cCe
  obtain ⟨fCl, fdCl, mCl, FCl, kCl, bCl⟩ := cCl
  obtain ⟨fOn, fdOn, mOn, FOn, kOn, bOn⟩ := cOn
  obtain ⟨fCo, fdCo, mCo, FCo, kCo, bCo⟩ := cCo
  obtain ⟨fPC, fdPC, mPC, FPC, kPC, bPC⟩ := cPC
  obtain ⟨fPu, fdPu, mPu, FPu, kPu, bPu⟩ := cPu
  obtain ⟨fCa, fdCa, mCa, FCa, kCa, bCa⟩ := cCa
  obtain ⟨fSp, fdSp, mSp, FSp, kSp, bSp⟩ := cSp
  obtain ⟨fPl, fdPl, mPl, FPl, bPl⟩ := cPl
  obtain ⟨fTs, fdTs, mTs, FTs, bTs⟩ := cTs
  refine D.ok scLaw (fun vs H Q E h => ?_) (fun cdv A outer s H vs Q E hr h => ?_)
  · obtain ⟨a, ns, rfl, _⟩ := h
    rfl
  obtain ⟨a, ns, rfl, hs, h63, q⟩ := h
  have r1 : Room 1 _ := hr.mono (by omega)
  have r2 : Room 2 _ := hr.mono (by omega)
  have r4 : Room 4 _ := hr.mono (by omega)
  have r10 : Room 10 _ := hr.mono (by omega)
  have r13 : Room 13 _ := hr.mono (by omega)
  have r29 : Room 29 _ := hr.mono (by omega)
  have r41 : Room 41 _ := hr.mono (by omega)
  have r42 : Room 42 _ := hr.mono (by omega)
  have r54 : Room 54 _ := hr.mono (by omega)
  refine ⟨_, pss_cons (ps_asg (pe_call FPa r2 rfl mPa kPa bPa .nil pass0 (pa_cons (pv 0) pa_nil)) (pg_tup rfl (pgs_cons (pg_name (i := 1) scLaw.nd rfl (Or.inl rfl)) (pgs_cons (pg_name (i := 2) scLaw.nd rfl (Or.inl rfl)) pgs_nil))))
    (pss_cons (ps_set (i := 3) scLaw.nd rfl (Or.inl rfl) (pe_call FNet r4 rfl mNet kNet bNet .nil pass0 (pa_cons (pv 1) (pa_cons (pv 2) pa_nil))))
    (pss_cons (ps_set (i := 4) scLaw.nd rfl (Or.inl rfl) (pe_op op_cat (pe_slice sl_list (pv 0) (po_some pe_int) (po_some pe_int)) (pe_lst (pa_cons (pe_call FCe r1 rfl mCe kCe bCe .nil pass0 (pa_cons (pv 0) (pa_cons pe_int pa_nil))) pa_nil))))
    (pss_cons (ps_for PassesOwn.never rfl (pi_enum (by rfl) T.enum (pa_cons (pe_op op_cat (pe_slice sl_list (pv 0) (po_some pe_int) (po_some pe_int)) (pe_lst (pa_cons (pe_call FCe r1 rfl mCe kCe bCe .nil pass0 (pa_cons (pv 0) (pa_cons pe_int pa_nil))) pa_nil))) pa_nil))
        (pg_tup rfl (pgs_cons (pg_name (i := 5) scLaw.nd rfl (Or.inl rfl)) (pgs_cons (pg_name (i := 6) scLaw.nd rfl (Or.inl rfl)) pgs_nil)))
      (pss_cons (ps_set (i := 7) scLaw.nd rfl (Or.inl rfl) (pe_callTy call_list_of (by rfl) T.list (by decide +kernel) (pa_cons (pv 1) pa_nil)))
      (C8.pss_cut (ps_if (pt_cmpR op_eq (pe_op op_mod (pv 6) pe_int) pe_int (nomark _)) (pss_one (ps_set (i := 7) scLaw.nd rfl (Or.inl rfl) (pe_op op_cat (pe_op op_cat (pe_slice sl_list (pv 1) po_none (po_some (pe_op op_add pe_int (pe_op op_mod (pv 6) pe_int))))
          (pe_lst (pa_cons (pe_ix ix_list (pe_lst (pa_cons pe_str (pa_cons pe_str (pa_cons pe_str (pa_cons pe_str (pa_cons pe_str pa_nil)))))) (pe_op op_mod (pe_op op_fdiv (pv 6) pe_int) pe_int) (fun _ _ => rfl)) pa_nil)))
          (pe_slice sl_list (pv 1) (po_some pe_int) po_none)))) pss_nil)
      (pss_cons (ps_set (i := 8) scLaw.nd rfl (Or.inl rfl) (pe_call FCl r10 rfl mCl kCl bCl .nil pass0 (pa_cons (pv 4) (pa_cons (pe_op op_add (pv 5) (pv 6)) (pa_cons (pe_op op_add pe_int (pe_op op_mod (pv 6) pe_int)) (pa_cons (pv 7) pa_nil))))))
      (pss_cons (ps_if (pt_not (pt_val (pe_call FOn r42 rfl mOn kOn bOn .nil pass0 (pa_cons (pv 3) (pa_cons (pv 1) (pa_cons (pv 8) pa_nil)))))) (pss_one (ps_ret pe_bl)) pss_nil)
      (pss_cons (ps_set (i := 8) scLaw.nd rfl (Or.inl rfl) (pe_call FCl r10 rfl mCl kCl bCl .nil pass0 (pa_cons (pv 4) (pa_cons (pe_op op_add (pv 5) (pe_op op_fdiv (pv 6) pe_int)) (pa_cons (pe_op op_add pe_int (pe_op op_mod (pe_op op_fdiv (pv 6) pe_int) pe_int)) (pa_cons (pe_op op_cat (pv 1) (pe_lst (pa_cons pe_str pa_nil))) pa_nil))))))
      (pss_cons (ps_set (i := 9) scLaw.nd rfl (Or.inl rfl) (pe_ix ix_list (pv 1) (pe_op op_mod (pe_op op_fdiv (pv 6) pe_int) (pe_callB call_len_seq (by rfl) T.len PySem.boot_len (pa_cons (pv 1) pa_nil))) (fun _ _ => rfl)))
      (pss_cons (ps_set (i := 10) scLaw.nd rfl (Or.inl rfl) (pe_call FCo r41 rfl mCo kCo bCo .nil pass0 (pa_cons (pv 8) pa_nil)))
      (pss_cons (ps_set (i := 11) scLaw.nd rfl (Or.inl rfl) (pe_call FPC r54 rfl mPC kPC bPC .nil pass0 (pa_cons (pv 8) (pa_cons pe_str (pa_cons (pv 9) pa_nil)))))
      (pss_cons (ps_if (PW.pt (pw_or (pt_cmpR (op_neD hr.units) (pv 11) (pe_call FPu r13 rfl mPu kPu bPu .nil pass0 (pa_cons (pv 8) (pa_cons (pv 9) pa_nil))) (nomark _))
          (pw_or (pt_cmpR (op_neD hr.units) (pv 8) (pv 10) (nomark _))
          (pw_or1 (pt_cmpR (op_neD hr.units) (pe_call FCa r29 rfl mCa kCa bCa .nil pass0 (pa_cons (pv 3) (pa_cons pe_str (pa_cons (pv 11) pa_nil)))) (pe_lst (pa_cons pe_str (pa_cons pe_non pa_nil))) (nomark _)))))) (pss_one (ps_ret pe_bl)) pss_nil)
      (pss_cons (ps_expr (pe_call FSp r41 rfl mSp kSp bSp .nil pass0 (pa_cons (pv 11) pa_nil)))
      (pss_one (ps_if (pt_cmpR (op_neD hr.units) (pv 8) (pv 10) (nomark _)) (pss_one (ps_ret pe_bl)) pss_nil)))))))))))))
    (pss_one (ps_ret (pe_and (pe_cmpR (op_eqD hr.units) (pe_meth0 (pv 3) N.cl mPl FPl r1 bPl .nil pass0) (pv 1) (nomark _)) (pe_one (pe_cmpR (op_eqD hr.units) (pe_meth0 (pv 3) N.cl mTs FTs r1 bTs .nil pass0) (pv 2) (nomark _))))))))), ?_⟩
  refine ⟨_, rfl, a, ns, rfl, hs, fun t pa pb ks ts us H1 s1 et ep eb hd ok l1 l4 => ⟨t, _, rfl, SqT.of et, rfl, _, _, rfl, _, _, rfl, rfl, ?_⟩⟩
  refine ⟨_, rfl, _, rfl, pa, pb, ks, ts, us, rfl, ep, eb, hd, ok, fun p H2 hA => ?_⟩
  have s2 := hA.1
  have hs2 := sqL_same (s1.trans s2) hs
  refine ⟨_, rfl, _, rfl, _, rfl, a, _, rfl, hs2, fun sl hsl => ?_⟩
  have s3 := same_new hsl (.lst (cutV (ns.map V.int) (some 11) (some 40)))
  refine ⟨_, rfl, a, 3, ns, rfl, sqL_same s3 hs2, (by show 1 ≤ sizeLine; decide), fun l1' hl1 => ?_⟩
  have s4 := same_new hl1 (.lst [.int (ns.getD 3 0)])
  refine ⟨sl, l1', _, _, rfl, rfl, s4 _ _ upd_same, upd_same, ?_, fun cl hcl => ?_⟩
  · have := cutV_length (ns.map V.int) (some 11) (some 40)
    rw [List.length_map] at this
    show _ + 1 ≤ _
    exact small (by omega)
  have s5 := same_new hcl (.lst (cutV (ns.map V.int) (some 11) (some 40) ++ [.int (ns.getD 3 0)]))
  have hs5 := sqL_same (s3.trans (s4.trans s5)) hs2
  refine ⟨_, rfl, _, rfl, _, rfl, a, _, rfl, hs5, fun sm hsm => ?_⟩
  have s6 := same_new hsm (.lst (cutV (ns.map V.int) (some 40) (some 56)))
  refine ⟨_, rfl, a, 0, ns, rfl, sqL_same s6 hs5, (by show 1 ≤ sizeLine; decide), fun l2' hl2 => ?_⟩
  have s7 := same_new hl2 (.lst [.int (ns.getD 0 0)])
  refine ⟨sm, l2', _, _, rfl, rfl, s7 _ _ upd_same, upd_same, ?_, fun el hel => ?_⟩
  · have := cutV_length (ns.map V.int) (some 40) (some 56)
    rw [List.length_map] at this
    show _ + 1 ≤ _
    exact small (by omega)
  have s8 := same_new hel (.lst (cutV (ns.map V.int) (some 40) (some 56) ++ [.int (ns.getD 0 0)]))
  have hp2 := hA.1 _ _ ep
  have hb2 := hA.1 _ _ eb
  have hu2 := hd.same hA.1
  have hk := ok.good
  have hsk : ∀ x ∈ ks, PyData.strOk x = true := fun x hx => good_ok (hk x hx)
  have hpos : (0 : Int) < (((ks.map V.str).length : Nat) : Int) := by rw [List.length_map]; omega
  obtain ⟨cs, ecs⟩ : ∃ cs, cutI ns (some 11) (some 40) ++ [ns.getD 3 0] = cs := ⟨_, rfl⟩
  obtain ⟨es, ees⟩ : ∃ es, cutI ns (some 40) (some 56) ++ [ns.getD 0 0] = es := ⟨_, rfl⟩
  have hc1 : 1 ≤ cs.length := by rw [← ecs, List.length_append, List.length_singleton]; omega
  have shp : SeqAt.shaped (.list (ks.map PyData.str)) = true := sh_strs hsk
  have sht : SeqAt.shaped (.list (ts.map tieD)) = true := sh_ties ok.tok
  refine ⟨el, es.map V.int, rfl, SqL.of (by rw [upd_same, cutV_ints, ints_app, ees]), for_it (walk_enum (K := K) (a := el) (xs := es.map V.int)) (fun i σ H' => Same H2 H' ∧ H' cl = some (.lst (cs.map V.int)) ∧ H' el = some (.lst (es.map V.int)) ∧
      ∃ o5 o6 o7 o8 o9 o10 o11, σ = [some (.ref a), some (.ref pa), some (.ref pb), some (.ref p), some (.ref cl), o5, o6, o7, o8, o9, o10, o11])
    ⟨s3.trans (s4.trans (s5.trans (s6.trans (s7.trans s8)))), by rw [← ecs, ← ints_app, ← cutV_ints]; exact s8 _ _ (s7 _ _ (s6 _ _ upd_same)), by rw [upd_same, cutV_ints, ints_app, ees], _, _, _, _, _, _, _, rfl⟩ (fun i σ H' _ z => SqL.of z.2.2.1) ?_ ?_⟩
  · rintro i x σ G1 G2 hi ⟨sG, ecl, eel, o5, o6, o7, o8, o9, o10, o11, rfl⟩ ⟨t0, xi, xy, rfl, ht0, rfl, q1, q2⟩
    have q1' : xi = .int (i : Nat) := (Option.some.inj q1).symm
    subst q1'
    obtain ⟨cell, _, rfl⟩ := map_at q2
    have g1 := same_new ht0 (.tup [.int (i : Nat), .int cell])
    have hx3 := Int.emod_lt_of_pos cell (show (0 : Int) < 3 by decide)
    have hx30 := Int.emod_nonneg cell (show (3 : Int) ≠ 0 by decide)
    have hx4 := Int.emod_lt_of_pos cell (show (0 : Int) < 4 by decide)
    have hx40 := Int.emod_nonneg cell (show (4 : Int) ≠ 0 by decide)
    have hx5 := Int.emod_lt_of_pos (cell / 2) (show (0 : Int) < 5 by decide)
    have hx50 := Int.emod_nonneg (cell / 2) (show (5 : Int) ≠ 0 by decide)
    have hx24 := Int.emod_lt_of_pos (cell / 2) (show (0 : Int) < 4 by decide)
    have hx240 := Int.emod_nonneg (cell / 2) (show (4 : Int) ≠ 0 by decide)
    refine ⟨t0, _, rfl, SqT.of upd_same, rfl, _, _, rfl, _, _, rfl, rfl, ?_⟩
    have sA := sG.trans g1
    refine ⟨_, rfl, pa, _, rfl, .inl (SqL.of (sA _ _ hp2)), fun n1 hn1 => ?_⟩
    have g2 := same_new hn1 (.lst (ks.map V.str))
    have sB := sA.trans g2
    refine ⟨fun σ' H' => ∃ (nl : Addr) (nms : List Str), σ' = [some (.ref a), some (.ref pa), some (.ref pb), some (.ref p), some (.ref cl), some (.int (i : Nat)), some (.int cell), some (.ref nl), o8, o9, o10, o11] ∧ Same G1 H' ∧ NmOk H' nl nms ∧ nms.length ≤ 20, ?_, ?_⟩
    · refine ⟨_, rfl, _, _, rfl, rfl, (show (0 : Int) < 2 by decide), rfl, _, rfl, if_any ?_ ?_⟩
      · obtain ⟨x, hw, ox⟩ : ∃ x : Str, atI [V.str "X", V.str "Y", V.str "nowhere", V.str "XY", V.str ""] (cell / 2 % 5) = some (.str x) ∧ PyData.strOk x = true := by
          obtain e | e | e | e | e : cell / 2 % 5 = 0 ∨ cell / 2 % 5 = 1 ∨ cell / 2 % 5 = 2 ∨ cell / 2 % 5 = 3 ∨ cell / 2 % 5 = 4 := by omega
          · exact ⟨"X", at_of (j := 0) (by omega) rfl, by decide +kernel⟩
          · exact ⟨"Y", at_of (j := 1) (by omega) rfl, by decide +kernel⟩
          · exact ⟨"nowhere", at_of (j := 2) (by omega) rfl, by decide +kernel⟩
          · exact ⟨"XY", at_of (j := 3) (by omega) rfl, by decide +kernel⟩
          · exact ⟨"", at_of (j := 4) (by omega) rfl, by decide +kernel⟩
        refine ⟨_, rfl, _, rfl, _, _, rfl, rfl, (show (0 : Int) < 3 by decide), _, _, rfl, rfl, _, rfl, pa, _, rfl, SqL.of (sB _ _ hp2), fun m1 hm1 => ?_⟩
        have b1 := same_new hm1 (.lst (cutV (ks.map V.str) none (some (1 + cell % 3))))
        refine ⟨(by show 5 ≤ sizeLine; decide), fun m2 hm2 => ?_⟩
        have b2 := same_new hm2 (.lst [V.str "X", V.str "Y", V.str "nowhere", V.str "XY", V.str ""])
        refine ⟨_, rfl, _, _, rfl, rfl, cdiv _ (show (0 : Int) < 2 by decide) (by decide), _, _, rfl, rfl, (show (0 : Int) < 5 by decide), m2, _, _, _, rfl, rfl, SqL.of upd_same, hw, (by show 1 ≤ sizeLine; decide), fun m3 hm3 => ?_⟩
        have b3 := same_new hm3 (.lst [V.str x])
        have c1 := cutL_len ks none (some (1 + cell % 3))
        have c2 := cutL_len ks (some 1) none
        refine ⟨m1, m3, _, _, rfl, rfl, b3 _ _ (b2 _ _ upd_same), upd_same, ?_, fun m4 hm4 => ?_⟩
        · rw [cutV_map, len_map_str]
          show _ + 1 ≤ _
          exact small (by omega)
        have b4 := same_new hm4 (.lst (cutV (ks.map V.str) none (some (1 + cell % 3)) ++ [V.str x]))
        have sC := sB.trans (b1.trans (b2.trans (b3.trans b4)))
        refine ⟨_, rfl, _, rfl, pa, _, rfl, SqL.of (sC _ _ hp2), fun m5 hm5 => ?_⟩
        have b5 := same_new hm5 (.lst (cutV (ks.map V.str) (some 1) none))
        refine ⟨m4, m5, _, _, rfl, rfl, b5 _ _ upd_same, upd_same, ?_, fun m6 hm6 => ?_⟩
        · rw [cutV_map, cutV_map, List.length_append, len_map_str, len_map_str]
          show _ + 1 + _ ≤ _
          exact small (by omega)
        have b6 := same_new hm6 (.lst (cutV (ks.map V.str) none (some (1 + cell % 3)) ++ [V.str x] ++ cutV (ks.map V.str) (some 1) none))
        refine ⟨m6, cutL ks none (some (1 + cell % 3)) ++ [x] ++ cutL ks (some 1) none, rfl, g1.trans (g2.trans (b1.trans (b2.trans (b3.trans (b4.trans (b5.trans b6)))))), ⟨?_, ?_, ?_, ?_⟩, ?_⟩
        · rw [upd_same, cutV_map, cutV_map]
          simp
        · rw [List.length_append, List.length_append, List.length_singleton]; omega
        · rw [List.length_append, List.length_append, List.length_singleton]; omega
        · exact mem2 (mem2 (fun y hy => hsk y (cutL_mem hy)) (mem_c ox mem_n)) (fun y hy => hsk y (cutL_mem hy))
        · rw [List.length_append, List.length_append, List.length_singleton]; omega
      · exact ⟨n1, ks, rfl, g1.trans g2, ⟨upd_same, l1, by omega, hsk⟩, by omega⟩
    rintro σ' H3 ⟨nl, nms, rfl, s3', hNm, hnl⟩
    have sC := sG.trans s3'
    have hC3 : CeOk H3 cl cs := ⟨s3' _ _ ecl, hc1⟩
    refine ⟨_, rfl, _, rfl, _, rfl, _, _, rfl, rfl, _, rfl, _, _, rfl, rfl, (show (0 : Int) < 4 by decide), _, _, rfl, rfl, _, rfl, cl, _, _, (1 + cell % 4).toNat, nl, cs, nms, rfl, by omega, by omega, hC3, hNm, by omega, fun c1 v1 H4 s4' hv1 hf1 hh1 hx1 => ?_⟩
    have sD := sC.trans s4'
    refine ⟨_, rfl, _, rfl, _, rfl, p, pa, v1, ks, ts, c1, rfl, (hA.net).same sD, sD _ _ hp2, by omega, hf1, hv1, fun H5 s5' => ⟨_, rfl, if_bf rfl ?_⟩⟩
    have sE := sD.trans s5'
    have g5 := s3'.trans (s4'.trans s5')
    refine ⟨_, rfl, _, rfl, _, rfl, _, _, rfl, rfl, cdiv _ (show (0 : Int) < 3 by decide) (by decide), _, _, rfl, rfl, _, rfl, _, _, rfl, rfl, cdiv _ (show (0 : Int) < 2 by decide) (by decide), _, _, rfl, rfl, (show (0 : Int) < 4 by decide), _, _, rfl, rfl, _, rfl, (by show 1 ≤ sizeLine; decide), fun m hm => ?_⟩
    have b1 := same_new hm (.lst [V.str "X"])
    refine ⟨pa, m, _, _, rfl, rfl, b1 _ _ (sE _ _ hp2), upd_same, ?_, fun m2 hm2 => ?_⟩
    · rw [len_map_str]
      show _ + 1 ≤ _
      exact small (by omega)
    have b2 := same_new hm2 (.lst (ks.map V.str ++ [V.str "X"]))
    have okX : PyData.strOk "X" = true := by decide +kernel
    have hNX : ∀ H' : Hp, H' m2 = some (.lst (ks.map V.str ++ [V.str "X"])) → NmOk H' m2 (ks ++ [("X" : Str)]) := fun H' e => ⟨by rw [e, strs_app], by rw [List.length_append, List.length_singleton]; omega, by rw [List.length_append, List.length_singleton]; omega, mem2 hsk (mem_c okX mem_n)⟩
    refine ⟨cl, _, _, (1 + cell / 2 % 4).toNat, m2, cs, ks ++ [("X" : Str)], rfl, by omega, by omega, ⟨b2 _ _ (b1 _ _ (g5 _ _ ecl)), hc1⟩, hNX _ upd_same, by rw [List.length_append, List.length_singleton]; omega, fun c v H6 s6' hv hf hh hx => ?_⟩
    have sF := sE.trans (b1.trans (b2.trans s6'))
    have g6 := g5.trans (b1.trans (b2.trans s6'))
    refine ⟨_, rfl, _, rfl, _, _, rfl, rfl, cdiv _ (show (0 : Int) < 4 by decide) (by decide), _, rfl, pa, _, rfl, .inl (SqL.of (sF _ _ hp2)), _, _, rfl, rfl, hpos, pa, _, _, _, rfl, rfl, SqL.of (sF _ _ hp2), at_read l1 (cell / 4), ?_⟩
    obtain ⟨x, ex⟩ : ∃ x, at_ ks (cell / 4) = x := ⟨_, rfl⟩
    have ix : x ∈ ks := by rw [← ex]; exact at_mem l1 _
    have ox := hsk x ix
    rw [ex]
    have hdep := cD_dep c
    refine ⟨_, rfl, v, cD c, rfl, by omega, hf, hv, fun v2 H7 s7' hv2 => ?_⟩
    refine ⟨_, rfl, _, rfl, v, "X", x, c, rfl, by omega, by omega, hf, hv.same s7', fun v3 H8 s8' hv3 => ?_⟩
    have hfP : fit (cD (cP "X" x c)) = true := cP_fit ox hf
    have hhP := cH_P "X" x c
    have hdP := cD_dep (cP "X" x c)
    have shc : SeqAt.shaped (cD c) = true := sh_fit hf (by omega)
    have shP : SeqAt.shaped (cD (cP "X" x c)) = true := sh_fit hfP (by omega)
    refine ⟨_, rfl, _, rfl, _, rfl, v, x, .g (.c c), fun _ => True, rfl, (by show cH c + 1 ≤ 12; omega), (by show 1 ≤ cH c + 1; omega), hf, (hv.same s7').same s8', fun v4 H9 s9' hv4 => ?_⟩
    have d9 : Dq H9 (fun a => H7 a = none) v3 (cD (cP "X" x c)) := hv3.same s9'
    have c9 : Dt H9 v (cD c) := ((hv.same s7').same s8').same s9'
    have k9 : Dt H9 v2 (cD c) := (hv2.dt.same s8').same s9'
    refine ⟨cD (cP "X" x c), cD (cP "X" x c), Dq.dp _ _ d9, Dq.dp _ _ (show Dq H9 _ v4 (cD (cP "X" x c)) from hv4), shP, shP, _, rfl, if_bf (by rw [sh_eqv shP] <;> rfl) ?_⟩
    refine ⟨_, rfl, _, rfl, _, _, Dq.dp _ _ c9, Dq.dp _ _ k9, shc, shc, _, rfl, if_bf (by rw [sh_eqv shc] <;> rfl) ?_⟩
    have sI := sF.trans (s7'.trans (s8'.trans s9'))
    have hin : ∀ z ∈ cN (cP "X" x c), z ∈ ks := cP_in ix hx
    refine ⟨_, rfl, _, rfl, p, "claim", v3, ks, cN (cP "X" x c), ts, rfl, (hA.net).same sI, .inr ⟨rfl, cP "X" x c, by omega, hfP, d9.dt, rfl⟩, fun v5 Ha sa hv5 => ?_⟩
    have ean : ansD ks (cN (cP "X" x c)) = .list [.str "let by", .none] := by
      unfold ansD
      rw [strange_none hin]
    rw [ean] at hv5
    refine ⟨(by show 2 ≤ sizeLine; decide), fun lb hlb => ?_⟩
    have sb := same_new hlb (.lst [V.str "let by", V.non])
    have shl : SeqAt.shaped (.list [.str "let by", .none]) = true := by decide +kernel
    refine ⟨_, _, Dq.dp _ _ (hv5.same sb), Dq.dp (P := fun _ => True) (.list [.str "let by", .none]) _ (.lst upd_same trivial (.cons (.str _) (.cons .non .nil))), shl, shl, _, rfl, if_bf (by rw [sh_eqv shl] <;> rfl) ?_⟩
    have dB := (d9.same sa).same sb
    have sJ := (s8'.trans s9').trans (sa.trans sb)
    have hnlb := cD_nl (cP "X" x c)
    have hpw : 2 ^ cH (cP "X" x c) ≤ 2 ^ 12 := Nat.pow_le_pow_right (by decide) (by omega)
    refine ⟨_, rfl, v3, cD (cP "X" x c), _, 500, rfl, by omega, Dq.sh2 _ _ hfP dB, fun a z => z.2, by omega, fun Hc kp lp => ?_⟩
    have sK : Same H7 Hc := fun b o z => kp _ _ (sJ _ _ z) fun y => by
      rw [y.1] at z
      cases z
    have cE : Dt Hc v (cD c) := (hv.same s7').same sK
    have kE : Dt Hc v2 (cD c) := hv2.dt.same sK
    have g7 := (g6.trans s7').trans sK
    refine ⟨_, rfl, _, rfl, _, _, Dq.dp _ _ cE, Dq.dp _ _ kE, shc, shc, _, rfl, if_bf (by rw [sh_eqv shc] <;> rfl) ?_⟩
    exact ⟨sG.trans g7, g7 _ _ ecl, g7 _ _ eel, _, _, _, _, _, _, _, rfl⟩
  · rintro σ H' ⟨sG, ecl, eel, o5, o6, o7, o8, o9, o10, o11, rfl⟩
    obtain ⟨dx, lk, lt, vs, h1, h2, h3, h4⟩ := (hA.net).same sG
    have hN := (hA.net).same sG
    refine ⟨_, rfl, p, dx, _, rfl, h1, nf_no _ _ (by decide +kernel) (by decide +kernel), p, ks, ts, rfl, hN, fun r H3 s' er => ?_⟩
    have ep3 := s' _ _ (sG _ _ hp2)
    refine ⟨_, rfl, .list (ks.map PyData.str), .list (ks.map PyData.str), Dq.dp (P := fun _ => True) _ _ (.lst er trivial (DqA.strs _)), Dq.dp (P := fun _ => True) _ _ (.lst ep3 trivial (DqA.strs _)), shp, shp, _, rfl, if_bt (sh_eqv shp) ?_⟩
    refine ⟨_, rfl, p, dx, _, rfl, s' _ _ h1, nf_no _ _ (by decide +kernel) (by decide +kernel), p, ks, ts, rfl, hN.same s', fun r2 H4 vs2 s'' er2 ev2 => ?_⟩
    have eb4 := s'' _ _ (s' _ _ (sG _ _ hb2))
    have eu4 := ((hu2.same sG).same s').same s''
    refine ⟨_, rfl, .list (ts.map tieD), .list (ts.map tieD), Dq.dp (P := fun _ => True) _ _ (.lst er2 trivial (ev2.imp fun _ z => z.elim)), Dq.dp (P := fun _ => True) _ _ (.lst eb4 trivial (eu4.imp fun _ z => z.elim)), sht, sht, ?_⟩
    rw [sh_eqv sht]
    exact q H4
end
end K71
/-! What the top has written, put together. -/
namespace K71
open PySem L2
theorem exm_of {K : PySem.W.Frag} {T S : Addr} (h1 : PySem.W.subIn K (.ref S) (.type "BaseException") = some true) (h2 : PySem.W.isClsIn K S = true) (h3 : PySem.W.typeIn K (.ref S) = some (.type "type")) (h4 : PySem.W.subIn K (.ref T) (.ref S) = some true) :
    PySem.W.exmOne K (.ref T) (.ref S) = some true := by
  have e1 : (PySem.W.subIn K (.ref S) (.type "BaseException") == some true) = true := by rw [h1] <;> rfl
  have e2 : ((PySem.W.clsIn K S).isSome && PySem.W.typeIn K (.ref S) == some (.type "type")) = true := by
    have h2' : (PySem.W.clsIn K S).isSome = true := h2
    rw [h2', h3] <;> rfl
  show (if (PySem.W.subIn K (.ref S) (.type "BaseException") == some true) = true then (if ((PySem.W.clsIn K S).isSome && PySem.W.typeIn K (.ref S) == some (.type "type")) = true then PySem.W.subIn K (.ref T) (.ref S) else none) else none) = some true
  rw [if_pos e1, if_pos e2]
  exact h4
theorem kit_no {K : PySem.W.Frag} {T S : Addr} (h0 : PySem.W.subIn K (.ref T) (.ref T) = some true) (h2 : PySem.W.isClsIn K S = true) (h3 : PySem.W.typeIn K (.ref S) = some (.type "type")) (h4 : PySem.W.subIn K (.ref T) (.ref S) = some false) :
    PySem.W.kitOne K (.ref T) (.ref S) = some false := by
  have e2 : ((PySem.W.clsIn K S).isSome && PySem.W.typeIn K (.ref S) == some (.type "type")) = true := by
    have h2' : (PySem.W.clsIn K S).isSome = true := h2
    rw [h2', h3] <;> rfl
  have ne : ¬ (Value.ref T == Value.ref S) = true := fun e => by
    have e' : Value.ref T = Value.ref S := beq_iff_eq.mp e
    have e3 : T = S := by injection e'
    subst e3
    rw [h0] at h4
    cases h4
  show (if (Value.ref T == Value.ref S) = true then some true else (if ((PySem.W.clsIn K S).isSome && PySem.W.typeIn K (.ref S) == some (.type "type")) = true then PySem.W.subIn K (.ref T) (.ref S) else none)) = some false
  rw [if_neg ne, if_pos e2]
  exact h4
theorem kit_ve {K : PySem.W.Frag} {T : Addr} (h : PySem.W.subIn K (.ref T) (.type "ValueError") = some true) : PySem.W.kitOne K (.ref T) (.type "ValueError") = some true := by
  have e : PySem.W.kitMeta "ValueError" = true := by decide +kernel
  show (if (Value.ref T == Value.type "ValueError") = true then some true else (if PySem.W.kitMeta "ValueError" = true then PySem.W.subIn K (.ref T) (.type "ValueError") else none)) = some true
  rw [if_neg (by intro q; exact nomatch (beq_iff_eq.mp q)), if_pos e]
  exact h
theorem sq_const {K : PySem.W.Frag} {H : Hp} {a : Addr} {xs : List V} {o : Obj} {its : Array Value} {n : Nat} (h : K.lookup a = some o) (c : o.cls = .type "tuple") (d : o.data = .seq its n) (z : its.size ≤ sizeLine) (v : Vals xs its.toList) : SqT K H a xs := .inr ⟨o, its, n, h, c, d, z, v⟩

theorem all_mk {l : PySem.W.OpenLaw} {w : World} {K : PySem.W.Frag} {h : Heap} {mg : Str → Option Value} {fa C CN CE fNS fNT fFN fRS fLC fLT fPN fPS fPT fPC fKC fIN fLN fCe fNm fPa fNet fKi fTe fCl fCo fSp fNa fPu fCa fDu fOn fLaw fNew fPlc fTie fTN fPl fTs fI cNoClaim cNoLine cNoName cNoText cNoTie cNoWidth cSamePlace cTooMany cTwice pP pC : Addr} (X : K.In h) (G : h.Ns mainGlobals mg) (hfa : mg "law" = some (.ref fa))
    {odNS anNS : Option Addr} {slNS : Array (Option Value)} {ocNS kVNS dcNS pmNS cdNS ctNS : Value}
    {odNT anNT : Option Addr} {slNT : Array (Option Value)} {ocNT kVNT dcNT pmNT cdNT ctNT : Value}
    {odFN anFN : Option Addr} {slFN : Array (Option Value)} {ocFN kVFN dcFN pmFN cdFN ctFN : Value}
    {odRS anRS : Option Addr} {slRS : Array (Option Value)} {ocRS kVRS dcRS pmRS cdRS ctRS : Value}
    {odLC anLC : Option Addr} {slLC : Array (Option Value)} {ocLC kVLC dcLC pmLC cdLC ctLC : Value}
    {odLT anLT : Option Addr} {slLT : Array (Option Value)} {ocLT kVLT dcLT pmLT cdLT ctLT : Value}
    {odPN anPN : Option Addr} {slPN : Array (Option Value)} {ocPN kVPN dcPN pmPN cdPN ctPN : Value}
    {odPS anPS : Option Addr} {slPS : Array (Option Value)} {ocPS kVPS dcPS pmPS cdPS ctPS : Value}
    {odPT anPT : Option Addr} {slPT : Array (Option Value)} {ocPT kVPT dcPT pmPT cdPT ctPT : Value}
    {odPC anPC : Option Addr} {slPC : Array (Option Value)} {ocPC kVPC dcPC pmPC cdPC ctPC : Value}
    {odKC anKC : Option Addr} {slKC : Array (Option Value)} {ocKC kVKC dcKC pmKC cdKC ctKC : Value}
    {odIN anIN : Option Addr} {slIN : Array (Option Value)} {ocIN kVIN dcIN pmIN cdIN ctIN : Value}
    {odLN anLN : Option Addr} {slLN : Array (Option Value)} {ocLN kVLN dcLN pmLN cdLN ctLN : Value}
    {odCe anCe : Option Addr} {slCe : Array (Option Value)} {ocCe kVCe dcCe pmCe cdCe ctCe : Value}
    {odNm anNm : Option Addr} {slNm : Array (Option Value)} {ocNm kVNm dcNm pmNm cdNm ctNm : Value}
    {odPa anPa : Option Addr} {slPa : Array (Option Value)} {ocPa kVPa dcPa pmPa cdPa ctPa : Value}
    {odNet anNet : Option Addr} {slNet : Array (Option Value)} {ocNet kVNet dcNet pmNet cdNet ctNet : Value}
    {odKi anKi : Option Addr} {slKi : Array (Option Value)} {ocKi kVKi dcKi pmKi cdKi ctKi : Value}
    {odTe anTe : Option Addr} {slTe : Array (Option Value)} {ocTe kVTe dcTe pmTe cdTe ctTe : Value}
    {odCl anCl : Option Addr} {slCl : Array (Option Value)} {ocCl kVCl dcCl pmCl cdCl ctCl : Value}
    {odCo anCo : Option Addr} {slCo : Array (Option Value)} {ocCo kVCo dcCo pmCo cdCo ctCo : Value}
    {odSp anSp : Option Addr} {slSp : Array (Option Value)} {ocSp kVSp dcSp pmSp cdSp ctSp : Value}
    {odNa anNa : Option Addr} {slNa : Array (Option Value)} {ocNa kVNa dcNa pmNa cdNa ctNa : Value}
    {odPu anPu : Option Addr} {slPu : Array (Option Value)} {ocPu kVPu dcPu pmPu cdPu ctPu : Value}
    {odCa anCa : Option Addr} {slCa : Array (Option Value)} {ocCa kVCa dcCa pmCa cdCa ctCa : Value}
    {odDu anDu : Option Addr} {slDu : Array (Option Value)} {ocDu kVDu dcDu pmDu cdDu ctDu : Value}
    {odOn anOn : Option Addr} {slOn : Array (Option Value)} {ocOn kVOn dcOn pmOn cdOn ctOn : Value}
    {odLaw anLaw : Option Addr} {slLaw : Array (Option Value)} {ocLaw kVLaw dcLaw pmLaw cdLaw ctLaw : Value}
    {odMNew anMNew : Option Addr} {slMNew : Array (Option Value)} {ocMNew kVMNew dcMNew pmMNew cdMNew ctMNew : Value}
    {odMPlc anMPlc : Option Addr} {slMPlc : Array (Option Value)} {ocMPlc kVMPlc dcMPlc pmMPlc cdMPlc ctMPlc : Value}
    {odMTie anMTie : Option Addr} {slMTie : Array (Option Value)} {ocMTie kVMTie dcMTie pmMTie cdMTie ctMTie : Value}
    {odMTN anMTN : Option Addr} {slMTN : Array (Option Value)} {ocMTN kVMTN dcMTN pmMTN cdMTN ctMTN : Value}
    {odMPl anMPl : Option Addr} {slMPl : Array (Option Value)} {ocMPl kVMPl dcMPl pmMPl cdMPl ctMPl : Value}
    {odMTs anMTs : Option Addr} {slMTs : Array (Option Value)} {ocMTs kVMTs dcMTs pmMTs cdMTs ctMTs : Value}
    {odI anI : Option Addr} {slI : Array (Option Value)} {ocI kVI dcI pmI cdI ctI : Value}
    {nm qn : Str} {NsN : Addr} {bs : List Value} {sn : List Str} {sub : List Value} {ab : Bool} {col : Option Bool} {dd : Option Addr} {m0 m1 m2 m3 m5 : Option Value}
    {x1 x2 x3 x4 x5 y1 y2 y3 xl : Str} {p1 p2 p3 p4 p5 r1 r2 r3 tl tn tp tt : Tok} {odP odC : Option Addr} {nP nC : Nat} {slP slC : Array (Option Value)} {vn vp vt : Int}
    (aClsNet : PySem.W.nsIn K mainGlobals "Net" = some (some (.ref C)))
    (aCN : PySem.W.nsIn K mainGlobals "NoPlace" = some (some (.ref CN)))
    (aCE : PySem.W.nsIn K mainGlobals "CourtError" = some (some (.ref CE)))
    (aNS : PySem.W.nsIn K mainGlobals "names_in_set" = some (some (.ref fNS)))
    (lNS : K.lookup fNS = some ⟨ocNS, odNS, .func (PySem.W.fnOf "names_in_set" "names_in_set" (defArgs (top 24)) (defBody (top 24)) (defScope (top 24)) .none kVNS dcNS pmNS anNS cdNS ctNS), slNS⟩)
    (eNS : PySem.W.codeIn K cdNS "names_in_set" = true)
    (kNS : PySem.W.keepIn K (.ref fNS) = true)
    (aNT : PySem.W.nsIn K mainGlobals "names_in_term" = some (some (.ref fNT)))
    (lNT : K.lookup fNT = some ⟨ocNT, odNT, .func (PySem.W.fnOf "names_in_term" "names_in_term" (defArgs (top 25)) (defBody (top 25)) (defScope (top 25)) .none kVNT dcNT pmNT anNT cdNT ctNT), slNT⟩)
    (eNT : PySem.W.codeIn K cdNT "names_in_term" = true)
    (kNT : PySem.W.keepIn K (.ref fNT) = true)
    (aFN : PySem.W.nsIn K mainGlobals "free_names" = some (some (.ref fFN)))
    (lFN : K.lookup fFN = some ⟨ocFN, odFN, .func (PySem.W.fnOf "free_names" "free_names" (defArgs (top 26)) (defBody (top 26)) (defScope (top 26)) .none kVFN dcFN pmFN anFN cdFN ctFN), slFN⟩)
    (eFN : PySem.W.codeIn K cdFN "free_names" = true)
    (kFN : PySem.W.keepIn K (.ref fFN) = true)
    (aRS : PySem.W.nsIn K mainGlobals "refuse_strangers" = some (some (.ref fRS)))
    (lRS : K.lookup fRS = some ⟨ocRS, odRS, .func (PySem.W.fnOf "refuse_strangers" "refuse_strangers" (defArgs (top 27)) (defBody (top 27)) (defScope (top 27)) .none kVRS dcRS pmRS anRS cdRS ctRS), slRS⟩)
    (eRS : PySem.W.codeIn K cdRS "refuse_strangers" = true)
    (kRS : PySem.W.keepIn K (.ref fRS) = true)
    (aLC : PySem.W.nsIn K mainGlobals "look_at_claim" = some (some (.ref fLC)))
    (lLC : K.lookup fLC = some ⟨ocLC, odLC, .func (PySem.W.fnOf "look_at_claim" "look_at_claim" (defArgs (top 28)) (defBody (top 28)) (defScope (top 28)) .none kVLC dcLC pmLC anLC cdLC ctLC), slLC⟩)
    (eLC : PySem.W.codeIn K cdLC "look_at_claim" = true)
    (kLC : PySem.W.keepIn K (.ref fLC) = true)
    (aLT : PySem.W.nsIn K mainGlobals "look_at_term" = some (some (.ref fLT)))
    (lLT : K.lookup fLT = some ⟨ocLT, odLT, .func (PySem.W.fnOf "look_at_term" "look_at_term" (defArgs (top 29)) (defBody (top 29)) (defScope (top 29)) .none kVLT dcLT pmLT anLT cdLT ctLT), slLT⟩)
    (eLT : PySem.W.codeIn K cdLT "look_at_term" = true)
    (kLT : PySem.W.keepIn K (.ref fLT) = true)
    (aPN : PySem.W.nsIn K mainGlobals "put_name" = some (some (.ref fPN)))
    (lPN : K.lookup fPN = some ⟨ocPN, odPN, .func (PySem.W.fnOf "put_name" "put_name" (defArgs (top 30)) (defBody (top 30)) (defScope (top 30)) .none kVPN dcPN pmPN anPN cdPN ctPN), slPN⟩)
    (ePN : PySem.W.codeIn K cdPN "put_name" = true)
    (kPN : PySem.W.keepIn K (.ref fPN) = true)
    (aPS : PySem.W.nsIn K mainGlobals "put_in_set" = some (some (.ref fPS)))
    (lPS : K.lookup fPS = some ⟨ocPS, odPS, .func (PySem.W.fnOf "put_in_set" "put_in_set" (defArgs (top 31)) (defBody (top 31)) (defScope (top 31)) .none kVPS dcPS pmPS anPS cdPS ctPS), slPS⟩)
    (ePS : PySem.W.codeIn K cdPS "put_in_set" = true)
    (kPS : PySem.W.keepIn K (.ref fPS) = true)
    (aPT : PySem.W.nsIn K mainGlobals "put_in_term" = some (some (.ref fPT)))
    (lPT : K.lookup fPT = some ⟨ocPT, odPT, .func (PySem.W.fnOf "put_in_term" "put_in_term" (defArgs (top 32)) (defBody (top 32)) (defScope (top 32)) .none kVPT dcPT pmPT anPT cdPT ctPT), slPT⟩)
    (ePT : PySem.W.codeIn K cdPT "put_in_term" = true)
    (kPT : PySem.W.keepIn K (.ref fPT) = true)
    (aPC : PySem.W.nsIn K mainGlobals "put_in" = some (some (.ref fPC)))
    (lPC : K.lookup fPC = some ⟨ocPC, odPC, .func (PySem.W.fnOf "put_in" "put_in" (defArgs (top 33)) (defBody (top 33)) (defScope (top 33)) .none kVPC dcPC pmPC anPC cdPC ctPC), slPC⟩)
    (ePC : PySem.W.codeIn K cdPC "put_in" = true)
    (kPC : PySem.W.keepIn K (.ref fPC) = true)
    (aKC : PySem.W.nsIn K mainGlobals "kept_claim" = some (some (.ref fKC)))
    (lKC : K.lookup fKC = some ⟨ocKC, odKC, .func (PySem.W.fnOf "kept_claim" "kept_claim" (defArgs (top 34)) (defBody (top 34)) (defScope (top 34)) .none kVKC dcKC pmKC anKC cdKC ctKC), slKC⟩)
    (eKC : PySem.W.codeIn K cdKC "kept_claim" = true)
    (kKC : PySem.W.keepIn K (.ref fKC) = true)
    (aIN : PySem.W.nsIn K mainGlobals "is_name" = some (some (.ref fIN)))
    (lIN : K.lookup fIN = some ⟨ocIN, odIN, .func (PySem.W.fnOf "is_name" "is_name" (defArgs (top 18)) (defBody (top 18)) (defScope (top 18)) .none kVIN dcIN pmIN anIN cdIN ctIN), slIN⟩)
    (eIN : PySem.W.codeIn K cdIN "is_name" = true)
    (kIN : PySem.W.keepIn K (.ref fIN) = true)
    (aLN : PySem.W.nsIn K mainGlobals "look_at_name" = some (some (.ref fLN)))
    (lLN : K.lookup fLN = some ⟨ocLN, odLN, .func (PySem.W.fnOf "look_at_name" "look_at_name" (defArgs (top 19)) (defBody (top 19)) (defScope (top 19)) .none kVLN dcLN pmLN anLN cdLN ctLN), slLN⟩)
    (eLN : PySem.W.codeIn K cdLN "look_at_name" = true)
    (kLN : PySem.W.keepIn K (.ref fLN) = true)
    (aCe : PySem.W.nsIn K mainGlobals "_law_cell_at" = some (some (.ref fCe)))
    (lCe : K.lookup fCe = some ⟨ocCe, odCe, .func (PySem.W.fnOf "_law_cell_at" "_law_cell_at" (defArgs (top 36)) (defBody (top 36)) (defScope (top 36)) .none kVCe dcCe pmCe anCe cdCe ctCe), slCe⟩)
    (eCe : PySem.W.codeIn K cdCe "_law_cell_at" = true)
    (kCe : PySem.W.keepIn K (.ref fCe) = true)
    (aNm : PySem.W.nsIn K mainGlobals "_law_name" = some (some (.ref fNm)))
    (lNm : K.lookup fNm = some ⟨ocNm, odNm, .func (PySem.W.fnOf "_law_name" "_law_name" (defArgs (top 37)) (defBody (top 37)) (defScope (top 37)) .none kVNm dcNm pmNm anNm cdNm ctNm), slNm⟩)
    (eNm : PySem.W.codeIn K cdNm "_law_name" = true)
    (kNm : PySem.W.keepIn K (.ref fNm) = true)
    (aPa : PySem.W.nsIn K mainGlobals "_law_parts" = some (some (.ref fPa)))
    (lPa : K.lookup fPa = some ⟨ocPa, odPa, .func (PySem.W.fnOf "_law_parts" "_law_parts" (defArgs (top 38)) (defBody (top 38)) (defScope (top 38)) .none kVPa dcPa pmPa anPa cdPa ctPa), slPa⟩)
    (ePa : PySem.W.codeIn K cdPa "_law_parts" = true)
    (kPa : PySem.W.keepIn K (.ref fPa) = true)
    (aNet : PySem.W.nsIn K mainGlobals "_law_net" = some (some (.ref fNet)))
    (lNet : K.lookup fNet = some ⟨ocNet, odNet, .func (PySem.W.fnOf "_law_net" "_law_net" (defArgs (top 39)) (defBody (top 39)) (defScope (top 39)) .none kVNet dcNet pmNet anNet cdNet ctNet), slNet⟩)
    (eNet : PySem.W.codeIn K cdNet "_law_net" = true)
    (kNet : PySem.W.keepIn K (.ref fNet) = true)
    (aKi : PySem.W.nsIn K mainGlobals "_law_kind" = some (some (.ref fKi)))
    (lKi : K.lookup fKi = some ⟨ocKi, odKi, .func (PySem.W.fnOf "_law_kind" "_law_kind" (defArgs (top 40)) (defBody (top 40)) (defScope (top 40)) .none kVKi dcKi pmKi anKi cdKi ctKi), slKi⟩)
    (eKi : PySem.W.codeIn K cdKi "_law_kind" = true)
    (kKi : PySem.W.keepIn K (.ref fKi) = true)
    (aTe : PySem.W.nsIn K mainGlobals "_law_term" = some (some (.ref fTe)))
    (lTe : K.lookup fTe = some ⟨ocTe, odTe, .func (PySem.W.fnOf "_law_term" "_law_term" (defArgs (top 41)) (defBody (top 41)) (defScope (top 41)) .none kVTe dcTe pmTe anTe cdTe ctTe), slTe⟩)
    (eTe : PySem.W.codeIn K cdTe "_law_term" = true)
    (kTe : PySem.W.keepIn K (.ref fTe) = true)
    (aCl : PySem.W.nsIn K mainGlobals "_law_claim" = some (some (.ref fCl)))
    (lCl : K.lookup fCl = some ⟨ocCl, odCl, .func (PySem.W.fnOf "_law_claim" "_law_claim" (defArgs (top 42)) (defBody (top 42)) (defScope (top 42)) .none kVCl dcCl pmCl anCl cdCl ctCl), slCl⟩)
    (eCl : PySem.W.codeIn K cdCl "_law_claim" = true)
    (kCl : PySem.W.keepIn K (.ref fCl) = true)
    (aCo : PySem.W.nsIn K mainGlobals "_law_copy" = some (some (.ref fCo)))
    (lCo : K.lookup fCo = some ⟨ocCo, odCo, .func (PySem.W.fnOf "_law_copy" "_law_copy" (defArgs (top 43)) (defBody (top 43)) (defScope (top 43)) .none kVCo dcCo pmCo anCo cdCo ctCo), slCo⟩)
    (eCo : PySem.W.codeIn K cdCo "_law_copy" = true)
    (kCo : PySem.W.keepIn K (.ref fCo) = true)
    (aSp : PySem.W.nsIn K mainGlobals "_law_spoil" = some (some (.ref fSp)))
    (lSp : K.lookup fSp = some ⟨ocSp, odSp, .func (PySem.W.fnOf "_law_spoil" "_law_spoil" (defArgs (top 44)) (defBody (top 44)) (defScope (top 44)) .none kVSp dcSp pmSp anSp cdSp ctSp), slSp⟩)
    (eSp : PySem.W.codeIn K cdSp "_law_spoil" = true)
    (kSp : PySem.W.keepIn K (.ref fSp) = true)
    (aNa : PySem.W.nsIn K mainGlobals "_law_names" = some (some (.ref fNa)))
    (lNa : K.lookup fNa = some ⟨ocNa, odNa, .func (PySem.W.fnOf "_law_names" "_law_names" (defArgs (top 45)) (defBody (top 45)) (defScope (top 45)) .none kVNa dcNa pmNa anNa cdNa ctNa), slNa⟩)
    (eNa : PySem.W.codeIn K cdNa "_law_names" = true)
    (kNa : PySem.W.keepIn K (.ref fNa) = true)
    (aPu : PySem.W.nsIn K mainGlobals "_law_put" = some (some (.ref fPu)))
    (lPu : K.lookup fPu = some ⟨ocPu, odPu, .func (PySem.W.fnOf "_law_put" "_law_put" (defArgs (top 46)) (defBody (top 46)) (defScope (top 46)) .none kVPu dcPu pmPu anPu cdPu ctPu), slPu⟩)
    (ePu : PySem.W.codeIn K cdPu "_law_put" = true)
    (kPu : PySem.W.keepIn K (.ref fPu) = true)
    (aCa : PySem.W.nsIn K mainGlobals "_law_caught" = some (some (.ref fCa)))
    (lCa : K.lookup fCa = some ⟨ocCa, odCa, .func (PySem.W.fnOf "_law_caught" "_law_caught" (defArgs (top 47)) (defBody (top 47)) (defScope (top 47)) .none kVCa dcCa pmCa anCa cdCa ctCa), slCa⟩)
    (eCa : PySem.W.codeIn K cdCa "_law_caught" = true)
    (kCa : PySem.W.keepIn K (.ref fCa) = true)
    (aDu : PySem.W.nsIn K mainGlobals "_law_due" = some (some (.ref fDu)))
    (lDu : K.lookup fDu = some ⟨ocDu, odDu, .func (PySem.W.fnOf "_law_due" "_law_due" (defArgs (top 48)) (defBody (top 48)) (defScope (top 48)) .none kVDu dcDu pmDu anDu cdDu ctDu), slDu⟩)
    (eDu : PySem.W.codeIn K cdDu "_law_due" = true)
    (kDu : PySem.W.keepIn K (.ref fDu) = true)
    (aOn : PySem.W.nsIn K mainGlobals "_law_one" = some (some (.ref fOn)))
    (lOn : K.lookup fOn = some ⟨ocOn, odOn, .func (PySem.W.fnOf "_law_one" "_law_one" (defArgs (top 49)) (defBody (top 49)) (defScope (top 49)) .none kVOn dcOn pmOn anOn cdOn ctOn), slOn⟩)
    (eOn : PySem.W.codeIn K cdOn "_law_one" = true)
    (kOn : PySem.W.keepIn K (.ref fOn) = true)
    (aLaw : PySem.W.nsIn K mainGlobals "law" = some (some (.ref fLaw)))
    (lLaw : K.lookup fLaw = some ⟨ocLaw, odLaw, .func (PySem.W.fnOf "law" "law" (defArgs (top 50)) (defBody (top 50)) (defScope (top 50)) .none kVLaw dcLaw pmLaw anLaw cdLaw ctLaw), slLaw⟩)
    (eLaw : PySem.W.codeIn K cdLaw "law" = true)
    (kLaw : PySem.W.keepIn K (.ref fLaw) = true)
    (aMNew : PySem.W.findIn K (.ref C) "__init__" = some (some (.ref fNew)))
    (iMNew : PySem.W.isFn K (.ref fNew) = true)
    (lMNew : K.lookup fNew = some ⟨ocMNew, odMNew, .func (PySem.W.fnOf "__init__" "Net.__init__" (defArgs sNew) (defBody sNew) (defScope sNew) .none kVMNew dcMNew pmMNew anMNew cdMNew ctMNew), slMNew⟩)
    (eMNew : PySem.W.codeIn K cdMNew "Net.__init__" = true)
    (kMNew : PySem.W.keepIn K (.ref fNew) = true)
    (aMPlc : PySem.W.findIn K (.ref C) "place" = some (some (.ref fPlc)))
    (iMPlc : PySem.W.isFn K (.ref fPlc) = true)
    (lMPlc : K.lookup fPlc = some ⟨ocMPlc, odMPlc, .func (PySem.W.fnOf "place" "Net.place" (defArgs sPlc) (defBody sPlc) (defScope sPlc) .none kVMPlc dcMPlc pmMPlc anMPlc cdMPlc ctMPlc), slMPlc⟩)
    (eMPlc : PySem.W.codeIn K cdMPlc "Net.place" = true)
    (kMPlc : PySem.W.keepIn K (.ref fPlc) = true)
    (aMTie : PySem.W.findIn K (.ref C) "tie" = some (some (.ref fTie)))
    (iMTie : PySem.W.isFn K (.ref fTie) = true)
    (lMTie : K.lookup fTie = some ⟨ocMTie, odMTie, .func (PySem.W.fnOf "tie" "Net.tie" (defArgs sTie) (defBody sTie) (defScope sTie) .none kVMTie dcMTie pmMTie anMTie cdMTie ctMTie), slMTie⟩)
    (eMTie : PySem.W.codeIn K cdMTie "Net.tie" = true)
    (kMTie : PySem.W.keepIn K (.ref fTie) = true)
    (aMTN : PySem.W.findIn K (.ref C) "tie_named" = some (some (.ref fTN)))
    (iMTN : PySem.W.isFn K (.ref fTN) = true)
    (lMTN : K.lookup fTN = some ⟨ocMTN, odMTN, .func (PySem.W.fnOf "tie_named" "Net.tie_named" (defArgs sTN) (defBody sTN) (defScope sTN) .none kVMTN dcMTN pmMTN anMTN cdMTN ctMTN), slMTN⟩)
    (eMTN : PySem.W.codeIn K cdMTN "Net.tie_named" = true)
    (kMTN : PySem.W.keepIn K (.ref fTN) = true)
    (aMPl : PySem.W.findIn K (.ref C) "places" = some (some (.ref fPl)))
    (iMPl : PySem.W.isFn K (.ref fPl) = true)
    (lMPl : K.lookup fPl = some ⟨ocMPl, odMPl, .func (PySem.W.fnOf "places" "Net.places" (defArgs sPl) (defBody sPl) (defScope sPl) .none kVMPl dcMPl pmMPl anMPl cdMPl ctMPl), slMPl⟩)
    (eMPl : PySem.W.codeIn K cdMPl "Net.places" = true)
    (kMPl : PySem.W.keepIn K (.ref fPl) = true)
    (aMTs : PySem.W.findIn K (.ref C) "ties" = some (some (.ref fTs)))
    (iMTs : PySem.W.isFn K (.ref fTs) = true)
    (lMTs : K.lookup fTs = some ⟨ocMTs, odMTs, .func (PySem.W.fnOf "ties" "Net.ties" (defArgs sTs) (defBody sTs) (defScope sTs) .none kVMTs dcMTs pmMTs anMTs cdMTs ctMTs), slMTs⟩)
    (eMTs : PySem.W.codeIn K cdMTs "Net.ties" = true)
    (kMTs : PySem.W.keepIn K (.ref fTs) = true)
    (aI : PySem.W.findIn K (.ref CN) "__init__" = some (some (.ref fI)))
    (tI : PySem.W.typeIn K (.ref fI) = some (.type "function"))
    (lI : K.lookup fI = some ⟨ocI, odI, .func (PySem.W.fnOf "__init__" "NoPlace.__init__" (defArgs sNI) (defBody sNI) (defScope sNI) .none kVI dcI pmI anI cdI ctI), slI⟩)
    (eI : PySem.W.codeIn K cdI "NoPlace.__init__" = true)
    (kI : PySem.W.keepIn K (.ref fI) = true)
    (pg : PySem.W.plainGet K C Str.empty = true)
    (hd : PySem.W.hasDictIn K C = true)
    (po : PySem.W.plainOver K C = true)
    (sa : PySem.W.findIn K (.ref C) "__setattr__" = some (some (.builtin "object.__setattr__")))
    (mk : PySem.W.makesIn K C = true)
    (kc : PySem.W.keepIn K (.ref C) = true)
    (nK : PySem.W.findIn K (.ref C) "known" = some none)
    (nL : PySem.W.findIn K (.ref C) "laid" = some none)
    (xL : K.lookup CN = some (excClassObj nm qn CN NsN bs [.ref CE, .type "ValueError", .type "Exception", .type "BaseException", .type "object"] true sn sub ab col dd m0 m1 m2 m3 m5 "ValueError.__new__"))
    (xs : PySem.W.findIn K (.ref CN) "__setattr__" = some (some (.builtin "object.__setattr__")))
    (xg : PySem.W.findIn K (.ref CN) "__getattribute__" = some (some (.builtin "BaseException.__getattribute__")))
    (xa : PySem.W.findIn K (.ref CN) "__getattr__" = some none)
    (xn : PySem.W.findIn K (.ref CN) "name" = some none)
    (xc : PySem.W.findIn K (.ref CN) "__class__" = some (some (.builtin "object.__class__")))
    (xsp : PySem.W.specialIn K (.builtin "object.__class__") "__get__" = some (some (.builtin "getset_descriptor.__get__")))
    (xt : PySem.W.takesIn K (.builtin "object.__class__") = some true)
    (xm : PySem.W.mroIn K CN (.type "object") = some true)
    (xb : PySem.W.subIn K (.ref CN) (.type "BaseException") = some true)
    (xv : PySem.W.subIn K (.ref CN) (.type "ValueError") = some true)
    (xe : PySem.W.subIn K (.ref CN) (.ref CE) = some true)
    (xself : PySem.W.subIn K (.ref CN) (.ref CN) = some true)
    (xty : PySem.W.typeIn K (.ref CN) = some (.type "type"))
    (xk : PySem.W.keepIn K (.ref CN) = true)
    (xh : PySem.W.hasDictIn K CN = true)
    (xi : PySem.W.isClsIn K CN = true)
    (yb : PySem.W.subIn K (.ref CE) (.type "BaseException") = some true)
    (yi : PySem.W.isClsIn K CE = true)
    (yt : PySem.W.typeIn K (.ref CE) = some (.type "type"))
    (yr : PySem.W.readsIn K CE (.type "type") = true)
    (yg : PySem.W.specialIn K (.ref CE) "__getattribute__" = some (some (.builtin "type.__getattribute__")))
    (yv : PySem.W.findCls K (.ref CE) (.type "type") "__init__" = some (.val (.builtin "ValueError.__init__")))
    (aNoClaim : PySem.W.nsIn K mainGlobals "NoClaim" = some (some (.ref cNoClaim)))
    (iNoClaim : PySem.W.isClsIn K cNoClaim = true)
    (tNoClaim : PySem.W.typeIn K (.ref cNoClaim) = some (.type "type"))
    (sNoClaim : PySem.W.subIn K (.ref CN) (.ref cNoClaim) = some false)
    (aNoLine : PySem.W.nsIn K mainGlobals "NoLine" = some (some (.ref cNoLine)))
    (iNoLine : PySem.W.isClsIn K cNoLine = true)
    (tNoLine : PySem.W.typeIn K (.ref cNoLine) = some (.type "type"))
    (sNoLine : PySem.W.subIn K (.ref CN) (.ref cNoLine) = some false)
    (aNoName : PySem.W.nsIn K mainGlobals "NoName" = some (some (.ref cNoName)))
    (iNoName : PySem.W.isClsIn K cNoName = true)
    (tNoName : PySem.W.typeIn K (.ref cNoName) = some (.type "type"))
    (sNoName : PySem.W.subIn K (.ref CN) (.ref cNoName) = some false)
    (aNoText : PySem.W.nsIn K mainGlobals "NoText" = some (some (.ref cNoText)))
    (iNoText : PySem.W.isClsIn K cNoText = true)
    (tNoText : PySem.W.typeIn K (.ref cNoText) = some (.type "type"))
    (sNoText : PySem.W.subIn K (.ref CN) (.ref cNoText) = some false)
    (aNoTie : PySem.W.nsIn K mainGlobals "NoTie" = some (some (.ref cNoTie)))
    (iNoTie : PySem.W.isClsIn K cNoTie = true)
    (tNoTie : PySem.W.typeIn K (.ref cNoTie) = some (.type "type"))
    (sNoTie : PySem.W.subIn K (.ref CN) (.ref cNoTie) = some false)
    (aNoWidth : PySem.W.nsIn K mainGlobals "NoWidth" = some (some (.ref cNoWidth)))
    (iNoWidth : PySem.W.isClsIn K cNoWidth = true)
    (tNoWidth : PySem.W.typeIn K (.ref cNoWidth) = some (.type "type"))
    (sNoWidth : PySem.W.subIn K (.ref CN) (.ref cNoWidth) = some false)
    (aSamePlace : PySem.W.nsIn K mainGlobals "SamePlace" = some (some (.ref cSamePlace)))
    (iSamePlace : PySem.W.isClsIn K cSamePlace = true)
    (tSamePlace : PySem.W.typeIn K (.ref cSamePlace) = some (.type "type"))
    (sSamePlace : PySem.W.subIn K (.ref CN) (.ref cSamePlace) = some false)
    (aTooMany : PySem.W.nsIn K mainGlobals "TooMany" = some (some (.ref cTooMany)))
    (iTooMany : PySem.W.isClsIn K cTooMany = true)
    (tTooMany : PySem.W.typeIn K (.ref cTooMany) = some (.type "type"))
    (sTooMany : PySem.W.subIn K (.ref CN) (.ref cTooMany) = some false)
    (aTwice : PySem.W.nsIn K mainGlobals "Twice" = some (some (.ref cTwice)))
    (iTwice : PySem.W.isClsIn K cTwice = true)
    (tTwice : PySem.W.typeIn K (.ref cTwice) = some (.type "type"))
    (sTwice : PySem.W.subIn K (.ref CN) (.ref cTwice) = some false)
    (zlen : PySem.W.nsIn K mainGlobals "len" = some none)
    (zlist : PySem.W.nsIn K mainGlobals "list" = some none)
    (ztuple : PySem.W.nsIn K mainGlobals "tuple" = some none)
    (zisinstance : PySem.W.nsIn K mainGlobals "isinstance" = some none)
    (zrange : PySem.W.nsIn K mainGlobals "range" = some none)
    (zenumerate : PySem.W.nsIn K mainGlobals "enumerate" = some none)
    (zreversed : PySem.W.nsIn K mainGlobals "reversed" = some none)
    (zmax : PySem.W.nsIn K mainGlobals "max" = some none)
    (zValueError : PySem.W.nsIn K mainGlobals "ValueError" = some none)
    (aPl : PySem.W.nsIn K mainGlobals "PLAIN" = some (some (.ref pP)))
    (lPl : K.lookup pP = some ⟨.type "tuple", odP, .seq #[.str x1 p1, .str x2 p2, .str x3 p3, .str x4 p4, .str x5 p5] nP, slP⟩)
    (aCt : PySem.W.nsIn K mainGlobals "COUNTED" = some (some (.ref pC)))
    (lCt : K.lookup pC = some ⟨.type "tuple", odC, .seq #[.str y1 r1, .str y2 r2, .str y3 r3] nC, slC⟩)
    (aLe : PySem.W.nsIn K mainGlobals "LETTERS" = some (some (.str xl tl)))
    (aLo : PySem.W.nsIn K mainGlobals "LONGEST_NAME" = some (some (.int vn tn)))
    (aMp : PySem.W.nsIn K mainGlobals "MOST_PLACES" = some (some (.int vp tp)))
    (aMt : PySem.W.nsIn K mainGlobals "MOST_TIES" = some (some (.int vt tt)))
    (dx1 : x1 = "way")
    (dx2 : x2 = "cost")
    (dx3 : x3 = "ring")
    (dx4 : x4 = "round")
    (dx5 : x5 = "must")
    (dy1 : y1 = "flow")
    (dy2 : y2 = "apart")
    (dy3 : y3 = "bare")
    (dL : xl = AZ)
    (dn : vn = 12)
    (dp : vp = 20)
    (dt : vt = 40) :
    ∃ fd : FuncData, (∀ (s : Shared) (v : Value), BindsTo s fd ⟨[v], []⟩ [("_law_script", v)]) ∧ ∀ base : Heap, K.In base → base.Ns mainGlobals mg → FnOk l.prog w K mg base CX0 60 fa fd ["_law_script"] (spLaw K) := by
  have e := hfa.symm.trans (PySem.W.mg_of X G aLaw)
  cases e
  have DNS : Def K mg "names_in_set" (top 24) ["kind"] := ⟨_, _, PySem.W.mg_of X G aNS, fun_mk (st := top 24) lNS eNS kNS, (fun_mk (st := top 24) lNS eNS kNS).binds (ps := ["kind"]) fun _ _ _ _ _ _ us hl => match us, hl with | [_], _ => rfl⟩
  have DNT : Def K mg "names_in_term" (top 25) ["term"] := ⟨_, _, PySem.W.mg_of X G aNT, fun_mk (st := top 25) lNT eNT kNT, (fun_mk (st := top 25) lNT eNT kNT).binds (ps := ["term"]) fun _ _ _ _ _ _ us hl => match us, hl with | [_], _ => rfl⟩
  have DFN : Def K mg "free_names" (top 26) ["claim"] := ⟨_, _, PySem.W.mg_of X G aFN, fun_mk (st := top 26) lFN eFN kFN, (fun_mk (st := top 26) lFN eFN kFN).binds (ps := ["claim"]) fun _ _ _ _ _ _ us hl => match us, hl with | [_], _ => rfl⟩
  have DRS : Def K mg "refuse_strangers" (top 27) ["net", "names"] := ⟨_, _, PySem.W.mg_of X G aRS, fun_mk (st := top 27) lRS eRS kRS, (fun_mk (st := top 27) lRS eRS kRS).binds (ps := ["net", "names"]) fun _ _ _ _ _ _ us hl => match us, hl with | [_, _], _ => rfl⟩
  have DLC : Def K mg "look_at_claim" (top 28) ["net", "claim"] := ⟨_, _, PySem.W.mg_of X G aLC, fun_mk (st := top 28) lLC eLC kLC, (fun_mk (st := top 28) lLC eLC kLC).binds (ps := ["net", "claim"]) fun _ _ _ _ _ _ us hl => match us, hl with | [_, _], _ => rfl⟩
  have DLT : Def K mg "look_at_term" (top 29) ["net", "term"] := ⟨_, _, PySem.W.mg_of X G aLT, fun_mk (st := top 29) lLT eLT kLT, (fun_mk (st := top 29) lLT eLT kLT).binds (ps := ["net", "term"]) fun _ _ _ _ _ _ us hl => match us, hl with | [_, _], _ => rfl⟩
  have DPN : Def K mg "put_name" (top 30) ["name", "variable", "place"] := ⟨_, _, PySem.W.mg_of X G aPN, fun_mk (st := top 30) lPN ePN kPN, (fun_mk (st := top 30) lPN ePN kPN).binds (ps := ["name", "variable", "place"]) fun _ _ _ _ _ _ us hl => match us, hl with | [_, _, _], _ => rfl⟩
  have DPS : Def K mg "put_in_set" (top 31) ["kind", "variable", "place"] := ⟨_, _, PySem.W.mg_of X G aPS, fun_mk (st := top 31) lPS ePS kPS, (fun_mk (st := top 31) lPS ePS kPS).binds (ps := ["kind", "variable", "place"]) fun _ _ _ _ _ _ us hl => match us, hl with | [_, _, _], _ => rfl⟩
  have DPT : Def K mg "put_in_term" (top 32) ["term", "variable", "place"] := ⟨_, _, PySem.W.mg_of X G aPT, fun_mk (st := top 32) lPT ePT kPT, (fun_mk (st := top 32) lPT ePT kPT).binds (ps := ["term", "variable", "place"]) fun _ _ _ _ _ _ us hl => match us, hl with | [_, _, _], _ => rfl⟩
  have DPC : Def K mg "put_in" (top 33) ["claim", "variable", "place"] := ⟨_, _, PySem.W.mg_of X G aPC, fun_mk (st := top 33) lPC ePC kPC, (fun_mk (st := top 33) lPC ePC kPC).binds (ps := ["claim", "variable", "place"]) fun _ _ _ _ _ _ us hl => match us, hl with | [_, _, _], _ => rfl⟩
  have DKC : Def K mg "kept_claim" (top 34) ["claim"] := ⟨_, _, PySem.W.mg_of X G aKC, fun_mk (st := top 34) lKC eKC kKC, (fun_mk (st := top 34) lKC eKC kKC).binds (ps := ["claim"]) fun _ _ _ _ _ _ us hl => match us, hl with | [_], _ => rfl⟩
  have DIN : Def K mg "is_name" (top 18) ["text"] := ⟨_, _, PySem.W.mg_of X G aIN, fun_mk (st := top 18) lIN eIN kIN, (fun_mk (st := top 18) lIN eIN kIN).binds (ps := ["text"]) fun _ _ _ _ _ _ us hl => match us, hl with | [_], _ => rfl⟩
  have DLN : Def K mg "look_at_name" (top 19) ["text"] := ⟨_, _, PySem.W.mg_of X G aLN, fun_mk (st := top 19) lLN eLN kLN, (fun_mk (st := top 19) lLN eLN kLN).binds (ps := ["text"]) fun _ _ _ _ _ _ us hl => match us, hl with | [_], _ => rfl⟩
  have DCe : Def K mg "_law_cell_at" (top 36) ["_law_script", "_law_k"] := ⟨_, _, PySem.W.mg_of X G aCe, fun_mk (st := top 36) lCe eCe kCe, (fun_mk (st := top 36) lCe eCe kCe).binds (ps := ["_law_script", "_law_k"]) fun _ _ _ _ _ _ us hl => match us, hl with | [_, _], _ => rfl⟩
  have DNm : Def K mg "_law_name" (top 37) ["_law_cell", "_law_k"] := ⟨_, _, PySem.W.mg_of X G aNm, fun_mk (st := top 37) lNm eNm kNm, (fun_mk (st := top 37) lNm eNm kNm).binds (ps := ["_law_cell", "_law_k"]) fun _ _ _ _ _ _ us hl => match us, hl with | [_, _], _ => rfl⟩
  have DPa : Def K mg "_law_parts" (top 38) ["_law_script"] := ⟨_, _, PySem.W.mg_of X G aPa, fun_mk (st := top 38) lPa ePa kPa, (fun_mk (st := top 38) lPa ePa kPa).binds (ps := ["_law_script"]) fun _ _ _ _ _ _ us hl => match us, hl with | [_], _ => rfl⟩
  have DNet : Def K mg "_law_net" (top 39) ["_law_places", "_law_ties"] := ⟨_, _, PySem.W.mg_of X G aNet, fun_mk (st := top 39) lNet eNet kNet, (fun_mk (st := top 39) lNet eNet kNet).binds (ps := ["_law_places", "_law_ties"]) fun _ _ _ _ _ _ us hl => match us, hl with | [_, _], _ => rfl⟩
  have DKi : Def K mg "_law_kind" (top 40) ["_law_cell", "_law_names_here"] := ⟨_, _, PySem.W.mg_of X G aKi, fun_mk (st := top 40) lKi eKi kKi, (fun_mk (st := top 40) lKi eKi kKi).binds (ps := ["_law_cell", "_law_names_here"]) fun _ _ _ _ _ _ us hl => match us, hl with | [_, _], _ => rfl⟩
  have DTe : Def K mg "_law_term" (top 41) ["_law_cells", "_law_at", "_law_deep", "_law_names_here"] := ⟨_, _, PySem.W.mg_of X G aTe, fun_mk (st := top 41) lTe eTe kTe, (fun_mk (st := top 41) lTe eTe kTe).binds (ps := ["_law_cells", "_law_at", "_law_deep", "_law_names_here"]) fun _ _ _ _ _ _ us hl => match us, hl with | [_, _, _, _], _ => rfl⟩
  have DCl : Def K mg "_law_claim" (top 42) ["_law_cells", "_law_at", "_law_deep", "_law_names_here"] := ⟨_, _, PySem.W.mg_of X G aCl, fun_mk (st := top 42) lCl eCl kCl, (fun_mk (st := top 42) lCl eCl kCl).binds (ps := ["_law_cells", "_law_at", "_law_deep", "_law_names_here"]) fun _ _ _ _ _ _ us hl => match us, hl with | [_, _, _, _], _ => rfl⟩
  have DCo : Def K mg "_law_copy" (top 43) ["_law_claim_here"] := ⟨_, _, PySem.W.mg_of X G aCo, fun_mk (st := top 43) lCo eCo kCo, (fun_mk (st := top 43) lCo eCo kCo).binds (ps := ["_law_claim_here"]) fun _ _ _ _ _ _ us hl => match us, hl with | [_], _ => rfl⟩
  have DSp : Def K mg "_law_spoil" (top 44) ["_law_thing"] := ⟨_, _, PySem.W.mg_of X G aSp, fun_mk (st := top 44) lSp eSp kSp, (fun_mk (st := top 44) lSp eSp kSp).binds (ps := ["_law_thing"]) fun _ _ _ _ _ _ us hl => match us, hl with | [_], _ => rfl⟩
  have DNa : Def K mg "_law_names" (top 45) ["_law_thing"] := ⟨_, _, PySem.W.mg_of X G aNa, fun_mk (st := top 45) lNa eNa kNa, (fun_mk (st := top 45) lNa eNa kNa).binds (ps := ["_law_thing"]) fun _ _ _ _ _ _ us hl => match us, hl with | [_], _ => rfl⟩
  have DPu : Def K mg "_law_put" (top 46) ["_law_thing", "_law_place"] := ⟨_, _, PySem.W.mg_of X G aPu, fun_mk (st := top 46) lPu ePu kPu, (fun_mk (st := top 46) lPu ePu kPu).binds (ps := ["_law_thing", "_law_place"]) fun _ _ _ _ _ _ us hl => match us, hl with | [_, _], _ => rfl⟩
  have DCa : Def K mg "_law_caught" (top 47) ["_law_net_here", "_law_word", "_law_thing"] := ⟨_, _, PySem.W.mg_of X G aCa, fun_mk (st := top 47) lCa eCa kCa, (fun_mk (st := top 47) lCa eCa kCa).binds (ps := ["_law_net_here", "_law_word", "_law_thing"]) fun _ _ _ _ _ _ us hl => match us, hl with | [_, _, _], _ => rfl⟩
  have DDu : Def K mg "_law_due" (top 48) ["_law_places", "_law_thing"] := ⟨_, _, PySem.W.mg_of X G aDu, fun_mk (st := top 48) lDu eDu kDu, (fun_mk (st := top 48) lDu eDu kDu).binds (ps := ["_law_places", "_law_thing"]) fun _ _ _ _ _ _ us hl => match us, hl with | [_, _], _ => rfl⟩
  have DOn : Def K mg "_law_one" (top 49) ["_law_net_here", "_law_places", "_law_claim_here"] := ⟨_, _, PySem.W.mg_of X G aOn, fun_mk (st := top 49) lOn eOn kOn, (fun_mk (st := top 49) lOn eOn kOn).binds (ps := ["_law_net_here", "_law_places", "_law_claim_here"]) fun _ _ _ _ _ _ us hl => match us, hl with | [_, _, _], _ => rfl⟩
  have DNew : MkD K C := ⟨_, _, ⟨mk, aMNew, iMNew, kc⟩, fun_mk (st := sNew) lMNew eMNew kMNew, (fun_mk (st := sNew) lMNew eMNew kMNew).binds (ps := ["self"]) fun _ _ _ _ _ _ us hl => match us, hl with | [_], _ => rfl⟩
  have MPlc : MDef K C "place" "Net.place" sPlc ["self", "name"] := ⟨_, _, ⟨aMPlc, iMPlc, kMPlc⟩, fun_mk (st := sPlc) lMPlc eMPlc kMPlc, (fun_mk (st := sPlc) lMPlc eMPlc kMPlc).binds (ps := ["self", "name"]) fun _ _ _ _ _ _ us hl => match us, hl with | [_, _], _ => rfl⟩
  have MTie : MDef K C "tie" "Net.tie" sTie ["self", "name", "a", "b", "width", "cost"] := ⟨_, _, ⟨aMTie, iMTie, kMTie⟩, fun_mk (st := sTie) lMTie eMTie kMTie, (fun_mk (st := sTie) lMTie eMTie kMTie).binds (ps := ["self", "name", "a", "b", "width", "cost"]) fun _ _ _ _ _ _ us hl => match us, hl with | [_, _, _, _, _, _], _ => rfl⟩
  have MTN : MDef K C "tie_named" "Net.tie_named" sTN ["self", "name"] := ⟨_, _, ⟨aMTN, iMTN, kMTN⟩, fun_mk (st := sTN) lMTN eMTN kMTN, (fun_mk (st := sTN) lMTN eMTN kMTN).binds (ps := ["self", "name"]) fun _ _ _ _ _ _ us hl => match us, hl with | [_, _], _ => rfl⟩
  have MPl : MDef K C "places" "Net.places" sPl ["self"] := ⟨_, _, ⟨aMPl, iMPl, kMPl⟩, fun_mk (st := sPl) lMPl eMPl kMPl, (fun_mk (st := sPl) lMPl eMPl kMPl).binds (ps := ["self"]) fun _ _ _ _ _ _ us hl => match us, hl with | [_], _ => rfl⟩
  have MTs : MDef K C "ties" "Net.ties" sTs ["self"] := ⟨_, _, ⟨aMTs, iMTs, kMTs⟩, fun_mk (st := sTs) lMTs eMTs kMTs, (fun_mk (st := sTs) lMTs eMTs kMTs).binds (ps := ["self"]) fun _ _ _ _ _ _ us hl => match us, hl with | [_], _ => rfl⟩
  have DI : IDef K CN := ⟨_, _, aI, tI, fun_mk (st := sNI) lI eI kI, (fun_mk (st := sNI) lI eI kI).binds (ps := ["self", "name"]) fun _ _ _ _ _ _ us hl => match us, hl with | [_, _], _ => rfl⟩
  subst dL dn dp dt dx1 dx2 dx3 dx4 dx5 dy1 dy2 dy3
  have T : Txt K mg :=
    { len := PySem.W.mg_none_of X G zlen, list := PySem.W.mg_none_of X G zlist, tuple := PySem.W.mg_none_of X G ztuple, isi := PySem.W.mg_none_of X G zisinstance, range := PySem.W.mg_none_of X G zrange, enum := PySem.W.mg_none_of X G zenumerate,
      rev := PySem.W.mg_none_of X G zreversed, max := PySem.W.mg_none_of X G zmax,
      plain := ⟨_, PySem.W.mg_of X G aPl, fun H => sq_const lPl rfl rfl (by show 5 ≤ sizeLine; decide) (.cons ⟨_, rfl⟩ (.cons ⟨_, rfl⟩ (.cons ⟨_, rfl⟩ (.cons ⟨_, rfl⟩ (.cons ⟨_, rfl⟩ .nil)))))⟩,
      counted := ⟨_, PySem.W.mg_of X G aCt, fun H => sq_const lCt rfl rfl (by show 3 ≤ sizeLine; decide) (.cons ⟨_, rfl⟩ (.cons ⟨_, rfl⟩ (.cons ⟨_, rfl⟩ .nil)))⟩,
      letters := ⟨_, PySem.W.mg_of X G aLe⟩, longest := ⟨_, PySem.W.mg_of X G aLo⟩, places := ⟨_, PySem.W.mg_of X G aMp⟩, ties := ⟨_, PySem.W.mg_of X G aMt⟩ }
  have N : NetT K mg C := ⟨⟨pg, hd, po, sa⟩, nK, nL, PySem.W.mg_of X G aClsNet⟩
  have E : ExcT K mg CN CE :=
    { oex := ⟨⟨nm, qn, NsN, bs, _, sn, sub, ab, col, dd, m0, m1, m2, m3, m5, xL, by show PySem.HandSPX.refsVE [.type "ValueError", .type "Exception", .type "BaseException", .type "object"] = true; decide +kernel⟩, xs, xb, xty, xk⟩,
      gN := PySem.W.mg_of X G aCN, gE := PySem.W.mg_of X G aCE, rd := yr, ga := yg, vi := yv, noN := xn, exm := exm_of yb yi yt xe, err := ⟨xi, xg, xa, xb, xh, xc, xsp, xt, xm⟩, kitV := kit_ve xv,
      kits := fun x hx => by
        simp only [List.mem_cons, List.not_mem_nil, or_false] at hx
        rcases hx with rfl | rfl | rfl | rfl | rfl | rfl | rfl | rfl | rfl
        · exact ⟨_, PySem.W.mg_of X G aNoClaim, kit_no xself iNoClaim tNoClaim sNoClaim⟩
        · exact ⟨_, PySem.W.mg_of X G aNoLine, kit_no xself iNoLine tNoLine sNoLine⟩
        · exact ⟨_, PySem.W.mg_of X G aNoName, kit_no xself iNoName tNoName sNoName⟩
        · exact ⟨_, PySem.W.mg_of X G aNoText, kit_no xself iNoText tNoText sNoText⟩
        · exact ⟨_, PySem.W.mg_of X G aNoTie, kit_no xself iNoTie tNoTie sNoTie⟩
        · exact ⟨_, PySem.W.mg_of X G aNoWidth, kit_no xself iNoWidth tNoWidth sNoWidth⟩
        · exact ⟨_, PySem.W.mg_of X G aSamePlace, kit_no xself iSamePlace tSamePlace sSamePlace⟩
        · exact ⟨_, PySem.W.mg_of X G aTooMany, kit_no xself iTooMany tTooMany sTooMany⟩
        · exact ⟨_, PySem.W.mg_of X G aTwice, kit_no xself iTwice tTwice sTwice⟩
      val := PySem.W.mg_none_of X G zValueError }
  refine ⟨PySem.W.fnOf "law" "law" (defArgs (top 50)) (defBody (top 50)) (defScope (top 50)) .none kVLaw dcLaw pmLaw anLaw cdLaw ctLaw, fun s v => .of_eq rfl, fun base _ _ => ?_⟩
  have cNS := ok_NS (P := l.prog) (w := w) (base := base) DNS T
  have cNT := ok_NT DNT T cNS 12
  have cFN := ok_FN DFN T cNS cNT 12
  have cPN := ok_PN (P := l.prog) (w := w) (base := base) DPN
  have cPS := ok_PS DPS T cPN
  have cPT := ok_PT DPT T cPN cPS 30
  have cKC := ok_KC (P := l.prog) (w := w) (base := base) DKC T 40
  have cPC := ok_PC DPC T cPN cPS cPT cKC 12 (by decide)
  have cPl := ok_Pl (P := l.prog) (w := w) (base := base) MPl T N
  have cTs := ok_Ts (P := l.prog) (w := w) (base := base) MTs T N
  have cI := ok_NI (P := l.prog) (w := w) (base := base) DI E
  have cRS := ok_RS DRS N E cPl cI
  have cLC := ok_LC DLC cRS cFN
  have cLT := ok_LT DLT cRS cNT
  have cCa := ok_Ca DCa T E cLC cLT
  have cCo := ok_Co (P := l.prog) (w := w) (base := base) DCo T 40
  have cSp := ok_Sp (P := l.prog) (w := w) (base := base) DSp T 40
  have cNa := ok_Na (P := l.prog) (w := w) (base := base) DNa T 12
  have cPu := ok_Pu (P := l.prog) (w := w) (base := base) DPu T 12
  have cDu := ok_Du DDu cNa
  have cOn := ok_On DOn cCo cCa cDu
  have cIN := ok_IN (P := l.prog) (w := w) (base := base) DIN T
  have cLN := ok_LN DLN cIN
  have cM := ok_New (P := l.prog) (w := w) (mg := mg) (base := base) DNew N
  have cPlc := ok_Plc MPlc T N cLN
  have cTN := ok_TN (P := l.prog) (w := w) (base := base) MTN N
  have cTie := ok_Tie MTie T N cLN cTN
  have cNet := ok_Net DNet N cM cPlc cTie
  have cCe := ok_Ce (P := l.prog) (w := w) (base := base) DCe T
  have cNm := ok_Nm (P := l.prog) (w := w) (base := base) DNm T
  have cPa := ok_Pa DPa T cCe cNm
  have cKi := ok_Ki (P := l.prog) (w := w) (base := base) DKi T
  have cTe := ok_Te DTe T cKi 2
  have cCl := ok_Cl DCl T cKi cTe 5
  exact ok_Law (fun_mk (st := top 50) lLaw eLaw kLaw) T N cPa cNet cCe cCl cOn cCo cPC cPu cCa cSp cPl cTs
theorem walk {l : PySem.W.OpenLaw} {q : Program} {loose : List Str} {XP : (Str → Option Value) → Heap → Prop} {YP : World → Heap → Prop} {d : DefRec} {K : Params → PySem.W.Frag} (hn : l.most = some 63) (hdf : d.params.defaults = [])
    (hY : ∀ (w : World) (h : Heap), YP w h → (K w.params).In h)
    (F : ∀ (w : World) (mg : Str → Option Value) (fa : Addr) (h : Heap), (K w.params).In h → h.Ns mainGlobals mg → mg d.name = some (.ref fa) →
      ∃ fd : FuncData, (∀ (s : Shared) (u : Value), BindsTo s fd ⟨[u], []⟩ [("_law_script", u)]) ∧ ∀ base : Heap, (K w.params).In base → base.Ns mainGlobals mg → FnOk l.prog w (K w.params) mg base CX0 60 fa fd ["_law_script"] (spLaw (K w.params))) :
    PySem.W.WalkO q loose XP YP l.row.toRowW d [] (fun f vs => PySem.call f vs) :=
  L2.walk_of (n := 63) (k := 60) (x := "_law_script") (CX := fun _ => CX0) (sp := fun w => spLaw (K w.params)) hn (by decide) hdf ⟨rfl, by decide, by decide⟩ hY F (fun _ _ a ns hl _ hS => ⟨a, ns, rfl, hS, hl, fun _ => rfl⟩) fun _ _ _ _ _ z => z
end K71
open PySem PySem.W PyProof.Rows in
set_option maxRecDepth 100000 in
set_option maxHeartbeats 0 in
theorem PySem.Challenge.cw_netcourt_k71_strangers_and_variables_holds : PySem.Challenge.rw_netcourt_k71_strangers_and_variables.Holds := by
  w_on; o_law; k_head; (case hw => w_witness2)
  k_fill
  refine K71.walk (l := PySem.Challenge.rw_netcourt_k71_strangers_and_variables) rfl rfl (fun w h Y => PySem.W.kIn_of Y) ?F
  case F =>
    intro w mg fa h KX G hmg
    refine' K71.all_mk KX G hmg ?aClsNet ?aCN ?aCE ?aNS ?lNS ?eNS ?kNS ?aNT ?lNT ?eNT ?kNT ?aFN ?lFN ?eFN ?kFN ?aRS ?lRS ?eRS ?kRS ?aLC ?lLC ?eLC ?kLC ?aLT ?lLT ?eLT ?kLT ?aPN ?lPN ?ePN ?kPN ?aPS ?lPS ?ePS ?kPS ?aPT ?lPT ?ePT ?kPT ?aPC ?lPC ?ePC ?kPC ?aKC ?lKC ?eKC ?kKC ?aIN ?lIN ?eIN ?kIN ?aLN ?lLN ?eLN ?kLN ?aCe ?lCe ?eCe ?kCe ?aNm ?lNm ?eNm ?kNm ?aPa ?lPa ?ePa ?kPa ?aNet ?lNet ?eNet ?kNet ?aKi ?lKi ?eKi ?kKi ?aTe ?lTe ?eTe ?kTe ?aCl ?lCl ?eCl ?kCl ?aCo ?lCo ?eCo ?kCo ?aSp ?lSp ?eSp ?kSp ?aNa ?lNa ?eNa ?kNa ?aPu ?lPu ?ePu ?kPu ?aCa ?lCa ?eCa ?kCa ?aDu ?lDu ?eDu ?kDu ?aOn ?lOn ?eOn ?kOn ?aLaw ?lLaw ?eLaw ?kLaw ?aMNew ?iMNew ?lMNew ?eMNew ?kMNew ?aMPlc ?iMPlc ?lMPlc ?eMPlc ?kMPlc ?aMTie ?iMTie ?lMTie ?eMTie ?kMTie ?aMTN ?iMTN ?lMTN ?eMTN ?kMTN ?aMPl ?iMPl ?lMPl ?eMPl ?kMPl ?aMTs ?iMTs ?lMTs ?eMTs ?kMTs ?aI ?tI ?lI ?eI ?kI ?pg ?hd ?po ?sa ?mk ?kc ?nK ?nL ?xL ?xs ?xg ?xa ?xn ?xc ?xsp ?xt ?xm ?xb ?xv ?xe ?xself ?xty ?xk ?xh ?xi ?yb ?yi ?yt ?yr ?yg ?yv ?aNoClaim ?iNoClaim ?tNoClaim ?sNoClaim ?aNoLine ?iNoLine ?tNoLine ?sNoLine ?aNoName ?iNoName ?tNoName ?sNoName ?aNoText ?iNoText ?tNoText ?sNoText ?aNoTie ?iNoTie ?tNoTie ?sNoTie ?aNoWidth ?iNoWidth ?tNoWidth ?sNoWidth ?aSamePlace ?iSamePlace ?tSamePlace ?sSamePlace ?aTooMany ?iTooMany ?tTooMany ?sTooMany ?aTwice ?iTwice ?tTwice ?sTwice ?zlen ?zlist ?ztuple ?zisinstance ?zrange ?zenumerate ?zreversed ?zmax ?zValueError ?aPl ?lPl ?aCt ?lCt ?aLe ?aLo ?aMp ?aMt ?dx1 ?dx2 ?dx3 ?dx4 ?dx5 ?dy1 ?dy2 ?dy3 ?dL ?dn ?dp ?dt
    (case aClsNet => k_is)
    (case aCN => k_is)
    (case aCE => k_is)
    (case aNS => k_is)
    (case lNS => k_is)
    (case eNS => k_is)
    (case kNS => k_is)
    (case aNT => k_is)
    (case lNT => k_is)
    (case eNT => k_is)
    (case kNT => k_is)
    (case aFN => k_is)
    (case lFN => k_is)
    (case eFN => k_is)
    (case kFN => k_is)
    (case aRS => k_is)
    (case lRS => k_is)
    (case eRS => k_is)
    (case kRS => k_is)
    (case aLC => k_is)
    (case lLC => k_is)
    (case eLC => k_is)
    (case kLC => k_is)
    (case aLT => k_is)
    (case lLT => k_is)
    (case eLT => k_is)
    (case kLT => k_is)
    (case aPN => k_is)
    (case lPN => k_is)
    (case ePN => k_is)
    (case kPN => k_is)
    (case aPS => k_is)
    (case lPS => k_is)
    (case ePS => k_is)
    (case kPS => k_is)
    (case aPT => k_is)
    (case lPT => k_is)
    (case ePT => k_is)
    (case kPT => k_is)
    (case aPC => k_is)
    (case lPC => k_is)
    (case ePC => k_is)
    (case kPC => k_is)
    (case aKC => k_is)
    (case lKC => k_is)
    (case eKC => k_is)
    (case kKC => k_is)
    (case aIN => k_is)
    (case lIN => k_is)
    (case eIN => k_is)
    (case kIN => k_is)
    (case aLN => k_is)
    (case lLN => k_is)
    (case eLN => k_is)
    (case kLN => k_is)
    (case aCe => k_is)
    (case lCe => k_is)
    (case eCe => k_is)
    (case kCe => k_is)
    (case aNm => k_is)
    (case lNm => k_is)
    (case eNm => k_is)
    (case kNm => k_is)
    (case aPa => k_is)
    (case lPa => k_is)
    (case ePa => k_is)
    (case kPa => k_is)
    (case aNet => k_is)
    (case lNet => k_is)
    (case eNet => k_is)
    (case kNet => k_is)
    (case aKi => k_is)
    (case lKi => k_is)
    (case eKi => k_is)
    (case kKi => k_is)
    (case aTe => k_is)
    (case lTe => k_is)
    (case eTe => k_is)
    (case kTe => k_is)
    (case aCl => k_is)
    (case lCl => k_is)
    (case eCl => k_is)
    (case kCl => k_is)
    (case aCo => k_is)
    (case lCo => k_is)
    (case eCo => k_is)
    (case kCo => k_is)
    (case aSp => k_is)
    (case lSp => k_is)
    (case eSp => k_is)
    (case kSp => k_is)
    (case aNa => k_is)
    (case lNa => k_is)
    (case eNa => k_is)
    (case kNa => k_is)
    (case aPu => k_is)
    (case lPu => k_is)
    (case ePu => k_is)
    (case kPu => k_is)
    (case aCa => k_is)
    (case lCa => k_is)
    (case eCa => k_is)
    (case kCa => k_is)
    (case aDu => k_is)
    (case lDu => k_is)
    (case eDu => k_is)
    (case kDu => k_is)
    (case aOn => k_is)
    (case lOn => k_is)
    (case eOn => k_is)
    (case kOn => k_is)
    (case aLaw => k_is)
    (case lLaw => k_is)
    (case eLaw => k_is)
    (case kLaw => k_is)
    (case aMNew => k_is)
    (case iMNew => k_is)
    (case lMNew => k_is)
    (case eMNew => k_is)
    (case kMNew => k_is)
    (case aMPlc => k_is)
    (case iMPlc => k_is)
    (case lMPlc => k_is)
    (case eMPlc => k_is)
    (case kMPlc => k_is)
    (case aMTie => k_is)
    (case iMTie => k_is)
    (case lMTie => k_is)
    (case eMTie => k_is)
    (case kMTie => k_is)
    (case aMTN => k_is)
    (case iMTN => k_is)
    (case lMTN => k_is)
    (case eMTN => k_is)
    (case kMTN => k_is)
    (case aMPl => k_is)
    (case iMPl => k_is)
    (case lMPl => k_is)
    (case eMPl => k_is)
    (case kMPl => k_is)
    (case aMTs => k_is)
    (case iMTs => k_is)
    (case lMTs => k_is)
    (case eMTs => k_is)
    (case kMTs => k_is)
    (case aI => k_is)
    (case tI => k_is)
    (case lI => k_is)
    (case eI => k_is)
    (case kI => k_is)
    (case pg => k_is)
    (case hd => k_is)
    (case po => k_is)
    (case sa => k_is)
    (case mk => k_is)
    (case kc => k_is)
    (case nK => k_is)
    (case nL => k_is)
    (case xL => k_is)
    (case xs => k_is)
    (case xg => k_is)
    (case xa => k_is)
    (case xn => k_is)
    (case xc => k_is)
    (case xsp => k_is)
    (case xt => k_is)
    (case xm => k_is)
    (case xb => k_is)
    (case xv => k_is)
    (case xe => k_is)
    (case xself => k_is)
    (case xty => k_is)
    (case xk => k_is)
    (case xh => k_is)
    (case xi => k_is)
    (case yb => k_is)
    (case yi => k_is)
    (case yt => k_is)
    (case yr => k_is)
    (case yg => k_is)
    (case yv => k_is)
    (case aNoClaim => k_is)
    (case iNoClaim => k_is)
    (case tNoClaim => k_is)
    (case sNoClaim => k_is)
    (case aNoLine => k_is)
    (case iNoLine => k_is)
    (case tNoLine => k_is)
    (case sNoLine => k_is)
    (case aNoName => k_is)
    (case iNoName => k_is)
    (case tNoName => k_is)
    (case sNoName => k_is)
    (case aNoText => k_is)
    (case iNoText => k_is)
    (case tNoText => k_is)
    (case sNoText => k_is)
    (case aNoTie => k_is)
    (case iNoTie => k_is)
    (case tNoTie => k_is)
    (case sNoTie => k_is)
    (case aNoWidth => k_is)
    (case iNoWidth => k_is)
    (case tNoWidth => k_is)
    (case sNoWidth => k_is)
    (case aSamePlace => k_is)
    (case iSamePlace => k_is)
    (case tSamePlace => k_is)
    (case sSamePlace => k_is)
    (case aTooMany => k_is)
    (case iTooMany => k_is)
    (case tTooMany => k_is)
    (case sTooMany => k_is)
    (case aTwice => k_is)
    (case iTwice => k_is)
    (case tTwice => k_is)
    (case sTwice => k_is)
    (case zlen => k_is)
    (case zlist => k_is)
    (case ztuple => k_is)
    (case zisinstance => k_is)
    (case zrange => k_is)
    (case zenumerate => k_is)
    (case zreversed => k_is)
    (case zmax => k_is)
    (case zValueError => k_is)
    (case aPl => k_is)
    (case lPl => k_is)
    (case aCt => k_is)
    (case lCt => k_is)
    (case aLe => k_is)
    (case aLo => k_is)
    (case aMp => k_is)
    (case aMt => k_is)
    (case dx1 => decide +kernel)
    (case dx2 => decide +kernel)
    (case dx3 => decide +kernel)
    (case dx4 => decide +kernel)
    (case dx5 => decide +kernel)
    (case dy1 => decide +kernel)
    (case dy2 => decide +kernel)
    (case dy3 => decide +kernel)
    (case dL => decide +kernel)
    (case dn => decide +kernel)
    (case dp => decide +kernel)
    (case dt => decide +kernel)
