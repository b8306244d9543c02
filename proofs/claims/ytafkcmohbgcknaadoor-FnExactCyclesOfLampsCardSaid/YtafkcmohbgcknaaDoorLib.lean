/- Small laws that the hand-made contracts use: a call of a function value that captured; a search by a predicate; equal results. No condition beyond each law's own. -/
import Derived.Test.YtafkcmohbgcknaaDoorWWords
import Derived.Test.YtafkcmohbgcknaaDoorWLast
import Derived.Test.YtafkcmohbgcknaaDoorWMore
import Derived.Deep.DeepMust
namespace Go.Proofs.YtafkcmohbgcknaaDoor
open Go.RowKit Go.Proofs.YtafkcmohbgcknaaDoorW.PrintWords Go.Proofs.YtafkcmohbgcknaaDoorW.PrintLast Go.Proofs.YtafkcmohbgcknaaDoorW.PrintMore
set_option linter.unusedVariables false
set_option linter.unusedSimpArgs false
section
variable {P : Program} {ops : Array Oper} {Q : Exit → Act → World → Prop}
/-- A call of a function value that captured. -/
theorem goesC_ {rest : List Oper} {oi : Oper} {a : Act} {w : World} (N : Option Tmp) (hd : oi.dst = N) (hg : oi.guard = none) {f : FuncId} {fn : Func} {t : Tmp} {xs : Array Operand} {ts : Array TypeId} (caps : Array Value) (hf : P.funcs[f]? = some fn ∧ (fn.name == "runtime.NumGoroutine") = false ∧ fn.body.isSome = true) (args : Array Value)
    (hop : oi.op = .call { callee := .value (.tmp t), args := xs, argTypes := ts }) (hv : a.eval (.tmp t) = .func (.func f) #[] caps) (hargs : xs.map a.eval = args)
    (h : Calls P f (args ++ caps) w fun e w' => ∃ v, e = .returned v ∧ wpList P ops Q rest (a.put N v) w') : wpList P ops Q (oi :: rest) a w := by
  refine wpList_plain hg fun K hK => ?_
  have he := enters_ hf.1 hf.2.1 hf.2.2 (args ++ caps) w
  have hrun : (execOp a.eval oi).run P w = .ok (.enter f (args ++ caps)) w := by
    unfold execOp
    simp [hop, resolve, Deferred.ofValue, invoke, hargs, hv, he]
  unfold Oper.wp
  rw [hrun, Oper.upon_enter]
  refine h.mono fun e w'' hh => ?_
  obtain ⟨v, rfl, hk⟩ := hh
  subst hd
  exact hK _ _ hk
/-- A call of a function value without captures. -/
theorem goesK_ {rest : List Oper} {oi : Oper} {a : Act} {w : World} (N : Option Tmp) (hd : oi.dst = N) (hg : oi.guard = none) {f : FuncId} {fn : Func} {t : Tmp} {xs : Array Operand} {ts : Array TypeId} (hf : P.funcs[f]? = some fn) (hname : (fn.name == "runtime.NumGoroutine") = false) (hb : fn.body.isSome = true) (args : Array Value)
    (hop : oi.op = .call { callee := .value (.tmp t), args := xs, argTypes := ts }) (hv : a.eval (.tmp t) = .func (.func f) #[] #[]) (hargs : xs.map a.eval = args)
    (h : Calls P f args w fun e w' => ∃ v, e = .returned v ∧ wpList P ops Q rest (a.put N v) w') : wpList P ops Q (oi :: rest) a w :=
  goesC_ N hd hg #[] ⟨hf, hname, hb⟩ args hop hv hargs (by simpa using h)
end
theorem ret_bool {a b : Bool} (h : a = b) : Ending.returned (.bool a) = .returned (.bool b) := by rw [h]
theorem ret_int {k : IntKind} {a b : Int} (h : a = b) : Ending.returned (.int k a) = .returned (.int k b) := by rw [h]
theorem ret_str {a b : ByteArray} (h : a = b) : Ending.returned (.string a) = .returned (.string b) := by rw [h]
/-- The first index at which p holds, or -1: slices.IndexFunc. -/
def idxI {α : Type} (p : α → Bool) (l : List α) : Int := if l.any p then (l.findIdx p : Int) else -1
theorem idxI_hit {α : Type} (p : α → Bool) (l : List α) (k : Nat) (h : k < l.length) (hp : p l[k] = true) (hn : ∀ j (hj : j < k), p (l[j]'(by omega)) = false) : idxI p l = k := by
  unfold idxI
  rw [if_pos (List.any_eq_true.2 ⟨l[k], List.getElem_mem h, hp⟩)]
  have : l.findIdx p = k := (List.findIdx_eq h).2 ⟨hp, fun j hj => hn j hj⟩
  rw [this]
theorem idxI_miss {α : Type} (p : α → Bool) (l : List α) (hn : ∀ j (hj : j < l.length), p l[j] = false) : idxI p l = -1 := by
  unfold idxI
  rw [if_neg]
  intro h
  obtain ⟨x, hx, hp⟩ := List.any_eq_true.1 h
  obtain ⟨j, hj, rfl⟩ := List.getElem_of_mem hx
  rw [hn j hj] at hp; cases hp
theorem idxI_ge {α : Type} (p : α → Bool) (l : List α) : decide (0 ≤ idxI p l) = l.any p := by
  unfold idxI; cases h : l.any p <;> simp
def inB (a b c : Int) : Bool := decide (b ≤ a) && decide (a ≤ c)
theorem inB_lo {a b c : Int} (h : inB a b c = true) : b ≤ a := by simp [inB] at h; exact h.1
theorem inB_hi {a b c : Int} (h : inB a b c = true) : a ≤ c := by simp [inB] at h; exact h.2
theorem inB_of {a b c : Int} (h : b ≤ a) (h' : a ≤ c) : inB a b c = true := by simp [inB, h, h']
theorem inB_ite (a b c : Int) : (if a ≥ b then (some (decide (a ≤ c))) else (some false)) = some (inB a b c) := by
  unfold inB; split <;> rename_i h
  · simp [show b ≤ a from h]
  · simp [show ¬ b ≤ a from h]
theorem and_some (x y : Bool) : (if x = true then some y else some false) = some (x && y) := by cases x <;> rfl
/-- A clue's form for so many rings. -/
def clueB (r k a b : Int) : Bool := if k = 0 ∨ k = 4 then inB a 0 (wrap64 (r - 1)) && inB b 0 1 else if k = 1 then inB a 0 r && (b == 0) else if k = 2 then inB a 2 9 && inB b 0 (wrap64 (a - 1)) else if k = 3 then inB a 0 (wrap64 (shl .i64 1 r - 1)) && inB b 0 127 else false
def isClueB (r k a b : Int) : Bool := inB r 1 7 && clueB r k a b
/-- A sign of a need: 0, 1 or ?. -/
def isSign (b : UInt8) : Bool := b == 48 || b == 49 || b == 63
/-- A need of so many lamps. -/
def needB (n : Nat) (s : ByteArray) : Bool := s.size == n && s.data.toList.all isSign
def areLampsB (l : List ByteArray) : Bool := inB l.length 1 10 && l.all (needB l.length)
/-- A state of so many lamps. -/
def litB (n : Nat) (s : ByteArray) : Bool := s.size == n && s.data.toList.all (fun b => b == 48 || b == 49)
/-- A block of so many places. -/
def blockB (l : List Int) (a i b j : Int) : Bool := inB a 0 ((l.length : Int) - 1) && inB b 0 ((l.length : Int) - 1) && !(a == b) && inB i 0 (wrap64 (rd l a - 1)) && inB j 0 (wrap64 (rd l b - 1))
theorem all_of {α : Type} (p : α → Bool) (l : List α) (h : ∀ j (hj : j < l.length), p l[j] = true) : l.all p = true := by
  rw [List.all_eq_true]
  intro x hx
  obtain ⟨j, hj, rfl⟩ := List.getElem_of_mem hx
  exact h j hj
theorem all_not {α : Type} (p : α → Bool) (l : List α) (j : Nat) (hj : j < l.length) (h : p l[j] = false) : l.all p = false := by
  rw [← Bool.not_eq_true, List.all_eq_true]
  intro h'
  rw [h' _ (List.getElem_mem hj)] at h
  cases h
/-- Is a state as a need says? -/
def meetsL (n s : List UInt8) : Bool := (n.zip s).all fun p => p.1 == 63 || p.1 == p.2
theorem meetsL_of (n s : List UInt8) (hl : n.length ≤ s.length) (h : ∀ j (hj : j < n.length), n[j] = 63 ∨ n[j] = s[j]'(by omega)) : meetsL n s = true := by
  refine all_of _ _ fun j hj => ?_
  have hj' : j < n.length := by simp at hj; omega
  rcases h j hj' with h | h <;> simp [h]
theorem meetsL_not (n s : List UInt8) (j : Nat) (hj : j < n.length) (hs : j < s.length) (h1 : ¬ n[j] = 63) (h2 : ¬ n[j] = s[j]) : meetsL n s = false := by
  refine all_not _ _ j (by simp; omega) ?_
  simp [h1, h2]
/-- The state behind a tick. -/
def tickL (l : List ByteArray) (s : List UInt8) : List UInt8 := List.zipWith (fun nd b => if meetsL nd.data.toList s = true then 97 - b else b) l s
theorem tickL_length (l : List ByteArray) (s : List UInt8) (h : l.length = s.length) : (tickL l s).length = s.length := by simp [tickL, h]
/-- The key of a ring: a need that says nothing of its own ring. -/
def keyB (n i : Nat) (s : ByteArray) : Bool := needB n s && s.data.toList.getD i 0 == 63
def keysB (l : List ByteArray) : Bool := !((List.range l.length).any fun i => !keyB l.length i (l.getD i ByteArray.empty)) && inB l.length 1 10
/-- A need with the signs 0 and 1 exchanged. -/
def otherL (s : List UInt8) : List UInt8 := s.map fun c => if c = 63 then 63 else 97 - c
def otherS (s : ByteArray) : ByteArray := ⟨(otherL s.data.toList).toArray⟩
end Go.Proofs.YtafkcmohbgcknaaDoor
