/- Words for long printed walks: steps that come again and again, told once as theorems (some with their proof by tactic as a default) and classes. No condition. -/
import Derived.Test.YtpdkjehplfgjcabGreatDoorQUp
namespace Go.Proofs.YtpdkjehplfgjcabGreatDoor
open Go Go.RowKit Go.Proofs.YtpdkjehplfgjcabGreatDoorW.PrintWords Go.Proofs.YtpdkjehplfgjcabGreatDoorW.PrintLast Go.Proofs.YtpdkjehplfgjcabGreatDoorW.PrintMore
set_option linter.unusedVariables false
/-! ### 1. Proofs by default -/
theorem rF {P : Prop} (h : P := by first | rfl | (simp; done) | (simp [*]; done)) : P := h
theorem eW {P : Prop} (h : P := by first | rfl | (simp [errW_none, errW_some] <;> rfl) | (simp [*, errW_none, errW_some] <;> rfl)) : P := h
theorem oD {p : Prop} [Decidable p] (h : decide p = true := by first | (with_reducible assumption) | assumption) : p := of_decide_eq_true h
theorem kL {P : Prop} (h : P := by first | omega | exact Nat.le_refl _) : Aside0 P := ⟨h⟩
theorem kR {a : Nat} : Aside0 (a ≤ a) := ⟨Nat.le_refl _⟩
theorem d0 {w w' : World} (h : Drawn0 w w' := by repeat (first | exact Drawn0.refl _ | apply Drawn0.step)) : Drawn0 w w' := h
theorem nd2 {P : Prop} (h : P := by first | exact ⟨rfl, _, World.drewN_drewN _ _ _⟩ | exact ⟨rfl, _, Eq.trans (World.drewN_drewN _ _ _) (congrArg (World.drewN _) (Nat.add_assoc _ _ _))⟩) : P := h
/-! ### 2. Facts -/
theorem dT {p : Prop} [Decidable p] (h : p) : decide p = true := decide_eq_true h
theorem dF {p : Prop} [Decidable p] (h : ¬ p) : decide p = false := decide_eq_false h
theorem gT {a b : Int} (h : a > b) : decide (b < a) = true := decide_eq_true h
theorem gF {a b : Int} (h : ¬ a > b) : decide (b < a) = false := decide_eq_false h
theorem hT {a b : Int} (h : a ≥ b) : decide (b ≤ a) = true := decide_eq_true h
theorem hF {a b : Int} (h : ¬ a ≥ b) : decide (b ≤ a) = false := decide_eq_false h
theorem qT {α : Type} [BEq α] [LawfulBEq α] {a b : α} (h : a = b) : (a == b) = true := beq_iff_eq.mpr h
theorem qF {α : Type} [BEq α] [LawfulBEq α] {a b : α} (h : ¬ a = b) : (a == b) = false := beq_eq_false_iff_ne.mpr h
theorem nT {α : Type} [BEq α] [LawfulBEq α] {a b : α} (h : ¬ a = b) : (a != b) = true := bne_iff_ne.mpr h
theorem nF {α : Type} [BEq α] [LawfulBEq α] {a b : α} (h : a = b) : (a != b) = false := bne_eq_false_iff_eq.mpr h
theorem bF {x : Bool} (h : ¬ x = true) : x = false := by simpa using h
theorem nD {α : Type} [BEq α] [LawfulBEq α] [DecidableEq α] {a b : α} (h : ¬ (a != b) = true) : decide (a = b) = true := by simpa using h
theorem nQ {α : Type} [BEq α] [LawfulBEq α] {a b : α} (h : ¬ (a != b) = true) : (a == b) = true := by simpa using h
/-! ### 3. The ways of what is computed -/
section
variable {α β : Type} {a b : Option α} {r : α} {P : Prop}
theorem iI {c : Prop} [Decidable c] (h : (if c then a else b) = some r) (p : c → a = some r → P) (n : ¬ c → b = some r → P) : P := by
  by_cases hc : c
  · exact p hc (by rw [if_pos hc] at h; exact h)
  · exact n hc (by rw [if_neg hc] at h; exact h)
theorem iN {c : Prop} [Decidable c] (h : (if c then none else b) = some r) (n : ¬ c → b = some r → P) : P := iI h (fun _ h => by cases h) n
theorem iY {c : Prop} [Decidable c] (h : (if c then a else none) = some r) (p : c → a = some r → P) : P := iI h p (fun _ h => by cases h)
theorem iB {x : Bool} (h : (if x = true then a else b) = some r) (p : x = true → a = some r → P) (n : x = false → b = some r → P) : P := iI h p fun hx => n (by simpa using hx)
theorem iBn {x : Bool} (h : (if x = true then none else b) = some r) (n : x = false → b = some r → P) : P := iB h (fun _ h => by cases h) n
theorem iBy {x : Bool} (h : (if x = true then a else none) = some r) (p : x = true → a = some r → P) : P := iB h p (fun _ h => by cases h)
theorem bC {x : Option β} {f : β → Option α} (h : x.bind f = some r) : ∃ t, Aside0 (x = some t) ∧ f t = some r := by
  obtain ⟨t, h1, h2⟩ := Option.bind_eq_some_iff.mp h; exact ⟨t, ⟨h1⟩, h2⟩
theorem yB {y : β} {f : β → Option α} (h : (some y).bind f = some r) : ∃ t, Aside0 (t = y) ∧ f t = some r := ⟨y, ⟨rfl⟩, h⟩
theorem zA {x : Option α} (h : Aside0 (x = some r)) (e : x = none := by rfl) : P := absurd (e.symm.trans h.out) (by simp)
end
theorem fz (n : Nat) : n = 0 ∨ ∃ k, n = k + 1 := by cases n with | zero => exact .inl rfl | succ k => exact .inr ⟨k, rfl⟩
theorem yN {α : Type} (x : α) : ∃ y, Aside0 (y = x) := ⟨x, ⟨rfl⟩⟩
theorem jN (x : Int) : ∃ j, x = j := ⟨x, rfl⟩
/-! ### 4. More rounds give no less -/
class MoT (σ : Type) where le : σ → σ → Prop
instance moO {α : Type} : MoT (Option α) := ⟨LeO⟩
instance moF {α β : Type} [MoT β] : MoT (α → β) := ⟨fun f g => ∀ x, MoT.le (f x) (g x)⟩
class Mo {σ : Type} [MoT σ] (x y : σ) : Prop where out : MoT.le x y
theorem mE {α β : Type} [MoT β] {f g : α → β} (h : ∀ x, Mo (f x) (g x)) : Mo f g := ⟨fun x => (h x).out⟩
instance (priority := low) moApp {α β : Type} [MoT β] {f g : α → β} (x : α) [h : Mo f g] : Mo (f x) (g x) := ⟨h.out x⟩
instance (priority := high) moRefl {α : Type} (x : Option α) : Mo x x := ⟨LeO.refl x⟩
instance moNone {α : Type} (x : Option α) : Mo none x := ⟨LeO.none x⟩
instance moIte {α : Type} {c : Prop} [Decidable c] {a a' b b' : Option α} [h : Mo a a'] [k : Mo b b'] : Mo (if c then a else b) (if c then a' else b') := ⟨LeO.ite h.out k.out⟩
instance moBind {α β : Type} {a a' : Option α} {f f' : α → Option β} [h : Mo a a'] [k : ∀ x, Mo (f x) (f' x)] : Mo (a.bind f) (a'.bind f') := ⟨LeO.bind h.out fun x => (k x).out⟩
theorem moIte' {α : Type} {c : Prop} [Decidable c] {a a' b b' : Option α} (h : Mo a a') (k : Mo b b') : Mo (if c then a else b) (if c then a' else b') := ⟨LeO.ite h.out k.out⟩
theorem moBind' {α β : Type} {a a' : Option α} {f f' : α → Option β} (h : Mo a a') (k : ∀ x, Mo (f x) (f' x)) : Mo (a.bind f) (a'.bind f') := ⟨LeO.bind h.out fun x => (k x).out⟩
theorem mG {P : Prop} (h : P := by repeat' first | (with_reducible refine moIte' ?_ ?_) | (with_reducible refine moBind' ?_ fun _ => ?_) | infer_instance | dsimp only) : P := h
theorem m0 {P : Prop} (h : P := by (repeat' refine And.intro ?_ ?_) <;> (repeat refine mE fun _ => ?_) <;> exact ⟨LeO.none _⟩) : P := h
/-! ### 5. Worlds -/
/-- The block is made in this walk. -/
class Ge (w : World) (g : Nat) : Prop where out : w.heap.size ≤ g
/-- What is below the start stays so. -/
class Mv (w W W' : World) : Prop where out : Below w.heap.size w W → Below w.heap.size w W'
instance (priority := low) mvRefl (w W : World) : Mv w W W := ⟨id⟩
instance mvAlloc (w W W' : World) (o : Obj) [h : Mv w W W'] : Mv w W (W'.alloc o) := ⟨fun b => below_alloc (h.out b) o⟩
instance mvDrew (w W W' : World) [h : Mv w W W'] : Mv w W W'.drew := ⟨fun b => below_drew1 (h.out b)⟩
instance mvDrewN (w W W' : World) (n : Nat) [h : Mv w W W'] : Mv w W (W'.drewN n) := ⟨fun b => pw_below_drewN (h.out b) n⟩
instance mvSet (w W W' : World) (g j : Nat) (v : Value) [h : Mv w W W'] [k : Ge w g] : Mv w W (W'.setCell ⟨g, j, none⟩ v) := ⟨fun b => below_set (h.out b) k.out⟩
/-- Two blocks are apart. -/
class Ap (g g' : Nat) : Prop where out : g ≠ g'
/-- What is kept but for one block. -/
class MvK (w : World) (g : Nat) (row : Option Nat) (W W' : World) : Prop where out : KeepBut w W g row → KeepBut w W' g row
instance (priority := low) mkRefl (w W : World) (g : Nat) (row : Option Nat) : MvK w g row W W := ⟨id⟩
instance mkAlloc (w W W' : World) (g : Nat) (o : Obj) [h : MvK w g none W W'] : MvK w g none W (W'.alloc o) := ⟨fun k => keep_alloc (h.out k) o⟩
instance mkDrew (w W W' : World) (g : Nat) (row : Option Nat) [h : MvK w g row W W'] : MvK w g row W W'.drew := ⟨fun k => keep_drew (h.out k)⟩
instance mkDrewN (w W W' : World) (g : Nat) (row : Option Nat) (n : Nat) [h : MvK w g row W W'] : MvK w g row W (W'.drewN n) := ⟨fun k => keep_drewN (h.out k) n⟩
instance mkSet (w W W' : World) (g j : Nat) (row : Option Nat) (v : Value) [h : MvK w g row W W'] : MvK w g row W (W'.setCell ⟨g, j, none⟩ v) := ⟨fun k => KeepBut.set_ (h.out k) j v⟩
instance mkFar (w W W' : World) (g b j : Nat) (row : Option Nat) (v : Value) [h : MvK w g row W W'] [k : Ge w b] : MvK w g row W (W'.setCell ⟨b, j, none⟩ v) := ⟨fun q => keep_far (h.out q) k.out v⟩
theorem kp {w W W' : World} {g : Nat} {row : Option Nat} (h : Aside0 (KeepBut w W g row)) [m : MvK w g row W W'] : KeepBut w W' g row := m.out h.out
theorem kV {w W W' : World} {g : Nat} {row : Option Nat} (h : Aside0 (KeepBut w W g row)) [m : MvK w g row W W'] : Aside0 (KeepBut w W' g row) := ⟨m.out h.out⟩
theorem gK {w W W' : World} {g g' : Nat} {row : Option Nat} (hg : g' = W'.heap.size) (h : Aside0 (KeepBut w W g row)) [m : MvK w g row W W'] : Ge w g' := ⟨by rw [hg]; exact keep_size (m.out h.out)⟩
theorem gW {w0 w : World} {g : Nat} (h : Aside0 (w0.heap.size ≤ w.heap.size)) (k : Ge w g) : Ge w0 g := ⟨Nat.le_trans h.out k.out⟩
theorem rK {α : Type} {d : Kd α} {e : Nat} {ok : Nat → Prop} {w W W' w1 : World} {g : Nat} {row : Option Nat} {v : Value} {xs : List α} (h : d.R e w1 W'.heap.size ok v xs) (b : Aside0 (KeepBut w W g row)) [m : MvK w g row W W'] : Aside0 (d.R e w1 w.heap.size ok v xs) := ⟨Kd.R_lower h (keep_size (m.out b.out))⟩
theorem kT {w W W' w1 : World} {g : Nat} {row : Option Nat} (h : Aside0 (KeepBut w W g row)) (k : KeepBut W' w1 g row) [m : MvK w g row W W'] : Aside0 (KeepBut w w1 g row) := ⟨KeepBut.trans (m.out h.out) k (.inl rfl)⟩
/-- What holds of a state, found by the worlds' steps. -/
class LtH (W : World) (g : Nat) : Prop where out : g < W.heap.size
theorem nbI {W' : World} {g g' : Nat} (hg : g' = W'.heap.size) [h : LtH W' g] : Ap g g' := ⟨by rw [hg]; exact Nat.ne_of_lt h.out⟩
theorem nbJ {W' : World} {g g' : Nat} (hg : g' = W'.heap.size) [h : LtH W' g] : Ap g' g := ⟨by rw [hg]; exact Nat.ne_of_gt h.out⟩
theorem bel {w W W' : World} (h : Aside0 (Below w.heap.size w W)) [m : Mv w W W'] : Below w.heap.size w W' := m.out h.out
theorem hV {w W W' : World} (h : Aside0 (Below w.heap.size w W)) [m : Mv w W W'] : Aside0 (Below w.heap.size w W') := ⟨m.out h.out⟩
theorem hS {w W W' W2 : World} (h : Aside0 (Below w.heap.size w W)) (k : Below W'.heap.size W' W2) [m : Mv w W W'] : Aside0 (Below w.heap.size w W2) := ⟨below_step (bel h) k⟩
theorem gE {w W W' : World} {g : Nat} (hg : g = W'.heap.size) (h : Aside0 (Below w.heap.size w W)) [m : Mv w W W'] : Ge w g := ⟨by rw [hg]; exact below_size (bel h)⟩
theorem bB {w w' w1 : World} {g : Nat} {o : Obj} (h : Aside0 (w.heap[g]? = some o)) (k : Below w'.heap.size w' w1) [l : Later w w'] : Aside0 (w1.heap[g]? = some o) := ⟨blk_below (bU h.out) k⟩
theorem rB {α : Type} {d : Kd α} {e base : Nat} {ok : Nat → Prop} {w w' w1 : World} {v : Value} {xs : List α} (h : Aside0 (d.R e w base ok v xs)) (k : Below w'.heap.size w' w1) [l : Later w w'] : Aside0 (d.R e w1 base ok v xs) := ⟨Kd.R_below (rU h.out) k⟩
theorem rL {α : Type} {d : Kd α} {e : Nat} {ok : Nat → Prop} {w W W' w1 : World} {v : Value} {xs : List α} (h : d.R e w1 W'.heap.size ok v xs) (b : Aside0 (Below w.heap.size w W)) [m : Mv w W W'] : Aside0 (d.R e w1 w.heap.size ok v xs) := ⟨Kd.R_lower h (below_size (bel b))⟩
theorem nbL {w w' : World} {g g' : Nat} {o : Obj} (hg : g' = w'.heap.size) (h : Aside0 (w.heap[g]? = some o)) [l : Later w w'] : Ap g g' := ⟨by rw [hg]; exact Nat.ne_of_lt (blk_lt (bU h.out))⟩
theorem nbR {w w' : World} {g g' : Nat} {o : Obj} (hg : g' = w'.heap.size) (h : Aside0 (w.heap[g]? = some o)) [l : Later w w'] : Ap g' g := ⟨by rw [hg]; exact Nat.ne_of_gt (blk_lt (bU h.out))⟩
section
variable {w : World} {g : Nat} {t : TypeId} {x0 x1 x2 x3 x4 x5 : Value}
theorem hC2 (h : Aside0 (w.heap[g]? = some (.cells #[x0, x1] t (0, 0)))) : w.cell? ⟨g, 0, none⟩ = some x0 ∧ w.cell? ⟨g, 1, none⟩ = some x1 ∧ w.frozen? ⟨g, 0, none⟩ = false ∧ w.frozen? ⟨g, 1, none⟩ = false :=
  ⟨(blk_cell h.out 0).trans rfl, (blk_cell h.out 1).trans rfl, blk_frozen h.out 0, blk_frozen h.out 1⟩
theorem hC3 (h : Aside0 (w.heap[g]? = some (.cells #[x0, x1, x2] t (0, 0)))) : w.cell? ⟨g, 0, none⟩ = some x0 ∧ w.cell? ⟨g, 1, none⟩ = some x1 ∧ w.cell? ⟨g, 2, none⟩ = some x2 ∧ w.frozen? ⟨g, 0, none⟩ = false ∧ w.frozen? ⟨g, 1, none⟩ = false ∧ w.frozen? ⟨g, 2, none⟩ = false :=
  ⟨(blk_cell h.out 0).trans rfl, (blk_cell h.out 1).trans rfl, (blk_cell h.out 2).trans rfl, blk_frozen h.out 0, blk_frozen h.out 1, blk_frozen h.out 2⟩
end
/-! ### 6. Steps -/
section
variable {P : Program} {ops : Array Oper} {o : Oper} {rest : List Oper} {a : Act} {Q : Exit → Act → World → Prop}
theorem bX {W : World} {N : Tmp} (hd : o.dst = some N) {cs : Array Value} {t : TypeId}
    (h : ∀ g, g = W.heap.size → ∀ w1, Aside0 (w1.heap[g]? = some (.cells cs t (0, 0))) → Below W.heap.size W w1 → wpList P ops Q rest (a.put o.dst (.pointer (some ⟨g, 0, none⟩))) w1)
    (hgd : o.guard = none := by rfl)
    (hrun : (execOp a.eval o).run P W = .ok (.value (.pointer (some ⟨W.heap.size, 0, none⟩))) (W.alloc (.cells cs t (0, 0))) := by first | (go_simp; done) | (go_simp; rfl)) : wpList P ops Q (o :: rest) a W :=
  box_event hgd hd hrun fun g hg w1 hb k => h g hg w1 ⟨hb⟩ k
/-- The operation is this call, with its value in this place. -/
theorem gG (f : FuncId) (N : Option Tmp) {w : World} {as : Array Operand} {ts : Array TypeId} (_hd : o.dst = N) (_ho : o.op = .call { callee := .value (.func f), args := as, argTypes := ts }) (h : wpList P ops Q (o :: rest) a w) : wpList P ops Q (o :: rest) a w := h
theorem gL {f : FuncId} {fn : Func} (hf : P.funcs[f]? = some fn) {w : World} {as : Array Operand} {ts : Array TypeId} (args : Array Value) (h : Calls P f args w fun e w' => ∃ v, e = .returned v ∧ wpList P ops Q rest (a.put o.dst v) w')
    (hop : o.op = .call { callee := .value (.func f), args := as, argTypes := ts } := by rfl) (hg : o.guard = none := by rfl) (hname : (fn.name == "runtime.NumGoroutine") = false := by kernel_rfl) (hb : fn.body.isSome = true := by rfl)
    (hargs : as.map a.eval = args := by (try simp only [List.map_toArray, List.map_cons, List.map_nil]); first | done | rfl | (simp only [List.length_drop, List.length_take]; rfl)) : wpList P ops Q (o :: rest) a w := goesL_ o.dst rfl hg hf hname hb args hop hargs h
theorem gC {f : FuncId} {fn : Func} (hf : P.funcs[f]? = some fn) {w : World} {as : Array Operand} {ts : Array TypeId} {args : Array Value} {v : Value} {R : World → Prop} (c : Calls P f args w fun e w' => e = .returned v ∧ R w') (h : ∀ w', R w' → wpList P ops Q rest (a.put o.dst v) w')
    (hop : o.op = .call { callee := .value (.func f), args := as, argTypes := ts } := by rfl) (hg : o.guard = none := by rfl) (hname : (fn.name == "runtime.NumGoroutine") = false := by kernel_rfl) (hb : fn.body.isSome = true := by rfl)
    (hargs : as.map a.eval = args := by (try simp only [List.map_toArray, List.map_cons, List.map_nil]); first | done | rfl | (simp only [List.length_drop, List.length_take]; rfl)) : wpList P ops Q (o :: rest) a w := goesL_ o.dst rfl hg hf hname hb args hop hargs (c.mono fun e w' he => ⟨v, he.1, h w' he.2⟩)
theorem gD {f : FuncId} {fn : Func} (hf : P.funcs[f]? = some fn) {w : World} {as : Array Operand} {ts : Array TypeId} {args : Array Value} {v : Value → Value} {R : Value → World → Prop} (c : Calls P f args w fun e w' => ∃ x, e = .returned (v x) ∧ R x w') (h : ∀ w' x, R x w' → wpList P ops Q rest (a.put o.dst (v x)) w')
    (hop : o.op = .call { callee := .value (.func f), args := as, argTypes := ts } := by rfl) (hg : o.guard = none := by rfl) (hname : (fn.name == "runtime.NumGoroutine") = false := by kernel_rfl) (hb : fn.body.isSome = true := by rfl)
    (hargs : as.map a.eval = args := by (try simp only [List.map_toArray, List.map_cons, List.map_nil]); first | done | rfl | (simp only [List.length_drop, List.length_take]; rfl)) : wpList P ops Q (o :: rest) a w := goesL_ o.dst rfl hg hf hname hb args hop hargs (c.mono fun e w' he => let ⟨x, h1, h2⟩ := he; ⟨v x, h1, h w' x h2⟩)
end
/-! ### 7. Regions in open order, stores into a new variable -/
/-- The bits of a number. -/
def bn (n m : Nat) : Array Bool := ((List.range n).map m.testBit).toArray
section
variable {P : Program} {md : Region.Mode} {ops : Array Oper} {Q : Exit → Act → World → Prop} {S : World → Prop} {ds : List Nat}
theorem pU (i : Nat) (N : Option Tmp) {oi : Oper} {v : Value} {fuel : Nat} {l : Array Bool} {a : Act} {w : World} (l' : Array Bool) {a' : Act} (h : wpAnyLast P md ops Q S ds fuel l' a' w)
    (hi : ops[i]? = some oi := by rfl) (hN : oi.dst = N := by rfl) (hc : anyB md ops l l' i = true := by exact any_of HT_.out (by kernel_rfl)) (hQ : ∀ c a w, Q (.panic c) (a.put oi.dst v) w → Q (.panic c) a w := by exact fun _ _ _ h => h)
    (hy : Yields P ops oi v a := by refine Or.inl ⟨by rfl, ?_⟩; intro w'; go_simp; with_reducible rfl)
    (ha : a.put N v = a' := by simp only [Act.put, List.setIfInBounds_toArray, List.set_cons_zero, List.set_cons_succ, i64_w, i32_w]; rfl) : wpAnyLast P md ops Q S ds (fuel + 1) l a w :=
  pure_ l' hi hN hc hQ hy ha h
end
section
variable {w : World} {g : Nat} {t : TypeId} {x0 x1 y0 y1 : Value}
theorem bP2 (h : Aside0 (w.heap[g]? = some (.cells #[x0, x1] t (0, 0)))) : ((w.setCell ⟨g, 0, none⟩ y0).setCell ⟨g, 1, none⟩ y1).heap[g]? = some (.cells #[y0, y1] t (0, 0)) :=
  blk_put (cs := #[y0, x1]) (blk_put (cs := #[x0, x1]) h.out 0 _ rfl) 1 _ rfl
theorem rQ2 {α : Type} {d : Kd α} {e base : Nat} {ok : Nat → Prop} {v : Value} {xs : List α} (h : Aside0 (d.R e w base ok v xs)) (b : Aside0 (w.heap[g]? = some (.cells #[x0, x1] t (0, 0)))) (ht : ∀ q, q ∈ e :: d.E → q ≠ t := by decide) : d.R e ((w.setCell ⟨g, 0, none⟩ y0).setCell ⟨g, 1, none⟩ y1) base ok v xs :=
  Kd.R_mono (Kd.R_far (p := ⟨g, 1, none⟩) (Kd.R_far (p := ⟨g, 0, none⟩) (Kd.R_types h.out b.out ht) (fun _ hk => hk.2) y0) (fun _ hk => hk.2) y1) (fun _ h_ => h_.1)
end
/-- What a block holds stays. -/
class Kb (g : Nat) (W W' : World) : Prop where out : ∀ {o : Obj}, W.heap[g]? = some o → W'.heap[g]? = some o
instance (priority := low) kbRefl (g : Nat) (W : World) : Kb g W W := ⟨id⟩
instance kbAlloc (g : Nat) (W W' : World) (o : Obj) [h : Kb g W W'] : Kb g W (W'.alloc o) := ⟨fun k => blk_alloc (h.out k) o⟩
instance kbDrew (g : Nat) (W W' : World) [h : Kb g W W'] : Kb g W W'.drew := ⟨fun k => blk_drew (h.out k)⟩
instance kbDrewN (g : Nat) (W W' : World) (n : Nat) [h : Kb g W W'] : Kb g W (W'.drewN n) := ⟨fun k => blk_drewN (h.out k) n⟩
instance kbSet (g b j : Nat) (W W' : World) (v : Value) [h : Kb g W W'] [n : Ap g b] : Kb g W (W'.setCell ⟨b, j, none⟩ v) := ⟨fun k => (Below.heap_setCell W' ⟨b, j, none⟩ v g n.out).trans (h.out k)⟩
theorem kU {w w' : World} {g : Nat} {o : Obj} (h : w.heap[g]? = some o) [l : Kb g w w'] : w'.heap[g]? = some o := l.out h
theorem bK {w w' w1 : World} {g : Nat} {o : Obj} (h : Aside0 (w.heap[g]? = some o)) (k : Below w'.heap.size w' w1) [l : Kb g w w'] : Aside0 (w1.heap[g]? = some o) := ⟨blk_below (l.out h.out) k⟩
end Go.Proofs.YtpdkjehplfgjcabGreatDoor
