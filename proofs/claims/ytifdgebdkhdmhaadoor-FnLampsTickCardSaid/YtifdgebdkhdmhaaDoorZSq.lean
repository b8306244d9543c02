/- Words said once: steps of printed walks that come again and again. -/
import Derived.Test.YtifdgebdkhdmhaaDoorZUp
set_option hygiene false in
macro "iI" : tactic => `(tactic| (repeat (first | (with_reducible first | exact HI0.out | apply IsS147.alloc | apply IsS147.drewN | apply IsS147.drew | apply IsS147.set_1 | apply IsS147.set_2) | exact HI0.out)))
set_option hygiene false in
macro "iB" : tactic => `(tactic| (repeat (first | (with_reducible first | exact HB.out | apply below_alloc | apply pw_below_drewN | apply below_drew1 | refine below_set ?_ (IsS147.ge HI0.out)) | exact HB.out)))
set_option hygiene false in
macro "iK" : tactic => `(tactic| (repeat (first | (with_reducible first | exact HK.out | apply KeepBut.set_ | apply keep_drewN | apply keep_drew | apply keep_alloc) | exact HK.out)))
set_option hygiene false in
macro "bB" : tactic => `(tactic| (repeat (first | (with_reducible first | exact HB.out | apply below_alloc | apply pw_below_drewN | apply below_drew1) | exact HB.out)))
set_option hygiene false in
macro "rF" : tactic => `(tactic| (first | rfl | (simp; done) | (simp [*]; done)))
set_option hygiene false in
macro "eW" : tactic => `(tactic| (first | rfl | (simp [errW_none, errW_some] <;> rfl) | (simp [*, errW_none, errW_some] <;> rfl)))
set_option hygiene false in
macro "bC" : tactic => `(tactic| (repeat (first | (with_reducible first | exact HB.out | apply aL | apply dN | apply dR) | exact HB.out)))
set_option hygiene false in
macro "cX" : tactic => `(tactic| ((try clear hb); (try clear hb2); (try clear hk); (try clear hi)))
set_option hygiene false in
macro "mA" : tactic => `(tactic| ((try simp only [List.map_toArray, List.map_cons, List.map_nil]); first | done | rfl | (simp only [List.length_drop, List.length_take]; rfl)))
set_option hygiene false in
macro "rX" : tactic => `(tactic| (with_reducible repeat (first | apply Kd.R_alloc | apply Kd.R_drewN | apply Kd.R_drew)))
set_option hygiene false in
macro "pU" i:num n:term:max b:term:max : tactic => `(tactic| refine pure_ (i := $i) (N := $n) (v := ?_) (a' := ?_) $b rfl rfl (any_of HT_.out (by kernel_rfl)) (fun _ _ _ h => h) (Or.inl ⟨by rfl, ?_⟩) ?_ ?_)
set_option hygiene false in
macro "cC" t:term : tactic => `(tactic| repeat (first | exact $t | (with_reducible refine Kd.C_alloc ?_ _) | (with_reducible refine Kd.C_drewN ?_ _) | (with_reducible refine Kd.C_drew ?_)))
set_option hygiene false in
macro "tc" xs:(colGt ident)+ : tactic => do
  let ts ← xs.mapM fun x => `(tactic| try clear $x)
  `(tactic| ($[$ts];*))
set_option hygiene false in
macro "wE" t:term : tactic => `(tactic| with_reducible exact $t)
set_option hygiene false in
macro "wR" t:term : tactic => `(tactic| with_reducible refine $t)
set_option hygiene false in
macro "mO" : tactic => `(tactic| (have := HK1.out; omega))
set_option hygiene false in
macro "fH" h:ident : tactic => `(tactic| first | (rw [$h:ident]; with_reducible exact H) | (have H2_ := (Option.bind_some _ _).symm.trans H; rw [$h:ident]; with_reducible exact H2_) | (have H2_ := (Option.bind_some _ _).symm.trans H; with_reducible exact H2_) | with_reducible exact H | (rw [$h:ident]; exact H) | exact H)
set_option hygiene false in
macro "gL" f:num m:term:max u:ident a:term:max : tactic => `(tactic| ((with_reducible refine gate_callee (f := $f) rfl ?_); refine goesL_ $m rfl rfl $u (by kernel_rfl) rfl $a rfl (by mA) ?_))
