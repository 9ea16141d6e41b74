/- For all texts the program's SetRead and the reference's return the same, of its own memory. No condition. (Part 1 of 5: written by programs of this workplace and by hand, merged.) -/
import Derived.Test.YtconpopbpphpgaaProg
import Derived.Below
import Derived.Deep.Draws
import Derived.Deep.AppendLies
import Derived.Maps.AppendAt
import Derived.OwnWalk
import Derived.Laws.BytesArg
import Derived.Laws.MakeOwn
import Derived.Laws.OwnMore
import Derived.Deep.OwnRows
import Derived.Tactics
import Derived.Lib.ConvBytes
import Derived.Laws.Slices
import Derived.WalkKit
import Derived.KernelRfl
import Derived.RowKit3
import Derived.Deep.LoopGhost
import Derived.Deep.QuietTactic
import Derived.BigQuiet
import Derived.WideLaws
import Derived.Deep.DeepCutAuto
import Derived.Deep.CutBlock
import Derived.Deep.RegionHeld3
import Derived.Laws.Rows
import Derived.Lib.AppendStr
import Derived.ArgAppend
import Derived.Laws.IdiomCopy
import Derived.OrdersHeld
import Derived.Laws.BitsLemmas
import Derived.RowKit
import Derived.Lib.Bytealg
import Derived.Lib.Walk
import Derived.Test.YtconpopbpphpgaaMFnExactSetReadWWords
import Derived.Test.YtconpopbpphpgaaMFnExactSetReadWLast
import Derived.Test.YtconpopbpphpgaaMFnExactSetReadWTab
import Derived.Test.YtconpopbpphpgaaMFnExactSetReadWApart
import Derived.Test.YtconpopbpphpgaaMFnExactSetReadWFoot
import Derived.Test.YtconpopbpphpgaaMFnExactSetReadWKept
import Derived.Test.YtconpopbpphpgaaMFnExactSetReadWShare
import Derived.Test.YtconpopbpphpgaaMFnExactSetReadWN
import Derived.Test.YtconpopbpphpgaaMFnExactSetReadWEqStruct
import Derived.Test.YtconpopbpphpgaaMFnExactSetReadWRepsOne
import Derived.Test.YtconpopbpphpgaaMFnExactSetReadWGuard
import Derived.Test.YtconpopbpphpgaaMFnExactSetReadWMore
set_option linter.unusedVariables false
set_option linter.unusedSimpArgs false

namespace Go.Proofs.Ytconpopbpphpgaa.P
open Go.RowKit Go.Proofs.YtconpopbpphpgaaW.PrintWords Go.Proofs.YtconpopbpphpgaaW.PrintLast Go.Proofs.YtconpopbpphpgaaW.PrintMore
attribute [local go_sem] max2_int min2_int max_two min_two max_three min_three max_four min_four   -- for this text's walks alone
set_option linter.unusedVariables false
set_option linter.unusedSimpArgs false

theorem sa_ {α : Type _} (l : List α) (i : Nat) (a : α) : l.toArray.setIfInBounds i a = (l.set i a).toArray := List.setIfInBounds_toArray ..
theorem s0_ {α : Type _} (x : α) (l : List α) (a : α) : (x :: l).set 0 a = a :: l := List.set_cons_zero ..
theorem ss_ {α : Type _} (x : α) (l : List α) (n : Nat) (a : α) : (x :: l).set (n + 1) a = x :: l.set n a := List.set_cons_succ ..
section
variable {P : Program} {ops : Array Oper} {Q : Exit → Act → World → Prop}
end



def errW : Option Int → Value
  | none => .nilIface
  | some c => .iface 0 (.int .i64 c)
theorem errW_none : errW none = .nilIface := rfl
theorem errW_some (c : Int) : errW (some c) = .iface 0 (.int .i64 c) := rfl

theorem info5 : (Try.prog.info? 5).map (fun i => (i.zero, i.size, i.bytes)) = some (some (.int .u8 0), 1, 1) := by kernel_rfl
theorem info33 : (Try.prog.info? 33).map (fun i => (i.zero, i.size, i.bytes)) = some (some (.agg #[(.int .i64 0), (.int .i64 0)]), 2, 16) := by kernel_rfl
theorem info158 : (Try.prog.info? 158).map (fun i => (i.zero, i.size, i.bytes)) = some (some (.agg #[(.int .i64 0), (.int .i64 0), (.bool false), (.string ⟨#[]⟩)]), 4, 40) := by kernel_rfl
-- the values' own types
/-! #### struct type 33 -/
structure S33 where
  f0 : Int
  f1 : Int
def z33 : S33 := ⟨(0 : Int), (0 : Int)⟩
def k33 : Kd S33 := Kd.iso (Kd.pair (Kd.int .i64) (Kd.int .i64)) (fun x : S33 => (x.f0, x.f1))
theorem k33_open {w : World} {x : S33} {cs : List Value} (h : k33.K w x cs) : cs = [.int .i64 x.f0, .int .i64 x.f1] := by
  obtain ⟨_, _, rfl, rfl, rfl⟩ := h
  exact rfl
theorem k33_openM {w : World} {base : Nat} {ok : Nat → Prop} {x : S33} {cs : List Value} (h : k33.M w base ok x cs) : cs = [.int .i64 x.f0, .int .i64 x.f1] := by
  obtain ⟨_, _, rfl, rfl, rfl⟩ := h
  exact rfl
theorem k33_mkM (w : World) (base : Nat) (ok : Nat → Prop) (x : S33)  : k33.M w base ok x [.int .i64 x.f0, .int .i64 x.f1] := ⟨[.int .i64 x.f0], [.int .i64 x.f1], rfl, rfl, rfl⟩
def rd_T33 (xs : List S33) (i : Int) : S33 := xs.getD i.toNat z33
theorem at_T33 {w : World} {A : Option Addr} {n : Nat} {xs : List S33} (h : Kd.C k33 w A n xs) (i : Int) (h0 : 0 ≤ i) (h1 : i < n) : ∃ ad , A = some ad ∧ w.cell? (ad.add (i.toNat * 2)) = some (.int .i64 (rd_T33 xs i).f0) ∧ w.cell? ⟨(ad.add (i.toNat * 2)).block, (ad.add (i.toNat * 2)).off + 1, none⟩ = some (.int .i64 (rd_T33 xs i).f1) := by
  obtain ⟨ad, c, e, _, hK, hc0⟩ := Kd.C_get h z33 i h0 h1
  have hc : ∀ j u, c[j]? = some u → w.cell? (ad.add (i.toNat * 2 + j)) = some u := hc0
  obtain rfl := k33_open hK
  exact ⟨ad, e, hc 0 _ rfl, by rw [← add_field _ _ 1 (by omega)]; exact hc 1 _ rfl⟩

/-! #### struct type 139 -/
structure S139 where
  f0 : Int
  f1 : Int
def z139 : S139 := ⟨(0 : Int), (0 : Int)⟩
def rd_T139 (xs : List S139) (i : Int) : S139 := xs.getD i.toNat z139
/-! #### struct type 189 -/
structure S189 where
  f0 : S139
  f1 : Bool
  f2 : ByteArray
def z189 : S189 := ⟨z139, false, (⟨#[]⟩ : ByteArray)⟩
def rd_T189 (xs : List S189) (i : Int) : S189 := xs.getD i.toNat z189
/-! #### struct type 158 -/
structure S158 where
  f0 : S33
  f1 : Bool
  f2 : ByteArray
def z158 : S158 := ⟨z33, false, (⟨#[]⟩ : ByteArray)⟩
def k158 : Kd S158 := Kd.iso (Kd.pair k33 (Kd.pair Kd.bool Kd.string)) (fun x : S158 => (x.f0, x.f1, x.f2))
theorem k158_open {w : World} {x : S158} {cs : List Value} (h : k158.K w x cs) : cs = [.int .i64 x.f0.f0, .int .i64 x.f0.f1, .bool x.f1, .string x.f2] := by
  obtain ⟨_, _, rfl, s0, ⟨_, _, rfl, rfl, rfl⟩⟩ := h
  obtain rfl := k33_open s0
  exact rfl
theorem k158_openM {w : World} {base : Nat} {ok : Nat → Prop} {x : S158} {cs : List Value} (h : k158.M w base ok x cs) : cs = [.int .i64 x.f0.f0, .int .i64 x.f0.f1, .bool x.f1, .string x.f2] := by
  obtain ⟨_, _, rfl, s0, ⟨_, _, rfl, rfl, rfl⟩⟩ := h
  obtain rfl := k33_openM s0
  exact rfl
theorem k158_mkM (w : World) (base : Nat) (ok : Nat → Prop) (x : S158)  : k158.M w base ok x [.int .i64 x.f0.f0, .int .i64 x.f0.f1, .bool x.f1, .string x.f2] := ⟨[.int .i64 x.f0.f0, .int .i64 x.f0.f1], [.bool x.f1, .string x.f2], rfl, (k33_mkM w base ok x.f0 ), ⟨[.bool x.f1], [.string x.f2], rfl, rfl, rfl⟩⟩
def rd_T158 (xs : List S158) (i : Int) : S158 := xs.getD i.toNat z158
theorem at_T158 {w : World} {A : Option Addr} {n : Nat} {xs : List S158} (h : Kd.C k158 w A n xs) (i : Int) (h0 : 0 ≤ i) (h1 : i < n) : ∃ ad , A = some ad ∧ w.cell? (ad.add (i.toNat * 4)) = some (.int .i64 (rd_T158 xs i).f0.f0) ∧ w.cell? ⟨(ad.add (i.toNat * 4)).block, (ad.add (i.toNat * 4)).off + 1, none⟩ = some (.int .i64 (rd_T158 xs i).f0.f1) ∧ w.cell? ⟨(ad.add (i.toNat * 4)).block, (ad.add (i.toNat * 4)).off + 2, none⟩ = some (.bool (rd_T158 xs i).f1) ∧ w.cell? ⟨(ad.add (i.toNat * 4)).block, (ad.add (i.toNat * 4)).off + 3, none⟩ = some (.string (rd_T158 xs i).f2) := by
  obtain ⟨ad, c, e, _, hK, hc0⟩ := Kd.C_get h z158 i h0 h1
  have hc : ∀ j u, c[j]? = some u → w.cell? (ad.add (i.toNat * 4 + j)) = some u := hc0
  obtain rfl := k158_open hK
  exact ⟨ad, e, hc 0 _ rfl, by rw [← add_field _ _ 1 (by omega)]; exact hc 1 _ rfl, by rw [← add_field _ _ 2 (by omega)]; exact hc 2 _ rfl, by rw [← add_field _ _ 3 (by omega)]; exact hc 3 _ rfl⟩

end Go.Proofs.Ytconpopbpphpgaa.P

namespace Go.Proofs.Ytconpopbpphpgaa.P
open Go.RowKit Go.Proofs.YtconpopbpphpgaaW.PrintWords Go.Proofs.YtconpopbpphpgaaW.PrintLast Go.Proofs.YtconpopbpphpgaaW.PrintMore
section
variable {P : Program} {ops : Array Oper} {Q : Exit → Act → World → Prop} {md : Region.Mode} {S : World → Prop} {ds : List Nat}
theorem pu_ {T : Bool × List (List Nat × List Nat)} (i : Nat) (N : Tmp) {oi : Oper} {v : Value} {fuel : Nat} {l : Array Bool} {a a' : Act} {w : World} (l' : Array Bool) (hT : rtab md ops = T) (h : wpAnyLast P md ops Q S ds fuel l' a' w) (hi : ops[i]? = some oi := by exact rfl) (hN : oi.dst = some N := by exact rfl) (hc : anyT T l.toList l'.toList i = true := by kernel_rfl) (hQ : ∀ c a w, Q (.panic c) (a.put oi.dst v) w → Q (.panic c) a w := by exact fun _ _ _ h => h) (hw : Region.wanted oi (yielded ops a.tmps) = true := by rfl) (hy : ∀ w', (execOp a.eval oi).run P w' = .ok (.value v) w' := by (intro w'); go_simp; (with_reducible rfl)) (ha : a.put (some N) v = a' := by (simp only [Act.put, sa_, s0_, ss_, i64_w, i32_w]); exact rfl) : wpAnyLast P md ops Q S ds (fuel + 1) l a w := pure_ l' hi hN (any_of hT hc) hQ (Or.inl ⟨hw, hy⟩) ha h
theorem pn_ {T : Bool × List (List Nat × List Nat)} (i : Nat) (N : Tmp) {oi : Oper} {v : Value} {fuel : Nat} {l : Array Bool} {a a' : Act} {w : World} (l' : Array Bool) (hT : rtab md ops = T) (h : wpAnyLast P md ops Q S ds fuel l' a' w) (hi : ops[i]? = some oi := by exact rfl) (hN : oi.dst = some N := by exact rfl) (hc : anyT T l.toList l'.toList i = true := by kernel_rfl) (hQ : ∀ c a w, Q (.panic c) (a.put oi.dst v) w → Q (.panic c) a w := by exact fun _ _ _ h => h) (hw : Region.wanted oi (yielded ops a.tmps) = false := by rfl) (hy : v = undef := by rfl) (ha : a.put (some N) v = a' := by (simp only [Act.put, sa_, s0_, ss_, i64_w, i32_w]); exact rfl) : wpAnyLast P md ops Q S ds (fuel + 1) l a w := pure_ l' hi hN (any_of hT hc) hQ (Or.inr ⟨hw, hy⟩) ha h
theorem tk2_ {T : Bool × List (List Nat × List Nat)} (i : Nat) (N : Tmp) {oi : Oper} {v : Value} {fuel : Nat} {l : Array Bool} {a a' : Act} {w : World} (l' : Array Bool) {B : List Nat} (hT : rtab md ops = T) (hB : waitsOk T.2 B = true) (hS : S w) (h : wpAnyLast P md ops Q S ds fuel l' a' w) (hi : ops[i]? = some oi := by exact rfl) (hN : oi.dst = some N := by exact rfl) (hc : takeW T B ds l.toList l'.toList i = true := by kernel_rfl) (hQ : ∀ c a w, Q (.panic c) (a.put oi.dst v) w → Q (.panic c) a w := by exact fun _ _ _ h => h) (hw : Region.wanted oi (yielded ops a.tmps) = true := by rfl) (hy : ∀ w', S w' → (execOp a.eval oi).run P w' = .ok (.value v) w' := by (rintro w' ⟨s0, s1⟩); go_simp; (with_reducible rfl)) (ha : a.put (some N) v = a' := by (simp only [Act.put, sa_, s0_, ss_, i64_w, i32_w]); exact rfl) : wpAnyLast P md ops Q S ds (fuel + 1) l a w := take_ l' hi hN (take_ofW hT hB hc) hQ (Or.inl ⟨hw, hy⟩) hS ha h
theorem tk3_ {T : Bool × List (List Nat × List Nat)} (i : Nat) (N : Tmp) {oi : Oper} {v : Value} {fuel : Nat} {l : Array Bool} {a a' : Act} {w : World} (l' : Array Bool) {B : List Nat} (hT : rtab md ops = T) (hB : waitsOk T.2 B = true) (hS : S w) (h : wpAnyLast P md ops Q S ds fuel l' a' w) (hi : ops[i]? = some oi := by exact rfl) (hN : oi.dst = some N := by exact rfl) (hc : takeW T B ds l.toList l'.toList i = true := by kernel_rfl) (hQ : ∀ c a w, Q (.panic c) (a.put oi.dst v) w → Q (.panic c) a w := by exact fun _ _ _ h => h) (hw : Region.wanted oi (yielded ops a.tmps) = true := by rfl) (hy : ∀ w', S w' → (execOp a.eval oi).run P w' = .ok (.value v) w' := by (rintro w' ⟨s0, s1, s2⟩); go_simp; (with_reducible rfl)) (ha : a.put (some N) v = a' := by (simp only [Act.put, sa_, s0_, ss_, i64_w, i32_w]); exact rfl) : wpAnyLast P md ops Q S ds (fuel + 1) l a w := take_ l' hi hN (take_ofW hT hB hc) hQ (Or.inl ⟨hw, hy⟩) hS ha h
theorem tk4_ {T : Bool × List (List Nat × List Nat)} (i : Nat) (N : Tmp) {oi : Oper} {v : Value} {fuel : Nat} {l : Array Bool} {a a' : Act} {w : World} (l' : Array Bool) {B : List Nat} (hT : rtab md ops = T) (hB : waitsOk T.2 B = true) (hS : S w) (h : wpAnyLast P md ops Q S ds fuel l' a' w) (hi : ops[i]? = some oi := by exact rfl) (hN : oi.dst = some N := by exact rfl) (hc : takeW T B ds l.toList l'.toList i = true := by kernel_rfl) (hQ : ∀ c a w, Q (.panic c) (a.put oi.dst v) w → Q (.panic c) a w := by exact fun _ _ _ h => h) (hw : Region.wanted oi (yielded ops a.tmps) = true := by rfl) (hy : ∀ w', S w' → (execOp a.eval oi).run P w' = .ok (.value v) w' := by (rintro w' ⟨s0, s1, s2, s3⟩); go_simp; (with_reducible rfl)) (ha : a.put (some N) v = a' := by (simp only [Act.put, sa_, s0_, ss_, i64_w, i32_w]); exact rfl) : wpAnyLast P md ops Q S ds (fuel + 1) l a w := take_ l' hi hN (take_ofW hT hB hc) hQ (Or.inl ⟨hw, hy⟩) hS ha h
theorem tk6_ {T : Bool × List (List Nat × List Nat)} (i : Nat) (N : Tmp) {oi : Oper} {v : Value} {fuel : Nat} {l : Array Bool} {a a' : Act} {w : World} (l' : Array Bool) {B : List Nat} (hT : rtab md ops = T) (hB : waitsOk T.2 B = true) (hS : S w) (h : wpAnyLast P md ops Q S ds fuel l' a' w) (hi : ops[i]? = some oi := by exact rfl) (hN : oi.dst = some N := by exact rfl) (hc : takeW T B ds l.toList l'.toList i = true := by kernel_rfl) (hQ : ∀ c a w, Q (.panic c) (a.put oi.dst v) w → Q (.panic c) a w := by exact fun _ _ _ h => h) (hw : Region.wanted oi (yielded ops a.tmps) = true := by rfl) (hy : ∀ w', S w' → (execOp a.eval oi).run P w' = .ok (.value v) w' := by (rintro w' ⟨s0, s1, s2, s3, s4, s5⟩); go_simp; (with_reducible rfl)) (ha : a.put (some N) v = a' := by (simp only [Act.put, sa_, s0_, ss_, i64_w, i32_w]); exact rfl) : wpAnyLast P md ops Q S ds (fuel + 1) l a w := take_ l' hi hN (take_ofW hT hB hc) hQ (Or.inl ⟨hw, hy⟩) hS ha h
theorem tk8_ {T : Bool × List (List Nat × List Nat)} (i : Nat) (N : Tmp) {oi : Oper} {v : Value} {fuel : Nat} {l : Array Bool} {a a' : Act} {w : World} (l' : Array Bool) {B : List Nat} (hT : rtab md ops = T) (hB : waitsOk T.2 B = true) (hS : S w) (h : wpAnyLast P md ops Q S ds fuel l' a' w) (hi : ops[i]? = some oi := by exact rfl) (hN : oi.dst = some N := by exact rfl) (hc : takeW T B ds l.toList l'.toList i = true := by kernel_rfl) (hQ : ∀ c a w, Q (.panic c) (a.put oi.dst v) w → Q (.panic c) a w := by exact fun _ _ _ h => h) (hw : Region.wanted oi (yielded ops a.tmps) = true := by rfl) (hy : ∀ w', S w' → (execOp a.eval oi).run P w' = .ok (.value v) w' := by (rintro w' ⟨s0, s1, s2, s3, s4, s5, s6, s7⟩); go_simp; (with_reducible rfl)) (ha : a.put (some N) v = a' := by (simp only [Act.put, sa_, s0_, ss_, i64_w, i32_w]); exact rfl) : wpAnyLast P md ops Q S ds (fuel + 1) l a w := take_ l' hi hN (take_ofW hT hB hc) hQ (Or.inl ⟨hw, hy⟩) hS ha h
theorem tk10_ {T : Bool × List (List Nat × List Nat)} (i : Nat) (N : Tmp) {oi : Oper} {v : Value} {fuel : Nat} {l : Array Bool} {a a' : Act} {w : World} (l' : Array Bool) {B : List Nat} (hT : rtab md ops = T) (hB : waitsOk T.2 B = true) (hS : S w) (h : wpAnyLast P md ops Q S ds fuel l' a' w) (hi : ops[i]? = some oi := by exact rfl) (hN : oi.dst = some N := by exact rfl) (hc : takeW T B ds l.toList l'.toList i = true := by kernel_rfl) (hQ : ∀ c a w, Q (.panic c) (a.put oi.dst v) w → Q (.panic c) a w := by exact fun _ _ _ h => h) (hw : Region.wanted oi (yielded ops a.tmps) = true := by rfl) (hy : ∀ w', S w' → (execOp a.eval oi).run P w' = .ok (.value v) w' := by (rintro w' ⟨s0, s1, s2, s3, s4, s5, s6, s7, s8, s9⟩); go_simp; (with_reducible rfl)) (ha : a.put (some N) v = a' := by (simp only [Act.put, sa_, s0_, ss_, i64_w, i32_w]); exact rfl) : wpAnyLast P md ops Q S ds (fuel + 1) l a w := take_ l' hi hN (take_ofW hT hB hc) hQ (Or.inl ⟨hw, hy⟩) hS ha h
end
theorem blkB_ {W0 W W' : World} {g : Nat} {o : Obj} (h : W0.heap[g]? = some o) (hb : Below W.heap.size W W') (f : W0.heap[g]? = some o → W.heap[g]? = some o := by intro h_; (with_reducible repeat (first | refine blk_drewN ?_ _ | refine blk_drew ?_ | refine blk_alloc ?_ _)); exact h_) : W'.heap[g]? = some o := blk_below (f h) hb
theorem neL_ {W0 W : World} {g b : Nat} {o : Obj} (h : W0.heap[b]? = some o) (hg : g = W.heap.size) (f : W0.heap[b]? = some o → W.heap[b]? = some o := by intro h_; (with_reducible repeat (first | refine blk_drewN ?_ _ | refine blk_drew ?_ | refine blk_alloc ?_ _)); exact h_) : b ≠ g := by rw [hg]; exact Nat.ne_of_lt (blk_lt (f h))
theorem neG_ {W0 W : World} {g b : Nat} {o : Obj} (h : W0.heap[b]? = some o) (hg : g = W.heap.size) (f : W0.heap[b]? = some o → W.heap[b]? = some o := by intro h_; (with_reducible repeat (first | refine blk_drewN ?_ _ | refine blk_drew ?_ | refine blk_alloc ?_ _)); exact h_) : g ≠ b := by rw [hg]; exact Nat.ne_of_gt (blk_lt (f h))
theorem cz2_ {w : World} {g : Nat} {t : TypeId} {v0 v1 : Value} (h : w.heap[g]? = some (.cells #[v0, v1] t (0, 0))) : w.cell? ⟨g, 0, none⟩ = some v0 ∧ w.cell? ⟨g, 1, none⟩ = some v1 ∧ w.frozen? ⟨g, 0, none⟩ = false ∧ w.frozen? ⟨g, 1, none⟩ = false := ⟨blk_cell h 0, blk_cell h 1, blk_frozen h 0, blk_frozen h 1⟩
theorem cz3_ {w : World} {g : Nat} {t : TypeId} {v0 v1 v2 : Value} (h : w.heap[g]? = some (.cells #[v0, v1, v2] t (0, 0))) : w.cell? ⟨g, 0, none⟩ = some v0 ∧ w.cell? ⟨g, 1, none⟩ = some v1 ∧ w.cell? ⟨g, 2, none⟩ = some v2 ∧ w.frozen? ⟨g, 0, none⟩ = false ∧ w.frozen? ⟨g, 1, none⟩ = false ∧ w.frozen? ⟨g, 2, none⟩ = false := ⟨blk_cell h 0, blk_cell h 1, blk_cell h 2, blk_frozen h 0, blk_frozen h 1, blk_frozen h 2⟩
theorem cz4_ {w : World} {g : Nat} {t : TypeId} {v0 v1 v2 v3 : Value} (h : w.heap[g]? = some (.cells #[v0, v1, v2, v3] t (0, 0))) : w.cell? ⟨g, 0, none⟩ = some v0 ∧ w.cell? ⟨g, 1, none⟩ = some v1 ∧ w.cell? ⟨g, 2, none⟩ = some v2 ∧ w.cell? ⟨g, 3, none⟩ = some v3 ∧ w.frozen? ⟨g, 0, none⟩ = false ∧ w.frozen? ⟨g, 1, none⟩ = false ∧ w.frozen? ⟨g, 2, none⟩ = false ∧ w.frozen? ⟨g, 3, none⟩ = false := ⟨blk_cell h 0, blk_cell h 1, blk_cell h 2, blk_cell h 3, blk_frozen h 0, blk_frozen h 1, blk_frozen h 2, blk_frozen h 3⟩
theorem cz5_ {w : World} {g : Nat} {t : TypeId} {v0 v1 v2 v3 v4 : Value} (h : w.heap[g]? = some (.cells #[v0, v1, v2, v3, v4] t (0, 0))) : w.cell? ⟨g, 0, none⟩ = some v0 ∧ w.cell? ⟨g, 1, none⟩ = some v1 ∧ w.cell? ⟨g, 2, none⟩ = some v2 ∧ w.cell? ⟨g, 3, none⟩ = some v3 ∧ w.cell? ⟨g, 4, none⟩ = some v4 ∧ w.frozen? ⟨g, 0, none⟩ = false ∧ w.frozen? ⟨g, 1, none⟩ = false ∧ w.frozen? ⟨g, 2, none⟩ = false ∧ w.frozen? ⟨g, 3, none⟩ = false ∧ w.frozen? ⟨g, 4, none⟩ = false := ⟨blk_cell h 0, blk_cell h 1, blk_cell h 2, blk_cell h 3, blk_cell h 4, blk_frozen h 0, blk_frozen h 1, blk_frozen h 2, blk_frozen h 3, blk_frozen h 4⟩
theorem put2_ {w : World} {g : Nat} {t : TypeId} {v0 v1 z0 z1 : Value} (h : w.heap[g]? = some (.cells #[z0, z1] t (0, 0))) : ((w.setCell ⟨g, 0, none⟩ v0).setCell ⟨g, 1, none⟩ v1).heap[g]? = some (.cells #[v0, v1] t (0, 0)) := (blk_put (cs' := #[v0, v1]) (blk_put (cs' := #[v0, z1]) h 0 v0 rfl) 1 v1 rfl)
theorem rf2_ {α : Type} {d : Kd α} {e : TypeId} {w : World} {base g : Nat} {ok : Nat → Prop} {v : Value} {xs : List α} {v0 v1 : Value} (h : d.R e w base ok v xs) (f : ∀ k, ok k → k ≠ g) : d.R e ((w.setCell ⟨g, 0, none⟩ v0).setCell ⟨g, 1, none⟩ v1) base ok v xs := (Kd.R_far (p := ⟨g, 1, none⟩) (Kd.R_far (p := ⟨g, 0, none⟩) h f v0) f v1)
theorem put3_ {w : World} {g : Nat} {t : TypeId} {v0 v1 v2 z0 z1 z2 : Value} (h : w.heap[g]? = some (.cells #[z0, z1, z2] t (0, 0))) : (((w.setCell ⟨g, 0, none⟩ v0).setCell ⟨g, 1, none⟩ v1).setCell ⟨g, 2, none⟩ v2).heap[g]? = some (.cells #[v0, v1, v2] t (0, 0)) := (blk_put (cs' := #[v0, v1, v2]) (blk_put (cs' := #[v0, v1, z2]) (blk_put (cs' := #[v0, z1, z2]) h 0 v0 rfl) 1 v1 rfl) 2 v2 rfl)
theorem put4_ {w : World} {g : Nat} {t : TypeId} {v0 v1 v2 v3 z0 z1 z2 z3 : Value} (h : w.heap[g]? = some (.cells #[z0, z1, z2, z3] t (0, 0))) : ((((w.setCell ⟨g, 0, none⟩ v0).setCell ⟨g, 1, none⟩ v1).setCell ⟨g, 2, none⟩ v2).setCell ⟨g, 3, none⟩ v3).heap[g]? = some (.cells #[v0, v1, v2, v3] t (0, 0)) := (blk_put (cs' := #[v0, v1, v2, v3]) (blk_put (cs' := #[v0, v1, v2, z3]) (blk_put (cs' := #[v0, v1, z2, z3]) (blk_put (cs' := #[v0, z1, z2, z3]) h 0 v0 rfl) 1 v1 rfl) 2 v2 rfl) 3 v3 rfl)
theorem rf4_ {α : Type} {d : Kd α} {e : TypeId} {w : World} {base g : Nat} {ok : Nat → Prop} {v : Value} {xs : List α} {v0 v1 v2 v3 : Value} (h : d.R e w base ok v xs) (f : ∀ k, ok k → k ≠ g) : d.R e ((((w.setCell ⟨g, 0, none⟩ v0).setCell ⟨g, 1, none⟩ v1).setCell ⟨g, 2, none⟩ v2).setCell ⟨g, 3, none⟩ v3) base ok v xs := (Kd.R_far (p := ⟨g, 3, none⟩) (Kd.R_far (p := ⟨g, 2, none⟩) (Kd.R_far (p := ⟨g, 1, none⟩) (Kd.R_far (p := ⟨g, 0, none⟩) h f v0) f v1) f v2) f v3)
theorem put5_ {w : World} {g : Nat} {t : TypeId} {v0 v1 v2 v3 v4 z0 z1 z2 z3 z4 : Value} (h : w.heap[g]? = some (.cells #[z0, z1, z2, z3, z4] t (0, 0))) : (((((w.setCell ⟨g, 0, none⟩ v0).setCell ⟨g, 1, none⟩ v1).setCell ⟨g, 2, none⟩ v2).setCell ⟨g, 3, none⟩ v3).setCell ⟨g, 4, none⟩ v4).heap[g]? = some (.cells #[v0, v1, v2, v3, v4] t (0, 0)) := (blk_put (cs' := #[v0, v1, v2, v3, v4]) (blk_put (cs' := #[v0, v1, v2, v3, z4]) (blk_put (cs' := #[v0, v1, v2, z3, z4]) (blk_put (cs' := #[v0, v1, z2, z3, z4]) (blk_put (cs' := #[v0, z1, z2, z3, z4]) h 0 v0 rfl) 1 v1 rfl) 2 v2 rfl) 3 v3 rfl) 4 v4 rfl)
theorem rf5_ {α : Type} {d : Kd α} {e : TypeId} {w : World} {base g : Nat} {ok : Nat → Prop} {v : Value} {xs : List α} {v0 v1 v2 v3 v4 : Value} (h : d.R e w base ok v xs) (f : ∀ k, ok k → k ≠ g) : d.R e (((((w.setCell ⟨g, 0, none⟩ v0).setCell ⟨g, 1, none⟩ v1).setCell ⟨g, 2, none⟩ v2).setCell ⟨g, 3, none⟩ v3).setCell ⟨g, 4, none⟩ v4) base ok v xs := (Kd.R_far (p := ⟨g, 4, none⟩) (Kd.R_far (p := ⟨g, 3, none⟩) (Kd.R_far (p := ⟨g, 2, none⟩) (Kd.R_far (p := ⟨g, 1, none⟩) (Kd.R_far (p := ⟨g, 0, none⟩) h f v0) f v1) f v2) f v3) f v4)
theorem as2_ {p0 p1 : Prop} (hp0 : p0) (hp1 : p1) : Aside0 p0 ∧ Aside0 p1 := ⟨⟨hp0⟩, ⟨hp1⟩⟩
theorem as3_ {p0 p1 p2 : Prop} (hp0 : p0) (hp1 : p1) (hp2 : p2) : Aside0 p0 ∧ Aside0 p1 ∧ Aside0 p2 := ⟨⟨hp0⟩, ⟨hp1⟩, ⟨hp2⟩⟩
theorem as4_ {p0 p1 p2 p3 : Prop} (hp0 : p0) (hp1 : p1) (hp2 : p2) (hp3 : p3) : Aside0 p0 ∧ Aside0 p1 ∧ Aside0 p2 ∧ Aside0 p3 := ⟨⟨hp0⟩, ⟨hp1⟩, ⟨hp2⟩, ⟨hp3⟩⟩
theorem as5_ {p0 p1 p2 p3 p4 : Prop} (hp0 : p0) (hp1 : p1) (hp2 : p2) (hp3 : p3) (hp4 : p4) : Aside0 p0 ∧ Aside0 p1 ∧ Aside0 p2 ∧ Aside0 p3 ∧ Aside0 p4 := ⟨⟨hp0⟩, ⟨hp1⟩, ⟨hp2⟩, ⟨hp3⟩, ⟨hp4⟩⟩
theorem as6_ {p0 p1 p2 p3 p4 p5 : Prop} (hp0 : p0) (hp1 : p1) (hp2 : p2) (hp3 : p3) (hp4 : p4) (hp5 : p5) : Aside0 p0 ∧ Aside0 p1 ∧ Aside0 p2 ∧ Aside0 p3 ∧ Aside0 p4 ∧ Aside0 p5 := ⟨⟨hp0⟩, ⟨hp1⟩, ⟨hp2⟩, ⟨hp3⟩, ⟨hp4⟩, ⟨hp5⟩⟩
theorem as7_ {p0 p1 p2 p3 p4 p5 p6 : Prop} (hp0 : p0) (hp1 : p1) (hp2 : p2) (hp3 : p3) (hp4 : p4) (hp5 : p5) (hp6 : p6) : Aside0 p0 ∧ Aside0 p1 ∧ Aside0 p2 ∧ Aside0 p3 ∧ Aside0 p4 ∧ Aside0 p5 ∧ Aside0 p6 := ⟨⟨hp0⟩, ⟨hp1⟩, ⟨hp2⟩, ⟨hp3⟩, ⟨hp4⟩, ⟨hp5⟩, ⟨hp6⟩⟩
theorem as8_ {p0 p1 p2 p3 p4 p5 p6 p7 : Prop} (hp0 : p0) (hp1 : p1) (hp2 : p2) (hp3 : p3) (hp4 : p4) (hp5 : p5) (hp6 : p6) (hp7 : p7) : Aside0 p0 ∧ Aside0 p1 ∧ Aside0 p2 ∧ Aside0 p3 ∧ Aside0 p4 ∧ Aside0 p5 ∧ Aside0 p6 ∧ Aside0 p7 := ⟨⟨hp0⟩, ⟨hp1⟩, ⟨hp2⟩, ⟨hp3⟩, ⟨hp4⟩, ⟨hp5⟩, ⟨hp6⟩, ⟨hp7⟩⟩
theorem as9_ {p0 p1 p2 p3 p4 p5 p6 p7 p8 : Prop} (hp0 : p0) (hp1 : p1) (hp2 : p2) (hp3 : p3) (hp4 : p4) (hp5 : p5) (hp6 : p6) (hp7 : p7) (hp8 : p8) : Aside0 p0 ∧ Aside0 p1 ∧ Aside0 p2 ∧ Aside0 p3 ∧ Aside0 p4 ∧ Aside0 p5 ∧ Aside0 p6 ∧ Aside0 p7 ∧ Aside0 p8 := ⟨⟨hp0⟩, ⟨hp1⟩, ⟨hp2⟩, ⟨hp3⟩, ⟨hp4⟩, ⟨hp5⟩, ⟨hp6⟩, ⟨hp7⟩, ⟨hp8⟩⟩
theorem as10_ {p0 p1 p2 p3 p4 p5 p6 p7 p8 p9 : Prop} (hp0 : p0) (hp1 : p1) (hp2 : p2) (hp3 : p3) (hp4 : p4) (hp5 : p5) (hp6 : p6) (hp7 : p7) (hp8 : p8) (hp9 : p9) : Aside0 p0 ∧ Aside0 p1 ∧ Aside0 p2 ∧ Aside0 p3 ∧ Aside0 p4 ∧ Aside0 p5 ∧ Aside0 p6 ∧ Aside0 p7 ∧ Aside0 p8 ∧ Aside0 p9 := ⟨⟨hp0⟩, ⟨hp1⟩, ⟨hp2⟩, ⟨hp3⟩, ⟨hp4⟩, ⟨hp5⟩, ⟨hp6⟩, ⟨hp7⟩, ⟨hp8⟩, ⟨hp9⟩⟩
theorem as11_ {p0 p1 p2 p3 p4 p5 p6 p7 p8 p9 p10 : Prop} (hp0 : p0) (hp1 : p1) (hp2 : p2) (hp3 : p3) (hp4 : p4) (hp5 : p5) (hp6 : p6) (hp7 : p7) (hp8 : p8) (hp9 : p9) (hp10 : p10) : Aside0 p0 ∧ Aside0 p1 ∧ Aside0 p2 ∧ Aside0 p3 ∧ Aside0 p4 ∧ Aside0 p5 ∧ Aside0 p6 ∧ Aside0 p7 ∧ Aside0 p8 ∧ Aside0 p9 ∧ Aside0 p10 := ⟨⟨hp0⟩, ⟨hp1⟩, ⟨hp2⟩, ⟨hp3⟩, ⟨hp4⟩, ⟨hp5⟩, ⟨hp6⟩, ⟨hp7⟩, ⟨hp8⟩, ⟨hp9⟩, ⟨hp10⟩⟩
theorem as12_ {p0 p1 p2 p3 p4 p5 p6 p7 p8 p9 p10 p11 : Prop} (hp0 : p0) (hp1 : p1) (hp2 : p2) (hp3 : p3) (hp4 : p4) (hp5 : p5) (hp6 : p6) (hp7 : p7) (hp8 : p8) (hp9 : p9) (hp10 : p10) (hp11 : p11) : Aside0 p0 ∧ Aside0 p1 ∧ Aside0 p2 ∧ Aside0 p3 ∧ Aside0 p4 ∧ Aside0 p5 ∧ Aside0 p6 ∧ Aside0 p7 ∧ Aside0 p8 ∧ Aside0 p9 ∧ Aside0 p10 ∧ Aside0 p11 := ⟨⟨hp0⟩, ⟨hp1⟩, ⟨hp2⟩, ⟨hp3⟩, ⟨hp4⟩, ⟨hp5⟩, ⟨hp6⟩, ⟨hp7⟩, ⟨hp8⟩, ⟨hp9⟩, ⟨hp10⟩, ⟨hp11⟩⟩
theorem as13_ {p0 p1 p2 p3 p4 p5 p6 p7 p8 p9 p10 p11 p12 : Prop} (hp0 : p0) (hp1 : p1) (hp2 : p2) (hp3 : p3) (hp4 : p4) (hp5 : p5) (hp6 : p6) (hp7 : p7) (hp8 : p8) (hp9 : p9) (hp10 : p10) (hp11 : p11) (hp12 : p12) : Aside0 p0 ∧ Aside0 p1 ∧ Aside0 p2 ∧ Aside0 p3 ∧ Aside0 p4 ∧ Aside0 p5 ∧ Aside0 p6 ∧ Aside0 p7 ∧ Aside0 p8 ∧ Aside0 p9 ∧ Aside0 p10 ∧ Aside0 p11 ∧ Aside0 p12 := ⟨⟨hp0⟩, ⟨hp1⟩, ⟨hp2⟩, ⟨hp3⟩, ⟨hp4⟩, ⟨hp5⟩, ⟨hp6⟩, ⟨hp7⟩, ⟨hp8⟩, ⟨hp9⟩, ⟨hp10⟩, ⟨hp11⟩, ⟨hp12⟩⟩
theorem as15_ {p0 p1 p2 p3 p4 p5 p6 p7 p8 p9 p10 p11 p12 p13 p14 : Prop} (hp0 : p0) (hp1 : p1) (hp2 : p2) (hp3 : p3) (hp4 : p4) (hp5 : p5) (hp6 : p6) (hp7 : p7) (hp8 : p8) (hp9 : p9) (hp10 : p10) (hp11 : p11) (hp12 : p12) (hp13 : p13) (hp14 : p14) : Aside0 p0 ∧ Aside0 p1 ∧ Aside0 p2 ∧ Aside0 p3 ∧ Aside0 p4 ∧ Aside0 p5 ∧ Aside0 p6 ∧ Aside0 p7 ∧ Aside0 p8 ∧ Aside0 p9 ∧ Aside0 p10 ∧ Aside0 p11 ∧ Aside0 p12 ∧ Aside0 p13 ∧ Aside0 p14 := ⟨⟨hp0⟩, ⟨hp1⟩, ⟨hp2⟩, ⟨hp3⟩, ⟨hp4⟩, ⟨hp5⟩, ⟨hp6⟩, ⟨hp7⟩, ⟨hp8⟩, ⟨hp9⟩, ⟨hp10⟩, ⟨hp11⟩, ⟨hp12⟩, ⟨hp13⟩, ⟨hp14⟩⟩
theorem as16_ {p0 p1 p2 p3 p4 p5 p6 p7 p8 p9 p10 p11 p12 p13 p14 p15 : Prop} (hp0 : p0) (hp1 : p1) (hp2 : p2) (hp3 : p3) (hp4 : p4) (hp5 : p5) (hp6 : p6) (hp7 : p7) (hp8 : p8) (hp9 : p9) (hp10 : p10) (hp11 : p11) (hp12 : p12) (hp13 : p13) (hp14 : p14) (hp15 : p15) : Aside0 p0 ∧ Aside0 p1 ∧ Aside0 p2 ∧ Aside0 p3 ∧ Aside0 p4 ∧ Aside0 p5 ∧ Aside0 p6 ∧ Aside0 p7 ∧ Aside0 p8 ∧ Aside0 p9 ∧ Aside0 p10 ∧ Aside0 p11 ∧ Aside0 p12 ∧ Aside0 p13 ∧ Aside0 p14 ∧ Aside0 p15 := ⟨⟨hp0⟩, ⟨hp1⟩, ⟨hp2⟩, ⟨hp3⟩, ⟨hp4⟩, ⟨hp5⟩, ⟨hp6⟩, ⟨hp7⟩, ⟨hp8⟩, ⟨hp9⟩, ⟨hp10⟩, ⟨hp11⟩, ⟨hp12⟩, ⟨hp13⟩, ⟨hp14⟩, ⟨hp15⟩⟩
theorem z0_ {p : Prop} (f : p := by (try simp only [List.map_toArray, List.map_cons, List.map_nil]); first | done | rfl | (simp only [List.length_drop, List.length_take]; rfl)) : p := f
theorem z1_ {a0 a1 p : Prop} (h0 : a0) (h1 : a1) (f : a0 → a1 → p := by intro h0_ h1_; repeat (first | (with_reducible first | exact h0_ | apply below_alloc | apply pw_below_drewN | apply below_drew1 | refine below_set ?_ h1_) | exact h0_)) : p := f h0 h1
theorem z2_ {p : Prop} (f : p := by first | rfl | (simp; done) | (simp [*]; done) | (simp [bne]; done)) : p := f
theorem z3_ {p : Prop} (f : p := by first | (with_reducible assumption) | assumption) : p := f
theorem z4_ {a0 p : Prop} (h0 : a0) (f : a0 → p := by intro h0_; (with_reducible repeat (first | apply Kd.R_alloc | apply Kd.R_drewN | apply Kd.R_drew)); exact h0_) : p := f h0
theorem z5_ {a0 p : Prop} (h0 : a0) (f : a0 → p := by intro h0_; repeat (first | (with_reducible first | exact h0_ | apply below_alloc | apply pw_below_drewN | apply below_drew1) | exact h0_)) : p := f h0
theorem z6_ {a0 a1 a2 p : Prop} (h0 : a0) (h1 : a1) (h2 : a2) (f : a0 → a1 → a2 → p := by intro h0_ h1_ h2_; repeat (first | (with_reducible first | exact h0_ | apply below_alloc | apply pw_below_drewN | apply below_drew1 | refine below_set ?_ h1_ | refine below_set ?_ h2_) | exact h0_)) : p := f h0 h1 h2
theorem z7_ {a0 p : Prop} (h0 : a0) (f : a0 → p := by intro h0_; rw [hg]; exact (below_size (by repeat (first | (with_reducible first | exact h0_ | apply below_alloc | apply pw_below_drewN | apply below_drew1) | exact h0_)))) : p := f h0
theorem z8_ {p : Prop} (f : p := by first | rfl | (simp [errW_none, errW_some] <;> rfl) | (simp [*, errW_none, errW_some] <;> rfl)) : p := f
theorem z9_ {a0 p : Prop} (h0 : a0) (f : a0 → p := by intro h0_; (with_reducible repeat (first | refine blk_drewN ?_ _ | refine blk_drew ?_ | refine blk_alloc ?_ _)); exact h0_) : p := f h0
theorem z10_ {a0 a1 p : Prop} (h0 : a0) (h1 : a1) (f : a0 → a1 → p := by intro h0_ h1_; rw [hg]; exact (below_size (by repeat (first | (with_reducible first | exact h0_ | apply below_alloc | apply pw_below_drewN | apply below_drew1 | refine below_set ?_ h1_) | exact h0_)))) : p := f h0 h1
theorem z11_ {a0 p : Prop} (h0 : a0) (f : a0 → p := by intro h0_; repeat (first | (with_reducible first | exact h0_ | apply KeepBut.set_ | apply keep_drewN | apply keep_drew | apply keep_alloc) | exact h0_)) : p := f h0
theorem z12_ {a0 a1 p : Prop} (h0 : a0) (h1 : a1) (f : a0 → a1 → p := by intro h0_ h1_; repeat (first | exact (Kd.C_below h0_ h1_) | (with_reducible refine Kd.C_alloc ?_ _) | (with_reducible refine Kd.C_drewN ?_ _) | (with_reducible refine Kd.C_drew ?_))) : p := f h0 h1
theorem z13_ {p : Prop} (f : p := by repeat (first | exact Drawn0.refl _ | apply Drawn0.step)) : p := f
theorem z14_ {a0 p : Prop} (h0 : a0) (f : a0 → p := by intro h0_; (with_reducible repeat (first | refine blk_drewN ?_ _ | refine blk_drew ?_ | refine blk_alloc ?_ _)); apply put3_; (with_reducible repeat (first | refine blk_drewN ?_ _ | refine blk_drew ?_ | refine blk_alloc ?_ _)); exact h0_) : p := f h0
theorem z15_ {a0 a1 p : Prop} (h0 : a0) (h1 : a1) (f : a0 → a1 → p := by intro h0_ h1_; repeat (first | (with_reducible first | exact h0_ | apply KeepBut.set_ | apply keep_drewN | apply keep_drew | apply keep_alloc | refine keep_far ?_ h1_ _) | exact h0_)) : p := f h0 h1
theorem z16_ {a0 p : Prop} (h0 : a0) (f : a0 → p := by intro h0_; repeat (first | (with_reducible first | exact h0_ | apply IsS127.alloc | apply IsS127.drewN | apply IsS127.drew | apply IsS127.set_0 | apply IsS127.set_1 | apply IsS127.set_2) | exact h0_)) : p := f h0
theorem z17_ {a0 a1 p : Prop} (h0 : a0) (h1 : a1) (f : a0 → a1 → p := by intro h0_ h1_; repeat (first | (with_reducible first | exact h0_ | apply below_alloc | apply pw_below_drewN | apply below_drew1 | refine below_set ?_ (IsS127.ge h1_)) | exact h0_)) : p := f h0 h1
theorem z18_ {a0 a1 p : Prop} (h0 : a0) (h1 : a1) (f : a0 → a1 → p := by intro h0_ h1_; (with_reducible repeat (first | refine blk_drewN ?_ _ | refine blk_drew ?_ | refine blk_alloc ?_ _)); refine blk_far ?_ h0_ _; (with_reducible repeat (first | refine blk_drewN ?_ _ | refine blk_drew ?_ | refine blk_alloc ?_ _)); refine blk_far ?_ h0_ _; (with_reducible repeat (first | refine blk_drewN ?_ _ | refine blk_drew ?_ | refine blk_alloc ?_ _)); refine blk_far ?_ h0_ _; (with_reducible repeat (first | refine blk_drewN ?_ _ | refine blk_drew ?_ | refine blk_alloc ?_ _)); refine blk_far ?_ h0_ _; (with_reducible repeat (first | refine blk_drewN ?_ _ | refine blk_drew ?_ | refine blk_alloc ?_ _)); exact h1_) : p := f h0 h1
theorem z19_ {a0 p : Prop} (h0 : a0) (f : a0 → p := by intro h0_; rw [hg]; exact (keep_size (w := w) (g := g) (row := none) (by repeat (first | (with_reducible first | exact h0_ | apply KeepBut.set_ | apply keep_drewN | apply keep_drew | apply keep_alloc) | exact h0_)))) : p := f h0
theorem z20_ {a0 a1 a2 p : Prop} (h0 : a0) (h1 : a1) (h2 : a2) (f : a0 → a1 → a2 → p := by intro h0_ h1_ h2_; repeat (first | (with_reducible first | exact h0_ | apply below_alloc | apply pw_below_drewN | apply below_drew1 | refine below_set ?_ (IsS130.ge h1_) | refine below_set ?_ h2_) | exact h0_)) : p := f h0 h1 h2
theorem z21_ {a0 a1 a2 p : Prop} (h0 : a0) (h1 : a1) (h2 : a2) (f : a0 → a1 → a2 → p := by intro h0_ h1_ h2_; repeat (first | (with_reducible first | exact h0_ | apply below_alloc | apply pw_below_drewN | apply below_drew1 | refine below_set ?_ (IsS127.ge h1_) | refine below_set ?_ h2_) | exact h0_)) : p := f h0 h1 h2
theorem z22_ {a0 p : Prop} (h0 : a0) (f : a0 → p := by intro h0_; (with_reducible repeat (first | refine blk_drewN ?_ _ | refine blk_drew ?_ | refine blk_alloc ?_ _)); apply put4_; (with_reducible repeat (first | refine blk_drewN ?_ _ | refine blk_drew ?_ | refine blk_alloc ?_ _)); exact h0_) : p := f h0
theorem z23_ {a0 p : Prop} (h0 : a0) (f : a0 → p := by intro h0_; repeat (first | (with_reducible first | exact h0_ | apply IsS130.alloc | apply IsS130.drewN | apply IsS130.drew | apply IsS130.set_0 | apply IsS130.set_1 | apply IsS130.set_2) | exact h0_)) : p := f h0
theorem z24_ {a0 a1 p : Prop} (h0 : a0) (h1 : a1) (f : a0 → a1 → p := by intro h0_ h1_; repeat (first | (with_reducible first | exact h0_ | apply below_alloc | apply pw_below_drewN | apply below_drew1 | refine below_set ?_ (IsS130.ge h1_)) | exact h0_)) : p := f h0 h1
theorem z25_ {a0 a1 p : Prop} (h0 : a0) (h1 : a1) (f : a0 → a1 → p := by intro h0_ h1_; repeat (first | (with_reducible first | exact h0_ | apply IsS130.alloc | apply IsS130.drewN | apply IsS130.drew | apply IsS130.set_0 | apply IsS130.set_1 | apply IsS130.set_2 | refine IsS130.far ?_ (by exact h1_) _) | exact h0_)) : p := f h0 h1
theorem z26_ {a0 p : Prop} (h0 : a0) (f : a0 → p := by intro h0_; have := h0_; first | omega | exact Nat.le_refl _) : p := f h0
theorem z27_ {a0 p : Prop} (h0 : a0) (f : a0 → p := by intro h0_; repeat (first | exact (Kd.R_reads' h0_).2.2 | (with_reducible refine Kd.C_alloc ?_ _) | (with_reducible refine Kd.C_drewN ?_ _) | (with_reducible refine Kd.C_drew ?_))) : p := f h0
theorem z28_ {a0 a1 a2 a3 p : Prop} (h0 : a0) (h1 : a1) (h2 : a2) (h3 : a3) (f : a0 → a1 → a2 → a3 → p := by intro h0_ h1_ h2_ h3_; repeat (first | (with_reducible first | exact h0_ | apply below_alloc | apply pw_below_drewN | apply below_drew1 | refine below_set ?_ (IsS127.ge h1_) | refine below_set ?_ h2_ | refine below_set ?_ h3_) | exact h0_)) : p := f h0 h1 h2 h3
theorem z29_ {a0 p : Prop} (h0 : a0) (f : a0 → p := by intro h0_; repeat (first | (with_reducible first | exact h0_ | apply Kept.alloc | apply Kept.drewN | apply Kept.drew) | exact h0_)) : p := f h0
theorem z30_ {a0 a1 p : Prop} (h0 : a0) (h1 : a1) (f : a0 → a1 → p := by intro h0_ h1_; repeat (first | (with_reducible first | exact h0_ | apply IsS127.alloc | apply IsS127.drewN | apply IsS127.drew | apply IsS127.set_0 | apply IsS127.set_1 | apply IsS127.set_2 | refine IsS127.far ?_ (by exact h1_) _) | exact h0_)) : p := f h0 h1
theorem z31_ {a0 a1 p : Prop} (h0 : a0) (h1 : a1) (f : a0 → a1 → p := by intro h0_ h1_; (with_reducible repeat (first | apply Kd.R_alloc | apply Kd.R_drewN | apply Kd.R_drew)); exact (Kd.R_mono (rf5_ (Kd.R_types h0_ h1_ (by decide)) (fun _ hk => hk.2)) (fun _ h_ => h_.1))) : p := f h0 h1
theorem z32_ {a0 a1 p : Prop} (h0 : a0) (h1 : a1) (f : a0 → a1 → p := by intro h0_ h1_; (with_reducible repeat (first | refine blk_drewN ?_ _ | refine blk_drew ?_ | refine blk_alloc ?_ _)); refine blk_far ?_ h0_ _; (with_reducible repeat (first | refine blk_drewN ?_ _ | refine blk_drew ?_ | refine blk_alloc ?_ _)); exact h1_) : p := f h0 h1
theorem z33_ {a0 a1 p : Prop} (h0 : a0) (h1 : a1) (f : a0 → a1 → p := by intro h0_ h1_; have := h0_; have := h1_; first | omega | exact Nat.le_refl _) : p := f h0 h1
theorem z34_ {a0 a1 a2 a3 p : Prop} (h0 : a0) (h1 : a1) (h2 : a2) (h3 : a3) (f : a0 → a1 → a2 → a3 → p := by intro h0_ h1_ h2_ h3_; repeat (first | (with_reducible first | exact h0_ | apply KeepBut.set_ | apply keep_drewN | apply keep_drew | apply keep_alloc | refine keep_far ?_ h1_ _ | refine keep_far ?_ h2_ _ | refine keep_far ?_ h3_ _) | exact h0_)) : p := f h0 h1 h2 h3
theorem z35_ {a0 p : Prop} (h0 : a0) (f : a0 → p := by intro h0_; have h_ : (x5_1 : Int) < ((x0_1.length : Int) : Int) := of_decide_eq_true (by first | (with_reducible assumption) | assumption); first | exact h_ | (have e_ := (Kd.R_reads' h0_).1; omega) | simpa using h_) : p := f h0
theorem z36_ {a0 p : Prop} (h0 : a0) (f : a0 → p := by intro h0_; rw [← hq_]; exact (by (with_reducible repeat (first | refine blk_drewN ?_ _ | refine blk_drew ?_ | refine blk_alloc ?_ _)); exact h0_)) : p := f h0
theorem z37_ {a0 a1 a2 p : Prop} (h0 : a0) (h1 : a1) (h2 : a2) (f : a0 → a1 → a2 → p := by intro h0_ h1_ h2_; repeat (first | (with_reducible first | exact h0_ | apply IsS127.alloc | apply IsS127.drewN | apply IsS127.drew | apply IsS127.set_0 | apply IsS127.set_1 | apply IsS127.set_2 | (apply IsS127.far; case hne => exact h1_) | (apply IsS127.far; case hne => exact h2_)) | exact h0_)) : p := f h0 h1 h2
theorem z38_ {a0 a1 a2 p : Prop} (h0 : a0) (h1 : a1) (h2 : a2) (f : a0 → a1 → a2 → p := by intro h0_ h1_ h2_; repeat (first | (with_reducible first | exact h0_ | apply KeepBut.set_ | apply keep_drewN | apply keep_drew | apply keep_alloc | refine keep_far ?_ h1_ _ | refine keep_far ?_ h2_ _) | exact h0_)) : p := f h0 h1 h2
theorem z39_ {a0 p : Prop} (h0 : a0) (f : a0 → p := by intro h0_; (with_reducible repeat (first | refine blk_drewN ?_ _ | refine blk_drew ?_ | refine blk_alloc ?_ _)); apply put5_; (with_reducible repeat (first | refine blk_drewN ?_ _ | refine blk_drew ?_ | refine blk_alloc ?_ _)); exact h0_) : p := f h0
theorem z40_ {a0 a1 a2 a3 p : Prop} (h0 : a0) (h1 : a1) (h2 : a2) (h3 : a3) (f : a0 → a1 → a2 → a3 → p := by intro h0_ h1_ h2_ h3_; repeat (first | (with_reducible first | exact h0_ | apply below_alloc | apply pw_below_drewN | apply below_drew1 | refine below_set ?_ (IsS130.ge h1_) | refine below_set ?_ h2_ | refine below_set ?_ h3_) | exact h0_)) : p := f h0 h1 h2 h3
theorem z41_ {a0 a1 a2 a3 a4 p : Prop} (h0 : a0) (h1 : a1) (h2 : a2) (h3 : a3) (h4 : a4) (f : a0 → a1 → a2 → a3 → a4 → p := by intro h0_ h1_ h2_ h3_ h4_; repeat (first | (with_reducible first | exact h0_ | apply below_alloc | apply pw_below_drewN | apply below_drew1 | refine below_set ?_ (IsS127.ge h1_) | refine below_set ?_ h2_ | refine below_set ?_ h3_ | refine below_set ?_ h4_) | exact h0_)) : p := f h0 h1 h2 h3 h4
theorem z42_ {a0 p : Prop} (h0 : a0) (f : a0 → p := by intro h0_; (with_reducible repeat (first | refine blk_drewN ?_ _ | refine blk_drew ?_ | refine blk_alloc ?_ _)); apply put2_; (with_reducible repeat (first | refine blk_drewN ?_ _ | refine blk_drew ?_ | refine blk_alloc ?_ _)); exact h0_) : p := f h0
theorem z43_ {p : Prop} (f : p := by first | exact Kd.R_nil _ _ _ _ _ | exact Kd.N_nil _ _ _ _ _ | exact Kd.V_nil _ _ _ _ _ | exact Kd.Q_nil _ _ _ _ _ | exact Kd.S_nil _ _ _ _ _) : p := f
theorem z44_ {p : Prop} (f : p := by simp only [putAll, Act.put, List.setIfInBounds_toArray, List.set_cons_zero, List.set_cons_succ]) : p := f
theorem z45_ {a0 a1 p : Prop} (h0 : a0) (h1 : a1) (f : a0 → a1 → p := by intro h0_ h1_; (with_reducible repeat (first | apply Kd.R_alloc | apply Kd.R_drewN | apply Kd.R_drew)); exact Kd.R_mono (rf5_ (Kd.R_types h0_ h1_ (by decide)) (fun _ hk => hk.2)) (fun _ hk => trivial)) : p := f h0 h1
theorem z46_ {a0 a1 p : Prop} (h0 : a0) (h1 : a1) (f : a0 → a1 → p := by intro h0_ h1_; (with_reducible repeat (first | apply Kd.R_alloc | apply Kd.R_drewN | apply Kd.R_drew)); exact (Kd.R_mono (rf2_ (Kd.R_types h0_ h1_ (by decide)) (fun _ hk => hk.2)) (fun _ h_ => h_.1))) : p := f h0 h1
theorem z47_ {a0 a1 a2 a3 p : Prop} (h0 : a0) (h1 : a1) (h2 : a2) (h3 : a3) (f : a0 → a1 → a2 → a3 → p := by intro h0_ h1_ h2_ h3_; repeat (first | (with_reducible first | exact h0_ | apply IsS127.alloc | apply IsS127.drewN | apply IsS127.drew | apply IsS127.set_0 | apply IsS127.set_1 | apply IsS127.set_2 | (apply IsS127.far; case hne => exact h1_) | (apply IsS127.far; case hne => exact h2_) | (apply IsS127.far; case hne => exact h3_)) | exact h0_)) : p := f h0 h1 h2 h3
theorem z48_ {a0 a1 a2 p : Prop} (h0 : a0) (h1 : a1) (h2 : a2) (f : a0 → a1 → a2 → p := by intro h0_ h1_ h2_; repeat (first | (with_reducible first | exact h0_ | apply IsS130.alloc | apply IsS130.drewN | apply IsS130.drew | apply IsS130.set_0 | apply IsS130.set_1 | apply IsS130.set_2 | refine IsS130.far ?_ (by exact h1_) _ | refine IsS130.far ?_ (by exact h2_) _) | exact h0_)) : p := f h0 h1 h2
theorem z49_ {a0 a1 a2 a3 a4 p : Prop} (h0 : a0) (h1 : a1) (h2 : a2) (h3 : a3) (h4 : a4) (f : a0 → a1 → a2 → a3 → a4 → p := by intro h0_ h1_ h2_ h3_ h4_; repeat (first | (with_reducible first | exact h0_ | apply below_alloc | apply pw_below_drewN | apply below_drew1 | refine below_set ?_ (IsS130.ge h1_) | refine below_set ?_ h2_ | refine below_set ?_ h3_ | refine below_set ?_ h4_) | exact h0_)) : p := f h0 h1 h2 h3 h4
theorem z50_ {a0 p : Prop} (h0 : a0) (f : a0 → p := by intro h0_; rw [← hq_]; exact (by (with_reducible repeat (first | apply Kd.R_alloc | apply Kd.R_drewN | apply Kd.R_drew)); exact h0_)) : p := f h0
theorem z51_ {a0 a1 p : Prop} (h0 : a0) (h1 : a1) (f : a0 → a1 → p := by intro h0_ h1_; rw [← hq_]; exact (by repeat (first | (with_reducible first | exact h0_ | apply below_alloc | apply pw_below_drewN | apply below_drew1 | refine below_set ?_ h1_) | exact h0_))) : p := f h0 h1
theorem z52_ {a0 a1 p : Prop} (h0 : a0) (h1 : a1) (f : a0 → a1 → p := by intro h0_ h1_; repeat (first | (with_reducible first | exact h0_ | apply Kept.alloc | apply Kept.drewN | apply Kept.drew | refine Kept.setCell ?_ (.inr h1_) _) | exact h0_)) : p := f h0 h1
theorem z53_ {a0 p : Prop} (h0 : a0) (f : a0 → p := by intro h0_; rw [hg]; exact Nat.ne_of_lt (IsS130.lt (show IsS130 w0 _ g s0_0 s0_1 s0_2 from by repeat (first | (with_reducible first | exact h0_ | apply IsS130.alloc | apply IsS130.drewN | apply IsS130.drew | apply IsS130.set_0 | apply IsS130.set_1 | apply IsS130.set_2) | exact h0_)))) : p := f h0
theorem z54_ {a0 p : Prop} (h0 : a0) (f : a0 → p := by intro h0_; rw [hg]; exact Nat.ne_of_gt (IsS130.lt (show IsS130 w0 _ g s0_0 s0_1 s0_2 from by repeat (first | (with_reducible first | exact h0_ | apply IsS130.alloc | apply IsS130.drewN | apply IsS130.drew | apply IsS130.set_0 | apply IsS130.set_1 | apply IsS130.set_2) | exact h0_)))) : p := f h0
theorem z55_ {a0 a1 p : Prop} (h0 : a0) (h1 : a1) (f : a0 → a1 → p := by intro h0_ h1_; (with_reducible repeat (first | refine blk_drewN ?_ _ | refine blk_drew ?_ | refine blk_alloc ?_ _)); refine blk_far ?_ h0_ _; (with_reducible repeat (first | refine blk_drewN ?_ _ | refine blk_drew ?_ | refine blk_alloc ?_ _)); refine blk_far ?_ h0_ _; (with_reducible repeat (first | refine blk_drewN ?_ _ | refine blk_drew ?_ | refine blk_alloc ?_ _)); refine blk_far ?_ h0_ _; (with_reducible repeat (first | refine blk_drewN ?_ _ | refine blk_drew ?_ | refine blk_alloc ?_ _)); exact h1_) : p := f h0 h1
theorem z56_ {a0 a1 p : Prop} (h0 : a0) (h1 : a1) (f : a0 → a1 → p := by intro h0_ h1_; (with_reducible repeat (first | refine blk_drewN ?_ _ | refine blk_drew ?_ | refine blk_alloc ?_ _)); refine blk_far ?_ h0_ _; (with_reducible repeat (first | refine blk_drewN ?_ _ | refine blk_drew ?_ | refine blk_alloc ?_ _)); refine blk_far ?_ h0_ _; (with_reducible repeat (first | refine blk_drewN ?_ _ | refine blk_drew ?_ | refine blk_alloc ?_ _)); exact h1_) : p := f h0 h1
theorem z57_ {a0 a1 a2 a3 p : Prop} (h0 : a0) (h1 : a1) (h2 : a2) (h3 : a3) (f : a0 → a1 → a2 → a3 → p := by intro h0_ h1_ h2_ h3_; repeat (first | (with_reducible first | exact h0_ | apply IsS130.alloc | apply IsS130.drewN | apply IsS130.drew | apply IsS130.set_0 | apply IsS130.set_1 | apply IsS130.set_2 | refine IsS130.far ?_ (by exact h1_) _ | refine IsS130.far ?_ (by exact h2_) _ | refine IsS130.far ?_ (by exact h3_) _) | exact h0_)) : p := f h0 h1 h2 h3
theorem z58_ {a0 p : Prop} (h0 : a0) (f : a0 → p := by intro h0_; rw [hg]; exact Nat.ne_of_lt (IsS127.lt (show IsS127 w0 _ g s0_0 s0_1 false from by repeat (first | (with_reducible first | exact h0_ | apply IsS127.alloc | apply IsS127.drewN | apply IsS127.drew | apply IsS127.set_0 | apply IsS127.set_1 | apply IsS127.set_2) | exact h0_)))) : p := f h0
theorem z59_ {a0 p : Prop} (h0 : a0) (f : a0 → p := by intro h0_; rw [hg]; exact Nat.ne_of_gt (IsS127.lt (show IsS127 w0 _ g s0_0 s0_1 false from by repeat (first | (with_reducible first | exact h0_ | apply IsS127.alloc | apply IsS127.drewN | apply IsS127.drew | apply IsS127.set_0 | apply IsS127.set_1 | apply IsS127.set_2) | exact h0_)))) : p := f h0
theorem z60_ {a0 a1 a2 p : Prop} (h0 : a0) (h1 : a1) (h2 : a2) (f : a0 → a1 → a2 → p := by intro h0_ h1_ h2_; rw [hg]; exact (keep_size (w := w) (g := g) (row := none) (by repeat (first | (with_reducible first | exact h0_ | apply KeepBut.set_ | apply keep_drewN | apply keep_drew | apply keep_alloc | refine keep_far ?_ h1_ _ | refine keep_far ?_ h2_ _) | exact h0_)))) : p := f h0 h1 h2
theorem z61_ {a0 a1 p : Prop} (h0 : a0) (h1 : a1) (f : a0 → a1 → p := by intro h0_ h1_; (with_reducible repeat (first | refine blk_drewN ?_ _ | refine blk_drew ?_ | refine blk_alloc ?_ _)); refine blk_far ?_ h0_ _; (with_reducible repeat (first | refine blk_drewN ?_ _ | refine blk_drew ?_ | refine blk_alloc ?_ _)); refine blk_put (cs := #[.int .i64 t1091, .int .i64 t1096, .bool (t1100 == 1), .string (⟨#[]⟩ : ByteArray)]) ?_ 3 _ rfl; (with_reducible repeat (first | refine blk_drewN ?_ _ | refine blk_drew ?_ | refine blk_alloc ?_ _)); refine blk_put (cs := #[.int .i64 t1091, .int .i64 t1096, .bool false, .string (⟨#[]⟩ : ByteArray)]) ?_ 2 _ rfl; (with_reducible repeat (first | refine blk_drewN ?_ _ | refine blk_drew ?_ | refine blk_alloc ?_ _)); exact h1_) : p := f h0 h1
theorem z62_ {a0 a1 a2 p : Prop} (h0 : a0) (h1 : a1) (h2 : a2) (f : a0 → a1 → a2 → p := by intro h0_ h1_ h2_; (with_reducible repeat (first | refine blk_drewN ?_ _ | refine blk_drew ?_ | refine blk_alloc ?_ _)); refine blk_far ?_ h0_ _; (with_reducible repeat (first | refine blk_drewN ?_ _ | refine blk_drew ?_ | refine blk_alloc ?_ _)); refine blk_far ?_ h1_ _; (with_reducible repeat (first | refine blk_drewN ?_ _ | refine blk_drew ?_ | refine blk_alloc ?_ _)); refine blk_far ?_ h1_ _; (with_reducible repeat (first | refine blk_drewN ?_ _ | refine blk_drew ?_ | refine blk_alloc ?_ _)); exact h2_) : p := f h0 h1 h2
theorem z63_ {a0 a1 a2 p : Prop} (h0 : a0) (h1 : a1) (h2 : a2) (f : a0 → a1 → a2 → p := by intro h0_ h1_ h2_; rw [hg]; exact (below_size (by repeat (first | (with_reducible first | exact h0_ | apply below_alloc | apply pw_below_drewN | apply below_drew1 | refine below_set ?_ (IsS127.ge h1_) | refine below_set ?_ h2_) | exact h0_)))) : p := f h0 h1 h2
theorem z64_ {p : Prop} (f : p := by first | rfl | (simp [errW_none, errW_some] <;> rfl) | (simp only [← hji13, ← hji21, ← hji23]; first | rfl | (simp [errW_none, errW_some] <;> rfl)) | (simp [*, errW_none, errW_some] <;> rfl)) : p := f
theorem z65_ {a0 a1 p : Prop} (h0 : a0) (h1 : a1) (f : a0 → a1 → p := by intro h0_ h1_; (with_reducible repeat (first | refine blk_drewN ?_ _ | refine blk_drew ?_ | refine blk_alloc ?_ _)); apply put3_; (with_reducible repeat (first | refine blk_drewN ?_ _ | refine blk_drew ?_ | refine blk_alloc ?_ _)); refine blk_far ?_ h0_ _; (with_reducible repeat (first | refine blk_drewN ?_ _ | refine blk_drew ?_ | refine blk_alloc ?_ _)); refine blk_far ?_ h0_ _; (with_reducible repeat (first | refine blk_drewN ?_ _ | refine blk_drew ?_ | refine blk_alloc ?_ _)); refine blk_far ?_ h0_ _; (with_reducible repeat (first | refine blk_drewN ?_ _ | refine blk_drew ?_ | refine blk_alloc ?_ _)); exact h1_) : p := f h0 h1
theorem z66_ {a0 a1 p : Prop} (h0 : a0) (h1 : a1) (f : a0 → a1 → p := by intro h0_ h1_; (with_reducible repeat (first | apply Kd.R_alloc | apply Kd.R_drewN | apply Kd.R_drew)); exact (Kd.R_mono (rf4_ (Kd.R_types h0_ h1_ (by decide)) (fun _ hk => hk.2)) (fun _ h_ => h_.1))) : p := f h0 h1
theorem z67_ {p : Prop} (f : p := by first | rfl | (simp [errW_none, errW_some] <;> rfl) | (simp only [← hji27, ← hji35, ← hji37]; first | rfl | (simp [errW_none, errW_some] <;> rfl)) | (simp [*, errW_none, errW_some] <;> rfl)) : p := f
theorem z68_ {a0 a1 a2 p : Prop} (h0 : a0) (h1 : a1) (h2 : a2) (f : a0 → a1 → a2 → p := by intro h0_ h1_ h2_; rw [← hq_]; exact (by repeat (first | (with_reducible first | exact h0_ | apply below_alloc | apply pw_below_drewN | apply below_drew1 | refine below_set ?_ h1_ | refine below_set ?_ h2_) | exact h0_))) : p := f h0 h1 h2
theorem z69_ {a0 a1 p : Prop} (h0 : a0) (h1 : a1) (f : a0 → a1 → p := by intro h0_ h1_; (with_reducible repeat (first | refine blk_drewN ?_ _ | refine blk_drew ?_ | refine blk_alloc ?_ _)); refine blk_far ?_ h0_ _; (with_reducible repeat (first | refine blk_drewN ?_ _ | refine blk_drew ?_ | refine blk_alloc ?_ _)); refine blk_far ?_ h0_ _; (with_reducible repeat (first | refine blk_drewN ?_ _ | refine blk_drew ?_ | refine blk_alloc ?_ _)); refine blk_far ?_ h0_ _; (with_reducible repeat (first | refine blk_drewN ?_ _ | refine blk_drew ?_ | refine blk_alloc ?_ _)); refine blk_far ?_ h0_ _; (with_reducible repeat (first | refine blk_drewN ?_ _ | refine blk_drew ?_ | refine blk_alloc ?_ _)); refine blk_far ?_ h0_ _; (with_reducible repeat (first | refine blk_drewN ?_ _ | refine blk_drew ?_ | refine blk_alloc ?_ _)); exact h1_) : p := f h0 h1
theorem z70_ {a0 a1 a2 a3 p : Prop} (h0 : a0) (h1 : a1) (h2 : a2) (h3 : a3) (f : a0 → a1 → a2 → a3 → p := by intro h0_ h1_ h2_ h3_; repeat (first | (with_reducible first | exact h0_ | apply below_alloc | apply pw_below_drewN | apply below_drew1 | refine below_set ?_ h1_ | refine below_set ?_ h2_ | refine below_set ?_ h3_) | exact h0_)) : p := f h0 h1 h2 h3
end Go.Proofs.Ytconpopbpphpgaa.P

namespace Go.Proofs.Ytconpopbpphpgaa.P
open Go.RowKit Go.Proofs.YtconpopbpphpgaaW.PrintWords Go.Proofs.YtconpopbpphpgaaW.PrintLast Go.Proofs.YtconpopbpphpgaaW.PrintMore
attribute [local go_sem] max2_int min2_int max_two min_two max_three min_three max_four min_four   -- for this text's walks alone
set_option linter.unusedVariables false
set_option linter.unusedSimpArgs false

/-! ### spec_GetNum: function 180 -/
mutual
def spec_GetNum.l0 : Nat → ByteArray → Int → Int → Int → Option (Int × Int × Int)
 | 0, _, _, _, _ => none
 | k + 1, x0, x1, x5, x6 => if x6 < 10 then (if x1 ≥ (wrap64 ((x0.size : Int) - x6)) then (some (0, 0, 4)) else (if 0 ≤ (wrap64 (x1 + x6)) then (if (wrap64 (x1 + x6)) < (x0.size : Int) then (if x6 = 9 then (spec_GetNum.j1 k x0 x1 x5 x6 (IntKind.u64.wrap (bt x0 (wrap64 (x1 + x6)))) (decide ((IntKind.u64.wrap (bt x0 (wrap64 (x1 + x6)))) > 1))) else (spec_GetNum.j1 k x0 x1 x5 x6 (IntKind.u64.wrap (bt x0 (wrap64 (x1 + x6)))) false)) else (none)) else (none))) else (some (0, 0, 3))
def spec_GetNum.j1 : Nat → ByteArray → Int → Int → Int → Int → Bool → Option (Int × Int × Int)
 | 0, _, _, _, _, _, _ => none
 | k + 1, x0, x1, x5, x6, x7, x38 => if x38 = true then (some (0, 0, 3)) else (if 0 ≤ (IntKind.u64.wrap (wrap64 (7 * x6))) then (if x7 < 128 then (if x7 = 0 then (spec_GetNum.j2 k x1 (IntKind.u64.wrap (x5 + (shl .u64 (Int.tmod x7 128) (IntKind.u64.wrap (wrap64 (7 * x6)))))) x6 (decide (x6 > 0))) else (spec_GetNum.j2 k x1 (IntKind.u64.wrap (x5 + (shl .u64 (Int.tmod x7 128) (IntKind.u64.wrap (wrap64 (7 * x6)))))) x6 false)) else (spec_GetNum.l0 k x0 x1 (IntKind.u64.wrap (x5 + (shl .u64 (Int.tmod x7 128) (IntKind.u64.wrap (wrap64 (7 * x6)))))) (wrap64 (x6 + 1)))) else (none))
def spec_GetNum.j2 : Nat → Int → Int → Int → Bool → Option (Int × Int × Int)
 | 0, _, _, _, _ => none
 | k + 1, x1, x5, x6, x55 => if x55 = true then (some (0, 0, 3)) else (if (Int.tmod x5 2) = 1 then (some (wrap64 ((wrap64 (-(wrap64 (IntKind.u64.wrap (Int.tdiv x5 2))))) - 1), wrap64 ((wrap64 (x1 + x6)) + 1), 0)) else (some (wrap64 (IntKind.u64.wrap (Int.tdiv x5 2)), wrap64 ((wrap64 (x1 + x6)) + 1), 0)))
end
def spec_GetNum.f (k : Nat) (a0 : ByteArray) (a1 : Int) : Option (Int × Int × Int) := if (a0.size : Int) > 8000 then (some (0, 0, 2)) else (if a1 < 0 then (some (0, 0, 1)) else (spec_GetNum.l0 k a0 a1 0 0))
theorem spec_GetNum.mono_l : ∀ k, (∀ y0 y1 y2 y3, LeO (spec_GetNum.l0 k y0 y1 y2 y3) (spec_GetNum.l0 (k + 1) y0 y1 y2 y3)) ∧ (∀ y0 y1 y2 y3 y4 y5, LeO (spec_GetNum.j1 k y0 y1 y2 y3 y4 y5) (spec_GetNum.j1 (k + 1) y0 y1 y2 y3 y4 y5)) ∧ (∀ y0 y1 y2 y3, LeO (spec_GetNum.j2 k y0 y1 y2 y3) (spec_GetNum.j2 (k + 1) y0 y1 y2 y3))
 | 0 => ⟨fun _ _ _ _ r h => by simp [spec_GetNum.l0] at h, fun _ _ _ _ _ _ r h => by simp [spec_GetNum.j1] at h, fun _ _ _ _ r h => by simp [spec_GetNum.j2] at h⟩
 | k + 1 => by
  obtain ⟨ih0, ih1, ih2⟩ := spec_GetNum.mono_l k
  refine ⟨?_, ?_, ?_⟩
  ·intro y0 y1 y2 y3
   unfold spec_GetNum.l0
   repeat' first
   | (with_reducible exact ih0 _ _ _ _)
   | (with_reducible exact ih1 _ _ _ _ _ _)
   | (with_reducible exact ih2 _ _ _ _)
   | (with_reducible exact LeO.refl _)
   | (with_reducible exact LeO.none _)
   | (with_reducible refine LeO.ite ?_ ?_)
   | (with_reducible refine LeO.bind ?_ (fun _ => ?_))
   | exact ih0 _ _ _ _
   | exact ih1 _ _ _ _ _ _
   | exact ih2 _ _ _ _
   | exact LeO.none _
   | refine LeO.ite ?_ ?_
   | refine LeO.bind ?_ (fun _ => ?_)
  ·intro y0 y1 y2 y3 y4 y5
   unfold spec_GetNum.j1
   repeat' first
   | (with_reducible exact ih0 _ _ _ _)
   | (with_reducible exact ih1 _ _ _ _ _ _)
   | (with_reducible exact ih2 _ _ _ _)
   | (with_reducible exact LeO.refl _)
   | (with_reducible exact LeO.none _)
   | (with_reducible refine LeO.ite ?_ ?_)
   | (with_reducible refine LeO.bind ?_ (fun _ => ?_))
   | exact ih0 _ _ _ _
   | exact ih1 _ _ _ _ _ _
   | exact ih2 _ _ _ _
   | exact LeO.none _
   | refine LeO.ite ?_ ?_
   | refine LeO.bind ?_ (fun _ => ?_)
  ·intro y0 y1 y2 y3
   unfold spec_GetNum.j2
   repeat' first
   | (with_reducible exact ih0 _ _ _ _)
   | (with_reducible exact ih1 _ _ _ _ _ _)
   | (with_reducible exact ih2 _ _ _ _)
   | (with_reducible exact LeO.refl _)
   | (with_reducible exact LeO.none _)
   | (with_reducible refine LeO.ite ?_ ?_)
   | (with_reducible refine LeO.bind ?_ (fun _ => ?_))
   | exact ih0 _ _ _ _
   | exact ih1 _ _ _ _ _ _
   | exact ih2 _ _ _ _
   | exact LeO.none _
   | refine LeO.ite ?_ ?_
   | refine LeO.bind ?_ (fun _ => ?_)
theorem spec_GetNum.mono : ∀ a0 a1 k, LeO (spec_GetNum.f k a0 a1) (spec_GetNum.f (k + 1) a0 a1) := by
 intro a0 a1 k
 obtain ⟨ih0, ih1, ih2⟩ := spec_GetNum.mono_l k
 unfold spec_GetNum.f
 repeat' first
   | (with_reducible exact ih0 _ _ _ _)
   | (with_reducible exact ih1 _ _ _ _ _ _)
   | (with_reducible exact ih2 _ _ _ _)
   | (with_reducible exact LeO.refl _)
   | (with_reducible exact LeO.none _)
   | (with_reducible refine LeO.ite ?_ ?_)
   | (with_reducible refine LeO.bind ?_ (fun _ => ?_))
   | exact ih0 _ _ _ _
   | exact ih1 _ _ _ _ _ _
   | exact ih2 _ _ _ _
   | exact LeO.none _
   | refine LeO.ite ?_ ?_
   | refine LeO.bind ?_ (fun _ => ?_)
set_option maxHeartbeats 8000000 in
set_option maxRecDepth 100000 in
theorem spec_GetNum.calls (k : Nat) (a0 : ByteArray) (a1 : Int) (r1 : Int) (r2 : Int) (r3 : Int) (w : World) (h : spec_GetNum.f k a0 a1 = some (r1, r2, r3)) :
  Calls Try.prog 180 #[.string a0, .int .i64 a1] w fun e w' => e = .returned (.agg #[.int .i64 r1, .int .i64 r2, .int .i64 r3]) ∧ Below w.heap.size w w' := by
 have hu199 := Try.underlying199
 have HB := Aside0.mk (Below.refl w.heap.size w)
 have H : (if (a0.size : Int) > 8000 then (some (0, 0, 2)) else (if a1 < 0 then (some (0, 0, 1)) else (spec_GetNum.l0 k a0 a1 0 0))) = some (r1, r2, r3) := h
 clear h
 by_cases c3 : (a0.size : Int) > 8000
 ·rw [if_pos c3] at H
  have c3b0 : decide (8000 < (a0.size : Int)) = true := decide_eq_true c3
  have c3b1 : decide (8000 < a0.size) = true := decide_eq_true (by omega)
  clear c3
  simp only [Option.some.injEq, Prod.mk.injEq] at H
  obtain ⟨rfl, rfl, rfl⟩ := H
  go_enter Try.func180, Try.ntmps180
  go_wp2_with (first | ((with_reducible refine gate_dst (N := 4) rfl ?_); refine box_event ?hg (N := 4) ?hd (cs := #[.int .i64 0, .int .i64 0, .int .i64 0]) (t := 199) ?hr ?_; (case hd => rfl); (case hg => rfl); (case hr => first | (go_simp; done) | (go_simp; rfl)); intro gb468 hg w4 hbox hb; have n_ := as4_ (below_step (z5_ HB.out) hb) (hbox) ((z7_ HB.out : w.heap.size ≤ gb468)) ((z7_ HB.out : w.heap.size ≤ gb468)); clear HB; have ⟨HB, BK468, GW468, GE468⟩ := n_; clear n_; clear hb hbox hg; have hcz5_0 : w4.cell? ⟨gb468, 0, none⟩ = some (.int .i64 0) := (blk_cell BK468.out 0).trans rfl; have hcz5_1 : w4.cell? ⟨gb468, 1, none⟩ = some (.int .i64 0) := (blk_cell BK468.out 1).trans rfl; have hcz5_2 : w4.cell? ⟨gb468, 2, none⟩ = some (.int .i64 0) := (blk_cell BK468.out 2).trans rfl; have hfz5_0 := blk_frozen BK468.out 0; have hfz5_1 := blk_frozen BK468.out 1; have hfz5_2 := blk_frozen BK468.out 2))
  refine bodyPost_ret (results_cell_row rfl _ _ gb468 199 #[.int .i64 0, .int .i64 0, .int .i64 2] (0, 0) _ rfl (z14_ BK468.out) Try.underlying199 rfl (by kernel_rfl)) rfl ?_
  exact ⟨z8_, z1_ HB.out GE468.out⟩
 ·rw [if_neg c3] at H
  have c3b0 : decide (8000 < (a0.size : Int)) = false := decide_eq_false c3
  have c3b1 : decide (8000 < a0.size) = false := decide_eq_false (by omega)
  clear c3
  by_cases c6 : a1 < 0
  ·rw [if_pos c6] at H
   have c6b0 : decide (a1 < 0) = true := decide_eq_true c6
   clear c6
   simp only [Option.some.injEq, Prod.mk.injEq] at H
   obtain ⟨rfl, rfl, rfl⟩ := H
   go_enter Try.func180, Try.ntmps180
   go_wp2_with (first | ((with_reducible refine gate_dst (N := 4) rfl ?_); refine box_event ?hg (N := 4) ?hd (cs := #[.int .i64 0, .int .i64 0, .int .i64 0]) (t := 199) ?hr ?_; (case hd => rfl); (case hg => rfl); (case hr => first | (go_simp; done) | (go_simp; rfl)); intro gb468 hg w7 hbox hb; have n_ := as4_ (below_step (z5_ HB.out) hb) (hbox) ((z7_ HB.out : w.heap.size ≤ gb468)) ((z7_ HB.out : w.heap.size ≤ gb468)); clear HB; have ⟨HB, BK468, GW468, GE468⟩ := n_; clear n_; clear hb hbox hg; have hcz8_0 : w7.cell? ⟨gb468, 0, none⟩ = some (.int .i64 0) := (blk_cell BK468.out 0).trans rfl; have hcz8_1 : w7.cell? ⟨gb468, 1, none⟩ = some (.int .i64 0) := (blk_cell BK468.out 1).trans rfl; have hcz8_2 : w7.cell? ⟨gb468, 2, none⟩ = some (.int .i64 0) := (blk_cell BK468.out 2).trans rfl; have hfz8_0 := blk_frozen BK468.out 0; have hfz8_1 := blk_frozen BK468.out 1; have hfz8_2 := blk_frozen BK468.out 2))
   refine bodyPost_ret (results_cell_row rfl _ _ gb468 199 #[.int .i64 0, .int .i64 0, .int .i64 1] (0, 0) _ rfl (z14_ BK468.out) Try.underlying199 rfl (by kernel_rfl)) rfl ?_
   exact ⟨z8_, z1_ HB.out GE468.out⟩
  ·rw [if_neg c6] at H
   have c6b0 : decide (a1 < 0) = false := decide_eq_false c6
   clear c6
   have H' := Aside0.mk H
   clear H
   go_enter Try.func180, Try.ntmps180
   go_wp2_with (first | ((with_reducible refine gate_dst (N := 4) rfl ?_); refine box_event ?hg (N := 4) ?hd (cs := #[.int .i64 0, .int .i64 0, .int .i64 0]) (t := 199) ?hr ?_; (case hd => rfl); (case hg => rfl); (case hr => first | (go_simp; done) | (go_simp; rfl)); intro gb468 hg w9 hbox hb; have n_ := as4_ (below_step (z5_ HB.out) hb) (hbox) ((z7_ HB.out : w.heap.size ≤ gb468)) ((z7_ HB.out : w.heap.size ≤ gb468)); clear HB; have ⟨HB, BK468, GW468, GE468⟩ := n_; clear n_; clear hb hbox hg))
   go_loopg [5, 6] k (fun kq v5 v6 w' => ∃ (x5_1 : Int) (x6_1 : Int) (x469000_1 : Int) (x469001_1 : Int) (x469002_1 : Int), v5 = .int .u64 x5_1 ∧ v6 = .int .i64 x6_1 ∧ Aside0 (spec_GetNum.l0 kq a0 a1 x5_1 x6_1 = some (r1, r2, r3)) ∧ Aside0 (kq ≤ k) ∧ Aside0 (w'.heap[gb468]? = some (.cells #[.int .i64 x469000_1, .int .i64 x469001_1, .int .i64 x469002_1] 199 (0, 0))) ∧ Aside0 (Below w.heap.size w w'))
   case atStart => exact ⟨(0), (0), (0), (0), (0), (z2_), (z2_), H', ⟨Nat.le_refl _⟩, ⟨z9_ BK468.out⟩, ⟨z1_ HB.out GE468.out⟩⟩
   case round =>
    clear H'
    try clear c1
    try clear p2
    try clear c3
    try clear c3b0
    try clear c3b1
    try clear c6
    try clear c6b0
    try clear hcz5_0
    try clear hcz5_1
    try clear hcz5_2
    try clear hcz8_0
    try clear hcz8_1
    try clear hcz8_2
    try clear hfz5_0
    try clear hfz5_1
    try clear hfz5_2
    try clear hfz8_0
    try clear hfz8_1
    try clear hfz8_2
    obtain ⟨x5_1, x6_1, x469000_1, x469001_1, x469002_1, rfl, rfl, HA, HK1, BK468, HB⟩ := hrel
    cases gk with
    | zero => exact absurd HA.out (by simp [spec_GetNum.l0])
    | succ k1 =>
     have H := HA.out
     clear HA
     simp only [spec_GetNum.l0] at H
     by_cases c10 : x6_1 < 10
     ·rw [if_pos c10] at H
      have c10b0 : decide (x6_1 < 10) = true := decide_eq_true c10
      clear c10
      by_cases c11 : a1 ≥ (wrap64 ((a0.size : Int) - x6_1))
      ·rw [if_pos c11] at H
       have c11b0 : decide ((wrap64 ((a0.size : Int) - x6_1)) ≤ a1) = true := decide_eq_true c11
       clear c11
       simp only [Option.some.injEq, Prod.mk.injEq] at H
       obtain ⟨rfl, rfl, rfl⟩ := H
       have ⟨hcz12_0, hcz12_1, hcz12_2, hfz12_0, hfz12_1, hfz12_2⟩ := cz3_ BK468.out
       go_wp2
       refine bodyPost_ret (results_cell_row rfl _ _ gb468 199 #[.int .i64 0, .int .i64 0, .int .i64 4] (0, 0) _ rfl (z14_ BK468.out) Try.underlying199 rfl (by kernel_rfl)) rfl ?_
       exact ⟨z8_, z1_ HB.out GE468.out⟩
      ·rw [if_neg c11] at H
       have c11b0 : decide ((wrap64 ((a0.size : Int) - x6_1)) ≤ a1) = false := decide_eq_false c11
       clear c11
       obtain ⟨ji13, hji13⟩ : ∃ j_ : Int, (wrap64 (a1 + x6_1)) = j_ := ⟨_, rfl⟩
       replace H : (if 0 ≤ (ji13) then (if (ji13) < (a0.size : Int) then (if x6_1 = 9 then (spec_GetNum.j1 k1 a0 a1 x5_1 x6_1 (IntKind.u64.wrap (bt a0 (ji13))) (decide ((IntKind.u64.wrap (bt a0 (ji13))) > 1))) else (spec_GetNum.j1 k1 a0 a1 x5_1 x6_1 (IntKind.u64.wrap (bt a0 (ji13))) false)) else (none)) else (none)) = some (r1, r2, r3) := by first | (rw [hji13] at H; exact H) | (simp only [hji13] at H ⊢; exact H)
       have hji13w : (IntKind.i64.wrap (a1 + x6_1)) = ji13 := (i64_w _).trans hji13
       by_cases c14 : 0 ≤ (ji13)
       ·rw [if_pos c14] at H
        have c14b0 : decide (0 ≤ (ji13)) = true := decide_eq_true c14
        clear c14
        by_cases c15 : (ji13) < (a0.size : Int)
        ·rw [if_pos c15] at H
         have c15b0 : decide ((ji13) < (a0.size : Int)) = true := decide_eq_true c15
         clear c15
         have HC17 := Aside0.mk H
         clear H
         have p16 : 0 ≤ ((ji13) : Int) := of_decide_eq_true (z3_)
         have q16 : (ji13) < (a0.size : Int) := of_decide_eq_true (z3_)
         have hx16 := bt_at a0 (ji13)
         replace p16 := eq_true p16
         replace q16 := eq_true q16
         go_upto_region 12 with (fail)
         go_cut [38] (fun v38 wc => ∃ (kq : Nat) (x38_16 : Bool), v38 = .bool x38_16 ∧ Aside0 (spec_GetNum.j1 kq a0 a1 x5_1 x6_1 (IntKind.u64.wrap (bt a0 (ji13))) x38_16 = some (r1, r2, r3)) ∧ Aside0 (kq ≤ k1) ∧ Aside0 (wc.heap[gb468]? = some (.cells #[.int .i64 x469000_1, .int .i64 x469001_1, .int .i64 x469002_1] 199 (0, 0))) ∧ Aside0 (Below w.heap.size w wc))
         case first =>
          have H := HC17.out
          clear HC17
          by_cases c18 : x6_1 = 9
          ·rw [if_pos c18] at H
           have c18b0 : (x6_1 == 9) = true := beq_iff_eq.mpr c18
           have c18b1 : (x6_1 != 9) = false := bne_eq_false_iff_eq.mpr c18
           clear c18
           (first | rw [c18b0] | (simp only [i64_w, i32_w]; rw [c18b0]) | skip)
           have H' := Aside0.mk H
           clear H
           go_wp2
           go_meet
           case rel => exact ⟨_, (decide ((IntKind.u64.wrap (bt a0 (ji13))) > 1)), (by first | rfl | (simp; done) | (simp only [← hji13] <;> (first | rfl | simp)) | (simp [*]; done)), H', ⟨z26_ HK1.out⟩, ⟨z9_ BK468.out⟩, ⟨z1_ HB.out GE468.out⟩⟩
          ·rw [if_neg c18] at H
           have c18b0 : (x6_1 == 9) = false := beq_eq_false_iff_ne.mpr c18
           have c18b1 : (x6_1 != 9) = true := bne_iff_ne.mpr c18
           (first | rw [c18b0] | (simp only [i64_w, i32_w]; rw [c18b0]) | skip)
           have H' := Aside0.mk H
           clear H
           go_wp2
           go_meet
           case rel => exact ⟨_, (false), (z2_), H', ⟨z26_ HK1.out⟩, ⟨z9_ BK468.out⟩, ⟨z1_ HB.out GE468.out⟩⟩
         case rest =>
          clear HC17
          try clear c1
          try clear p1
          try clear q1
          try clear hx1
          try clear p2
          try clear c3
          try clear c3b0
          try clear c3b1
          try clear c6
          try clear c6b0
          try clear p6
          try clear c10
          try clear c10b0
          try clear c11
          try clear c11b0
          try clear c14
          try clear c14b0
          try clear c15
          try clear c15b0
          try clear p16
          try clear q16
          try clear hx16
          try clear c18
          try clear c18b0
          try clear c18b1
          try clear hcz12_0
          try clear hcz12_1
          try clear hcz12_2
          try clear hcz5_0
          try clear hcz5_1
          try clear hcz5_2
          try clear hcz8_0
          try clear hcz8_1
          try clear hcz8_2
          try clear hfz12_0
          try clear hfz12_1
          try clear hfz12_2
          try clear hfz5_0
          try clear hfz5_1
          try clear hfz5_2
          try clear hfz8_0
          try clear hfz8_1
          try clear hfz8_2
          try clear p16
          try clear p2
          try clear q16
          obtain ⟨kq, x38_16, rfl, HA, HJ16, BK468, HB⟩ := hcut
          cases kq with
          | zero => exact absurd HA.out (by simp [spec_GetNum.j1])
          | succ kj16 =>
           have H := HA.out
           clear HA
           simp only [spec_GetNum.j1] at H
           by_cases c19 : x38_16 = true
           ·subst c19
            have H1 : (some (0, 0, 3)) = some (r1, r2, r3) := by rw [if_pos rfl] at H; exact H
            clear H
            have H := H1
            clear H1
            simp only [Option.some.injEq, Prod.mk.injEq] at H
            obtain ⟨rfl, rfl, rfl⟩ := H
            have ⟨hcz20_0, hcz20_1, hcz20_2, hfz20_0, hfz20_1, hfz20_2⟩ := cz3_ BK468.out
            go_wp2
            (try subst hji13)
            refine bodyPost_ret (results_cell_row rfl _ _ gb468 199 #[.int .i64 0, .int .i64 0, .int .i64 3] (0, 0) _ rfl (z14_ BK468.out) Try.underlying199 rfl (by kernel_rfl)) rfl ?_
            exact ⟨by first | rfl | (simp [errW_none, errW_some] <;> rfl) | (simp only [← hji13]; first | rfl | (simp [errW_none, errW_some] <;> rfl)) | (simp [*, errW_none, errW_some] <;> rfl), z1_ HB.out GE468.out⟩
           ·replace c19 := Bool.eq_false_iff.mpr c19
            subst c19
            have H1 : (if 0 ≤ (IntKind.u64.wrap (wrap64 (7 * x6_1))) then (if (IntKind.u64.wrap (bt a0 (ji13))) < 128 then (if (IntKind.u64.wrap (bt a0 (ji13))) = 0 then (spec_GetNum.j2 kj16 a1 (IntKind.u64.wrap (x5_1 + (shl .u64 (Int.tmod (IntKind.u64.wrap (bt a0 (ji13))) 128) (IntKind.u64.wrap (wrap64 (7 * x6_1)))))) x6_1 (decide (x6_1 > 0))) else (spec_GetNum.j2 kj16 a1 (IntKind.u64.wrap (x5_1 + (shl .u64 (Int.tmod (IntKind.u64.wrap (bt a0 (ji13))) 128) (IntKind.u64.wrap (wrap64 (7 * x6_1)))))) x6_1 false)) else (spec_GetNum.l0 kj16 a0 a1 (IntKind.u64.wrap (x5_1 + (shl .u64 (Int.tmod (IntKind.u64.wrap (bt a0 (ji13))) 128) (IntKind.u64.wrap (wrap64 (7 * x6_1)))))) (wrap64 (x6_1 + 1)))) else (none)) = some (r1, r2, r3) := by rw [if_neg (show ¬ (false = true) by decide)] at H; exact H
            clear H
            have H := H1
            clear H1
            obtain ⟨ji21, hji21⟩ : ∃ j_ : Int, (IntKind.u64.wrap (wrap64 (7 * x6_1))) = j_ := ⟨_, rfl⟩
            replace H : (if 0 ≤ (ji21) then (if (IntKind.u64.wrap (bt a0 (ji13))) < 128 then (if (IntKind.u64.wrap (bt a0 (ji13))) = 0 then (spec_GetNum.j2 kj16 a1 (IntKind.u64.wrap (x5_1 + (shl .u64 (Int.tmod (IntKind.u64.wrap (bt a0 (ji13))) 128) (ji21)))) x6_1 (decide (x6_1 > 0))) else (spec_GetNum.j2 kj16 a1 (IntKind.u64.wrap (x5_1 + (shl .u64 (Int.tmod (IntKind.u64.wrap (bt a0 (ji13))) 128) (ji21)))) x6_1 false)) else (spec_GetNum.l0 kj16 a0 a1 (IntKind.u64.wrap (x5_1 + (shl .u64 (Int.tmod (IntKind.u64.wrap (bt a0 (ji13))) 128) (ji21)))) (wrap64 (x6_1 + 1)))) else (none)) = some (r1, r2, r3) := by first | (rw [hji21] at H; exact H) | (simp only [hji21] at H ⊢; exact H)
            by_cases c22 : 0 ≤ (ji21)
            ·rw [if_pos c22] at H
             have c22b0 := eq_true c22
             have c22b1 : decide (0 ≤ (ji21)) = true := decide_eq_true c22
             clear c22
             obtain ⟨ji23, hji23⟩ : ∃ j_ : Int, (shl .u64 (Int.tmod (IntKind.u64.wrap (bt a0 (ji13))) 128) (ji21)) = j_ := ⟨_, rfl⟩
             replace H : (if (IntKind.u64.wrap (bt a0 (ji13))) < 128 then (if (IntKind.u64.wrap (bt a0 (ji13))) = 0 then (spec_GetNum.j2 kj16 a1 (IntKind.u64.wrap (x5_1 + (ji23))) x6_1 (decide (x6_1 > 0))) else (spec_GetNum.j2 kj16 a1 (IntKind.u64.wrap (x5_1 + (ji23))) x6_1 false)) else (spec_GetNum.l0 kj16 a0 a1 (IntKind.u64.wrap (x5_1 + (ji23))) (wrap64 (x6_1 + 1)))) = some (r1, r2, r3) := by first | (rw [hji23] at H; exact H) | (simp only [hji23] at H ⊢; exact H)
             have hji23_ : (IntKind.u64.wrap ((Int.tmod (IntKind.u64.wrap (bt a0 (ji13))) 128) * 2 ^ min (ji21).toNat 64)) = ji23 := hji23
             have hji23z : (ji21) ≤ 64 → (IntKind.u64.wrap ((Int.tmod (IntKind.u64.wrap (bt a0 (ji13))) 128) * 2 ^ (ji21).toNat)) = ji23 := shl_small hji23
             by_cases c24 : (IntKind.u64.wrap (bt a0 (ji13))) < 128
             ·rw [if_pos c24] at H
              have c24b0 : decide ((IntKind.u64.wrap (bt a0 (ji13))) < 128) = true := decide_eq_true c24
              clear c24
              have HC25 := Aside0.mk H
              clear H
              go_upto_region 16 with (fail)
              go_cut [55] (fun v55 wc => ∃ (kq : Nat) (x55_24 : Bool), v55 = .bool x55_24 ∧ Aside0 (spec_GetNum.j2 kq a1 (IntKind.u64.wrap (x5_1 + (ji23))) x6_1 x55_24 = some (r1, r2, r3)) ∧ Aside0 (kq ≤ kj16) ∧ Aside0 (wc.heap[gb468]? = some (.cells #[.int .i64 x469000_1, .int .i64 x469001_1, .int .i64 x469002_1] 199 (0, 0))) ∧ Aside0 (Below w.heap.size w wc))
              case first =>
               have H := HC25.out
               clear HC25
               by_cases c26 : (IntKind.u64.wrap (bt a0 (ji13))) = 0
               ·rw [if_pos c26] at H
                have c26b0 : ((IntKind.u64.wrap (bt a0 (ji13))) == 0) = true := beq_iff_eq.mpr c26
                have c26b1 : ((IntKind.u64.wrap (bt a0 (ji13))) != 0) = false := bne_eq_false_iff_eq.mpr c26
                clear c26
                (first | rw [c26b0] | (simp only [i64_w, i32_w]; rw [c26b0]) | skip)
                have H' := Aside0.mk H
                clear H
                go_wp2
                go_meet
                case rel => exact ⟨_, (decide (x6_1 > 0)), (z2_), H', ⟨z33_ HK1.out HJ16.out⟩, ⟨z9_ BK468.out⟩, ⟨z1_ HB.out GE468.out⟩⟩
               ·rw [if_neg c26] at H
                have c26b0 : ((IntKind.u64.wrap (bt a0 (ji13))) == 0) = false := beq_eq_false_iff_ne.mpr c26
                have c26b1 : ((IntKind.u64.wrap (bt a0 (ji13))) != 0) = true := bne_iff_ne.mpr c26
                (first | rw [c26b0] | (simp only [i64_w, i32_w]; rw [c26b0]) | skip)
                have H' := Aside0.mk H
                clear H
                go_wp2
                go_meet
                case rel => exact ⟨_, (false), (z2_), H', ⟨z33_ HK1.out HJ16.out⟩, ⟨z9_ BK468.out⟩, ⟨z1_ HB.out GE468.out⟩⟩
              case rest =>
               clear HC25
               try clear c1
               try clear p1
               try clear q1
               try clear hx1
               try clear c2
               try clear p2
               try clear c3
               try clear c3b0
               try clear c3b1
               try clear c6
               try clear c6b0
               try clear p6
               try clear c10
               try clear c10b0
               try clear c11
               try clear c11b0
               try clear c14
               try clear c14b0
               try clear c15
               try clear c15b0
               try clear p16
               try clear q16
               try clear hx16
               try clear c18
               try clear c18b0
               try clear c18b1
               try clear c19
               try clear c22
               try clear c22b0
               try clear c22b1
               try clear c24
               try clear c24b0
               try clear c26
               try clear c26b0
               try clear c26b1
               try clear hcz12_0
               try clear hcz12_1
               try clear hcz12_2
               try clear hcz20_0
               try clear hcz20_1
               try clear hcz20_2
               try clear hcz5_0
               try clear hcz5_1
               try clear hcz5_2
               try clear hcz8_0
               try clear hcz8_1
               try clear hcz8_2
               try clear hfz12_0
               try clear hfz12_1
               try clear hfz12_2
               try clear hfz20_0
               try clear hfz20_1
               try clear hfz20_2
               try clear hfz5_0
               try clear hfz5_1
               try clear hfz5_2
               try clear hfz8_0
               try clear hfz8_1
               try clear hfz8_2
               try clear p1
               try clear p16
               try clear p2
               try clear p6
               try clear q1
               try clear q16
               obtain ⟨kq, x55_24, rfl, HA, HJ24, BK468, HB⟩ := hcut
               cases kq with
               | zero => exact absurd HA.out (by simp [spec_GetNum.j2])
               | succ kj24 =>
                have H := HA.out
                clear HA
                simp only [spec_GetNum.j2] at H
                by_cases c27 : x55_24 = true
                ·subst c27
                 have H1 : (some (0, 0, 3)) = some (r1, r2, r3) := by rw [if_pos rfl] at H; exact H
                 clear H
                 have H := H1
                 clear H1
                 simp only [Option.some.injEq, Prod.mk.injEq] at H
                 obtain ⟨rfl, rfl, rfl⟩ := H
                 have ⟨hcz28_0, hcz28_1, hcz28_2, hfz28_0, hfz28_1, hfz28_2⟩ := cz3_ BK468.out
                 go_wp2
                 (try subst hji23)
                 (try subst hji21)
                 (try subst hji13)
                 refine bodyPost_ret (results_cell_row rfl _ _ gb468 199 #[.int .i64 0, .int .i64 0, .int .i64 3] (0, 0) _ rfl (z14_ BK468.out) Try.underlying199 rfl (by kernel_rfl)) rfl ?_
                 exact ⟨z64_, z1_ HB.out GE468.out⟩
                ·replace c27 := Bool.eq_false_iff.mpr c27
                 subst c27
                 have H1 : (if (Int.tmod (IntKind.u64.wrap (x5_1 + (ji23))) 2) = 1 then (some (wrap64 ((wrap64 (-(wrap64 (IntKind.u64.wrap (Int.tdiv (IntKind.u64.wrap (x5_1 + (ji23))) 2))))) - 1), wrap64 ((wrap64 (a1 + x6_1)) + 1), 0)) else (some (wrap64 (IntKind.u64.wrap (Int.tdiv (IntKind.u64.wrap (x5_1 + (ji23))) 2)), wrap64 ((wrap64 (a1 + x6_1)) + 1), 0))) = some (r1, r2, r3) := by rw [if_neg (show ¬ (false = true) by decide)] at H; exact H
                 clear H
                 have H := H1
                 clear H1
                 by_cases c29 : (Int.tmod (IntKind.u64.wrap (x5_1 + (ji23))) 2) = 1
                 ·rw [if_pos c29] at H
                  have c29b0 : ((Int.tmod (IntKind.u64.wrap (x5_1 + (ji23))) 2) == 1) = true := beq_iff_eq.mpr c29
                  have c29b1 : ((Int.tmod (IntKind.u64.wrap (x5_1 + (ji23))) 2) != 1) = false := bne_eq_false_iff_eq.mpr c29
                  clear c29
                  simp only [Option.some.injEq, Prod.mk.injEq] at H
                  obtain ⟨rfl, rfl, rfl⟩ := H
                  have ⟨hcz30_0, hcz30_1, hcz30_2, hfz30_0, hfz30_1, hfz30_2⟩ := cz3_ BK468.out
                  go_wp2
                  (try subst hji21)
                  (try subst hji13)
                  refine bodyPost_ret (results_cell_row rfl _ _ gb468 199 #[.int .i64 (wrap64 ((wrap64 (-(wrap64 (IntKind.u64.wrap (Int.tdiv (IntKind.u64.wrap (x5_1 + (ji23))) 2))))) - 1)), .int .i64 (wrap64 ((wrap64 (a1 + x6_1)) + 1)), .int .i64 0] (0, 0) _ rfl (z14_ BK468.out) Try.underlying199 rfl (by kernel_rfl)) rfl ?_
                  exact ⟨z64_, z1_ HB.out GE468.out⟩
                 ·rw [if_neg c29] at H
                  have c29b0 : ((Int.tmod (IntKind.u64.wrap (x5_1 + (ji23))) 2) == 1) = false := beq_eq_false_iff_ne.mpr c29
                  have c29b1 : ((Int.tmod (IntKind.u64.wrap (x5_1 + (ji23))) 2) != 1) = true := bne_iff_ne.mpr c29
                  simp only [Option.some.injEq, Prod.mk.injEq] at H
                  obtain ⟨rfl, rfl, rfl⟩ := H
                  have ⟨hcz31_0, hcz31_1, hcz31_2, hfz31_0, hfz31_1, hfz31_2⟩ := cz3_ BK468.out
                  go_wp2
                  (try subst hji21)
                  (try subst hji13)
                  refine bodyPost_ret (results_cell_row rfl _ _ gb468 199 #[.int .i64 (wrap64 (IntKind.u64.wrap (Int.tdiv (IntKind.u64.wrap (x5_1 + (ji23))) 2))), .int .i64 (wrap64 ((wrap64 (a1 + x6_1)) + 1)), .int .i64 0] (0, 0) _ rfl (z14_ BK468.out) Try.underlying199 rfl (by kernel_rfl)) rfl ?_
                  exact ⟨z64_, z1_ HB.out GE468.out⟩
             ·rw [if_neg c24] at H
              have c24b0 : decide ((IntKind.u64.wrap (bt a0 (ji13))) < 128) = false := decide_eq_false c24
              clear c24
              have H' := Aside0.mk H
              clear H
              go_wp2
              go_roundg kj16
              case measure => have := HK1.out; have := HJ16.out; omega
              case rel => exact ⟨(IntKind.u64.wrap (x5_1 + (ji23))), (wrap64 (x6_1 + 1)), (x469000_1), (x469001_1), (x469002_1), (by first | rfl | (simp; done) | (simp only [← hji23] <;> (first | rfl | simp)) | (simp [*]; done)), (z2_), H', ⟨by have := HK1.out; have := HJ16.out; omega⟩, ⟨z9_ BK468.out⟩, ⟨z1_ HB.out GE468.out⟩⟩
            ·rw [if_neg c22] at H
             exact absurd H (by simp)
        ·rw [if_neg c15] at H
         exact absurd H (by simp)
       ·rw [if_neg c14] at H
        exact absurd H (by simp)
     ·rw [if_neg c10] at H
      have c10b0 : decide (x6_1 < 10) = false := decide_eq_false c10
      clear c10
      simp only [Option.some.injEq, Prod.mk.injEq] at H
      obtain ⟨rfl, rfl, rfl⟩ := H
      have ⟨hcz32_0, hcz32_1, hcz32_2, hfz32_0, hfz32_1, hfz32_2⟩ := cz3_ BK468.out
      go_wp2
      refine bodyPost_ret (results_cell_row rfl _ _ gb468 199 #[.int .i64 0, .int .i64 0, .int .i64 3] (0, 0) _ rfl (z14_ BK468.out) Try.underlying199 rfl (by kernel_rfl)) rfl ?_
      exact ⟨z8_, z1_ HB.out GE468.out⟩


/-- A state of type 130 at block g of W; what its slices lead to came in by w0. -/
def IsS130 (w0 W : World) (g : Nat) (f0 : ByteArray) (f1 : Int) (f2 : Bool) : Prop := W.heap[g]? = some (.cells #[.string f0, .int .i64 f1, .bool f2] 130 (0, 0)) ∧ w0.heap.size ≤ g
theorem IsS130.grown {w0 W : World} {g : Nat} {f0 : ByteArray} {f1 : Int} {f2 : Bool} {W1 : World} {row : Option Nat} (h : IsS130 w0 W g f0 f1 f2) (hw : W.grownBy W1 row) (hne : some g ≠ row) : IsS130 w0 W1 g f0 f1 f2 := by
 obtain ⟨hb, hg⟩ := h
 exact ⟨blk_grown hb hw hne, hg⟩
theorem IsS130.kept {w0 W : World} {g : Nat} {f0 : ByteArray} {f1 : Int} {f2 : Bool} {W1 : World} {S : Nat → Prop} (h : IsS130 w0 W g f0 f1 f2) (hk : Kept W W1 S) (hne : ¬ S g) : IsS130 w0 W1 g f0 f1 f2 := by
 obtain ⟨hb, hg⟩ := h
 exact ⟨blk_kept hb hk hne, hg⟩
theorem IsS130.below {w0 W : World} {g : Nat} {f0 : ByteArray} {f1 : Int} {f2 : Bool} {W1 : World} (h : IsS130 w0 W g f0 f1 f2) (hw : Below W.heap.size W W1) : IsS130 w0 W1 g f0 f1 f2 := h.grown (grown_of_below hw none) (by simp)
theorem IsS130.alloc {w0 W : World} {g : Nat} {f0 : ByteArray} {f1 : Int} {f2 : Bool} (h : IsS130 w0 W g f0 f1 f2) (o : Obj) : IsS130 w0 (W.alloc o) g f0 f1 f2 := h.below (below_alloc (Below.refl _ _) o)
theorem IsS130.drewN {w0 W : World} {g : Nat} {f0 : ByteArray} {f1 : Int} {f2 : Bool} (h : IsS130 w0 W g f0 f1 f2) (m : Nat) : IsS130 w0 (W.drewN m) g f0 f1 f2 := h
theorem IsS130.drew {w0 W : World} {g : Nat} {f0 : ByteArray} {f1 : Int} {f2 : Bool} (h : IsS130 w0 W g f0 f1 f2) : IsS130 w0 W.drew g f0 f1 f2 := h
theorem IsS130.at_ {w0 W : World} {g : Nat} {f0 : ByteArray} {f1 : Int} {f2 : Bool} {w' : World} {m : Nat} (hq : W.drewN m = w') (h : IsS130 w0 W g f0 f1 f2) : IsS130 w0 w' g f0 f1 f2 := by subst hq; exact IsS130.drewN h m
theorem IsS130.apart {w0 W : World} {g : Nat} {f0 : ByteArray} {f1 : Int} {f2 : Bool} {α : Type} {d : Kd α} {e : Nat} {base : Nat} {ok : Nat → Prop} {v : Value} {xs : List α} (h : IsS130 w0 W g f0 f1 f2) (ho : d.R e W base ok v xs) (ht : ∀ q, q ∈ e :: d.E → q ≠ 130) : d.R e W base (fun k => ok k ∧ k ≠ g) v xs := by
 obtain ⟨hb, hg⟩ := h
 exact Kd.R_types ho hb ht
theorem IsS130.own_ne {w0 W : World} {g : Nat} {f0 : ByteArray} {f1 : Int} {f2 : Bool} {α : Type} {d : Kd α} {e : Nat} {base : Nat} {ok : Nat → Prop} {v : Value} {xs : List α} (h : IsS130 w0 W g f0 f1 f2) (ho : d.R e W base ok v xs) (ht : e ≠ 130) : some g ≠ v.ownBlock := by
 obtain ⟨hb, hg⟩ := h
 exact Kd.R_ne ho hb ht
theorem IsS130.lt {w0 W : World} {g : Nat} {f0 : ByteArray} {f1 : Int} {f2 : Bool} (h : IsS130 w0 W g f0 f1 f2) : g < W.heap.size := by
 obtain ⟨hb, hg⟩ := h
 exact blk_lt hb
theorem IsS130.ge {w0 W : World} {g : Nat} {f0 : ByteArray} {f1 : Int} {f2 : Bool} (h : IsS130 w0 W g f0 f1 f2) : w0.heap.size ≤ g := by
 obtain ⟨hb, hg⟩ := h
 exact hg
theorem IsS130.far {w0 W : World} {g : Nat} {f0 : ByteArray} {f1 : Int} {f2 : Bool} {p : Addr} (h : IsS130 w0 W g f0 f1 f2) (hne : g ≠ p.block) (u : Value) : IsS130 w0 (W.setCell p u) g f0 f1 f2 := by
 obtain ⟨hb, hg⟩ := h
 exact ⟨blk_far hb hne u, hg⟩
theorem cellS130_0 {W : World} {g : Nat} {f0 : ByteArray} {f1 : Int} {f2 : Bool} (h : W.heap[g]? = some (.cells #[.string f0, .int .i64 f1, .bool f2] 130 (0, 0))) : W.cell? ⟨g, 0, none⟩ = some (.string f0) := (blk_cell h 0).trans rfl
theorem IsS130.set_0 {w0 W : World} {g : Nat} {f0 : ByteArray} {f1 : Int} {f2 : Bool} (h : IsS130 w0 W g f0 f1 f2) (x : ByteArray) : IsS130 w0 (W.setCell ⟨g, 0, none⟩ (.string x)) g x f1 f2 := by
 obtain ⟨hb, hg⟩ := h
 exact ⟨by simpa using blk_set hb 0 (.string x), hg⟩
theorem cellS130_1 {W : World} {g : Nat} {f0 : ByteArray} {f1 : Int} {f2 : Bool} (h : W.heap[g]? = some (.cells #[.string f0, .int .i64 f1, .bool f2] 130 (0, 0))) : W.cell? ⟨g, 1, none⟩ = some (.int .i64 f1) := (blk_cell h 1).trans rfl
theorem IsS130.set_1 {w0 W : World} {g : Nat} {f0 : ByteArray} {f1 : Int} {f2 : Bool} (h : IsS130 w0 W g f0 f1 f2) (x : Int) : IsS130 w0 (W.setCell ⟨g, 1, none⟩ (.int .i64 x)) g f0 x f2 := by
 obtain ⟨hb, hg⟩ := h
 exact ⟨by simpa using blk_set hb 1 (.int .i64 x), hg⟩
theorem cellS130_2 {W : World} {g : Nat} {f0 : ByteArray} {f1 : Int} {f2 : Bool} (h : W.heap[g]? = some (.cells #[.string f0, .int .i64 f1, .bool f2] 130 (0, 0))) : W.cell? ⟨g, 2, none⟩ = some (.bool f2) := (blk_cell h 2).trans rfl
theorem IsS130.set_2 {w0 W : World} {g : Nat} {f0 : ByteArray} {f1 : Int} {f2 : Bool} (h : IsS130 w0 W g f0 f1 f2) (x : Bool) : IsS130 w0 (W.setCell ⟨g, 2, none⟩ (.bool x)) g f0 f1 x := by
 obtain ⟨hb, hg⟩ := h
 exact ⟨by simpa using blk_set hb 2 (.bool x), hg⟩
/-! ### spec_l02Reader_num: function 133 -/
def spec_l02Reader_num.j0 : Nat → Bool → ByteArray → Int → Bool → Int → Int → Int → Option (Int × ByteArray × Int × Bool)
 | 0, _, _, _, _, _, _, _ => none
 | k + 1, x21, x1000, x1001, x1002, x473000, x473001, x473002 => if x21 = true then (some (0, x1000, x1001, true)) else (some (x473000, x1000, x473001, x1002))
def spec_l02Reader_num.f (k : Nat) (s0_0 : ByteArray) (s0_1 : Int) (s0_2 : Bool) : Option (Int × ByteArray × Int × Bool) := (spec_GetNum.f k s0_0 s0_1).bind fun bt469 => (if s0_2 = true then (spec_l02Reader_num.j0 k true s0_0 s0_1 s0_2 bt469.1 bt469.2.1 bt469.2.2) else (spec_l02Reader_num.j0 k (bt469.2.2 != 0) s0_0 s0_1 s0_2 bt469.1 bt469.2.1 bt469.2.2))
theorem spec_l02Reader_num.mono_l : ∀ k, (∀ y0 y1 y2 y3 y4 y5 y6, LeO (spec_l02Reader_num.j0 k y0 y1 y2 y3 y4 y5 y6) (spec_l02Reader_num.j0 (k + 1) y0 y1 y2 y3 y4 y5 y6))
 | 0 => fun _ _ _ _ _ _ _ r h => by simp [spec_l02Reader_num.j0] at h
 | k + 1 => by
  have ih0 := spec_l02Reader_num.mono_l k
  ·intro y0 y1 y2 y3 y4 y5 y6
   unfold spec_l02Reader_num.j0
   repeat' first
   | (with_reducible exact ih0 _ _ _ _ _ _ _)
   | (with_reducible exact spec_GetNum.mono _ _ _)
   | (with_reducible exact LeO.refl _)
   | (with_reducible exact LeO.none _)
   | (with_reducible refine LeO.ite ?_ ?_)
   | (with_reducible refine LeO.bind ?_ (fun _ => ?_))
   | exact ih0 _ _ _ _ _ _ _
   | exact spec_GetNum.mono _ _ _
   | exact LeO.none _
   | refine LeO.ite ?_ ?_
   | refine LeO.bind ?_ (fun _ => ?_)
theorem spec_l02Reader_num.mono : ∀ a0 a1 a2 k, LeO (spec_l02Reader_num.f k a0 a1 a2) (spec_l02Reader_num.f (k + 1) a0 a1 a2) := by
 intro a0 a1 a2 k
 have ih0 := spec_l02Reader_num.mono_l k
 unfold spec_l02Reader_num.f
 repeat' first
   | (with_reducible exact ih0 _ _ _ _ _ _ _)
   | (with_reducible exact spec_GetNum.mono _ _ _)
   | (with_reducible exact LeO.refl _)
   | (with_reducible exact LeO.none _)
   | (with_reducible refine LeO.ite ?_ ?_)
   | (with_reducible refine LeO.bind ?_ (fun _ => ?_))
   | exact ih0 _ _ _ _ _ _ _
   | exact spec_GetNum.mono _ _ _
   | exact LeO.none _
   | refine LeO.ite ?_ ?_
   | refine LeO.bind ?_ (fun _ => ?_)
def spec_l02Reader_num.T1 : Bool × List (List Nat × List Nat) := (true, [([], []), ([0], [0]), ([1], [1]), ([2], [2]), ([], []), ([4], [4]), ([5], [5]), ([6], [6]), ([3, 7], [3, 7]), ([], []), ([9, 8, 8, 0, 1, 2, 3, 4, 5, 6, 7, 8, 9], [8, 9])])
def spec_l02Reader_num.B1 : List Nat := [0, 1, 3, 7, 0, 16, 48, 112, 255, 0, 1023]
theorem spec_l02Reader_num.tab1 : rtab .any (opsOf Try.f133 1) = spec_l02Reader_num.T1 := by kernel_rfl
theorem spec_l02Reader_num.bits1 : waitsOk spec_l02Reader_num.T1.2 spec_l02Reader_num.B1 = true := by kernel_rfl
set_option maxHeartbeats 8000000 in
set_option maxRecDepth 100000 in
theorem spec_l02Reader_num.calls (k : Nat) (g : Nat) (s0_0 : ByteArray) (s0_1 : Int) (s0_2 : Bool) (r1 : Int) (r2 : ByteArray) (r3 : Int) (r4 : Bool) (w0 w : World) (hI : IsS130 w0 w g s0_0 s0_1 s0_2) (hB : Below w0.heap.size w0 w) (h : spec_l02Reader_num.f k s0_0 s0_1 s0_2 = some (r1, r2, r3, r4)) :
  Calls Try.prog 133 #[.pointer (some ⟨g, 0, none⟩)] w fun e w' => e = .returned (.int .i64 r1) ∧ IsS130 w0 w' g r2 r3 r4 ∧ Below w0.heap.size w0 w' ∧ KeepBut w w' g none := by
 have hu199 := Try.underlying199
 have HI0 := Aside0.mk hI
 have HK := Aside0.mk (KeepBut.refl w g none)
 have HL := Aside0.mk hB.size
 clear hI
 have HW0 := Aside0.mk hB.size
 have HB := Aside0.mk hB
 clear hB
 have H : ((spec_GetNum.f k s0_0 s0_1).bind fun bt469 => (if s0_2 = true then (spec_l02Reader_num.j0 k true s0_0 s0_1 s0_2 bt469.1 bt469.2.1 bt469.2.2) else (spec_l02Reader_num.j0 k (bt469.2.2 != 0) s0_0 s0_1 s0_2 bt469.1 bt469.2.1 bt469.2.2))) = some (r1, r2, r3, r4) := h
 clear h
 replace H := Option.bind_eq_some_iff.mp H
 obtain ⟨⟨t469, t470, t471⟩, A20, H⟩ := H
 replace H : (if s0_2 = true then (spec_l02Reader_num.j0 k true s0_0 s0_1 s0_2 t469 t470 t471) else (spec_l02Reader_num.j0 k (t471 != 0) s0_0 s0_1 s0_2 t469 t470 t471)) = some (r1, r2, r3, r4) := H
 have A2 := Aside0.mk A20
 clear A20
 have HC3 := Aside0.mk H
 clear H
 go_enter Try.func133, Try.ntmps133
 try go_wp2
 have n_ := as3_ (IsS130.drew HI0.out) (keep_drew HK.out) (below_drew1 HB.out)
 clear HI0 HK HB
 have ⟨HI0, HK, HB⟩ := n_
 clear n_
 refine start_ (n := 11) (S := fun w' => w'.cell? ⟨g, 0, none⟩ = some (.string s0_0) ∧ w'.cell? ⟨g, 1, none⟩ = some (.int .i64 s0_1) ∧ w'.cell? ⟨g, 2, none⟩ = some (.bool s0_2)) (ds := []) #[false, false, false, false, false, false, false, false, false, false, false] (by kernel_rfl) rfl rfl ⟨(blk_cell (Aside0.mk HI0.out.1).out 0).trans rfl, (blk_cell (Aside0.mk HI0.out.1).out 1).trans rfl, (blk_cell (Aside0.mk HI0.out.1).out 2).trans rfl⟩ (fun hHeld => ?_); refine with_tabW spec_l02Reader_num.tab1 spec_l02Reader_num.bits1 (fun HT_ HW_ => ?_)
 generalize w.drew = w4 at HI0 HK HB hHeld ⊢
 refine pu_ 0 4 #[true, false, false, false, false, false, false, false, false, false, false] HT_.out ?_
 refine pu_ 1 5 #[true, true, false, false, false, false, false, false, false, false, false] HT_.out ?_
 refine pu_ 2 6 #[true, true, true, false, false, false, false, false, false, false, false] HT_.out ?_
 refine pu_ 4 8 #[true, true, true, false, true, false, false, false, false, false, false] HT_.out ?_
 refine pu_ 5 9 #[true, true, true, false, true, true, false, false, false, false, false] HT_.out ?_
 refine pu_ 6 10 #[true, true, true, false, true, true, true, false, false, false, false] HT_.out ?_
 refine tk3_ 3 7 #[true, true, true, true, true, true, true, false, false, false, false] HT_.out HW_.out hHeld ?_
 refine tk3_ 7 11 #[true, true, true, true, true, true, true, true, false, false, false] HT_.out HW_.out hHeld ?_
 refine join_ (σ := Nat) 1 #[true, true, true, true, true, true, true, true, true, true, false] (fun s_ => [(12, .agg #[.int .i64 t469, .int .i64 t470, .int .i64 t471]), (3, .pointer (some ⟨s_, 0, none⟩))]) (fun s_ w' => (w'.cell? ⟨g, 0, none⟩ = some (.string s0_0) ∧ w'.cell? ⟨g, 1, none⟩ = some (.int .i64 s0_1) ∧ w'.cell? ⟨g, 2, none⟩ = some (.bool s0_2)) ∧ (w'.heap[s_]? = some (.cells #[.int .i64 0, .int .i64 0, .int .i64 0] 199 (0, 0))) ∧ (w.heap.size ≤ s_) ∧ (w0.heap.size ≤ s_) ∧ (g ≠ s_) ∧ (s_ ≠ g) ∧ (IsS130 w0 w' g s0_0 s0_1 s0_2) ∧ (KeepBut w w' g none) ∧ (Below w0.heap.size w0 w')) ?_ ?_
 rotate_left
 ·intro hCont
  refine two_ (i := 8) (j := 9) (Ni := some 12) (Nj := some 3) #[true, true, true, true, true, true, true, true, true, false, false] #[true, true, true, true, true, true, true, true, false, true, false] rfl rfl rfl rfl (two_of HT_.out (by kernel_rfl)) (by decide) (by decide) (fun K hK => ?_) (fun K hK => ?_)
  ·skip
   refine goes_ Try.func180 (by kernel_rfl) rfl #[.string s0_0, .int .i64 s0_1] (by rfl) rfl rfl (z0_) ?_
   with_reducible refine (spec_GetNum.calls k s0_0 s0_1 t469 t470 t471 _ A2.out).mono ?_
   rintro e w5 ⟨rfl, hb⟩
   refine ⟨_, rfl, ?_⟩
   have n_ := as3_ (IsS130.below (z23_ HI0.out) hb) (KeepBut.trans (z11_ HK.out) (KeepBut.of_below hb g none) (.inl rfl)) (below_step (z24_ HB.out HI0.out) hb)
   clear HI0 HK HB
   have ⟨HI0, HK, HB⟩ := n_
   clear n_
   (try clear hb)
   (try clear hb2)
   (try clear hk)
   (try clear hi)
   refine hK.out _ _ ⟨(blk_cell (Aside0.mk HI0.out.1).out 0).trans rfl, (blk_cell (Aside0.mk HI0.out.1).out 1).trans rfl, (blk_cell (Aside0.mk HI0.out.1).out 2).trans rfl⟩ (fun hHeld => ?_)
   clear hK K
   refine norm_ (a' := ?_) ?_ ?_
   rotate_left
   ·show Act.put _ (some 12) _ = _
    simp only [Act.put, sa_, s0_, ss_, i64_w, i32_w]
    rfl
   refine one_ (i := 9) (N := some 3) #[true, true, true, true, true, true, true, true, true, true, false] rfl rfl (one_of HT_.out (by kernel_rfl)) (by decide) (fun K hK => ?_)
   refine box_step ?hg (N := 3) ?hd (cs := #[.int .i64 0, .int .i64 0, .int .i64 0]) (t := 199) ?hr ?_; (case hd => rfl); (case hg => rfl); (case hr => first | (go_simp; done) | (go_simp; rfl))
   intro gb472 hg w6 hbox hb
   have n_ := as8_ (IsS130.below (z23_ HI0.out) hb) (KeepBut.trans (z11_ HK.out) (KeepBut.of_below hb g none) (.inl rfl)) (below_step (z24_ HB.out HI0.out) hb) (hbox) ((z19_ HK.out : w.heap.size ≤ gb472)) ((Nat.le_trans HW0.out (z19_ HK.out : w.heap.size ≤ gb472) : w0.heap.size ≤ gb472)) ((z53_ HI0.out : g ≠ gb472)) ((z54_ HI0.out : gb472 ≠ g))
   clear HI0 HK HB
   have ⟨HI0, HK, HB, BK472, GW472, GE472, NB0_472, NB472_0⟩ := n_
   clear n_
   clear hb hbox hg
   refine hK.out _ _ ⟨(blk_cell (Aside0.mk HI0.out.1).out 0).trans rfl, (blk_cell (Aside0.mk HI0.out.1).out 1).trans rfl, (blk_cell (Aside0.mk HI0.out.1).out 2).trans rfl⟩ (fun hHeld => ?_)
   clear hK K
   refine norm_ (a' := ?_) ?_ ?_
   rotate_left
   ·show Act.put _ (some 3) _ = _
    simp only [Act.put, sa_, s0_, ss_, i64_w, i32_w]
    rfl
   exact norm_ (z44_) (hCont (gb472) _ ⟨hHeld, (z9_ BK472.out), GW472.out, GE472.out, NB0_472.out, NB472_0.out, (z25_ HI0.out NB0_472.out), (z15_ HK.out GW472.out), (z20_ HB.out HI0.out GE472.out)⟩)
  ·skip
   refine box_step ?hg (N := 3) ?hd (cs := #[.int .i64 0, .int .i64 0, .int .i64 0]) (t := 199) ?hr ?_; (case hd => rfl); (case hg => rfl); (case hr => first | (go_simp; done) | (go_simp; rfl))
   intro gb472 hg w5 hbox hb
   have n_ := as8_ (IsS130.below (z23_ HI0.out) hb) (KeepBut.trans (z11_ HK.out) (KeepBut.of_below hb g none) (.inl rfl)) (below_step (z24_ HB.out HI0.out) hb) (hbox) ((z19_ HK.out : w.heap.size ≤ gb472)) ((Nat.le_trans HW0.out (z19_ HK.out : w.heap.size ≤ gb472) : w0.heap.size ≤ gb472)) ((z53_ HI0.out : g ≠ gb472)) ((z54_ HI0.out : gb472 ≠ g))
   clear HI0 HK HB
   have ⟨HI0, HK, HB, BK472, GW472, GE472, NB0_472, NB472_0⟩ := n_
   clear n_
   clear hb hbox hg
   refine hK.out _ _ ⟨(blk_cell (Aside0.mk HI0.out.1).out 0).trans rfl, (blk_cell (Aside0.mk HI0.out.1).out 1).trans rfl, (blk_cell (Aside0.mk HI0.out.1).out 2).trans rfl⟩ (fun hHeld => ?_)
   clear hK K
   refine norm_ (a' := ?_) ?_ ?_
   rotate_left
   ·show Act.put _ (some 3) _ = _
    simp only [Act.put, sa_, s0_, ss_, i64_w, i32_w]
    rfl
   refine one_ (i := 8) (N := some 12) #[true, true, true, true, true, true, true, true, true, true, false] rfl rfl (one_of HT_.out (by kernel_rfl)) (by decide) (fun K hK => ?_)
   refine goes_ Try.func180 (by kernel_rfl) rfl #[.string s0_0, .int .i64 s0_1] (by rfl) rfl rfl (z0_) ?_
   with_reducible refine (spec_GetNum.calls k s0_0 s0_1 t469 t470 t471 _ A2.out).mono ?_
   rintro e w6 ⟨rfl, hb⟩
   refine ⟨_, rfl, ?_⟩
   have n_ := as4_ (IsS130.below (z25_ HI0.out NB0_472.out) hb) (blkB_ BK472.out hb) (KeepBut.trans (z15_ HK.out GW472.out) (KeepBut.of_below hb g none) (.inl rfl)) (below_step (z20_ HB.out HI0.out GE472.out) hb)
   clear HI0 BK472 HK HB
   have ⟨HI0, BK472, HK, HB⟩ := n_
   clear n_
   (try clear hb)
   (try clear hb2)
   (try clear hk)
   (try clear hi)
   refine hK.out _ _ ⟨(blk_cell (Aside0.mk HI0.out.1).out 0).trans rfl, (blk_cell (Aside0.mk HI0.out.1).out 1).trans rfl, (blk_cell (Aside0.mk HI0.out.1).out 2).trans rfl⟩ (fun hHeld => ?_)
   clear hK K
   refine norm_ (a' := ?_) ?_ ?_
   rotate_left
   ·show Act.put _ (some 12) _ = _
    simp only [Act.put, sa_, s0_, ss_, i64_w, i32_w]
    rfl
   exact norm_ (z44_) (hCont (gb472) _ ⟨hHeld, (z9_ BK472.out), GW472.out, GE472.out, NB0_472.out, NB472_0.out, (z25_ HI0.out NB0_472.out), (z15_ HK.out GW472.out), (z20_ HB.out HI0.out GE472.out)⟩)
 rintro gb472 w7 ⟨hS_, h0_, h1_, h2_, h3_, h4_, h5_, h6_, h7_⟩
 have n0_ : Aside0 (w7.heap[gb472]? = some (.cells #[.int .i64 0, .int .i64 0, .int .i64 0] 199 (0, 0))) := ⟨h0_⟩
 have n1_ : Aside0 (w.heap.size ≤ gb472) := ⟨h1_⟩
 have n2_ : Aside0 (w0.heap.size ≤ gb472) := ⟨h2_⟩
 have n3_ : Aside0 (g ≠ gb472) := ⟨h3_⟩
 have n4_ : Aside0 (gb472 ≠ g) := ⟨h4_⟩
 have n5_ : Aside0 (IsS130 w0 w7 g s0_0 s0_1 s0_2) := ⟨h5_⟩
 have n6_ : Aside0 (KeepBut w w7 g none) := ⟨h6_⟩
 have n7_ : Aside0 (Below w0.heap.size w0 w7) := ⟨h7_⟩
 clear HI0
 clear HK
 clear HB
 clear h0_ h1_ h2_ h3_ h4_ h5_ h6_ h7_
 have BK472 := n0_
 have GW472 := n1_
 have GE472 := n2_
 have NB0_472 := n3_
 have NB472_0 := n4_
 have HI0 := n5_
 have HK := n6_
 have HB := n7_
 clear n0_ n1_ n2_ n3_ n4_ n5_ n6_ n7_
 have hHeld : w7.cell? ⟨g, 0, none⟩ = some (.string s0_0) ∧ w7.cell? ⟨g, 1, none⟩ = some (.int .i64 s0_1) ∧ w7.cell? ⟨g, 2, none⟩ = some (.bool s0_2) := hS_
 refine norm_ (a' := ?_) ?_ ?_
 rotate_left
 ·simp only [putAll, Act.put, List.setIfInBounds_toArray, List.set_cons_zero, List.set_cons_succ]
  rfl
 refine one_ (i := 10) (N := none) #[true, true, true, true, true, true, true, true, true, true, true] rfl rfl (one_of HT_.out (by kernel_rfl)) (by decide) (fun K hK => ?_)
 have hs8 : w7.cell? ⟨gb472, 0, none⟩ = some (.int .i64 0) := (blk_cell BK472.out 0).trans rfl
 have hfs8 := blk_frozen BK472.out 0
 have hs9 : w7.cell? ⟨gb472, 1, none⟩ = some (.int .i64 0) := (blk_cell BK472.out 1).trans rfl
 have hfs9 := blk_frozen BK472.out 1
 have hs10 : w7.cell? ⟨gb472, 2, none⟩ = some (.int .i64 0) := (blk_cell BK472.out 2).trans rfl
 have hfs10 := blk_frozen BK472.out 2
 refine skip_ (w1 := ?_) (by rfl) rfl ?_ ?_
 rotate_left
 ·go_simp
  rfl
 refine hK.out _ _ ⟨((cell_far (p := ⟨gb472, _, none⟩) NB0_472.out _).trans (((cell_far (p := ⟨gb472, _, none⟩) NB0_472.out _).trans (((cell_far (p := ⟨gb472, _, none⟩) NB0_472.out _).trans (hHeld.1)))))), ((cell_far (p := ⟨gb472, _, none⟩) NB0_472.out _).trans (((cell_far (p := ⟨gb472, _, none⟩) NB0_472.out _).trans (((cell_far (p := ⟨gb472, _, none⟩) NB0_472.out _).trans (hHeld.2.1)))))), ((cell_far (p := ⟨gb472, _, none⟩) NB0_472.out _).trans (((cell_far (p := ⟨gb472, _, none⟩) NB0_472.out _).trans (((cell_far (p := ⟨gb472, _, none⟩) NB0_472.out _).trans (hHeld.2.2))))))⟩ (fun hHeld => ?_)
 clear hK K
 refine done_ (done_of HT_.out (by kernel_rfl)) ?_
 go_upto_region 2 with (fail)
 go_cut [21] (fun v21 wc => ∃ (kq : Nat) (x21_2 : Bool), v21 = .bool x21_2 ∧ Aside0 (spec_l02Reader_num.j0 kq x21_2 s0_0 s0_1 s0_2 t469 t470 t471 = some (r1, r2, r3, r4)) ∧ Aside0 (kq ≤ k) ∧ Aside0 (wc.heap[gb472]? = some (.cells #[.int .i64 t469, .int .i64 t470, .int .i64 t471] 199 (0, 0))) ∧ Aside0 (IsS130 w0 wc g s0_0 s0_1 s0_2) ∧ Aside0 (KeepBut w wc g none) ∧ Aside0 (Below w0.heap.size w0 wc))
 case first =>
  have H := HC3.out
  clear HC3
  by_cases c11 : s0_2 = true
  ·subst c11
   have H1 : (spec_l02Reader_num.j0 k true s0_0 s0_1 true t469 t470 t471) = some (r1, r2, r3, r4) := by rw [if_pos rfl] at H; exact H
   clear H
   have H := H1
   clear H1
   have H' := Aside0.mk H
   clear H
   obtain ⟨HGz12, hgz12⟩ := HI0.out
   have hcz12_0 := cellS130_0 HGz12
   have hcz12_1 := cellS130_1 HGz12
   have hcz12_2 := cellS130_2 HGz12
   have hfz12_0 := blk_frozen HGz12 0
   have hfz12_1 := blk_frozen HGz12 1
   have hfz12_2 := blk_frozen HGz12 2
   clear HGz12 hgz12
   go_wp2
   go_meet
   case rel => exact ⟨_, (true), (z2_), H', ⟨by first | omega | exact Nat.le_refl _⟩, ⟨z14_ BK472.out⟩, ⟨z25_ HI0.out NB0_472.out⟩, ⟨z15_ HK.out GW472.out⟩, ⟨z20_ HB.out HI0.out GE472.out⟩⟩
  ·replace c11 := Bool.eq_false_iff.mpr c11
   subst c11
   have H1 : (spec_l02Reader_num.j0 k (t471 != 0) s0_0 s0_1 false t469 t470 t471) = some (r1, r2, r3, r4) := by rw [if_neg (show ¬ (false = true) by decide)] at H; exact H
   clear H
   have H := H1
   clear H1
   have H' := Aside0.mk H
   clear H
   obtain ⟨HGz13, hgz13⟩ := HI0.out
   have hcz13_0 := cellS130_0 HGz13
   have hcz13_1 := cellS130_1 HGz13
   have hcz13_2 := cellS130_2 HGz13
   have hfz13_0 := blk_frozen HGz13 0
   have hfz13_1 := blk_frozen HGz13 1
   have hfz13_2 := blk_frozen HGz13 2
   clear HGz13 hgz13
   have hnb14 := NB472_0.out
   have hnc14 := NB0_472.out
   have ⟨hcz15_0, hcz15_1, hcz15_2, hfz15_0, hfz15_1, hfz15_2⟩ := cz3_ BK472.out
   go_wp2
   go_meet
   case rel => exact ⟨_, ((t471 != 0)), (z2_), H', ⟨by first | omega | exact Nat.le_refl _⟩, ⟨z14_ BK472.out⟩, ⟨z25_ HI0.out NB0_472.out⟩, ⟨z15_ HK.out GW472.out⟩, ⟨z20_ HB.out HI0.out GE472.out⟩⟩
 case rest =>
  clear HC3
  try clear c1
  try clear p2
  try clear c11
  try clear c13
  try clear c14
  try clear hcz12_0
  try clear hcz12_1
  try clear hcz12_2
  try clear hcz13_0
  try clear hcz13_1
  try clear hcz13_2
  try clear hcz15_0
  try clear hcz15_1
  try clear hcz15_2
  try clear hfz12_0
  try clear hfz12_1
  try clear hfz12_2
  try clear hfz13_0
  try clear hfz13_1
  try clear hfz13_2
  try clear hfz15_0
  try clear hfz15_1
  try clear hfz15_2
  obtain ⟨kq, x21_2, rfl, HA, HJ2, BK472, HI0, HK, HB⟩ := hcut
  cases kq with
  | zero => exact absurd HA.out (by simp [spec_l02Reader_num.j0])
  | succ kj2 =>
   have H := HA.out
   clear HA
   simp only [spec_l02Reader_num.j0] at H
   by_cases c16 : x21_2 = true
   ·subst c16
    have H1 : (some (0, s0_0, s0_1, true)) = some (r1, r2, r3, r4) := by rw [if_pos rfl] at H; exact H
    clear H
    have H := H1
    clear H1
    simp only [Option.some.injEq, Prod.mk.injEq] at H
    obtain ⟨rfl, rfl, rfl, rfl⟩ := H
    obtain ⟨HGz17, hgz17⟩ := HI0.out
    have hcz17_0 := cellS130_0 HGz17
    have hcz17_1 := cellS130_1 HGz17
    have hcz17_2 := cellS130_2 HGz17
    have hfz17_0 := blk_frozen HGz17 0
    have hfz17_1 := blk_frozen HGz17 1
    have hfz17_2 := blk_frozen HGz17 2
    clear HGz17 hgz17
    go_wp2
    go_ret
    exact ⟨z8_, z25_ HI0.out NB0_472.out, z20_ HB.out HI0.out GE472.out, z15_ HK.out GW472.out⟩
   ·replace c16 := Bool.eq_false_iff.mpr c16
    subst c16
    have H1 : (some (t469, s0_0, t470, s0_2)) = some (r1, r2, r3, r4) := by rw [if_neg (show ¬ (false = true) by decide)] at H; exact H
    clear H
    have H := H1
    clear H1
    simp only [Option.some.injEq, Prod.mk.injEq] at H
    obtain ⟨rfl, rfl, rfl, rfl⟩ := H
    have hnb18 := NB472_0.out
    have hnc18 := NB0_472.out
    have ⟨hcz19_0, hcz19_1, hcz19_2, hfz19_0, hfz19_1, hfz19_2⟩ := cz3_ BK472.out
    obtain ⟨HGz20, hgz20⟩ := HI0.out
    have hcz20_0 := cellS130_0 HGz20
    have hcz20_1 := cellS130_1 HGz20
    have hcz20_2 := cellS130_2 HGz20
    have hfz20_0 := blk_frozen HGz20 0
    have hfz20_1 := blk_frozen HGz20 1
    have hfz20_2 := blk_frozen HGz20 2
    clear HGz20 hgz20
    go_wp2
    go_ret
    exact ⟨z8_, z25_ HI0.out NB0_472.out, z20_ HB.out HI0.out GE472.out, z15_ HK.out GW472.out⟩


/-! ### spec_l02Is: function 167 -/
def spec_l02Is.f (a0 : Int) (a1 : Int) (a2 : Int) : Option (Bool) := if a0 ≥ a1 then (some (decide (a0 ≤ a2))) else (some false)
set_option maxHeartbeats 8000000 in
set_option maxRecDepth 100000 in
theorem spec_l02Is.calls (a0 : Int) (a1 : Int) (a2 : Int) (r : Bool) (w : World) (h : spec_l02Is.f a0 a1 a2 = some r) :
  Calls Try.prog 167 #[.int .i64 a0, .int .i64 a1, .int .i64 a2] w fun e w' => e = .returned (.bool r) ∧ Drawn0 w w' := by
 have H : (if a0 ≥ a1 then (some (decide (a0 ≤ a2))) else (some false)) = some r := h
 clear h
 by_cases c4 : a0 ≥ a1
 ·rw [if_pos c4] at H
  have c4b0 : decide (a1 ≤ a0) = true := decide_eq_true c4
  clear c4
  obtain rfl := Option.some.inj H
  go_enter Try.func167, Try.ntmps167
  go_wp2
  go_ret
  exact ⟨z2_, z13_⟩
 ·rw [if_neg c4] at H
  have c4b0 : decide (a1 ≤ a0) = false := decide_eq_false c4
  clear c4
  obtain rfl := Option.some.inj H
  go_enter Try.func167, Try.ntmps167
  go_wp2
  go_ret
  exact ⟨z2_, z13_⟩


/-! ### spec_l02Reader_many: function 132 -/
def spec_l02Reader_many.f (k : Nat) (s0_0 : ByteArray) (s0_1 : Int) (s0_2 : Bool) (a1 : Int) : Option (Int × ByteArray × Int × Bool) := (spec_l02Reader_num.f k s0_0 s0_1 s0_2).bind fun bt473 => ((spec_l02Is.f bt473.1 0 a1).bind fun t477 => (if t477 = true then (some (bt473.1, bt473.2.1, bt473.2.2.1, bt473.2.2.2)) else (some (0, bt473.2.1, bt473.2.2.1, true))))
theorem spec_l02Reader_many.mono : ∀ a0 a1 a2 a3 k, LeO (spec_l02Reader_many.f k a0 a1 a2 a3) (spec_l02Reader_many.f (k + 1) a0 a1 a2 a3) := by
 intro a0 a1 a2 a3 k
 unfold spec_l02Reader_many.f
 repeat' first
   | (with_reducible exact spec_l02Reader_num.mono _ _ _ _)
   | (with_reducible exact LeO.refl _)
   | (with_reducible exact LeO.none _)
   | (with_reducible refine LeO.ite ?_ ?_)
   | (with_reducible refine LeO.bind ?_ (fun _ => ?_))
   | exact spec_l02Reader_num.mono _ _ _ _
   | exact LeO.none _
   | refine LeO.ite ?_ ?_
   | refine LeO.bind ?_ (fun _ => ?_)
set_option maxHeartbeats 8000000 in
set_option maxRecDepth 100000 in
theorem spec_l02Reader_many.calls (k : Nat) (g : Nat) (s0_0 : ByteArray) (s0_1 : Int) (s0_2 : Bool) (a1 : Int) (r1 : Int) (r2 : ByteArray) (r3 : Int) (r4 : Bool) (w0 w : World) (hI : IsS130 w0 w g s0_0 s0_1 s0_2) (hB : Below w0.heap.size w0 w) (h : spec_l02Reader_many.f k s0_0 s0_1 s0_2 a1 = some (r1, r2, r3, r4)) :
  Calls Try.prog 132 #[.pointer (some ⟨g, 0, none⟩), .int .i64 a1] w fun e w' => e = .returned (.int .i64 r1) ∧ IsS130 w0 w' g r2 r3 r4 ∧ Below w0.heap.size w0 w' ∧ KeepBut w w' g none := by
 have HI0 := Aside0.mk hI
 have HK := Aside0.mk (KeepBut.refl w g none)
 have HL := Aside0.mk hB.size
 clear hI
 have HW0 := Aside0.mk hB.size
 have HB := Aside0.mk hB
 clear hB
 have H : ((spec_l02Reader_num.f k s0_0 s0_1 s0_2).bind fun bt473 => ((spec_l02Is.f bt473.1 0 a1).bind fun t477 => (if t477 = true then (some (bt473.1, bt473.2.1, bt473.2.2.1, bt473.2.2.2)) else (some (0, bt473.2.1, bt473.2.2.1, true))))) = some (r1, r2, r3, r4) := h
 clear h
 replace H := Option.bind_eq_some_iff.mp H
 obtain ⟨⟨t473, t474, t475, t476⟩, A30, H⟩ := H
 replace H : ((spec_l02Is.f t473 0 a1).bind fun t477 => (if t477 = true then (some (t473, t474, t475, t476)) else (some (0, t474, t475, true)))) = some (r1, r2, r3, r4) := H
 have A3 := Aside0.mk A30
 clear A30
 replace H := Option.bind_eq_some_iff.mp H
 obtain ⟨t477, A40, H⟩ := H
 replace H : (if t477 = true then (some (t473, t474, t475, t476)) else (some (0, t474, t475, true))) = some (r1, r2, r3, r4) := H
 have A4 := Aside0.mk A40
 clear A40
 by_cases c5 : t477 = true
 ·subst c5
  have H1 : (some (t473, t474, t475, t476)) = some (r1, r2, r3, r4) := by rw [if_pos rfl] at H; exact H
  clear H
  have H := H1
  clear H1
  simp only [Option.some.injEq, Prod.mk.injEq] at H
  obtain ⟨rfl, rfl, rfl, rfl⟩ := H
  go_enter Try.func132, Try.ntmps132
  go_wp2_with (first | ((with_reducible refine gate_callee (f := 133) rfl ?_); refine goesL_ (some 7) rfl rfl Try.func133 (by kernel_rfl) rfl #[.pointer (some ⟨g, 0, none⟩)] rfl (z0_) ?_; (with_reducible refine (spec_l02Reader_num.calls k g s0_0 s0_1 s0_2 t473 t474 t475 t476 w0 _ ?side1 ?side2 A3.out).mono ?_); (case side1 => exact z23_ HI0.out); (case side2 => exact z24_ HB.out HI0.out); rintro e w6 ⟨rfl, hi, hb, hk⟩; refine ⟨_, rfl, ?_⟩; have n_ := as3_ (KeepBut.trans (z11_ HK.out) hk (.inl rfl)) (hb) (hi); clear HK HB HI0; have ⟨HK, HB, HI0⟩ := n_; clear n_; (try clear hb); (try clear hb2); (try clear hk); (try clear hi)) | ((with_reducible refine gate_callee (f := 167) rfl ?_); refine goesL_ (some 10) rfl rfl Try.func167 (by kernel_rfl) rfl #[.int .i64 t473, .int .i64 0, .int .i64 a1] rfl (z0_) ?_; (with_reducible refine (spec_l02Is.calls t473 0 a1 true _ A4.out).mono ?_); rintro e w' ⟨rfl, ⟨nd, rfl⟩⟩; refine ⟨_, rfl, ?_⟩))
  go_ret
  exact ⟨z8_, z23_ HI0.out, z24_ HB.out HI0.out, z11_ HK.out⟩
 ·replace c5 := Bool.eq_false_iff.mpr c5
  subst c5
  have H1 : (some (0, t474, t475, true)) = some (r1, r2, r3, r4) := by rw [if_neg (show ¬ (false = true) by decide)] at H; exact H
  clear H
  have H := H1
  clear H1
  simp only [Option.some.injEq, Prod.mk.injEq] at H
  obtain ⟨rfl, rfl, rfl, rfl⟩ := H
  go_enter Try.func132, Try.ntmps132
  go_wp2_with (first | ((with_reducible refine gate_callee (f := 133) rfl ?_); refine goesL_ (some 7) rfl rfl Try.func133 (by kernel_rfl) rfl #[.pointer (some ⟨g, 0, none⟩)] rfl (z0_) ?_; (with_reducible refine (spec_l02Reader_num.calls k g s0_0 s0_1 s0_2 t473 t474 t475 t476 w0 _ ?side1 ?side2 A3.out).mono ?_); (case side1 => exact z23_ HI0.out); (case side2 => exact z24_ HB.out HI0.out); rintro e w7 ⟨rfl, hi, hb, hk⟩; refine ⟨_, rfl, ?_⟩; have n_ := as3_ (KeepBut.trans (z11_ HK.out) hk (.inl rfl)) (hb) (hi); clear HK HB HI0; have ⟨HK, HB, HI0⟩ := n_; clear n_; (try clear hb); (try clear hb2); (try clear hk); (try clear hi)) | ((with_reducible refine gate_callee (f := 167) rfl ?_); refine goesL_ (some 10) rfl rfl Try.func167 (by kernel_rfl) rfl #[.int .i64 t473, .int .i64 0, .int .i64 a1] rfl (z0_) ?_; (with_reducible refine (spec_l02Is.calls t473 0 a1 false _ A4.out).mono ?_); rintro e w' ⟨rfl, ⟨nd, rfl⟩⟩; refine ⟨_, rfl, ?_⟩; (try (rw [drewN_self w7]; generalize hq_ : World.drewN w7 _ = w7; have n0_ : Aside0 (IsS130 w0 w7 g t474 t475 t476) := ⟨by rw [← hq_]; exact (by repeat (first | (with_reducible first | exact HI0.out | apply IsS130.alloc | apply IsS130.drewN | apply IsS130.drew | apply IsS130.set_0 | apply IsS130.set_1 | apply IsS130.set_2) | exact HI0.out))⟩; have n1_ : Aside0 (KeepBut w w7 g none) := ⟨by rw [← hq_]; exact (by repeat (first | (with_reducible first | exact HK.out | apply KeepBut.set_ | apply keep_drewN | apply keep_drew | apply keep_alloc) | exact HK.out))⟩; have n2_ : Aside0 (Below w0.heap.size w0 w7) := ⟨by rw [← hq_]; exact (by repeat (first | (with_reducible first | exact HB.out | apply below_alloc | apply pw_below_drewN | apply below_drew1 | refine below_set ?_ (IsS130.ge HI0.out)) | exact HB.out))⟩; clear HI0 HK HB hq_; have HI0 := n0_; have HK := n1_; have HB := n2_; clear n0_ n1_ n2_)); obtain ⟨HGz8, hgz8⟩ := HI0.out; have hcz8_0 := cellS130_0 HGz8; have hcz8_1 := cellS130_1 HGz8; have hcz8_2 := cellS130_2 HGz8; have hfz8_0 := blk_frozen HGz8 0; have hfz8_1 := blk_frozen HGz8 1; have hfz8_2 := blk_frozen HGz8 2; clear HGz8 hgz8))
  go_ret
  exact ⟨z8_, z23_ HI0.out, z24_ HB.out HI0.out, z11_ HK.out⟩


/-! ### spec_l02Reader_seen: function 103 -/
mutual
def spec_l02Reader_seen.l0 : Nat → List (S33) → Int → ByteArray → Int → Bool → Option ((List (S33)) × ByteArray × Int × Bool)
 | 0, _, _, _, _, _ => none
 | k + 1, x3, x4, x1000, x1001, x1002 => if x4 > 0 then (spec_l02Reader_seen.j1 k x3 x4 (!x1002) x1000 x1001 x1002) else (spec_l02Reader_seen.j1 k x3 x4 false x1000 x1001 x1002)
def spec_l02Reader_seen.j1 : Nat → List (S33) → Int → Bool → ByteArray → Int → Bool → Option ((List (S33)) × ByteArray × Int × Bool)
 | 0, _, _, _, _, _, _ => none
 | k + 1, x3, x4, x17, x1000, x1001, x1002 => if x17 = true then ((spec_l02Reader_num.f k x1000 x1001 x1002).bind fun bt485 => ((spec_l02Reader_num.f k bt485.2.1 bt485.2.2.1 bt485.2.2.2).bind fun bt490 => (if x3.length < 8796093022208 then (spec_l02Reader_seen.l0 k (x3 ++ [(⟨bt485.1, bt490.1⟩ : S33)]) (wrap64 (x4 - 1)) bt490.2.1 bt490.2.2.1 bt490.2.2.2) else (none)))) else (some (x3, x1000, x1001, x1002))
end
def spec_l02Reader_seen.f (k : Nat) (s0_0 : ByteArray) (s0_1 : Int) (s0_2 : Bool) : Option ((List (S33)) × ByteArray × Int × Bool) := (spec_l02Reader_many.f k s0_0 s0_1 s0_2 5).bind fun bt481 => (spec_l02Reader_seen.l0 k (([] : List (S33))) bt481.1 bt481.2.1 bt481.2.2.1 bt481.2.2.2)
theorem spec_l02Reader_seen.mono_l : ∀ k, (∀ y0 y1 y2 y3 y4, LeO (spec_l02Reader_seen.l0 k y0 y1 y2 y3 y4) (spec_l02Reader_seen.l0 (k + 1) y0 y1 y2 y3 y4)) ∧ (∀ y0 y1 y2 y3 y4 y5, LeO (spec_l02Reader_seen.j1 k y0 y1 y2 y3 y4 y5) (spec_l02Reader_seen.j1 (k + 1) y0 y1 y2 y3 y4 y5))
 | 0 => ⟨fun _ _ _ _ _ r h => by simp [spec_l02Reader_seen.l0] at h, fun _ _ _ _ _ _ r h => by simp [spec_l02Reader_seen.j1] at h⟩
 | k + 1 => by
  obtain ⟨ih0, ih1⟩ := spec_l02Reader_seen.mono_l k
  refine ⟨?_, ?_⟩
  ·intro y0 y1 y2 y3 y4
   unfold spec_l02Reader_seen.l0
   repeat' first
   | (with_reducible exact ih0 _ _ _ _ _)
   | (with_reducible exact ih1 _ _ _ _ _ _)
   | (with_reducible exact spec_l02Reader_many.mono _ _ _ _ _)
   | (with_reducible exact spec_l02Reader_num.mono _ _ _ _)
   | (with_reducible exact LeO.refl _)
   | (with_reducible exact LeO.none _)
   | (with_reducible refine LeO.ite ?_ ?_)
   | (with_reducible refine LeO.bind ?_ (fun _ => ?_))
   | exact ih0 _ _ _ _ _
   | exact ih1 _ _ _ _ _ _
   | exact spec_l02Reader_many.mono _ _ _ _ _
   | exact spec_l02Reader_num.mono _ _ _ _
   | exact LeO.none _
   | refine LeO.ite ?_ ?_
   | refine LeO.bind ?_ (fun _ => ?_)
  ·intro y0 y1 y2 y3 y4 y5
   unfold spec_l02Reader_seen.j1
   repeat' first
   | (with_reducible exact ih0 _ _ _ _ _)
   | (with_reducible exact ih1 _ _ _ _ _ _)
   | (with_reducible exact spec_l02Reader_many.mono _ _ _ _ _)
   | (with_reducible exact spec_l02Reader_num.mono _ _ _ _)
   | (with_reducible exact LeO.refl _)
   | (with_reducible exact LeO.none _)
   | (with_reducible refine LeO.ite ?_ ?_)
   | (with_reducible refine LeO.bind ?_ (fun _ => ?_))
   | exact ih0 _ _ _ _ _
   | exact ih1 _ _ _ _ _ _
   | exact spec_l02Reader_many.mono _ _ _ _ _
   | exact spec_l02Reader_num.mono _ _ _ _
   | exact LeO.none _
   | refine LeO.ite ?_ ?_
   | refine LeO.bind ?_ (fun _ => ?_)
theorem spec_l02Reader_seen.mono : ∀ a0 a1 a2 k, LeO (spec_l02Reader_seen.f k a0 a1 a2) (spec_l02Reader_seen.f (k + 1) a0 a1 a2) := by
 intro a0 a1 a2 k
 obtain ⟨ih0, ih1⟩ := spec_l02Reader_seen.mono_l k
 unfold spec_l02Reader_seen.f
 repeat' first
   | (with_reducible exact ih0 _ _ _ _ _)
   | (with_reducible exact ih1 _ _ _ _ _ _)
   | (with_reducible exact spec_l02Reader_many.mono _ _ _ _ _)
   | (with_reducible exact spec_l02Reader_num.mono _ _ _ _)
   | (with_reducible exact LeO.refl _)
   | (with_reducible exact LeO.none _)
   | (with_reducible refine LeO.ite ?_ ?_)
   | (with_reducible refine LeO.bind ?_ (fun _ => ?_))
   | exact ih0 _ _ _ _ _
   | exact ih1 _ _ _ _ _ _
   | exact spec_l02Reader_many.mono _ _ _ _ _
   | exact spec_l02Reader_num.mono _ _ _ _
   | exact LeO.none _
   | refine LeO.ite ?_ ?_
   | refine LeO.bind ?_ (fun _ => ?_)
set_option maxHeartbeats 8000000 in
set_option maxRecDepth 100000 in
theorem spec_l02Reader_seen.calls (k : Nat) (g : Nat) (s0_0 : ByteArray) (s0_1 : Int) (s0_2 : Bool) (r1 : List (S33)) (r2 : ByteArray) (r3 : Int) (r4 : Bool) (w0 w : World) (hI : IsS130 w0 w g s0_0 s0_1 s0_2) (hB : Below w0.heap.size w0 w) (h : spec_l02Reader_seen.f k s0_0 s0_1 s0_2 = some (r1, r2, r3, r4)) :
  Calls Try.prog 103 #[.pointer (some ⟨g, 0, none⟩)] w fun e w' => ∃ v0_ : Value, e = .returned (v0_) ∧ Kd.R k33 33 w' w.heap.size (fun _ => True) v0_ r1 ∧ IsS130 w0 w' g r2 r3 r4 ∧ Below w0.heap.size w0 w' ∧ KeepBut w w' g none := by
 have hu33 := Try.underlying33
 have HI0 := Aside0.mk hI
 have HK := Aside0.mk (KeepBut.refl w g none)
 have HL := Aside0.mk hB.size
 clear hI
 have HW0 := Aside0.mk hB.size
 have HB := Aside0.mk hB
 clear hB
 have H : ((spec_l02Reader_many.f k s0_0 s0_1 s0_2 5).bind fun bt481 => (spec_l02Reader_seen.l0 k (([] : List (S33))) bt481.1 bt481.2.1 bt481.2.2.1 bt481.2.2.2)) = some (r1, r2, r3, r4) := h
 clear h
 obtain ⟨y478, hy478⟩ : ∃ y_ : List (S33), y_ = (([] : List (S33))) := ⟨_, rfl⟩
 replace H : ((spec_l02Reader_many.f k s0_0 s0_1 s0_2 5).bind fun bt481 => (spec_l02Reader_seen.l0 k y478 bt481.1 bt481.2.1 bt481.2.2.1 bt481.2.2.2)) = some (r1, r2, r3, r4) := by first | (rw [hy478]; with_reducible exact H) | (have H2_ := (Option.bind_some _ _).symm.trans H; rw [hy478]; with_reducible exact H2_) | (have H2_ := (Option.bind_some _ _).symm.trans H; with_reducible exact H2_) | with_reducible exact H | (rw [hy478]; exact H) | exact H
 have Ny478 := Aside0.mk hy478
 clear hy478
 replace H := Option.bind_eq_some_iff.mp H
 obtain ⟨⟨t481, t482, t483, t484⟩, A20, H⟩ := H
 replace H : (spec_l02Reader_seen.l0 k y478 t481 t482 t483 t484) = some (r1, r2, r3, r4) := H
 have A2 := Aside0.mk A20
 clear A20
 have H' := Aside0.mk H
 clear H
 go_enter Try.func103, Try.ntmps103
 go_wp2_with (first | ((with_reducible refine gate_dst (N := 6) rfl ?_); refine Kd.R_lit k33 _ 33 ?hg (N := 6) ?hd (xs := ([] : List (S33))) (inner := []) (ok := fun _ => True) (okp := fun _ => True) ?hr ?hp (fun _ hk => hk) trivial (Below.refl _ _) (Nat.le_refl _) (by simp) ?_; (case hd => rfl); (case hg => rfl); (case hr => first | (go_simp; done) | (go_simp; rfl)); (case hp => exact (Reps.none _ _)); intro v479 w3 ho4 hb hg_ hnew_; clear hg_ hnew_; (first | rw [← Ny478.out] at ho4 | (simp only [Int.reduceToNat] at ho4; rw [← Ny478.out] at ho4)); have n_ := as4_ (Kd.R_lower ho4 (keep_size (w := w) (g := g) (row := none) (z11_ HK.out))) (IsS130.below (z23_ HI0.out) hb) (KeepBut.trans (z11_ HK.out) (KeepBut.of_below hb g none) (.inl rfl)) (below_step (z24_ HB.out HI0.out) hb); clear HI0 HK HB; have ⟨HO480, HI0, HK, HB⟩ := n_; clear n_; clear hb ho4) | ((with_reducible refine gate_callee (f := 132) rfl ?_); refine goesL_ (some 8) rfl rfl Try.func132 (by kernel_rfl) rfl #[.pointer (some ⟨g, 0, none⟩), .int .i64 5] rfl (z0_) ?_; (with_reducible refine (spec_l02Reader_many.calls k g s0_0 s0_1 s0_2 5 t481 t482 t483 t484 w0 _ ?side1 ?side2 A2.out).mono ?_); (case side1 => exact z23_ HI0.out); (case side2 => exact z24_ HB.out HI0.out); rintro e w5 ⟨rfl, hi, hb, hk⟩; refine ⟨_, rfl, ?_⟩; have n_ := as4_ (Kd.R_mono (Kd.R_keep (IsS130.apart (show IsS130 w0 _ g s0_0 s0_1 s0_2 from by repeat (first | (with_reducible first | exact HI0.out | apply IsS130.alloc | apply IsS130.drewN | apply IsS130.drew | apply IsS130.set_0 | apply IsS130.set_1 | apply IsS130.set_2) | exact HI0.out)) (z4_ HO480.out) (by decide)) hk (fun _ h => h.2)) (fun _ h => h.1)) (KeepBut.trans (z11_ HK.out) hk (.inl rfl)) (hb) (hi); clear HO480 HK HB HI0; have ⟨HO480, HK, HB, HI0⟩ := n_; clear n_; (try clear hb); (try clear hb2); (try clear hk); (try clear hi)))
 go_loopg [3, 4] k (fun kq v3 v4 w' => ∃ (x3_1 : List (S33)) (x4_1 : Int) (x1000_1 : ByteArray) (x1001_1 : Int) (x1002_1 : Bool), v4 = .int .i64 x4_1 ∧ Aside0 (spec_l02Reader_seen.l0 kq x3_1 x4_1 x1000_1 x1001_1 x1002_1 = some (r1, r2, r3, r4)) ∧ Aside0 (kq ≤ k) ∧ Aside0 (Kd.R k33 33 w' w.heap.size (fun _ => True) v3 x3_1) ∧ Aside0 (IsS130 w0 w' g x1000_1 x1001_1 x1002_1) ∧ Aside0 (KeepBut w w' g none) ∧ Aside0 (Below w0.heap.size w0 w'))
 case atStart => exact ⟨(y478), (t481), (t482), (t483), (t484), (z2_), H', ⟨Nat.le_refl _⟩, ⟨z4_ HO480.out⟩, ⟨z23_ HI0.out⟩, ⟨z11_ HK.out⟩, ⟨z24_ HB.out HI0.out⟩⟩
 case round =>
  clear H'
  try clear c1
  try clear p2
  obtain ⟨x3_1, x4_1, x1000_1, x1001_1, x1002_1, rfl, HA, HK1, HO_3, HI0, HK, HB⟩ := hrel
  cases gk with
  | zero => exact absurd HA.out (by simp [spec_l02Reader_seen.l0])
  | succ k1 =>
   have H := HA.out
   clear HA
   simp only [spec_l02Reader_seen.l0] at H
   have HC6 := Aside0.mk H
   clear H
   go_upto_region 3 with (fail)
   go_cut [17] (fun v17 wc => ∃ (kq : Nat) (x17_5 : Bool), v17 = .bool x17_5 ∧ Aside0 (spec_l02Reader_seen.j1 kq x3_1 x4_1 x17_5 x1000_1 x1001_1 x1002_1 = some (r1, r2, r3, r4)) ∧ Aside0 (kq ≤ k1) ∧ Aside0 (Kd.R k33 33 wc w.heap.size (fun _ => True) u3 x3_1) ∧ Aside0 (IsS130 w0 wc g x1000_1 x1001_1 x1002_1) ∧ Aside0 (KeepBut w wc g none) ∧ Aside0 (Below w0.heap.size w0 wc))
   case first =>
    have H := HC6.out
    clear HC6
    by_cases c7 : x4_1 > 0
    ·rw [if_pos c7] at H
     have c7b0 : decide (0 < x4_1) = true := decide_eq_true c7
     clear c7
     (first | rw [c7b0] | (simp only [i64_w, i32_w]; rw [c7b0]) | skip)
     have H' := Aside0.mk H
     clear H
     obtain ⟨HGz8, hgz8⟩ := HI0.out
     have hcz8_0 := cellS130_0 HGz8
     have hcz8_1 := cellS130_1 HGz8
     have hcz8_2 := cellS130_2 HGz8
     have hfz8_0 := blk_frozen HGz8 0
     have hfz8_1 := blk_frozen HGz8 1
     have hfz8_2 := blk_frozen HGz8 2
     clear HGz8 hgz8
     go_wp2
     go_meet
     case rel => exact ⟨_, (!x1002_1), (z2_), H', ⟨z26_ HK1.out⟩, ⟨z4_ HO_3.out⟩, ⟨z23_ HI0.out⟩, ⟨z11_ HK.out⟩, ⟨z24_ HB.out HI0.out⟩⟩
    ·rw [if_neg c7] at H
     have c7b0 : decide (0 < x4_1) = false := decide_eq_false c7
     clear c7
     (first | rw [c7b0] | (simp only [i64_w, i32_w]; rw [c7b0]) | skip)
     have H' := Aside0.mk H
     clear H
     go_wp2
     go_meet
     case rel => exact ⟨_, (false), (z2_), H', ⟨z26_ HK1.out⟩, ⟨z4_ HO_3.out⟩, ⟨z23_ HI0.out⟩, ⟨z11_ HK.out⟩, ⟨z24_ HB.out HI0.out⟩⟩
   case rest =>
    clear HC6
    try clear c1
    try clear p2
    try clear c7
    try clear c7b0
    try clear hcz8_0
    try clear hcz8_1
    try clear hcz8_2
    try clear hfz8_0
    try clear hfz8_1
    try clear hfz8_2
    try clear p2
    obtain ⟨kq, x17_5, rfl, HA, HJ5, HO_3, HI0, HK, HB⟩ := hcut
    cases kq with
    | zero => exact absurd HA.out (by simp [spec_l02Reader_seen.j1])
    | succ kj5 =>
     have H := HA.out
     clear HA
     simp only [spec_l02Reader_seen.j1] at H
     by_cases c9 : x17_5 = true
     ·subst c9
      have H1 : ((spec_l02Reader_num.f kj5 x1000_1 x1001_1 x1002_1).bind fun bt485 => ((spec_l02Reader_num.f kj5 bt485.2.1 bt485.2.2.1 bt485.2.2.2).bind fun bt490 => (if x3_1.length < 8796093022208 then (spec_l02Reader_seen.l0 kj5 (x3_1 ++ [(⟨bt485.1, bt490.1⟩ : S33)]) (wrap64 (x4_1 - 1)) bt490.2.1 bt490.2.2.1 bt490.2.2.2) else (none)))) = some (r1, r2, r3, r4) := by rw [if_pos rfl] at H; exact H
      clear H
      have H := H1
      clear H1
      replace H := Option.bind_eq_some_iff.mp H
      obtain ⟨⟨t485, t486, t487, t488⟩, A100, H⟩ := H
      replace H : ((spec_l02Reader_num.f kj5 t486 t487 t488).bind fun bt490 => (if x3_1.length < 8796093022208 then (spec_l02Reader_seen.l0 kj5 (x3_1 ++ [(⟨t485, bt490.1⟩ : S33)]) (wrap64 (x4_1 - 1)) bt490.2.1 bt490.2.2.1 bt490.2.2.2) else (none))) = some (r1, r2, r3, r4) := H
      have A10 := Aside0.mk A100
      clear A100
      replace H := Option.bind_eq_some_iff.mp H
      obtain ⟨⟨t490, t491, t492, t493⟩, A110, H⟩ := H
      replace H : (if x3_1.length < 8796093022208 then (spec_l02Reader_seen.l0 kj5 (x3_1 ++ [(⟨t485, t490⟩ : S33)]) (wrap64 (x4_1 - 1)) t491 t492 t493) else (none)) = some (r1, r2, r3, r4) := H
      have A11 := Aside0.mk A110
      clear A110
      by_cases c12 : x3_1.length < 8796093022208
      ·rw [if_pos c12] at H
       have LMc12 := Aside0.mk c12
       clear c12
       obtain ⟨y494, hy494⟩ : ∃ y_ : List (S33), y_ = (x3_1 ++ [(⟨t485, t490⟩ : S33)]) := ⟨_, rfl⟩
       replace H : (spec_l02Reader_seen.l0 kj5 y494 (wrap64 (x4_1 - 1)) t491 t492 t493) = some (r1, r2, r3, r4) := by first | (rw [hy494]; with_reducible exact H) | (have H2_ := (Option.bind_some _ _).symm.trans H; rw [hy494]; with_reducible exact H2_) | (have H2_ := (Option.bind_some _ _).symm.trans H; with_reducible exact H2_) | with_reducible exact H | (rw [hy494]; exact H) | exact H
       have Ny494 := Aside0.mk hy494
       clear hy494
       have H' := Aside0.mk H
       clear H
       go_wp2_with (first | ((with_reducible refine gate_callee (f := 133) rfl ?_); refine goesL_ (some 21) rfl rfl Try.func133 (by kernel_rfl) rfl #[.pointer (some ⟨g, 0, none⟩)] rfl (z0_) ?_; (with_reducible refine (spec_l02Reader_num.calls kj5 g x1000_1 x1001_1 x1002_1 t485 t486 t487 t488 w0 _ ?side1 ?side2 A10.out).mono ?_); (case side1 => exact z23_ HI0.out); (case side2 => exact z24_ HB.out HI0.out); rintro e w13 ⟨rfl, hi, hb, hk⟩; refine ⟨_, rfl, ?_⟩; have n_ := as4_ (Kd.R_mono (Kd.R_keep (IsS130.apart (show IsS130 w0 _ g x1000_1 x1001_1 x1002_1 from by repeat (first | (with_reducible first | exact HI0.out | apply IsS130.alloc | apply IsS130.drewN | apply IsS130.drew | apply IsS130.set_0 | apply IsS130.set_1 | apply IsS130.set_2) | exact HI0.out)) (z4_ HO_3.out) (by decide)) hk (fun _ h => h.2)) (fun _ h => h.1)) (KeepBut.trans (z11_ HK.out) hk (.inl rfl)) (hb) (hi); clear HO_3 HK HB HI0; have ⟨HO_3, HK, HB, HI0⟩ := n_; clear n_; (try clear hb); (try clear hb2); (try clear hk); (try clear hi)) | ((with_reducible refine gate_dst (N := 5) rfl ?_); refine box_event ?hg (N := 5) ?hd (cs := #[.int .i64 0, .int .i64 0]) (t := 33) ?hr ?_; (case hd => rfl); (case hg => rfl); (case hr => first | (go_simp; done) | (go_simp; rfl)); intro gb489 hg w14 hbox hb; have n_ := as9_ (Kd.R_below (Kd.R_elderB (z4_ HO_3.out) gb489 (Nat.le_of_eq hg.symm)) hb) (IsS130.below (z23_ HI0.out) hb) (KeepBut.trans (z11_ HK.out) (KeepBut.of_below hb g none) (.inl rfl)) (below_step (z24_ HB.out HI0.out) hb) (hbox) ((z19_ HK.out : w.heap.size ≤ gb489)) ((Nat.le_trans HW0.out (z19_ HK.out : w.heap.size ≤ gb489) : w0.heap.size ≤ gb489)) ((by rw [hg]; exact Nat.ne_of_lt (IsS130.lt (show IsS130 w0 _ g t486 t487 t488 from by repeat (first | (with_reducible first | exact HI0.out | apply IsS130.alloc | apply IsS130.drewN | apply IsS130.drew | apply IsS130.set_0 | apply IsS130.set_1 | apply IsS130.set_2) | exact HI0.out))) : g ≠ gb489)) ((by rw [hg]; exact Nat.ne_of_gt (IsS130.lt (show IsS130 w0 _ g t486 t487 t488 from by repeat (first | (with_reducible first | exact HI0.out | apply IsS130.alloc | apply IsS130.drewN | apply IsS130.drew | apply IsS130.set_0 | apply IsS130.set_1 | apply IsS130.set_2) | exact HI0.out))) : gb489 ≠ g)); clear HO_3 HI0 HK HB; have ⟨HO_3, HI0, HK, HB, BK489, GW489, GE489, NB0_489, NB489_0⟩ := n_; clear n_; clear hb hbox hg; have hnb15 := NB489_0.out; have hnc15 := NB0_489.out; have hcz16_0 : w14.cell? ⟨gb489, 0, none⟩ = some (.int .i64 0) := (blk_cell BK489.out 0).trans rfl; have hcz16_1 : w14.cell? ⟨gb489, 1, none⟩ = some (.int .i64 0) := (blk_cell BK489.out 1).trans rfl; have hfz16_0 := blk_frozen BK489.out 0; have hfz16_1 := blk_frozen BK489.out 1) | ((with_reducible refine gate_callee (f := 133) rfl ?_); refine goesL_ (some 24) rfl rfl Try.func133 (by kernel_rfl) rfl #[.pointer (some ⟨g, 0, none⟩)] rfl (z0_) ?_; (with_reducible refine (spec_l02Reader_num.calls kj5 g t486 t487 t488 t490 t491 t492 t493 w0 _ ?side1 ?side2 A11.out).mono ?_); (case side1 => exact z25_ HI0.out NB0_489.out); (case side2 => exact z20_ HB.out HI0.out GE489.out); rintro e w17 ⟨rfl, hi, hb, hk⟩; refine ⟨_, rfl, ?_⟩; have n_ := as5_ (Kd.R_mono (Kd.R_keep (IsS130.apart (show IsS130 w0 _ g t486 t487 t488 from by repeat (first | (with_reducible first | exact HI0.out | apply IsS130.alloc | apply IsS130.drewN | apply IsS130.drew | apply IsS130.set_0 | apply IsS130.set_1 | apply IsS130.set_2 | refine IsS130.far ?_ (by exact NB0_489.out) _) | exact HI0.out)) (by (with_reducible repeat (first | apply Kd.R_alloc | apply Kd.R_drewN | apply Kd.R_drew)); exact (Kd.R_mono (rf2_ (Kd.R_mono HO_3.out (fun k_ hk => (⟨hk, hk.2⟩ : _ ∧ k_ ≠ gb489))) (fun _ hk => hk.2)) (fun _ h_ => h_.1))) (by decide)) hk (fun _ h => h.2)) (fun _ h => h.1)) (KeepBut.blk hk (g' := gb489) (o := .cells #[.int .i64 t485, .int .i64 0] 33 (0, 0)) (z42_ BK489.out) NB489_0.out (by simp)) (KeepBut.trans (z15_ HK.out GW489.out) hk (.inl rfl)) (hb) (hi); clear HO_3 BK489 HK HB HI0; have ⟨HO_3, BK489, HK, HB, HI0⟩ := n_; clear n_; (try clear hb); (try clear hb2); (try clear hk); (try clear hi); have hcz18_0 : w17.cell? ⟨gb489, 0, none⟩ = some (.int .i64 t485) := (blk_cell BK489.out 0).trans rfl; have hcz18_1 : w17.cell? ⟨gb489, 1, none⟩ = some (.int .i64 0) := (blk_cell BK489.out 1).trans rfl; have hfz18_0 := blk_frozen BK489.out 0; have hfz18_1 := blk_frozen BK489.out 1) | ((with_reducible refine gate_builtin (b := .append) (xs := #[.tmp 26, .tmp 28]) rfl ?_); at_builtin; refine Kd.R_append k33 w.heap.size rfl (.tmp 26) (.tmp 28) 28 33 (.agg #[(.int .i64 0), (.int .i64 0)]) 16 rfl Try.underlying28 info33 rfl (by decide) (by omega) u3 x3_1 (⟨t485, t490⟩ : S33) [.int .i64 t485, .int .i64 t490] (fun k_ => k_ ≠ gb489) (fun _ => False) rfl (by first | (go_simp; done) | (go_simp; rfl)) ?aP (fun _ hk => hk.elim) ?aF ?aO (Below.refl _ _) ?aS ?aL ?_; (case aP => exact k33_mkM _ _ _ (⟨t485, t490⟩ : S33)); (case aF => exact (fun k_ hk => Kd.freshB (g := gb489) (o := .cells #[.int .i64 t485, .int .i64 t490] 33 (0, 0)) (by (with_reducible repeat (first | refine blk_drewN ?_ _ | refine blk_drew ?_ | refine blk_alloc ?_ _)); refine blk_put (cs := #[.int .i64 t485, .int .i64 0]) ?_ 1 _ rfl; (with_reducible repeat (first | refine blk_drewN ?_ _ | refine blk_drew ?_ | refine blk_alloc ?_ _)); exact BK489.out) k_ hk)); (case aO => exact (by (with_reducible repeat (first | apply Kd.R_alloc | apply Kd.R_drewN | apply Kd.R_drew)); exact Kd.R_mono (Kd.R_far (p := ⟨gb489, 1, none⟩) (Kd.R_mono HO_3.out (fun k_ hk => (⟨hk, hk.2⟩ : _ ∧ k_ ≠ gb489))) (fun _ hk => hk.2) (.int .i64 t490)) (fun _ hk => hk.1.2))); (case aS => exact (keep_size (w := w) (g := g) (row := none) (z15_ HK.out GW489.out))); (case aL => have := LMc12.out; omega); intro v495 w19 ho hb hg hat; rw [← Ny494.out] at ho; have n_ := as5_ (IsS130.grown (show IsS130 w0 _ g t491 t492 t493 from by repeat (first | (with_reducible first | exact HI0.out | apply IsS130.alloc | apply IsS130.drewN | apply IsS130.drew | apply IsS130.set_0 | apply IsS130.set_1 | apply IsS130.set_2 | refine IsS130.far ?_ (by exact NB0_489.out) _) | exact HI0.out)) hg (IsS130.own_ne HI0.out HO_3.out (by decide))) (blk_grown (g := gb489) (o := .cells #[.int .i64 t485, .int .i64 t490] 33 (0, 0)) (by (with_reducible repeat (first | refine blk_drewN ?_ _ | refine blk_drew ?_ | refine blk_alloc ?_ _)); refine blk_put (cs := #[.int .i64 t485, .int .i64 0]) ?_ 1 _ rfl; (with_reducible repeat (first | refine blk_drewN ?_ _ | refine blk_drew ?_ | refine blk_alloc ?_ _)); exact BK489.out) hg (Kd.R_away HO_3.out (fun _ hk => hk.2))) (below_weaken (z20_ HB.out HI0.out GE489.out) HL.out hb) (KeepBut.trans (z15_ HK.out GW489.out) (KeepBut.of_grown hg g) (Kd.R_base2 HO_3.out)) (ho); clear HI0 BK489 HB HK HO_3; have ⟨HI0, BK489, HB, HK, HO496⟩ := n_; clear n_; clear ho hb hg hat))
       go_roundg kj5
       case measure => have := HK1.out; have := HJ5.out; omega
       case rel => exact ⟨(y494), (wrap64 (x4_1 - 1)), (t491), (t492), (t493), (z2_), H', ⟨by have := HK1.out; have := HJ5.out; omega⟩, ⟨by (with_reducible repeat (first | apply Kd.R_alloc | apply Kd.R_drewN | apply Kd.R_drew)); exact Kd.R_mono HO496.out (fun _ hk => trivial)⟩, ⟨z25_ HI0.out NB0_489.out⟩, ⟨z15_ HK.out GW489.out⟩, ⟨z20_ HB.out HI0.out GE489.out⟩⟩
      ·rw [if_neg c12] at H
       exact absurd H (by simp)
     ·replace c9 := Bool.eq_false_iff.mpr c9
      subst c9
      have H1 : (some (x3_1, x1000_1, x1001_1, x1002_1)) = some (r1, r2, r3, r4) := by rw [if_neg (show ¬ (false = true) by decide)] at H; exact H
      clear H
      have H := H1
      clear H1
      simp only [Option.some.injEq, Prod.mk.injEq] at H
      obtain ⟨rfl, rfl, rfl, rfl⟩ := H
      go_wp2
      go_ret
      exact ⟨_, z8_, z4_ HO_3.out, z23_ HI0.out, z24_ HB.out HI0.out, z11_ HK.out⟩


/-! ### spec_l03Ill: function 131 -/
def spec_l03Ill.f (a0 : Int) : Option ((List (S33)) × (List (S158)) × Int × Int × Int) := some (([] : List (S33)), ([] : List (S158)), 0, 0, a0)
set_option maxHeartbeats 8000000 in
set_option maxRecDepth 100000 in
theorem spec_l03Ill.calls (a0 : Int) (r1 : List (S33)) (r2 : List (S158)) (r3 : Int) (r4 : Int) (r5 : Int) (w : World) (h : spec_l03Ill.f a0 = some (r1, r2, r3, r4, r5)) :
  Calls Try.prog 131 #[.int .i64 a0] w fun e w' => ∃ v0_ v1_ : Value, e = .returned (.agg #[v0_, v1_, .int .i64 r3, .int .i64 r4, .int .i64 r5]) ∧ Kd.R k33 33 w' w.heap.size (fun _ => True) v0_ r1 ∧ Kd.R k158 158 w' w.heap.size (fun _ => True) v1_ r2 ∧ Below w.heap.size w w' := by
 have hu87 := Try.underlying87
 have HB := Aside0.mk (Below.refl w.heap.size w)
 have H : (some (([] : List (S33)), ([] : List (S158)), 0, 0, a0)) = some (r1, r2, r3, r4, r5) := h
 clear h
 simp only [Option.some.injEq, Prod.mk.injEq] at H
 obtain ⟨rfl, rfl, rfl, rfl, rfl⟩ := H
 go_enter Try.func131, Try.ntmps131
 go_wp2_with (first | ((with_reducible refine gate_dst (N := 2) rfl ?_); refine box_event ?hg (N := 2) ?hd (cs := #[.slice none 0 0, .slice none 0 0, .int .i64 0, .int .i64 0, .int .i64 0]) (t := 87) ?hr ?_; (case hd => rfl); (case hg => rfl); (case hr => first | (go_simp; done) | (go_simp; rfl)); intro gb992 hg w2 hbox hb; have n_ := as4_ (below_step (z5_ HB.out) hb) (hbox) ((z7_ HB.out : w.heap.size ≤ gb992)) ((z7_ HB.out : w.heap.size ≤ gb992)); clear HB; have ⟨HB, BK992, GW992, GE992⟩ := n_; clear n_; clear hb hbox hg; have hcz3_0 : w2.cell? ⟨gb992, 0, none⟩ = some (.slice none 0 0) := (blk_cell BK992.out 0).trans rfl; have hcz3_1 : w2.cell? ⟨gb992, 1, none⟩ = some (.slice none 0 0) := (blk_cell BK992.out 1).trans rfl; have hcz3_2 : w2.cell? ⟨gb992, 2, none⟩ = some (.int .i64 0) := (blk_cell BK992.out 2).trans rfl; have hcz3_3 : w2.cell? ⟨gb992, 3, none⟩ = some (.int .i64 0) := (blk_cell BK992.out 3).trans rfl; have hcz3_4 : w2.cell? ⟨gb992, 4, none⟩ = some (.int .i64 0) := (blk_cell BK992.out 4).trans rfl; have hfz3_0 := blk_frozen BK992.out 0; have hfz3_1 := blk_frozen BK992.out 1; have hfz3_2 := blk_frozen BK992.out 2; have hfz3_3 := blk_frozen BK992.out 3; have hfz3_4 := blk_frozen BK992.out 4))
 refine bodyPost_ret (results_cell_row rfl _ _ gb992 87 #[.slice none 0 0, .slice none 0 0, .int .i64 0, .int .i64 0, .int .i64 a0] (0, 0) _ rfl (z39_ BK992.out) Try.underlying87 rfl (by kernel_rfl)) rfl ?_
 exact ⟨_, _, z8_, z43_, z43_, z1_ HB.out GE992.out⟩


/-! ### spec_GetText: function 181 -/
def spec_GetText.j0 : Nat → ByteArray → Bool → Int → Int → Int → Option (ByteArray × Int × Int)
 | 0, _, _, _, _, _ => none
 | k + 1, x0, x22, x998000, x998001, x998002 => if x22 = true then (some ((⟨#[]⟩ : ByteArray), 0, 3)) else (if x998001 > (wrap64 ((x0.size : Int) - x998000)) then (some ((⟨#[]⟩ : ByteArray), 0, 4)) else (if 0 ≤ x998001 then (if x998001 ≤ (wrap64 (x998001 + x998000)) then (if (wrap64 (x998001 + x998000)) ≤ (x0.size : Int) then (some (x0.extract (x998001 : Int).toNat ((wrap64 (x998001 + x998000)) : Int).toNat, wrap64 (x998001 + x998000), 0)) else (none)) else (none)) else (none)))
def spec_GetText.f (k : Nat) (a0 : ByteArray) (a1 : Int) : Option (ByteArray × Int × Int) := (spec_GetNum.f k a0 a1).bind fun bt994 => (if bt994.2.2 = 0 then (if bt994.1 < 0 then (spec_GetText.j0 k a0 true bt994.1 bt994.2.1 bt994.2.2) else (spec_GetText.j0 k a0 (decide (bt994.1 > 8000)) bt994.1 bt994.2.1 bt994.2.2)) else (some ((⟨#[]⟩ : ByteArray), 0, bt994.2.2)))
theorem spec_GetText.mono_l : ∀ k, (∀ y0 y1 y2 y3 y4, LeO (spec_GetText.j0 k y0 y1 y2 y3 y4) (spec_GetText.j0 (k + 1) y0 y1 y2 y3 y4))
 | 0 => fun _ _ _ _ _ r h => by simp [spec_GetText.j0] at h
 | k + 1 => by
  have ih0 := spec_GetText.mono_l k
  ·intro y0 y1 y2 y3 y4
   unfold spec_GetText.j0
   repeat' first
   | (with_reducible exact ih0 _ _ _ _ _)
   | (with_reducible exact spec_GetNum.mono _ _ _)
   | (with_reducible exact LeO.refl _)
   | (with_reducible exact LeO.none _)
   | (with_reducible refine LeO.ite ?_ ?_)
   | (with_reducible refine LeO.bind ?_ (fun _ => ?_))
   | exact ih0 _ _ _ _ _
   | exact spec_GetNum.mono _ _ _
   | exact LeO.none _
   | refine LeO.ite ?_ ?_
   | refine LeO.bind ?_ (fun _ => ?_)
theorem spec_GetText.mono : ∀ a0 a1 k, LeO (spec_GetText.f k a0 a1) (spec_GetText.f (k + 1) a0 a1) := by
 intro a0 a1 k
 have ih0 := spec_GetText.mono_l k
 unfold spec_GetText.f
 repeat' first
   | (with_reducible exact ih0 _ _ _ _ _)
   | (with_reducible exact spec_GetNum.mono _ _ _)
   | (with_reducible exact LeO.refl _)
   | (with_reducible exact LeO.none _)
   | (with_reducible refine LeO.ite ?_ ?_)
   | (with_reducible refine LeO.bind ?_ (fun _ => ?_))
   | exact ih0 _ _ _ _ _
   | exact spec_GetNum.mono _ _ _
   | exact LeO.none _
   | refine LeO.ite ?_ ?_
   | refine LeO.bind ?_ (fun _ => ?_)
def spec_GetText.T8 : Bool × List (List Nat × List Nat) := (true, [([], []), ([], []), ([1], [1]), ([], []), ([3], [3]), ([], []), ([5], [5]), ([4, 6], [4, 6]), ([0, 2, 7], [0, 2, 7]), ([], []), ([9], [9]), ([], []), ([11], [11]), ([10, 12], [10, 12]), ([8, 13], [8, 13]), ([14, 0, 1, 2, 3, 4, 5, 6, 7, 8, 9, 10, 11, 12, 13, 14], [14])])
def spec_GetText.B8 : List Nat := [0, 0, 2, 0, 8, 0, 32, 120, 255, 0, 512, 0, 2048, 7680, 16383, 32767]
theorem spec_GetText.tab8 : rtab .any (opsOf Try.f181 8) = spec_GetText.T8 := by kernel_rfl
theorem spec_GetText.bits8 : waitsOk spec_GetText.T8.2 spec_GetText.B8 = true := by kernel_rfl
set_option maxHeartbeats 8000000 in
set_option maxRecDepth 100000 in
theorem spec_GetText.calls (k : Nat) (a0 : ByteArray) (a1 : Int) (r1 : ByteArray) (r2 : Int) (r3 : Int) (w : World) (h : spec_GetText.f k a0 a1 = some (r1, r2, r3)) :
  Calls Try.prog 181 #[.string a0, .int .i64 a1] w fun e w' => e = .returned (.agg #[.string r1, .int .i64 r2, .int .i64 r3]) ∧ Below w.heap.size w w' := by
 have hu202 := Try.underlying202
 have hu199 := Try.underlying199
 have HB := Aside0.mk (Below.refl w.heap.size w)
 have H : ((spec_GetNum.f k a0 a1).bind fun bt994 => (if bt994.2.2 = 0 then (if bt994.1 < 0 then (spec_GetText.j0 k a0 true bt994.1 bt994.2.1 bt994.2.2) else (spec_GetText.j0 k a0 (decide (bt994.1 > 8000)) bt994.1 bt994.2.1 bt994.2.2)) else (some ((⟨#[]⟩ : ByteArray), 0, bt994.2.2)))) = some (r1, r2, r3) := h
 clear h
 replace H := Option.bind_eq_some_iff.mp H
 obtain ⟨⟨t994, t995, t996⟩, A30, H⟩ := H
 replace H : (if t996 = 0 then (if t994 < 0 then (spec_GetText.j0 k a0 true t994 t995 t996) else (spec_GetText.j0 k a0 (decide (t994 > 8000)) t994 t995 t996)) else (some ((⟨#[]⟩ : ByteArray), 0, t996))) = some (r1, r2, r3) := H
 have A3 := Aside0.mk A30
 clear A30
 by_cases c4 : t996 = 0
 ·rw [if_pos c4] at H
  have c4b0 : (t996 == 0) = true := beq_iff_eq.mpr c4
  have c4b1 : (t996 != 0) = false := bne_eq_false_iff_eq.mpr c4
  clear c4
  have HC5 := Aside0.mk H
  clear H
  go_enter Try.func181, Try.ntmps181
  go_upto_region 4 with (first | ((with_reducible refine gate_dst (N := 4) rfl ?_); refine box_event ?hg (N := 4) ?hd (cs := #[.string (⟨#[]⟩ : ByteArray), .int .i64 0, .int .i64 0]) (t := 202) ?hr ?_; (case hd => rfl); (case hg => rfl); (case hr => first | (go_simp; done) | (go_simp; rfl)); intro gb993 hg w6 hbox hb; have n_ := as4_ (below_step (z5_ HB.out) hb) (hbox) ((z7_ HB.out : w.heap.size ≤ gb993)) ((z7_ HB.out : w.heap.size ≤ gb993)); clear HB; have ⟨HB, BK993, GW993, GE993⟩ := n_; clear n_; clear hb hbox hg) | ((with_reducible refine gate_callee (f := 180) rfl ?_); refine goesL_ (some 8) rfl rfl Try.func180 (by kernel_rfl) rfl #[.string a0, .int .i64 a1] rfl (z0_) ?_; (with_reducible refine (spec_GetNum.calls k a0 a1 t994 t995 t996 _ A3.out).mono ?_); rintro e w7 ⟨rfl, hb⟩; refine ⟨_, rfl, ?_⟩; have n_ := as2_ (blkB_ BK993.out hb) (below_step (z1_ HB.out GE993.out) hb); clear BK993 HB; have ⟨BK993, HB⟩ := n_; clear n_; (try clear hb); (try clear hb2); (try clear hk); (try clear hi)) | ((with_reducible refine gate_dst (N := 5) rfl ?_); refine box_event ?hg (N := 5) ?hd (cs := #[.int .i64 0, .int .i64 0, .int .i64 0]) (t := 199) ?hr ?_; (case hd => rfl); (case hg => rfl); (case hr => first | (go_simp; done) | (go_simp; rfl)); intro gb997 hg w8 hbox hb; have n_ := as7_ (blkB_ BK993.out hb) (below_step (z1_ HB.out GE993.out) hb) (hbox) ((z10_ HB.out GE993.out : w.heap.size ≤ gb997)) ((z10_ HB.out GE993.out : w.heap.size ≤ gb997)) (neL_ BK993.out hg) (neG_ BK993.out hg); clear BK993 HB; have ⟨BK993, HB, BK997, GW997, GE997, NB993_997, NB997_993⟩ := n_; clear n_; clear hb hbox hg; have hnb9 := NB997_993.out; have hnc9 := NB993_997.out; have hcz10_0 : w8.cell? ⟨gb997, 0, none⟩ = some (.int .i64 0) := (blk_cell BK997.out 0).trans rfl; have hcz10_1 : w8.cell? ⟨gb997, 1, none⟩ = some (.int .i64 0) := (blk_cell BK997.out 1).trans rfl; have hcz10_2 : w8.cell? ⟨gb997, 2, none⟩ = some (.int .i64 0) := (blk_cell BK997.out 2).trans rfl; have hfz10_0 := blk_frozen BK997.out 0; have hfz10_1 := blk_frozen BK997.out 1; have hfz10_2 := blk_frozen BK997.out 2))
  (try simp only [Act.put, sa_, s0_, ss_])
  go_cut [22] (fun v22 wc => ∃ (kq : Nat) (x22_4 : Bool), v22 = .bool x22_4 ∧ Aside0 (spec_GetText.j0 kq a0 x22_4 t994 t995 t996 = some (r1, r2, r3)) ∧ Aside0 (kq ≤ k) ∧ Aside0 (wc.heap[gb993]? = some (.cells #[.string (⟨#[]⟩ : ByteArray), .int .i64 0, .int .i64 0] 202 (0, 0))) ∧ Aside0 (wc.heap[gb997]? = some (.cells #[.int .i64 t994, .int .i64 t995, .int .i64 t996] 199 (0, 0))) ∧ Aside0 (Below w.heap.size w wc))
  case first =>
   have H := HC5.out
   clear HC5
   by_cases c11 : t994 < 0
   ·rw [if_pos c11] at H
    have c11b0 : decide (t994 < 0) = true := decide_eq_true c11
    clear c11
    (first | rw [c11b0] | (simp only [i64_w, i32_w]; rw [c11b0]) | skip)
    have H' := Aside0.mk H
    clear H
    have hnb12 := NB997_993.out
    have hnc12 := NB993_997.out
    have ⟨hcz13_0, hcz13_1, hcz13_2, hfz13_0, hfz13_1, hfz13_2⟩ := cz3_ BK997.out
    go_wp2
    go_meet
    case rel => exact ⟨_, (true), (z2_), H', ⟨by first | omega | exact Nat.le_refl _⟩, ⟨z55_ NB993_997.out BK993.out⟩, ⟨z14_ BK997.out⟩, ⟨z6_ HB.out GE993.out GE997.out⟩⟩
   ·rw [if_neg c11] at H
    have c11b0 : decide (t994 < 0) = false := decide_eq_false c11
    clear c11
    (first | rw [c11b0] | (simp only [i64_w, i32_w]; rw [c11b0]) | skip)
    have H' := Aside0.mk H
    clear H
    have hnb14 := NB997_993.out
    have hnc14 := NB993_997.out
    have ⟨hcz15_0, hcz15_1, hcz15_2, hfz15_0, hfz15_1, hfz15_2⟩ := cz3_ BK997.out
    go_wp2
    go_meet
    case rel => exact ⟨_, (decide (t994 > 8000)), (z2_), H', ⟨by first | omega | exact Nat.le_refl _⟩, ⟨z55_ NB993_997.out BK993.out⟩, ⟨z14_ BK997.out⟩, ⟨z6_ HB.out GE993.out GE997.out⟩⟩
  case rest =>
   clear HC5
   try clear c1
   try clear p2
   try clear c4
   try clear c4b0
   try clear c4b1
   try clear c9
   try clear c11
   try clear c11b0
   try clear c12
   try clear c14
   try clear hcz10_0
   try clear hcz10_1
   try clear hcz10_2
   try clear hcz13_0
   try clear hcz13_1
   try clear hcz13_2
   try clear hcz15_0
   try clear hcz15_1
   try clear hcz15_2
   try clear hfz10_0
   try clear hfz10_1
   try clear hfz10_2
   try clear hfz13_0
   try clear hfz13_1
   try clear hfz13_2
   try clear hfz15_0
   try clear hfz15_1
   try clear hfz15_2
   obtain ⟨kq, x22_4, rfl, HA, HJ4, BK993, BK997, HB⟩ := hcut
   cases kq with
   | zero => exact absurd HA.out (by simp [spec_GetText.j0])
   | succ kj4 =>
    have H := HA.out
    clear HA
    simp only [spec_GetText.j0] at H
    by_cases c16 : x22_4 = true
    ·subst c16
     have H1 : (some ((⟨#[]⟩ : ByteArray), 0, 3)) = some (r1, r2, r3) := by rw [if_pos rfl] at H; exact H
     clear H
     have H := H1
     clear H1
     simp only [Option.some.injEq, Prod.mk.injEq] at H
     obtain ⟨rfl, rfl, rfl⟩ := H
     have hnb17 := NB993_997.out
     have hnc17 := NB997_993.out
     have ⟨hcz18_0, hcz18_1, hcz18_2, hfz18_0, hfz18_1, hfz18_2⟩ := cz3_ BK993.out
     go_wp2
     refine bodyPost_ret (results_cell_row rfl _ _ gb993 202 #[.string (⟨#[]⟩ : ByteArray), .int .i64 0, .int .i64 3] (0, 0) _ rfl (z14_ BK993.out) Try.underlying202 rfl (by kernel_rfl)) rfl ?_
     exact ⟨z8_, z6_ HB.out GE993.out GE997.out⟩
    ·replace c16 := Bool.eq_false_iff.mpr c16
     subst c16
     have H1 : (if t995 > (wrap64 ((a0.size : Int) - t994)) then (some ((⟨#[]⟩ : ByteArray), 0, 4)) else (if 0 ≤ t995 then (if t995 ≤ (wrap64 (t995 + t994)) then (if (wrap64 (t995 + t994)) ≤ (a0.size : Int) then (some (a0.extract (t995 : Int).toNat ((wrap64 (t995 + t994)) : Int).toNat, wrap64 (t995 + t994), 0)) else (none)) else (none)) else (none))) = some (r1, r2, r3) := by rw [if_neg (show ¬ (false = true) by decide)] at H; exact H
     clear H
     have H := H1
     clear H1
     by_cases c19 : t995 > (wrap64 ((a0.size : Int) - t994))
     ·rw [if_pos c19] at H
      have c19b0 : decide ((wrap64 ((a0.size : Int) - t994)) < t995) = true := decide_eq_true c19
      clear c19
      simp only [Option.some.injEq, Prod.mk.injEq] at H
      obtain ⟨rfl, rfl, rfl⟩ := H
      have hnb20 := NB997_993.out
      have hnc20 := NB993_997.out
      have ⟨hcz21_0, hcz21_1, hcz21_2, hfz21_0, hfz21_1, hfz21_2⟩ := cz3_ BK997.out
      have ⟨hcz22_0, hcz22_1, hcz22_2, hfz22_0, hfz22_1, hfz22_2⟩ := cz3_ BK993.out
      go_wp2
      refine bodyPost_ret (results_cell_row rfl _ _ gb993 202 #[.string (⟨#[]⟩ : ByteArray), .int .i64 0, .int .i64 4] (0, 0) _ rfl (z14_ BK993.out) Try.underlying202 rfl (by kernel_rfl)) rfl ?_
      exact ⟨z8_, z6_ HB.out GE993.out GE997.out⟩
     ·rw [if_neg c19] at H
      have c19b0 : decide ((wrap64 ((a0.size : Int) - t994)) < t995) = false := decide_eq_false c19
      clear c19
      by_cases c23 : 0 ≤ t995
      ·rw [if_pos c23] at H
       have c23b0 := eq_true c23
       have c23b1 : decide (0 ≤ t995) = true := decide_eq_true c23
       clear c23
       by_cases c24 : t995 ≤ (wrap64 (t995 + t994))
       ·rw [if_pos c24] at H
        have c24b0 := eq_true c24
        have c24b1 : decide (t995 ≤ (wrap64 (t995 + t994))) = true := decide_eq_true c24
        by_cases c25 : (wrap64 (t995 + t994)) ≤ (a0.size : Int)
        ·rw [if_pos c25] at H
         have c25b0 := eq_true c25
         have c25b1 : decide ((wrap64 (t995 + t994)) ≤ (a0.size : Int)) = true := decide_eq_true c25
         simp only [Option.some.injEq, Prod.mk.injEq] at H
         obtain ⟨rfl, rfl, rfl⟩ := H
         have hnb26 := NB997_993.out
         have hnc26 := NB993_997.out
         have ⟨hcz27_0, hcz27_1, hcz27_2, hfz27_0, hfz27_1, hfz27_2⟩ := cz3_ BK997.out
         try go_wp2
         have n_ := as3_ (blk_drew BK993.out) (blk_drew BK997.out) (below_drew1 HB.out)
         clear BK993 BK997 HB
         have ⟨BK993, BK997, HB⟩ := n_
         clear n_
         refine start_ (n := 16) (S := fun w' => w'.cell? ⟨gb997, 0, none⟩ = some (.int .i64 t994) ∧ w'.cell? ⟨gb997, 1, none⟩ = some (.int .i64 t995) ∧ w'.cell? ⟨gb997, 2, none⟩ = some (.int .i64 t996)) (ds := []) #[false, false, false, false, false, false, false, false, false, false, false, false, false, false, false, false] (by kernel_rfl) rfl rfl ⟨(blk_cell BK997.out 0).trans rfl, (blk_cell BK997.out 1).trans rfl, (blk_cell BK997.out 2).trans rfl⟩ (fun hHeld => ?_); refine with_tabW spec_GetText.tab8 spec_GetText.bits8 (fun HT_ HW_ => ?_)
         generalize wc.drew = w28 at BK993 BK997 HB hHeld ⊢
         refine pu_ 0 33 #[true, false, false, false, false, false, false, false, false, false, false, false, false, false, false, false] HT_.out ?_
         refine pu_ 1 34 #[true, true, false, false, false, false, false, false, false, false, false, false, false, false, false, false] HT_.out ?_
         refine pu_ 3 36 #[true, true, false, true, false, false, false, false, false, false, false, false, false, false, false, false] HT_.out ?_
         refine pu_ 5 38 #[true, true, false, true, false, true, false, false, false, false, false, false, false, false, false, false] HT_.out ?_
         refine pu_ 9 42 #[true, true, false, true, false, true, false, false, false, true, false, false, false, false, false, false] HT_.out ?_
         refine pu_ 11 44 #[true, true, false, true, false, true, false, false, false, true, false, true, false, false, false, false] HT_.out ?_
         refine tk3_ 2 35 #[true, true, true, true, false, true, false, false, false, true, false, true, false, false, false, false] HT_.out HW_.out hHeld ?_
         refine tk3_ 4 37 #[true, true, true, true, true, true, false, false, false, true, false, true, false, false, false, false] HT_.out HW_.out hHeld ?_
         refine tk3_ 6 39 #[true, true, true, true, true, true, true, false, false, true, false, true, false, false, false, false] HT_.out HW_.out hHeld ?_
         refine pu_ 7 40 #[true, true, true, true, true, true, true, true, false, true, false, true, false, false, false, false] HT_.out ?_
         refine pu_ 8 41 #[true, true, true, true, true, true, true, true, true, true, false, true, false, false, false, false] HT_.out ?_
         refine tk3_ 10 43 #[true, true, true, true, true, true, true, true, true, true, true, true, false, false, false, false] HT_.out HW_.out hHeld ?_
         refine tk3_ 12 45 #[true, true, true, true, true, true, true, true, true, true, true, true, true, false, false, false] HT_.out HW_.out hHeld ?_
         refine pu_ 13 46 #[true, true, true, true, true, true, true, true, true, true, true, true, true, true, false, false] HT_.out ?_
         refine pu_ 14 47 #[true, true, true, true, true, true, true, true, true, true, true, true, true, true, true, false] HT_.out ?_
         refine one_ (i := 15) (N := none) #[true, true, true, true, true, true, true, true, true, true, true, true, true, true, true, true] rfl rfl (one_of HT_.out (by kernel_rfl)) (by decide) (fun K hK => ?_)
         have hs29 : w28.cell? ⟨gb993, 0, none⟩ = some (.string (⟨#[]⟩ : ByteArray)) := (blk_cell BK993.out 0).trans rfl
         have hfs29 := blk_frozen BK993.out 0
         have hns29_1 := NB997_993.out
         have hms29_1 := NB993_997.out
         have hs30 : w28.cell? ⟨gb993, 1, none⟩ = some (.int .i64 0) := (blk_cell BK993.out 1).trans rfl
         have hfs30 := blk_frozen BK993.out 1
         have hns30_1 := NB997_993.out
         have hms30_1 := NB993_997.out
         have hs31 : w28.cell? ⟨gb993, 2, none⟩ = some (.int .i64 0) := (blk_cell BK993.out 2).trans rfl
         have hfs31 := blk_frozen BK993.out 2
         have hns31_1 := NB997_993.out
         have hms31_1 := NB993_997.out
         refine skip_ (w1 := ?_) (by rfl) rfl ?_ ?_
         rotate_left
         ·go_simp
          rfl
         refine hK.out _ _ ⟨((cell_far (p := ⟨gb993, _, none⟩) NB997_993.out _).trans (((cell_far (p := ⟨gb993, _, none⟩) NB997_993.out _).trans (((cell_far (p := ⟨gb993, _, none⟩) NB997_993.out _).trans (hHeld.1)))))), ((cell_far (p := ⟨gb993, _, none⟩) NB997_993.out _).trans (((cell_far (p := ⟨gb993, _, none⟩) NB997_993.out _).trans (((cell_far (p := ⟨gb993, _, none⟩) NB997_993.out _).trans (hHeld.2.1)))))), ((cell_far (p := ⟨gb993, _, none⟩) NB997_993.out _).trans (((cell_far (p := ⟨gb993, _, none⟩) NB997_993.out _).trans (((cell_far (p := ⟨gb993, _, none⟩) NB997_993.out _).trans (hHeld.2.2))))))⟩ (fun hHeld => ?_)
         clear hK K
         refine done_ (done_of HT_.out (by kernel_rfl)) ?_
         try go_wp2
         refine bodyPost_ret (results_cell_row rfl _ _ gb993 202 #[.string (a0.extract (t995 : Int).toNat ((wrap64 (t995 + t994)) : Int).toNat), .int .i64 (wrap64 (t995 + t994)), .int .i64 0] (0, 0) _ rfl (z14_ BK993.out) Try.underlying202 rfl (by kernel_rfl)) rfl ?_
         exact ⟨z8_, z6_ HB.out GE993.out GE997.out⟩
        ·rw [if_neg c25] at H
         exact absurd H (by simp)
       ·rw [if_neg c24] at H
        exact absurd H (by simp)
      ·rw [if_neg c23] at H
       exact absurd H (by simp)
 ·rw [if_neg c4] at H
  have c4b0 : (t996 == 0) = false := beq_eq_false_iff_ne.mpr c4
  have c4b1 : (t996 != 0) = true := bne_iff_ne.mpr c4
  simp only [Option.some.injEq, Prod.mk.injEq] at H
  obtain ⟨rfl, rfl, rfl⟩ := H
  go_enter Try.func181, Try.ntmps181
  go_wp2_with (first | ((with_reducible refine gate_dst (N := 4) rfl ?_); refine box_event ?hg (N := 4) ?hd (cs := #[.string (⟨#[]⟩ : ByteArray), .int .i64 0, .int .i64 0]) (t := 202) ?hr ?_; (case hd => rfl); (case hg => rfl); (case hr => first | (go_simp; done) | (go_simp; rfl)); intro gb993 hg w32 hbox hb; have n_ := as4_ (below_step (z5_ HB.out) hb) (hbox) ((z7_ HB.out : w.heap.size ≤ gb993)) ((z7_ HB.out : w.heap.size ≤ gb993)); clear HB; have ⟨HB, BK993, GW993, GE993⟩ := n_; clear n_; clear hb hbox hg) | ((with_reducible refine gate_callee (f := 180) rfl ?_); refine goesL_ (some 8) rfl rfl Try.func180 (by kernel_rfl) rfl #[.string a0, .int .i64 a1] rfl (z0_) ?_; (with_reducible refine (spec_GetNum.calls k a0 a1 t994 t995 t996 _ A3.out).mono ?_); rintro e w33 ⟨rfl, hb⟩; refine ⟨_, rfl, ?_⟩; have n_ := as2_ (blkB_ BK993.out hb) (below_step (z1_ HB.out GE993.out) hb); clear BK993 HB; have ⟨BK993, HB⟩ := n_; clear n_; (try clear hb); (try clear hb2); (try clear hk); (try clear hi)) | ((with_reducible refine gate_dst (N := 5) rfl ?_); refine box_event ?hg (N := 5) ?hd (cs := #[.int .i64 0, .int .i64 0, .int .i64 0]) (t := 199) ?hr ?_; (case hd => rfl); (case hg => rfl); (case hr => first | (go_simp; done) | (go_simp; rfl)); intro gb997 hg w34 hbox hb; have n_ := as7_ (blkB_ BK993.out hb) (below_step (z1_ HB.out GE993.out) hb) (hbox) ((z10_ HB.out GE993.out : w.heap.size ≤ gb997)) ((z10_ HB.out GE993.out : w.heap.size ≤ gb997)) (neL_ BK993.out hg) (neG_ BK993.out hg); clear BK993 HB; have ⟨BK993, HB, BK997, GW997, GE997, NB993_997, NB997_993⟩ := n_; clear n_; clear hb hbox hg; have hnb35 := NB997_993.out; have hnc35 := NB993_997.out; have ⟨hcz36_0, hcz36_1, hcz36_2, hfz36_0, hfz36_1, hfz36_2⟩ := cz3_ BK997.out; have hcz37_0 : w34.cell? ⟨gb993, 0, none⟩ = some (.string (⟨#[]⟩ : ByteArray)) := (blk_cell BK993.out 0).trans rfl; have hcz37_1 : w34.cell? ⟨gb993, 1, none⟩ = some (.int .i64 0) := (blk_cell BK993.out 1).trans rfl; have hcz37_2 : w34.cell? ⟨gb993, 2, none⟩ = some (.int .i64 0) := (blk_cell BK993.out 2).trans rfl; have hfz37_0 := blk_frozen BK993.out 0; have hfz37_1 := blk_frozen BK993.out 1; have hfz37_2 := blk_frozen BK993.out 2))
  refine bodyPost_ret (results_cell_row rfl _ _ gb993 202 #[.string (⟨#[]⟩ : ByteArray), .int .i64 0, .int .i64 t996] (0, 0) _ rfl (z65_ NB993_997.out BK993.out) Try.underlying202 rfl (by kernel_rfl)) rfl ?_
  exact ⟨z8_, z6_ HB.out GE993.out GE997.out⟩


/-! ### spec_l02Reader_text: function 134 -/
def spec_l02Reader_text.j0 : Nat → Bool → ByteArray → Int → Bool → ByteArray → Int → Int → Option (ByteArray × ByteArray × Int × Bool)
 | 0, _, _, _, _, _, _, _ => none
 | k + 1, x21, x1000, x1001, x1002, x1002000, x1002001, x1002002 => if x21 = true then (some ((⟨#[]⟩ : ByteArray), x1000, x1001, true)) else (some (x1002000, x1000, x1002001, x1002))
def spec_l02Reader_text.f (k : Nat) (s0_0 : ByteArray) (s0_1 : Int) (s0_2 : Bool) : Option (ByteArray × ByteArray × Int × Bool) := (spec_GetText.f k s0_0 s0_1).bind fun bt998 => (if s0_2 = true then (spec_l02Reader_text.j0 k true s0_0 s0_1 s0_2 bt998.1 bt998.2.1 bt998.2.2) else (spec_l02Reader_text.j0 k (bt998.2.2 != 0) s0_0 s0_1 s0_2 bt998.1 bt998.2.1 bt998.2.2))
theorem spec_l02Reader_text.mono_l : ∀ k, (∀ y0 y1 y2 y3 y4 y5 y6, LeO (spec_l02Reader_text.j0 k y0 y1 y2 y3 y4 y5 y6) (spec_l02Reader_text.j0 (k + 1) y0 y1 y2 y3 y4 y5 y6))
 | 0 => fun _ _ _ _ _ _ _ r h => by simp [spec_l02Reader_text.j0] at h
 | k + 1 => by
  have ih0 := spec_l02Reader_text.mono_l k
  ·intro y0 y1 y2 y3 y4 y5 y6
   unfold spec_l02Reader_text.j0
   repeat' first
   | (with_reducible exact ih0 _ _ _ _ _ _ _)
   | (with_reducible exact spec_GetText.mono _ _ _)
   | (with_reducible exact LeO.refl _)
   | (with_reducible exact LeO.none _)
   | (with_reducible refine LeO.ite ?_ ?_)
   | (with_reducible refine LeO.bind ?_ (fun _ => ?_))
   | exact ih0 _ _ _ _ _ _ _
   | exact spec_GetText.mono _ _ _
   | exact LeO.none _
   | refine LeO.ite ?_ ?_
   | refine LeO.bind ?_ (fun _ => ?_)
theorem spec_l02Reader_text.mono : ∀ a0 a1 a2 k, LeO (spec_l02Reader_text.f k a0 a1 a2) (spec_l02Reader_text.f (k + 1) a0 a1 a2) := by
 intro a0 a1 a2 k
 have ih0 := spec_l02Reader_text.mono_l k
 unfold spec_l02Reader_text.f
 repeat' first
   | (with_reducible exact ih0 _ _ _ _ _ _ _)
   | (with_reducible exact spec_GetText.mono _ _ _)
   | (with_reducible exact LeO.refl _)
   | (with_reducible exact LeO.none _)
   | (with_reducible refine LeO.ite ?_ ?_)
   | (with_reducible refine LeO.bind ?_ (fun _ => ?_))
   | exact ih0 _ _ _ _ _ _ _
   | exact spec_GetText.mono _ _ _
   | exact LeO.none _
   | refine LeO.ite ?_ ?_
   | refine LeO.bind ?_ (fun _ => ?_)
def spec_l02Reader_text.T1 : Bool × List (List Nat × List Nat) := (true, [([], []), ([0], [0]), ([1], [1]), ([2], [2]), ([], []), ([4], [4]), ([5], [5]), ([6], [6]), ([3, 7], [3, 7]), ([], []), ([9, 8, 8, 0, 1, 2, 3, 4, 5, 6, 7, 8, 9], [8, 9])])
def spec_l02Reader_text.B1 : List Nat := [0, 1, 3, 7, 0, 16, 48, 112, 255, 0, 1023]
theorem spec_l02Reader_text.tab1 : rtab .any (opsOf Try.f134 1) = spec_l02Reader_text.T1 := by kernel_rfl
theorem spec_l02Reader_text.bits1 : waitsOk spec_l02Reader_text.T1.2 spec_l02Reader_text.B1 = true := by kernel_rfl
set_option maxHeartbeats 8000000 in
set_option maxRecDepth 100000 in
theorem spec_l02Reader_text.calls (k : Nat) (g : Nat) (s0_0 : ByteArray) (s0_1 : Int) (s0_2 : Bool) (r1 : ByteArray) (r2 : ByteArray) (r3 : Int) (r4 : Bool) (w0 w : World) (hI : IsS130 w0 w g s0_0 s0_1 s0_2) (hB : Below w0.heap.size w0 w) (h : spec_l02Reader_text.f k s0_0 s0_1 s0_2 = some (r1, r2, r3, r4)) :
  Calls Try.prog 134 #[.pointer (some ⟨g, 0, none⟩)] w fun e w' => e = .returned (.string r1) ∧ IsS130 w0 w' g r2 r3 r4 ∧ Below w0.heap.size w0 w' ∧ KeepBut w w' g none := by
 have hu202 := Try.underlying202
 have HI0 := Aside0.mk hI
 have HK := Aside0.mk (KeepBut.refl w g none)
 have HL := Aside0.mk hB.size
 clear hI
 have HW0 := Aside0.mk hB.size
 have HB := Aside0.mk hB
 clear hB
 have H : ((spec_GetText.f k s0_0 s0_1).bind fun bt998 => (if s0_2 = true then (spec_l02Reader_text.j0 k true s0_0 s0_1 s0_2 bt998.1 bt998.2.1 bt998.2.2) else (spec_l02Reader_text.j0 k (bt998.2.2 != 0) s0_0 s0_1 s0_2 bt998.1 bt998.2.1 bt998.2.2))) = some (r1, r2, r3, r4) := h
 clear h
 replace H := Option.bind_eq_some_iff.mp H
 obtain ⟨⟨t998, t999, t1000⟩, A20, H⟩ := H
 replace H : (if s0_2 = true then (spec_l02Reader_text.j0 k true s0_0 s0_1 s0_2 t998 t999 t1000) else (spec_l02Reader_text.j0 k (t1000 != 0) s0_0 s0_1 s0_2 t998 t999 t1000)) = some (r1, r2, r3, r4) := H
 have A2 := Aside0.mk A20
 clear A20
 have HC3 := Aside0.mk H
 clear H
 go_enter Try.func134, Try.ntmps134
 try go_wp2
 have n_ := as3_ (IsS130.drew HI0.out) (keep_drew HK.out) (below_drew1 HB.out)
 clear HI0 HK HB
 have ⟨HI0, HK, HB⟩ := n_
 clear n_
 refine start_ (n := 11) (S := fun w' => w'.cell? ⟨g, 0, none⟩ = some (.string s0_0) ∧ w'.cell? ⟨g, 1, none⟩ = some (.int .i64 s0_1) ∧ w'.cell? ⟨g, 2, none⟩ = some (.bool s0_2)) (ds := []) #[false, false, false, false, false, false, false, false, false, false, false] (by kernel_rfl) rfl rfl ⟨(blk_cell (Aside0.mk HI0.out.1).out 0).trans rfl, (blk_cell (Aside0.mk HI0.out.1).out 1).trans rfl, (blk_cell (Aside0.mk HI0.out.1).out 2).trans rfl⟩ (fun hHeld => ?_); refine with_tabW spec_l02Reader_text.tab1 spec_l02Reader_text.bits1 (fun HT_ HW_ => ?_)
 generalize w.drew = w4 at HI0 HK HB hHeld ⊢
 refine pu_ 0 4 #[true, false, false, false, false, false, false, false, false, false, false] HT_.out ?_
 refine pu_ 1 5 #[true, true, false, false, false, false, false, false, false, false, false] HT_.out ?_
 refine pu_ 2 6 #[true, true, true, false, false, false, false, false, false, false, false] HT_.out ?_
 refine pu_ 4 8 #[true, true, true, false, true, false, false, false, false, false, false] HT_.out ?_
 refine pu_ 5 9 #[true, true, true, false, true, true, false, false, false, false, false] HT_.out ?_
 refine pu_ 6 10 #[true, true, true, false, true, true, true, false, false, false, false] HT_.out ?_
 refine tk3_ 3 7 #[true, true, true, true, true, true, true, false, false, false, false] HT_.out HW_.out hHeld ?_
 refine tk3_ 7 11 #[true, true, true, true, true, true, true, true, false, false, false] HT_.out HW_.out hHeld ?_
 refine join_ (σ := Nat) 1 #[true, true, true, true, true, true, true, true, true, true, false] (fun s_ => [(12, .agg #[.string t998, .int .i64 t999, .int .i64 t1000]), (3, .pointer (some ⟨s_, 0, none⟩))]) (fun s_ w' => (w'.cell? ⟨g, 0, none⟩ = some (.string s0_0) ∧ w'.cell? ⟨g, 1, none⟩ = some (.int .i64 s0_1) ∧ w'.cell? ⟨g, 2, none⟩ = some (.bool s0_2)) ∧ (w'.heap[s_]? = some (.cells #[.string (⟨#[]⟩ : ByteArray), .int .i64 0, .int .i64 0] 202 (0, 0))) ∧ (w.heap.size ≤ s_) ∧ (w0.heap.size ≤ s_) ∧ (g ≠ s_) ∧ (s_ ≠ g) ∧ (IsS130 w0 w' g s0_0 s0_1 s0_2) ∧ (KeepBut w w' g none) ∧ (Below w0.heap.size w0 w')) ?_ ?_
 rotate_left
 ·intro hCont
  refine two_ (i := 8) (j := 9) (Ni := some 12) (Nj := some 3) #[true, true, true, true, true, true, true, true, true, false, false] #[true, true, true, true, true, true, true, true, false, true, false] rfl rfl rfl rfl (two_of HT_.out (by kernel_rfl)) (by decide) (by decide) (fun K hK => ?_) (fun K hK => ?_)
  ·skip
   refine goes_ Try.func181 (by kernel_rfl) rfl #[.string s0_0, .int .i64 s0_1] (by rfl) rfl rfl (z0_) ?_
   with_reducible refine (spec_GetText.calls k s0_0 s0_1 t998 t999 t1000 _ A2.out).mono ?_
   rintro e w5 ⟨rfl, hb⟩
   refine ⟨_, rfl, ?_⟩
   have n_ := as3_ (IsS130.below (z23_ HI0.out) hb) (KeepBut.trans (z11_ HK.out) (KeepBut.of_below hb g none) (.inl rfl)) (below_step (z24_ HB.out HI0.out) hb)
   clear HI0 HK HB
   have ⟨HI0, HK, HB⟩ := n_
   clear n_
   (try clear hb)
   (try clear hb2)
   (try clear hk)
   (try clear hi)
   refine hK.out _ _ ⟨(blk_cell (Aside0.mk HI0.out.1).out 0).trans rfl, (blk_cell (Aside0.mk HI0.out.1).out 1).trans rfl, (blk_cell (Aside0.mk HI0.out.1).out 2).trans rfl⟩ (fun hHeld => ?_)
   clear hK K
   refine norm_ (a' := ?_) ?_ ?_
   rotate_left
   ·show Act.put _ (some 12) _ = _
    simp only [Act.put, sa_, s0_, ss_, i64_w, i32_w]
    rfl
   refine one_ (i := 9) (N := some 3) #[true, true, true, true, true, true, true, true, true, true, false] rfl rfl (one_of HT_.out (by kernel_rfl)) (by decide) (fun K hK => ?_)
   refine box_step ?hg (N := 3) ?hd (cs := #[.string (⟨#[]⟩ : ByteArray), .int .i64 0, .int .i64 0]) (t := 202) ?hr ?_; (case hd => rfl); (case hg => rfl); (case hr => first | (go_simp; done) | (go_simp; rfl))
   intro gb1001 hg w6 hbox hb
   have n_ := as8_ (IsS130.below (z23_ HI0.out) hb) (KeepBut.trans (z11_ HK.out) (KeepBut.of_below hb g none) (.inl rfl)) (below_step (z24_ HB.out HI0.out) hb) (hbox) ((z19_ HK.out : w.heap.size ≤ gb1001)) ((Nat.le_trans HW0.out (z19_ HK.out : w.heap.size ≤ gb1001) : w0.heap.size ≤ gb1001)) ((z53_ HI0.out : g ≠ gb1001)) ((z54_ HI0.out : gb1001 ≠ g))
   clear HI0 HK HB
   have ⟨HI0, HK, HB, BK1001, GW1001, GE1001, NB0_1001, NB1001_0⟩ := n_
   clear n_
   clear hb hbox hg
   refine hK.out _ _ ⟨(blk_cell (Aside0.mk HI0.out.1).out 0).trans rfl, (blk_cell (Aside0.mk HI0.out.1).out 1).trans rfl, (blk_cell (Aside0.mk HI0.out.1).out 2).trans rfl⟩ (fun hHeld => ?_)
   clear hK K
   refine norm_ (a' := ?_) ?_ ?_
   rotate_left
   ·show Act.put _ (some 3) _ = _
    simp only [Act.put, sa_, s0_, ss_, i64_w, i32_w]
    rfl
   exact norm_ (z44_) (hCont (gb1001) _ ⟨hHeld, (z9_ BK1001.out), GW1001.out, GE1001.out, NB0_1001.out, NB1001_0.out, (z25_ HI0.out NB0_1001.out), (z15_ HK.out GW1001.out), (z20_ HB.out HI0.out GE1001.out)⟩)
  ·skip
   refine box_step ?hg (N := 3) ?hd (cs := #[.string (⟨#[]⟩ : ByteArray), .int .i64 0, .int .i64 0]) (t := 202) ?hr ?_; (case hd => rfl); (case hg => rfl); (case hr => first | (go_simp; done) | (go_simp; rfl))
   intro gb1001 hg w5 hbox hb
   have n_ := as8_ (IsS130.below (z23_ HI0.out) hb) (KeepBut.trans (z11_ HK.out) (KeepBut.of_below hb g none) (.inl rfl)) (below_step (z24_ HB.out HI0.out) hb) (hbox) ((z19_ HK.out : w.heap.size ≤ gb1001)) ((Nat.le_trans HW0.out (z19_ HK.out : w.heap.size ≤ gb1001) : w0.heap.size ≤ gb1001)) ((z53_ HI0.out : g ≠ gb1001)) ((z54_ HI0.out : gb1001 ≠ g))
   clear HI0 HK HB
   have ⟨HI0, HK, HB, BK1001, GW1001, GE1001, NB0_1001, NB1001_0⟩ := n_
   clear n_
   clear hb hbox hg
   refine hK.out _ _ ⟨(blk_cell (Aside0.mk HI0.out.1).out 0).trans rfl, (blk_cell (Aside0.mk HI0.out.1).out 1).trans rfl, (blk_cell (Aside0.mk HI0.out.1).out 2).trans rfl⟩ (fun hHeld => ?_)
   clear hK K
   refine norm_ (a' := ?_) ?_ ?_
   rotate_left
   ·show Act.put _ (some 3) _ = _
    simp only [Act.put, sa_, s0_, ss_, i64_w, i32_w]
    rfl
   refine one_ (i := 8) (N := some 12) #[true, true, true, true, true, true, true, true, true, true, false] rfl rfl (one_of HT_.out (by kernel_rfl)) (by decide) (fun K hK => ?_)
   refine goes_ Try.func181 (by kernel_rfl) rfl #[.string s0_0, .int .i64 s0_1] (by rfl) rfl rfl (z0_) ?_
   with_reducible refine (spec_GetText.calls k s0_0 s0_1 t998 t999 t1000 _ A2.out).mono ?_
   rintro e w6 ⟨rfl, hb⟩
   refine ⟨_, rfl, ?_⟩
   have n_ := as4_ (IsS130.below (z25_ HI0.out NB0_1001.out) hb) (blkB_ BK1001.out hb) (KeepBut.trans (z15_ HK.out GW1001.out) (KeepBut.of_below hb g none) (.inl rfl)) (below_step (z20_ HB.out HI0.out GE1001.out) hb)
   clear HI0 BK1001 HK HB
   have ⟨HI0, BK1001, HK, HB⟩ := n_
   clear n_
   (try clear hb)
   (try clear hb2)
   (try clear hk)
   (try clear hi)
   refine hK.out _ _ ⟨(blk_cell (Aside0.mk HI0.out.1).out 0).trans rfl, (blk_cell (Aside0.mk HI0.out.1).out 1).trans rfl, (blk_cell (Aside0.mk HI0.out.1).out 2).trans rfl⟩ (fun hHeld => ?_)
   clear hK K
   refine norm_ (a' := ?_) ?_ ?_
   rotate_left
   ·show Act.put _ (some 12) _ = _
    simp only [Act.put, sa_, s0_, ss_, i64_w, i32_w]
    rfl
   exact norm_ (z44_) (hCont (gb1001) _ ⟨hHeld, (z9_ BK1001.out), GW1001.out, GE1001.out, NB0_1001.out, NB1001_0.out, (z25_ HI0.out NB0_1001.out), (z15_ HK.out GW1001.out), (z20_ HB.out HI0.out GE1001.out)⟩)
 rintro gb1001 w7 ⟨hS_, h0_, h1_, h2_, h3_, h4_, h5_, h6_, h7_⟩
 have n0_ : Aside0 (w7.heap[gb1001]? = some (.cells #[.string (⟨#[]⟩ : ByteArray), .int .i64 0, .int .i64 0] 202 (0, 0))) := ⟨h0_⟩
 have n1_ : Aside0 (w.heap.size ≤ gb1001) := ⟨h1_⟩
 have n2_ : Aside0 (w0.heap.size ≤ gb1001) := ⟨h2_⟩
 have n3_ : Aside0 (g ≠ gb1001) := ⟨h3_⟩
 have n4_ : Aside0 (gb1001 ≠ g) := ⟨h4_⟩
 have n5_ : Aside0 (IsS130 w0 w7 g s0_0 s0_1 s0_2) := ⟨h5_⟩
 have n6_ : Aside0 (KeepBut w w7 g none) := ⟨h6_⟩
 have n7_ : Aside0 (Below w0.heap.size w0 w7) := ⟨h7_⟩
 clear HI0
 clear HK
 clear HB
 clear h0_ h1_ h2_ h3_ h4_ h5_ h6_ h7_
 have BK1001 := n0_
 have GW1001 := n1_
 have GE1001 := n2_
 have NB0_1001 := n3_
 have NB1001_0 := n4_
 have HI0 := n5_
 have HK := n6_
 have HB := n7_
 clear n0_ n1_ n2_ n3_ n4_ n5_ n6_ n7_
 have hHeld : w7.cell? ⟨g, 0, none⟩ = some (.string s0_0) ∧ w7.cell? ⟨g, 1, none⟩ = some (.int .i64 s0_1) ∧ w7.cell? ⟨g, 2, none⟩ = some (.bool s0_2) := hS_
 refine norm_ (a' := ?_) ?_ ?_
 rotate_left
 ·simp only [putAll, Act.put, List.setIfInBounds_toArray, List.set_cons_zero, List.set_cons_succ]
  rfl
 refine one_ (i := 10) (N := none) #[true, true, true, true, true, true, true, true, true, true, true] rfl rfl (one_of HT_.out (by kernel_rfl)) (by decide) (fun K hK => ?_)
 have hs8 : w7.cell? ⟨gb1001, 0, none⟩ = some (.string (⟨#[]⟩ : ByteArray)) := (blk_cell BK1001.out 0).trans rfl
 have hfs8 := blk_frozen BK1001.out 0
 have hs9 : w7.cell? ⟨gb1001, 1, none⟩ = some (.int .i64 0) := (blk_cell BK1001.out 1).trans rfl
 have hfs9 := blk_frozen BK1001.out 1
 have hs10 : w7.cell? ⟨gb1001, 2, none⟩ = some (.int .i64 0) := (blk_cell BK1001.out 2).trans rfl
 have hfs10 := blk_frozen BK1001.out 2
 refine skip_ (w1 := ?_) (by rfl) rfl ?_ ?_
 rotate_left
 ·go_simp
  rfl
 refine hK.out _ _ ⟨((cell_far (p := ⟨gb1001, _, none⟩) NB0_1001.out _).trans (((cell_far (p := ⟨gb1001, _, none⟩) NB0_1001.out _).trans (((cell_far (p := ⟨gb1001, _, none⟩) NB0_1001.out _).trans (hHeld.1)))))), ((cell_far (p := ⟨gb1001, _, none⟩) NB0_1001.out _).trans (((cell_far (p := ⟨gb1001, _, none⟩) NB0_1001.out _).trans (((cell_far (p := ⟨gb1001, _, none⟩) NB0_1001.out _).trans (hHeld.2.1)))))), ((cell_far (p := ⟨gb1001, _, none⟩) NB0_1001.out _).trans (((cell_far (p := ⟨gb1001, _, none⟩) NB0_1001.out _).trans (((cell_far (p := ⟨gb1001, _, none⟩) NB0_1001.out _).trans (hHeld.2.2))))))⟩ (fun hHeld => ?_)
 clear hK K
 refine done_ (done_of HT_.out (by kernel_rfl)) ?_
 go_upto_region 2 with (fail)
 go_cut [21] (fun v21 wc => ∃ (kq : Nat) (x21_2 : Bool), v21 = .bool x21_2 ∧ Aside0 (spec_l02Reader_text.j0 kq x21_2 s0_0 s0_1 s0_2 t998 t999 t1000 = some (r1, r2, r3, r4)) ∧ Aside0 (kq ≤ k) ∧ Aside0 (wc.heap[gb1001]? = some (.cells #[.string t998, .int .i64 t999, .int .i64 t1000] 202 (0, 0))) ∧ Aside0 (IsS130 w0 wc g s0_0 s0_1 s0_2) ∧ Aside0 (KeepBut w wc g none) ∧ Aside0 (Below w0.heap.size w0 wc))
 case first =>
  have H := HC3.out
  clear HC3
  by_cases c11 : s0_2 = true
  ·subst c11
   have H1 : (spec_l02Reader_text.j0 k true s0_0 s0_1 true t998 t999 t1000) = some (r1, r2, r3, r4) := by rw [if_pos rfl] at H; exact H
   clear H
   have H := H1
   clear H1
   have H' := Aside0.mk H
   clear H
   obtain ⟨HGz12, hgz12⟩ := HI0.out
   have hcz12_0 := cellS130_0 HGz12
   have hcz12_1 := cellS130_1 HGz12
   have hcz12_2 := cellS130_2 HGz12
   have hfz12_0 := blk_frozen HGz12 0
   have hfz12_1 := blk_frozen HGz12 1
   have hfz12_2 := blk_frozen HGz12 2
   clear HGz12 hgz12
   go_wp2
   go_meet
   case rel => exact ⟨_, (true), (z2_), H', ⟨by first | omega | exact Nat.le_refl _⟩, ⟨z14_ BK1001.out⟩, ⟨z25_ HI0.out NB0_1001.out⟩, ⟨z15_ HK.out GW1001.out⟩, ⟨z20_ HB.out HI0.out GE1001.out⟩⟩
  ·replace c11 := Bool.eq_false_iff.mpr c11
   subst c11
   have H1 : (spec_l02Reader_text.j0 k (t1000 != 0) s0_0 s0_1 false t998 t999 t1000) = some (r1, r2, r3, r4) := by rw [if_neg (show ¬ (false = true) by decide)] at H; exact H
   clear H
   have H := H1
   clear H1
   have H' := Aside0.mk H
   clear H
   obtain ⟨HGz13, hgz13⟩ := HI0.out
   have hcz13_0 := cellS130_0 HGz13
   have hcz13_1 := cellS130_1 HGz13
   have hcz13_2 := cellS130_2 HGz13
   have hfz13_0 := blk_frozen HGz13 0
   have hfz13_1 := blk_frozen HGz13 1
   have hfz13_2 := blk_frozen HGz13 2
   clear HGz13 hgz13
   have hnb14 := NB1001_0.out
   have hnc14 := NB0_1001.out
   have ⟨hcz15_0, hcz15_1, hcz15_2, hfz15_0, hfz15_1, hfz15_2⟩ := cz3_ BK1001.out
   go_wp2
   go_meet
   case rel => exact ⟨_, ((t1000 != 0)), (z2_), H', ⟨by first | omega | exact Nat.le_refl _⟩, ⟨z14_ BK1001.out⟩, ⟨z25_ HI0.out NB0_1001.out⟩, ⟨z15_ HK.out GW1001.out⟩, ⟨z20_ HB.out HI0.out GE1001.out⟩⟩
 case rest =>
  clear HC3
  try clear c1
  try clear p2
  try clear c11
  try clear c13
  try clear c14
  try clear hcz12_0
  try clear hcz12_1
  try clear hcz12_2
  try clear hcz13_0
  try clear hcz13_1
  try clear hcz13_2
  try clear hcz15_0
  try clear hcz15_1
  try clear hcz15_2
  try clear hfz12_0
  try clear hfz12_1
  try clear hfz12_2
  try clear hfz13_0
  try clear hfz13_1
  try clear hfz13_2
  try clear hfz15_0
  try clear hfz15_1
  try clear hfz15_2
  obtain ⟨kq, x21_2, rfl, HA, HJ2, BK1001, HI0, HK, HB⟩ := hcut
  cases kq with
  | zero => exact absurd HA.out (by simp [spec_l02Reader_text.j0])
  | succ kj2 =>
   have H := HA.out
   clear HA
   simp only [spec_l02Reader_text.j0] at H
   by_cases c16 : x21_2 = true
   ·subst c16
    have H1 : (some ((⟨#[]⟩ : ByteArray), s0_0, s0_1, true)) = some (r1, r2, r3, r4) := by rw [if_pos rfl] at H; exact H
    clear H
    have H := H1
    clear H1
    simp only [Option.some.injEq, Prod.mk.injEq] at H
    obtain ⟨rfl, rfl, rfl, rfl⟩ := H
    obtain ⟨HGz17, hgz17⟩ := HI0.out
    have hcz17_0 := cellS130_0 HGz17
    have hcz17_1 := cellS130_1 HGz17
    have hcz17_2 := cellS130_2 HGz17
    have hfz17_0 := blk_frozen HGz17 0
    have hfz17_1 := blk_frozen HGz17 1
    have hfz17_2 := blk_frozen HGz17 2
    clear HGz17 hgz17
    go_wp2
    go_ret
    exact ⟨z8_, z25_ HI0.out NB0_1001.out, z20_ HB.out HI0.out GE1001.out, z15_ HK.out GW1001.out⟩
   ·replace c16 := Bool.eq_false_iff.mpr c16
    subst c16
    have H1 : (some (t998, s0_0, t999, s0_2)) = some (r1, r2, r3, r4) := by rw [if_neg (show ¬ (false = true) by decide)] at H; exact H
    clear H
    have H := H1
    clear H1
    simp only [Option.some.injEq, Prod.mk.injEq] at H
    obtain ⟨rfl, rfl, rfl, rfl⟩ := H
    have hnb18 := NB1001_0.out
    have hnc18 := NB0_1001.out
    have ⟨hcz19_0, hcz19_1, hcz19_2, hfz19_0, hfz19_1, hfz19_2⟩ := cz3_ BK1001.out
    obtain ⟨HGz20, hgz20⟩ := HI0.out
    have hcz20_0 := cellS130_0 HGz20
    have hcz20_1 := cellS130_1 HGz20
    have hcz20_2 := cellS130_2 HGz20
    have hfz20_0 := blk_frozen HGz20 0
    have hfz20_1 := blk_frozen HGz20 1
    have hfz20_2 := blk_frozen HGz20 2
    clear HGz20 hgz20
    go_wp2
    go_ret
    exact ⟨z8_, z25_ HI0.out NB0_1001.out, z20_ HB.out HI0.out GE1001.out, z15_ HK.out GW1001.out⟩


/-! ### spec_l02Node: function 166 -/
def spec_l02Node.f (a0 : Int) : Option (Bool) := (spec_l02Is.f a0 1 5).bind fun t103 => (some t103)
set_option maxHeartbeats 8000000 in
set_option maxRecDepth 100000 in
theorem spec_l02Node.calls (a0 : Int) (r : Bool) (w : World) (h : spec_l02Node.f a0 = some r) :
  Calls Try.prog 166 #[.int .i64 a0] w fun e w' => e = .returned (.bool r) ∧ Drawn0 w w' := by
 have H : ((spec_l02Is.f a0 1 5).bind fun t103 => (some t103)) = some r := h
 clear h
 replace H := Option.bind_eq_some_iff.mp H
 obtain ⟨t103, A20, H⟩ := H
 replace H : (some t103) = some r := H
 have A2 := Aside0.mk A20
 clear A20
 obtain rfl := Option.some.inj H
 go_enter Try.func166, Try.ntmps166
 go_wp2_with (first | ((with_reducible refine gate_callee (f := 167) rfl ?_); refine goesL_ (some 4) rfl rfl Try.func167 (by kernel_rfl) rfl #[.int .i64 a0, .int .i64 1, .int .i64 5] rfl (z0_) ?_; (with_reducible refine (spec_l02Is.calls a0 1 5 t103 _ A2.out).mono ?_); rintro e w' ⟨rfl, ⟨nd, rfl⟩⟩; refine ⟨_, rfl, ?_⟩))
 go_ret
 exact ⟨z2_, z13_⟩


/-! ### spec_l02Dot: function 99 -/
def spec_l02Dot.f (a0_0 : Int) (a0_1 : Int) : Option (Bool) := (spec_l02Node.f a0_0).bind fun t105 => (if t105 = true then ((spec_l02Is.f a0_1 1 1000000).bind fun t106 => (some t106)) else (some false))
set_option maxHeartbeats 8000000 in
set_option maxRecDepth 100000 in
theorem spec_l02Dot.calls (a0_0 : Int) (a0_1 : Int) (r : Bool) (w : World) (h : spec_l02Dot.f a0_0 a0_1 = some r) :
  Calls Try.prog 99 #[.agg #[.int .i64 a0_0, .int .i64 a0_1]] w fun e w' => e = .returned (.bool r) ∧ Below w.heap.size w w' := by
 have hu33 := Try.underlying33
 have HB := Aside0.mk (Below.refl w.heap.size w)
 have H : ((spec_l02Node.f a0_0).bind fun t105 => (if t105 = true then ((spec_l02Is.f a0_1 1 1000000).bind fun t106 => (some t106)) else (some false))) = some r := h
 clear h
 replace H := Option.bind_eq_some_iff.mp H
 obtain ⟨t105, A20, H⟩ := H
 replace H : (if t105 = true then ((spec_l02Is.f a0_1 1 1000000).bind fun t106 => (some t106)) else (some false)) = some r := H
 have A2 := Aside0.mk A20
 clear A20
 by_cases c3 : t105 = true
 ·subst c3
  have H1 : ((spec_l02Is.f a0_1 1 1000000).bind fun t106 => (some t106)) = some r := by rw [if_pos rfl] at H; exact H
  clear H
  have H := H1
  clear H1
  replace H := Option.bind_eq_some_iff.mp H
  obtain ⟨t106, A40, H⟩ := H
  replace H : (some t106) = some r := H
  have A4 := Aside0.mk A40
  clear A40
  obtain rfl := Option.some.inj H
  go_enter Try.func99, Try.ntmps99
  go_wp2_with (first | ((with_reducible refine gate_dst (N := 1) rfl ?_); refine box_event ?hg (N := 1) ?hd (cs := #[.int .i64 a0_0, .int .i64 a0_1]) (t := 33) ?hr ?_; (case hd => rfl); (case hg => rfl); (case hr => first | (go_simp; done) | (go_simp; rfl)); intro gb104 hg w5 hbox hb; have n_ := as4_ (below_step (z5_ HB.out) hb) (hbox) ((z7_ HB.out : w.heap.size ≤ gb104)) ((z7_ HB.out : w.heap.size ≤ gb104)); clear HB; have ⟨HB, BK104, GW104, GE104⟩ := n_; clear n_; clear hb hbox hg; have hcz6_0 : w5.cell? ⟨gb104, 0, none⟩ = some (.int .i64 a0_0) := (blk_cell BK104.out 0).trans rfl; have hcz6_1 : w5.cell? ⟨gb104, 1, none⟩ = some (.int .i64 a0_1) := (blk_cell BK104.out 1).trans rfl; have hfz6_0 := blk_frozen BK104.out 0; have hfz6_1 := blk_frozen BK104.out 1) | ((with_reducible refine gate_callee (f := 166) rfl ?_); refine goesL_ (some 5) rfl rfl Try.func166 (by kernel_rfl) rfl #[.int .i64 a0_0] rfl (z0_) ?_; (with_reducible refine (spec_l02Node.calls a0_0 true _ A2.out).mono ?_); rintro e w' ⟨rfl, ⟨nd, rfl⟩⟩; refine ⟨_, rfl, ?_⟩) | (go_at_call 167; (with_reducible refine (spec_l02Is.calls a0_1 1 1000000 t106 _ A4.out).mono ?_); rintro e w' ⟨rfl, ⟨nd, rfl⟩⟩))
  go_ret
  exact ⟨z8_, z1_ HB.out GE104.out⟩
 ·replace c3 := Bool.eq_false_iff.mpr c3
  subst c3
  have H1 : (some false) = some r := by rw [if_neg (show ¬ (false = true) by decide)] at H; exact H
  clear H
  have H := H1
  clear H1
  obtain rfl := Option.some.inj H
  go_enter Try.func99, Try.ntmps99
  go_wp2_with (first | ((with_reducible refine gate_dst (N := 1) rfl ?_); refine box_event ?hg (N := 1) ?hd (cs := #[.int .i64 a0_0, .int .i64 a0_1]) (t := 33) ?hr ?_; (case hd => rfl); (case hg => rfl); (case hr => first | (go_simp; done) | (go_simp; rfl)); intro gb104 hg w7 hbox hb; have n_ := as4_ (below_step (z5_ HB.out) hb) (hbox) ((z7_ HB.out : w.heap.size ≤ gb104)) ((z7_ HB.out : w.heap.size ≤ gb104)); clear HB; have ⟨HB, BK104, GW104, GE104⟩ := n_; clear n_; clear hb hbox hg; have hcz8_0 : w7.cell? ⟨gb104, 0, none⟩ = some (.int .i64 a0_0) := (blk_cell BK104.out 0).trans rfl; have hcz8_1 : w7.cell? ⟨gb104, 1, none⟩ = some (.int .i64 a0_1) := (blk_cell BK104.out 1).trans rfl; have hfz8_0 := blk_frozen BK104.out 0; have hfz8_1 := blk_frozen BK104.out 1) | ((with_reducible refine gate_callee (f := 166) rfl ?_); refine goesL_ (some 5) rfl rfl Try.func166 (by kernel_rfl) rfl #[.int .i64 a0_0] rfl (z0_) ?_; (with_reducible refine (spec_l02Node.calls a0_0 false _ A2.out).mono ?_); rintro e w' ⟨rfl, ⟨nd, rfl⟩⟩; refine ⟨_, rfl, ?_⟩))
  go_ret
  exact ⟨z8_, z1_ HB.out GE104.out⟩


/-! ### spec_SeenRight: function 38 -/
mutual
def spec_SeenRight.l0 : Nat → List (S33) → Int → Option (Bool)
 | 0, _, _ => none
 | k + 1, x0, x3 => if x3 < (x0.length : Int) then (spec_SeenRight.j1 k x0 x3 (decide (x3 ≤ 5))) else (spec_SeenRight.j1 k x0 x3 false)
def spec_SeenRight.j1 : Nat → List (S33) → Int → Bool → Option (Bool)
 | 0, _, _, _ => none
 | k + 1, x0, x3, x11 => if x11 = true then (if 0 ≤ x3 then (if x3 < (x0.length : Int) then ((spec_l02Dot.f ((rd_T33 x0 x3).f0) ((rd_T33 x0 x3).f1)).bind fun t108 => (if t108 = true then (if x3 > 0 then (if 0 ≤ (wrap64 (x3 - 1)) then (if (wrap64 (x3 - 1)) < (x0.length : Int) then (if ((rd_T33 x0 (wrap64 (x3 - 1))).f0) ≥ ((rd_T33 x0 x3).f0) then (some false) else (spec_SeenRight.l0 k x0 (wrap64 (x3 + 1)))) else (none)) else (none)) else (spec_SeenRight.l0 k x0 (wrap64 (x3 + 1)))) else (some false))) else (none)) else (none)) else (some (decide ((x0.length : Int) ≤ 5)))
end
def spec_SeenRight.f (k : Nat) (l0 : List (S33)) : Option (Bool) := spec_SeenRight.l0 k l0 0
theorem spec_SeenRight.mono_l : ∀ k, (∀ y0 y1, LeO (spec_SeenRight.l0 k y0 y1) (spec_SeenRight.l0 (k + 1) y0 y1)) ∧ (∀ y0 y1 y2, LeO (spec_SeenRight.j1 k y0 y1 y2) (spec_SeenRight.j1 (k + 1) y0 y1 y2))
 | 0 => ⟨fun _ _ r h => by simp [spec_SeenRight.l0] at h, fun _ _ _ r h => by simp [spec_SeenRight.j1] at h⟩
 | k + 1 => by
  obtain ⟨ih0, ih1⟩ := spec_SeenRight.mono_l k
  refine ⟨?_, ?_⟩
  ·intro y0 y1
   unfold spec_SeenRight.l0
   repeat' first
   | (with_reducible exact ih0 _ _)
   | (with_reducible exact ih1 _ _ _)
   | (with_reducible exact LeO.refl _)
   | (with_reducible exact LeO.none _)
   | (with_reducible refine LeO.ite ?_ ?_)
   | (with_reducible refine LeO.bind ?_ (fun _ => ?_))
   | exact ih0 _ _
   | exact ih1 _ _ _
   | exact LeO.none _
   | refine LeO.ite ?_ ?_
   | refine LeO.bind ?_ (fun _ => ?_)
  ·intro y0 y1 y2
   unfold spec_SeenRight.j1
   repeat' first
   | (with_reducible exact ih0 _ _)
   | (with_reducible exact ih1 _ _ _)
   | (with_reducible exact LeO.refl _)
   | (with_reducible exact LeO.none _)
   | (with_reducible refine LeO.ite ?_ ?_)
   | (with_reducible refine LeO.bind ?_ (fun _ => ?_))
   | exact ih0 _ _
   | exact ih1 _ _ _
   | exact LeO.none _
   | refine LeO.ite ?_ ?_
   | refine LeO.bind ?_ (fun _ => ?_)
theorem spec_SeenRight.mono : ∀ a0 k, LeO (spec_SeenRight.f k a0) (spec_SeenRight.f (k + 1) a0) := by
 intro a0 k
 obtain ⟨ih0, ih1⟩ := spec_SeenRight.mono_l k
 unfold spec_SeenRight.f
 repeat' first
   | (with_reducible exact ih0 _ _)
   | (with_reducible exact ih1 _ _ _)
   | (with_reducible exact LeO.refl _)
   | (with_reducible exact LeO.none _)
   | (with_reducible refine LeO.ite ?_ ?_)
   | (with_reducible refine LeO.bind ?_ (fun _ => ?_))
   | exact ih0 _ _
   | exact ih1 _ _ _
   | exact LeO.none _
   | refine LeO.ite ?_ ?_
   | refine LeO.bind ?_ (fun _ => ?_)
def spec_SeenRight.T4 : Bool × List (List Nat × List Nat) := (true, [([], []), ([], []), ([0, 1], [0, 1]), ([2], [2]), ([3], [3]), ([4], [4]), ([5, 4], [5]), ([6], [6]), ([7, 6], [6, 7]), ([8, 6, 6], [6, 8]), ([9], [9]), ([9], [9]), ([11, 9], [9, 11]), ([10, 12, 9], [9, 10, 12]), ([13, 9], [9, 13]), ([14, 9], [9, 14]), ([9], [9]), ([9], [9]), ([16, 17, 9], [9, 16, 17]), ([18, 9], [9, 18]), ([19, 9], [9, 19]), ([15, 20, 9], [9, 15, 20]), ([9, 21, 6], [6, 9, 21]), ([6, 22], [6, 22])])
def spec_SeenRight.B4 : List Nat := [0, 0, 3, 7, 15, 31, 63, 127, 255, 511, 1023, 1023, 3071, 8191, 16383, 32767, 1023, 1023, 197631, 459775, 984063, 2097151, 4194303, 8388607]
theorem spec_SeenRight.tab4 : rtab .any (opsOf Try.f38 4) = spec_SeenRight.T4 := by kernel_rfl
theorem spec_SeenRight.bits4 : waitsOk spec_SeenRight.T4.2 spec_SeenRight.B4 = true := by kernel_rfl
abbrev spec_SeenRight.q0 : Array Bool := #[false, false, false, false, false, false, false, false, false, false, false, false, false, false, false, false, false, false, false, false, false, false, false, false]
abbrev spec_SeenRight.q1 : Array Bool := #[true, false, false, false, false, false, false, false, false, false, false, false, false, false, false, false, false, false, false, false, false, false, false, false]
abbrev spec_SeenRight.q2 : Array Bool := #[true, true, false, false, false, false, false, false, false, false, false, false, false, false, false, false, false, false, false, false, false, false, false, false]
abbrev spec_SeenRight.q3 : Array Bool := #[true, true, true, false, false, false, false, false, false, false, false, false, false, false, false, false, false, false, false, false, false, false, false, false]
abbrev spec_SeenRight.q4 : Array Bool := #[true, true, true, true, false, false, false, false, false, false, false, false, false, false, false, false, false, false, false, false, false, false, false, false]
abbrev spec_SeenRight.q5 : Array Bool := #[true, true, true, true, true, false, false, false, false, false, false, false, false, false, false, false, false, false, false, false, false, false, false, false]
abbrev spec_SeenRight.q6 : Array Bool := #[true, true, true, true, true, true, false, false, false, false, false, false, false, false, false, false, false, false, false, false, false, false, false, false]
abbrev spec_SeenRight.q7 : Array Bool := #[true, true, true, true, true, true, true, false, false, false, false, false, false, false, false, false, false, false, false, false, false, false, false, false]
abbrev spec_SeenRight.q8 : Array Bool := #[true, true, true, true, true, true, true, true, false, false, false, false, false, false, false, false, false, false, false, false, false, false, false, false]
abbrev spec_SeenRight.q9 : Array Bool := #[true, true, true, true, true, true, true, true, true, false, false, false, false, false, false, false, false, false, false, false, false, false, false, false]
abbrev spec_SeenRight.q10 : Array Bool := #[true, true, true, true, true, true, true, true, true, true, false, false, false, false, false, false, false, false, false, false, false, false, false, false]
abbrev spec_SeenRight.q11 : Array Bool := #[true, true, true, true, true, true, true, true, true, true, true, false, false, false, false, false, false, false, false, false, false, false, false, false]
abbrev spec_SeenRight.q12 : Array Bool := #[true, true, true, true, true, true, true, true, true, true, true, true, false, false, false, false, false, false, false, false, false, false, false, false]
abbrev spec_SeenRight.q13 : Array Bool := #[true, true, true, true, true, true, true, true, true, true, true, true, true, false, false, false, false, false, false, false, false, false, false, false]
abbrev spec_SeenRight.q14 : Array Bool := #[true, true, true, true, true, true, true, true, true, true, true, true, true, true, false, false, false, false, false, false, false, false, false, false]
abbrev spec_SeenRight.q15 : Array Bool := #[true, true, true, true, true, true, true, true, true, true, true, true, true, true, true, false, false, false, false, false, false, false, false, false]
abbrev spec_SeenRight.q16 : Array Bool := #[true, true, true, true, true, true, true, true, true, true, true, true, true, true, true, false, true, false, false, false, false, false, false, false]
abbrev spec_SeenRight.q17 : Array Bool := #[true, true, true, true, true, true, true, true, true, true, true, true, true, true, true, false, true, true, false, false, false, false, false, false]
abbrev spec_SeenRight.q18 : Array Bool := #[true, true, true, true, true, true, true, true, true, true, true, true, true, true, true, false, true, true, true, false, false, false, false, false]
abbrev spec_SeenRight.q19 : Array Bool := #[true, true, true, true, true, true, true, true, true, true, true, true, true, true, true, false, true, true, true, true, false, false, false, false]
abbrev spec_SeenRight.q20 : Array Bool := #[true, true, true, true, true, true, true, true, true, true, true, true, true, true, true, true, true, true, true, true, false, false, false, false]
abbrev spec_SeenRight.q21 : Array Bool := #[true, true, true, true, true, true, true, true, true, true, true, true, true, true, true, true, true, true, true, true, true, false, false, false]
abbrev spec_SeenRight.q22 : Array Bool := #[true, true, true, true, true, true, true, true, true, true, true, true, true, true, true, true, true, true, true, true, true, true, false, false]
abbrev spec_SeenRight.q23 : Array Bool := #[true, true, true, true, true, true, true, true, true, true, true, true, true, true, true, true, true, true, true, true, true, true, true, false]
abbrev spec_SeenRight.q24 : Array Bool := #[true, true, true, true, true, true, true, true, true, true, true, true, true, true, true, true, true, true, true, true, true, true, true, true]
abbrev spec_SeenRight.q25 : Array Bool := #[true, true, true, true, true, true, true, true, true, true, true, true, true, true, true, true, false, false, false, false, false, false, false, false]
abbrev spec_SeenRight.q26 : Array Bool := #[true, true, true, true, true, true, true, true, true, true, true, true, true, true, true, true, true, false, false, false, false, false, false, false]
abbrev spec_SeenRight.q27 : Array Bool := #[true, true, true, true, true, true, true, true, true, true, true, true, true, true, true, true, true, true, false, false, false, false, false, false]
abbrev spec_SeenRight.q28 : Array Bool := #[true, true, true, true, true, true, true, true, true, true, true, true, true, true, true, true, true, true, true, false, false, false, false, false]
set_option maxHeartbeats 8000000 in
set_option maxRecDepth 100000 in
theorem spec_SeenRight.calls (k : Nat) (A0 : Option Addr) (c0 : Nat) (l0 : List (S33)) (r : Bool) (w : World) (hr0 : Kd.C k33 w A0 l0.length l0) (hc0 : l0.length ≤ c0) (h : spec_SeenRight.f k l0 = some r) :
  Calls Try.prog 38 #[.slice A0 l0.length c0] w fun e w' => e = .returned (.bool r) ∧ Below w.heap.size w w' := by
 have hu33 := Try.underlying33
 have HR0 := Aside0.mk hr0
 have HC0 := Aside0.mk hc0
 clear hr0 hc0
 have HB := Aside0.mk (Below.refl w.heap.size w)
 have H : (spec_SeenRight.l0 k l0 0) = some r := h
 clear h
 have H' := Aside0.mk H
 clear H
 go_enter Try.func38, Try.ntmps38
 go_wp2
 go_loopg [3] k (fun kq v3 w' => ∃ (x3_1 : Int), v3 = .int .i64 x3_1 ∧ Aside0 (spec_SeenRight.l0 kq l0 x3_1 = some r) ∧ Aside0 (kq ≤ k) ∧ Aside0 (Below w.heap.size w w'))
 case atStart => exact ⟨(0), (z2_), H', ⟨Nat.le_refl _⟩, ⟨z5_ HB.out⟩⟩
 case round =>
  clear H'
  obtain ⟨x3_1, rfl, HA, HK1, HB⟩ := hrel
  cases gk with
  | zero => exact absurd HA.out (by simp [spec_SeenRight.l0])
  | succ k1 =>
   have H := HA.out
   clear HA
   simp only [spec_SeenRight.l0] at H
   have HC2 := Aside0.mk H
   clear H
   go_upto_region 2 with (fail)
   go_cut [11] (fun v11 wc => ∃ (kq : Nat) (x11_1 : Bool), v11 = .bool x11_1 ∧ Aside0 (spec_SeenRight.j1 kq l0 x3_1 x11_1 = some r) ∧ Aside0 (kq ≤ k1) ∧ Aside0 (Below w.heap.size w wc))
   case first =>
    have H := HC2.out
    clear HC2
    by_cases c3 : x3_1 < (l0.length : Int)
    ·rw [if_pos c3] at H
     have c3b0 : decide (x3_1 < (l0.length : Int)) = true := decide_eq_true c3
     clear c3
     (first | rw [c3b0] | (simp only [i64_w, i32_w]; rw [c3b0]) | skip)
     have H' := Aside0.mk H
     clear H
     go_wp2
     go_meet
     case rel => exact ⟨_, (decide (x3_1 ≤ 5)), (z2_), H', ⟨z26_ HK1.out⟩, ⟨z5_ HB.out⟩⟩
    ·rw [if_neg c3] at H
     have c3b0 : decide (x3_1 < (l0.length : Int)) = false := decide_eq_false c3
     clear c3
     (first | rw [c3b0] | (simp only [i64_w, i32_w]; rw [c3b0]) | skip)
     have H' := Aside0.mk H
     clear H
     go_wp2
     go_meet
     case rel => exact ⟨_, (false), (z2_), H', ⟨z26_ HK1.out⟩, ⟨z5_ HB.out⟩⟩
   case rest =>
    clear HC2
    try clear p2
    try clear c3
    try clear c3b0
    obtain ⟨kq, x11_1, rfl, HA, HJ1, HB⟩ := hcut
    cases kq with
    | zero => exact absurd HA.out (by simp [spec_SeenRight.j1])
    | succ kj1 =>
     have H := HA.out
     clear HA
     simp only [spec_SeenRight.j1] at H
     by_cases c4 : x11_1 = true
     ·subst c4
      have H1 : (if 0 ≤ x3_1 then (if x3_1 < (l0.length : Int) then ((spec_l02Dot.f ((rd_T33 l0 x3_1).f0) ((rd_T33 l0 x3_1).f1)).bind fun t108 => (if t108 = true then (if x3_1 > 0 then (if 0 ≤ (wrap64 (x3_1 - 1)) then (if (wrap64 (x3_1 - 1)) < (l0.length : Int) then (if ((rd_T33 l0 (wrap64 (x3_1 - 1))).f0) ≥ ((rd_T33 l0 x3_1).f0) then (some false) else (spec_SeenRight.l0 kj1 l0 (wrap64 (x3_1 + 1)))) else (none)) else (none)) else (spec_SeenRight.l0 kj1 l0 (wrap64 (x3_1 + 1)))) else (some false))) else (none)) else (none)) = some r := by rw [if_pos rfl] at H; exact H
      clear H
      have H := H1
      clear H1
      by_cases c5 : 0 ≤ x3_1
      ·rw [if_pos c5] at H
       have c5b0 : decide (0 ≤ x3_1) = true := decide_eq_true c5
       clear c5
       by_cases c6 : x3_1 < (l0.length : Int)
       ·rw [if_pos c6] at H
        have c6b0 : decide (x3_1 < (l0.length : Int)) = true := decide_eq_true c6
        clear c6
        replace H := Option.bind_eq_some_iff.mp H
        obtain ⟨t108, A70, H⟩ := H
        replace H : (if t108 = true then (if x3_1 > 0 then (if 0 ≤ (wrap64 (x3_1 - 1)) then (if (wrap64 (x3_1 - 1)) < (l0.length : Int) then (if ((rd_T33 l0 (wrap64 (x3_1 - 1))).f0) ≥ ((rd_T33 l0 x3_1).f0) then (some false) else (spec_SeenRight.l0 kj1 l0 (wrap64 (x3_1 + 1)))) else (none)) else (none)) else (spec_SeenRight.l0 kj1 l0 (wrap64 (x3_1 + 1)))) else (some false)) = some r := H
        have A7 := Aside0.mk A70
        clear A70
        by_cases c8 : t108 = true
        ·subst c8
         have H1 : (if x3_1 > 0 then (if 0 ≤ (wrap64 (x3_1 - 1)) then (if (wrap64 (x3_1 - 1)) < (l0.length : Int) then (if ((rd_T33 l0 (wrap64 (x3_1 - 1))).f0) ≥ ((rd_T33 l0 x3_1).f0) then (some false) else (spec_SeenRight.l0 kj1 l0 (wrap64 (x3_1 + 1)))) else (none)) else (none)) else (spec_SeenRight.l0 kj1 l0 (wrap64 (x3_1 + 1)))) = some r := by rw [if_pos rfl] at H; exact H
         clear H
         have H := H1
         clear H1
         by_cases c9 : x3_1 > 0
         ·rw [if_pos c9] at H
          have c9b0 : decide (0 < x3_1) = true := decide_eq_true c9
          clear c9
          obtain ⟨ji10, hji10⟩ : ∃ j_ : Int, (wrap64 (x3_1 - 1)) = j_ := ⟨_, rfl⟩
          replace H : (if 0 ≤ (ji10) then (if (ji10) < (l0.length : Int) then (if ((rd_T33 l0 (ji10)).f0) ≥ ((rd_T33 l0 x3_1).f0) then (some false) else (spec_SeenRight.l0 kj1 l0 (wrap64 (x3_1 + 1)))) else (none)) else (none)) = some r := by first | (rw [hji10] at H; exact H) | (simp only [hji10] at H ⊢; exact H)
          (try rw [hji10] at A7)
          have hji10w : (IntKind.i64.wrap (x3_1 - 1)) = ji10 := (i64_w _).trans hji10
          by_cases c11 : 0 ≤ (ji10)
          ·rw [if_pos c11] at H
           have c11b0 : decide (0 ≤ (ji10)) = true := decide_eq_true c11
           clear c11
           by_cases c12 : (ji10) < (l0.length : Int)
           ·rw [if_pos c12] at H
            have c12b0 : decide ((ji10) < (l0.length : Int)) = true := decide_eq_true c12
            clear c12
            by_cases c13 : ((rd_T33 l0 (ji10)).f0) ≥ ((rd_T33 l0 x3_1).f0)
            ·rw [if_pos c13] at H
             have c13b0 : decide (((rd_T33 l0 x3_1).f0) ≤ ((rd_T33 l0 (ji10)).f0)) = true := decide_eq_true c13
             clear c13
             obtain rfl := Option.some.inj H
             try go_wp2
             have n0_ := Aside0.mk (below_drew1 HB.out)
             clear HB
             have HB := n0_
             clear n0_
             have p107 : 0 ≤ (x3_1 : Int) := of_decide_eq_true (z3_)
             have q107 : x3_1 < (l0.length : Int) := of_decide_eq_true (z3_)
             obtain ⟨ad107, e107, hx107_0, hx107_1⟩ := at_T33 HR0.out x3_1 p107 q107
             have hw107_1 := hx107_1
             have hw107_0 := hx107_0
             cases e107
             replace hx107_0 := (HB.out.cell (World.block_lt_of_cell? w _ hx107_0)).trans hx107_0
             replace hx107_1 := (HB.out.cell (World.block_lt_of_cell? w _ hx107_1)).trans hx107_1
             replace p107 := eq_true p107
             replace q107 := eq_true q107
             have p109 : 0 ≤ ((ji10) : Int) := of_decide_eq_true (z3_)
             have q109 : (ji10) < (l0.length : Int) := of_decide_eq_true (z3_)
             obtain ⟨ad109, e109, hx109_0, hx109_1⟩ := at_T33 HR0.out (ji10) p109 q109
             have hw109_1 := hx109_1
             have hw109_0 := hx109_0
             obtain rfl : ad107 = ad109 := (by injection e109)
             replace hx109_0 := (HB.out.cell (World.block_lt_of_cell? w _ hx109_0)).trans hx109_0
             replace hx109_1 := (HB.out.cell (World.block_lt_of_cell? w _ hx109_1)).trans hx109_1
             replace p109 := eq_true p109
             replace q109 := eq_true q109
             have p110 : 0 ≤ (x3_1 : Int) := of_decide_eq_true (z3_)
             have q110 : x3_1 < (l0.length : Int) := of_decide_eq_true (z3_)
             obtain ⟨ad110, e110, hx110_0, hx110_1⟩ := at_T33 HR0.out x3_1 p110 q110
             have hw110_1 := hx110_1
             have hw110_0 := hx110_0
             obtain rfl : ad107 = ad110 := (by injection e110)
             replace hx110_0 := (HB.out.cell (World.block_lt_of_cell? w _ hx110_0)).trans hx110_0
             replace hx110_1 := (HB.out.cell (World.block_lt_of_cell? w _ hx110_1)).trans hx110_1
             replace p110 := eq_true p110
             replace q110 := eq_true q110
             refine start_ (n := 24) (S := fun w' => w'.cell? (ad107.add ((x3_1).toNat * 2)) = some (.int .i64 ((rd_T33 l0 x3_1).f0)) ∧ w'.cell? ⟨(ad107.add ((x3_1).toNat * 2)).block, (ad107.add ((x3_1).toNat * 2)).off + 1, none⟩ = some (.int .i64 ((rd_T33 l0 x3_1).f1)) ∧ w'.cell? (ad107.add (((ji10)).toNat * 2)) = some (.int .i64 ((rd_T33 l0 (ji10)).f0)) ∧ w'.cell? ⟨(ad107.add (((ji10)).toNat * 2)).block, (ad107.add (((ji10)).toNat * 2)).off + 1, none⟩ = some (.int .i64 ((rd_T33 l0 (ji10)).f1)) ∧ w'.cell? (ad107.add ((x3_1).toNat * 2)) = some (.int .i64 ((rd_T33 l0 x3_1).f0)) ∧ w'.cell? ⟨(ad107.add ((x3_1).toNat * 2)).block, (ad107.add ((x3_1).toNat * 2)).off + 1, none⟩ = some (.int .i64 ((rd_T33 l0 x3_1).f1))) (ds := []) spec_SeenRight.q0 (by kernel_rfl) rfl rfl ⟨((HB.out.cell (World.block_lt_of_cell? w _ hw107_0)).trans hw107_0), ((HB.out.cell (World.block_lt_of_cell? w _ hw107_1)).trans hw107_1), ((HB.out.cell (World.block_lt_of_cell? w _ hw109_0)).trans hw109_0), ((HB.out.cell (World.block_lt_of_cell? w _ hw109_1)).trans hw109_1), ((HB.out.cell (World.block_lt_of_cell? w _ hw110_0)).trans hw110_0), ((HB.out.cell (World.block_lt_of_cell? w _ hw110_1)).trans hw110_1)⟩ (fun hHeld => ?_); refine with_tabW spec_SeenRight.tab4 spec_SeenRight.bits4 (fun HT_ HW_ => ?_)
             generalize wc.drew = w14 at HB hx107_0 hx107_1 hx109_0 hx109_1 hx110_0 hx110_1 hHeld ⊢
             refine pu_ 0 14 spec_SeenRight.q1 HT_.out ?_
             refine pu_ 1 15 spec_SeenRight.q2 HT_.out ?_
             refine pu_ 2 16 spec_SeenRight.q3 HT_.out ?_
             refine tk6_ 3 17 spec_SeenRight.q4 HT_.out HW_.out hHeld ?_
             refine one_ (i := 4) (N := some 18) spec_SeenRight.q5 rfl rfl (one_of HT_.out (by kernel_rfl)) (by decide) (fun K hK => ?_)
             refine goes_ Try.func99 (by kernel_rfl) rfl #[.agg #[.int .i64 ((rd_T33 l0 x3_1).f0), .int .i64 ((rd_T33 l0 x3_1).f1)]] (by rfl) rfl rfl (z0_) ?_
             with_reducible refine (spec_l02Dot.calls ((rd_T33 l0 x3_1).f0) ((rd_T33 l0 x3_1).f1) true _ A7.out).mono ?_
             rintro e w15 ⟨rfl, hb⟩
             refine ⟨_, rfl, ?_⟩
             have n0_ := Aside0.mk (below_step (z5_ HB.out) hb)
             clear HB
             have HB := n0_
             clear n0_
             (try clear hb)
             (try clear hb2)
             (try clear hk)
             (try clear hi)
             refine hK.out _ _ ⟨((HB.out.cell (World.block_lt_of_cell? w _ hw107_0)).trans hw107_0), ((HB.out.cell (World.block_lt_of_cell? w _ hw107_1)).trans hw107_1), ((HB.out.cell (World.block_lt_of_cell? w _ hw109_0)).trans hw109_0), ((HB.out.cell (World.block_lt_of_cell? w _ hw109_1)).trans hw109_1), ((HB.out.cell (World.block_lt_of_cell? w _ hw110_0)).trans hw110_0), ((HB.out.cell (World.block_lt_of_cell? w _ hw110_1)).trans hw110_1)⟩ (fun hHeld => ?_)
             clear hK K
             refine norm_ (a' := ?_) ?_ ?_
             rotate_left
             ·show Act.put _ (some 18) _ = _
              simp only [Act.put, sa_, s0_, ss_, i64_w, i32_w]
              rfl
             refine pu_ 5 19 spec_SeenRight.q6 HT_.out ?_
             refine pu_ 6 20 spec_SeenRight.q7 HT_.out ?_
             refine pu_ 7 21 spec_SeenRight.q8 HT_.out ?_
             refine pu_ 8 22 spec_SeenRight.q9 HT_.out ?_
             refine pu_ 9 23 spec_SeenRight.q10 HT_.out ?_
             refine pu_ 10 24 spec_SeenRight.q11 HT_.out ?_
             refine pu_ 11 25 spec_SeenRight.q12 HT_.out ?_
             refine pu_ 12 26 spec_SeenRight.q13 HT_.out ?_
             refine pu_ 13 27 spec_SeenRight.q14 HT_.out ?_
             refine pu_ 14 28 spec_SeenRight.q15 HT_.out ?_
             refine pu_ 16 30 spec_SeenRight.q16 HT_.out ?_
             refine pu_ 17 31 spec_SeenRight.q17 HT_.out ?_
             refine pu_ 18 32 spec_SeenRight.q18 HT_.out ?_
             refine pu_ 19 33 spec_SeenRight.q19 HT_.out ?_
             refine tk6_ 15 29 spec_SeenRight.q20 HT_.out HW_.out hHeld ?_
             refine tk6_ 20 34 spec_SeenRight.q21 HT_.out HW_.out hHeld ?_
             refine pu_ 21 35 spec_SeenRight.q22 HT_.out ?_
             refine pu_ 22 36 spec_SeenRight.q23 HT_.out ?_
             refine pu_ 23 37 spec_SeenRight.q24 HT_.out ?_
             refine done_ (done_of HT_.out (by kernel_rfl)) ?_
             try go_wp2
             go_ret
             exact ⟨by first | rfl | (simp [errW_none, errW_some] <;> rfl) | (simp only [← hji10]; first | rfl | (simp [errW_none, errW_some] <;> rfl)) | (simp [*, errW_none, errW_some] <;> rfl), z5_ HB.out⟩
            ·rw [if_neg c13] at H
             have c13b0 : decide (((rd_T33 l0 x3_1).f0) ≤ ((rd_T33 l0 (ji10)).f0)) = false := decide_eq_false c13
             clear c13
             have H' := Aside0.mk H
             clear H
             try go_wp2
             have n0_ := Aside0.mk (below_drew1 HB.out)
             clear HB
             have HB := n0_
             clear n0_
             have p107 : 0 ≤ (x3_1 : Int) := of_decide_eq_true (z3_)
             have q107 : x3_1 < (l0.length : Int) := of_decide_eq_true (z3_)
             obtain ⟨ad107, e107, hx107_0, hx107_1⟩ := at_T33 HR0.out x3_1 p107 q107
             have hw107_1 := hx107_1
             have hw107_0 := hx107_0
             cases e107
             replace hx107_0 := (HB.out.cell (World.block_lt_of_cell? w _ hx107_0)).trans hx107_0
             replace hx107_1 := (HB.out.cell (World.block_lt_of_cell? w _ hx107_1)).trans hx107_1
             replace p107 := eq_true p107
             replace q107 := eq_true q107
             have p109 : 0 ≤ ((ji10) : Int) := of_decide_eq_true (z3_)
             have q109 : (ji10) < (l0.length : Int) := of_decide_eq_true (z3_)
             obtain ⟨ad109, e109, hx109_0, hx109_1⟩ := at_T33 HR0.out (ji10) p109 q109
             have hw109_1 := hx109_1
             have hw109_0 := hx109_0
             obtain rfl : ad107 = ad109 := (by injection e109)
             replace hx109_0 := (HB.out.cell (World.block_lt_of_cell? w _ hx109_0)).trans hx109_0
             replace hx109_1 := (HB.out.cell (World.block_lt_of_cell? w _ hx109_1)).trans hx109_1
             replace p109 := eq_true p109
             replace q109 := eq_true q109
             have p110 : 0 ≤ (x3_1 : Int) := of_decide_eq_true (z3_)
             have q110 : x3_1 < (l0.length : Int) := of_decide_eq_true (z3_)
             obtain ⟨ad110, e110, hx110_0, hx110_1⟩ := at_T33 HR0.out x3_1 p110 q110
             have hw110_1 := hx110_1
             have hw110_0 := hx110_0
             obtain rfl : ad107 = ad110 := (by injection e110)
             replace hx110_0 := (HB.out.cell (World.block_lt_of_cell? w _ hx110_0)).trans hx110_0
             replace hx110_1 := (HB.out.cell (World.block_lt_of_cell? w _ hx110_1)).trans hx110_1
             replace p110 := eq_true p110
             replace q110 := eq_true q110
             refine start_ (n := 24) (S := fun w' => w'.cell? (ad107.add ((x3_1).toNat * 2)) = some (.int .i64 ((rd_T33 l0 x3_1).f0)) ∧ w'.cell? ⟨(ad107.add ((x3_1).toNat * 2)).block, (ad107.add ((x3_1).toNat * 2)).off + 1, none⟩ = some (.int .i64 ((rd_T33 l0 x3_1).f1)) ∧ w'.cell? (ad107.add (((ji10)).toNat * 2)) = some (.int .i64 ((rd_T33 l0 (ji10)).f0)) ∧ w'.cell? ⟨(ad107.add (((ji10)).toNat * 2)).block, (ad107.add (((ji10)).toNat * 2)).off + 1, none⟩ = some (.int .i64 ((rd_T33 l0 (ji10)).f1)) ∧ w'.cell? (ad107.add ((x3_1).toNat * 2)) = some (.int .i64 ((rd_T33 l0 x3_1).f0)) ∧ w'.cell? ⟨(ad107.add ((x3_1).toNat * 2)).block, (ad107.add ((x3_1).toNat * 2)).off + 1, none⟩ = some (.int .i64 ((rd_T33 l0 x3_1).f1))) (ds := []) spec_SeenRight.q0 (by kernel_rfl) rfl rfl ⟨((HB.out.cell (World.block_lt_of_cell? w _ hw107_0)).trans hw107_0), ((HB.out.cell (World.block_lt_of_cell? w _ hw107_1)).trans hw107_1), ((HB.out.cell (World.block_lt_of_cell? w _ hw109_0)).trans hw109_0), ((HB.out.cell (World.block_lt_of_cell? w _ hw109_1)).trans hw109_1), ((HB.out.cell (World.block_lt_of_cell? w _ hw110_0)).trans hw110_0), ((HB.out.cell (World.block_lt_of_cell? w _ hw110_1)).trans hw110_1)⟩ (fun hHeld => ?_); refine with_tabW spec_SeenRight.tab4 spec_SeenRight.bits4 (fun HT_ HW_ => ?_)
             generalize wc.drew = w16 at HB hx107_0 hx107_1 hx109_0 hx109_1 hx110_0 hx110_1 hHeld ⊢
             refine pu_ 0 14 spec_SeenRight.q1 HT_.out ?_
             refine pu_ 1 15 spec_SeenRight.q2 HT_.out ?_
             refine pu_ 2 16 spec_SeenRight.q3 HT_.out ?_
             refine tk6_ 3 17 spec_SeenRight.q4 HT_.out HW_.out hHeld ?_
             refine one_ (i := 4) (N := some 18) spec_SeenRight.q5 rfl rfl (one_of HT_.out (by kernel_rfl)) (by decide) (fun K hK => ?_)
             refine goes_ Try.func99 (by kernel_rfl) rfl #[.agg #[.int .i64 ((rd_T33 l0 x3_1).f0), .int .i64 ((rd_T33 l0 x3_1).f1)]] (by rfl) rfl rfl (z0_) ?_
             with_reducible refine (spec_l02Dot.calls ((rd_T33 l0 x3_1).f0) ((rd_T33 l0 x3_1).f1) true _ A7.out).mono ?_
             rintro e w17 ⟨rfl, hb⟩
             refine ⟨_, rfl, ?_⟩
             have n0_ := Aside0.mk (below_step (z5_ HB.out) hb)
             clear HB
             have HB := n0_
             clear n0_
             (try clear hb)
             (try clear hb2)
             (try clear hk)
             (try clear hi)
             refine hK.out _ _ ⟨((HB.out.cell (World.block_lt_of_cell? w _ hw107_0)).trans hw107_0), ((HB.out.cell (World.block_lt_of_cell? w _ hw107_1)).trans hw107_1), ((HB.out.cell (World.block_lt_of_cell? w _ hw109_0)).trans hw109_0), ((HB.out.cell (World.block_lt_of_cell? w _ hw109_1)).trans hw109_1), ((HB.out.cell (World.block_lt_of_cell? w _ hw110_0)).trans hw110_0), ((HB.out.cell (World.block_lt_of_cell? w _ hw110_1)).trans hw110_1)⟩ (fun hHeld => ?_)
             clear hK K
             refine norm_ (a' := ?_) ?_ ?_
             rotate_left
             ·show Act.put _ (some 18) _ = _
              simp only [Act.put, sa_, s0_, ss_, i64_w, i32_w]
              rfl
             refine pu_ 5 19 spec_SeenRight.q6 HT_.out ?_
             refine pu_ 6 20 spec_SeenRight.q7 HT_.out ?_
             refine pu_ 7 21 spec_SeenRight.q8 HT_.out ?_
             refine pu_ 8 22 spec_SeenRight.q9 HT_.out ?_
             refine pu_ 9 23 spec_SeenRight.q10 HT_.out ?_
             refine pu_ 10 24 spec_SeenRight.q11 HT_.out ?_
             refine pu_ 11 25 spec_SeenRight.q12 HT_.out ?_
             refine pu_ 12 26 spec_SeenRight.q13 HT_.out ?_
             refine pu_ 13 27 spec_SeenRight.q14 HT_.out ?_
             refine pu_ 14 28 spec_SeenRight.q15 HT_.out ?_
             refine pu_ 16 30 spec_SeenRight.q16 HT_.out ?_
             refine pu_ 17 31 spec_SeenRight.q17 HT_.out ?_
             refine pu_ 18 32 spec_SeenRight.q18 HT_.out ?_
             refine pu_ 19 33 spec_SeenRight.q19 HT_.out ?_
             refine tk6_ 15 29 spec_SeenRight.q20 HT_.out HW_.out hHeld ?_
             refine tk6_ 20 34 spec_SeenRight.q21 HT_.out HW_.out hHeld ?_
             refine pu_ 21 35 spec_SeenRight.q22 HT_.out ?_
             refine pu_ 22 36 spec_SeenRight.q23 HT_.out ?_
             refine pu_ 23 37 spec_SeenRight.q24 HT_.out ?_
             refine done_ (done_of HT_.out (by kernel_rfl)) ?_
             try go_wp2
             go_roundg kj1
             case measure => have := HK1.out; have := HJ1.out; omega
             case rel => exact ⟨(wrap64 (x3_1 + 1)), (z2_), H', ⟨by have := HK1.out; have := HJ1.out; omega⟩, ⟨z5_ HB.out⟩⟩
           ·rw [if_neg c12] at H
            exact absurd H (by simp)
          ·rw [if_neg c11] at H
           exact absurd H (by simp)
         ·rw [if_neg c9] at H
          have c9b0 : decide (0 < x3_1) = false := decide_eq_false c9
          clear c9
          have H' := Aside0.mk H
          clear H
          try go_wp2
          have n0_ := Aside0.mk (below_drew1 HB.out)
          clear HB
          have HB := n0_
          clear n0_
          have p107 : 0 ≤ (x3_1 : Int) := of_decide_eq_true (z3_)
          have q107 : x3_1 < (l0.length : Int) := of_decide_eq_true (z3_)
          obtain ⟨ad107, e107, hx107_0, hx107_1⟩ := at_T33 HR0.out x3_1 p107 q107
          have hw107_1 := hx107_1
          have hw107_0 := hx107_0
          cases e107
          replace hx107_0 := (HB.out.cell (World.block_lt_of_cell? w _ hx107_0)).trans hx107_0
          replace hx107_1 := (HB.out.cell (World.block_lt_of_cell? w _ hx107_1)).trans hx107_1
          replace p107 := eq_true p107
          replace q107 := eq_true q107
          refine start_ (n := 24) (S := fun w' => w'.cell? (ad107.add ((x3_1).toNat * 2)) = some (.int .i64 ((rd_T33 l0 x3_1).f0)) ∧ w'.cell? ⟨(ad107.add ((x3_1).toNat * 2)).block, (ad107.add ((x3_1).toNat * 2)).off + 1, none⟩ = some (.int .i64 ((rd_T33 l0 x3_1).f1))) (ds := []) spec_SeenRight.q0 (by kernel_rfl) rfl rfl ⟨((HB.out.cell (World.block_lt_of_cell? w _ hw107_0)).trans hw107_0), ((HB.out.cell (World.block_lt_of_cell? w _ hw107_1)).trans hw107_1)⟩ (fun hHeld => ?_); refine with_tabW spec_SeenRight.tab4 spec_SeenRight.bits4 (fun HT_ HW_ => ?_)
          generalize wc.drew = w18 at HB hx107_0 hx107_1 hHeld ⊢
          refine pu_ 0 14 spec_SeenRight.q1 HT_.out ?_
          refine pu_ 1 15 spec_SeenRight.q2 HT_.out ?_
          refine pu_ 2 16 spec_SeenRight.q3 HT_.out ?_
          refine tk2_ 3 17 spec_SeenRight.q4 HT_.out HW_.out hHeld ?_
          refine one_ (i := 4) (N := some 18) spec_SeenRight.q5 rfl rfl (one_of HT_.out (by kernel_rfl)) (by decide) (fun K hK => ?_)
          refine goes_ Try.func99 (by kernel_rfl) rfl #[.agg #[.int .i64 ((rd_T33 l0 x3_1).f0), .int .i64 ((rd_T33 l0 x3_1).f1)]] (by rfl) rfl rfl (z0_) ?_
          with_reducible refine (spec_l02Dot.calls ((rd_T33 l0 x3_1).f0) ((rd_T33 l0 x3_1).f1) true _ A7.out).mono ?_
          rintro e w19 ⟨rfl, hb⟩
          refine ⟨_, rfl, ?_⟩
          have n0_ := Aside0.mk (below_step (z5_ HB.out) hb)
          clear HB
          have HB := n0_
          clear n0_
          (try clear hb)
          (try clear hb2)
          (try clear hk)
          (try clear hi)
          refine hK.out _ _ ⟨((HB.out.cell (World.block_lt_of_cell? w _ hw107_0)).trans hw107_0), ((HB.out.cell (World.block_lt_of_cell? w _ hw107_1)).trans hw107_1)⟩ (fun hHeld => ?_)
          clear hK K
          refine norm_ (a' := ?_) ?_ ?_
          rotate_left
          ·show Act.put _ (some 18) _ = _
           simp only [Act.put, sa_, s0_, ss_, i64_w, i32_w]
           rfl
          refine pu_ 5 19 spec_SeenRight.q6 HT_.out ?_
          refine pu_ 6 20 spec_SeenRight.q7 HT_.out ?_
          refine pu_ 7 21 spec_SeenRight.q8 HT_.out ?_
          refine pu_ 8 22 spec_SeenRight.q9 HT_.out ?_
          refine pu_ 9 23 spec_SeenRight.q10 HT_.out ?_
          refine pn_ 10 24 spec_SeenRight.q11 HT_.out ?_
          refine pn_ 11 25 spec_SeenRight.q12 HT_.out ?_
          refine pn_ 12 26 spec_SeenRight.q13 HT_.out ?_
          refine pn_ 13 27 spec_SeenRight.q14 HT_.out ?_
          refine pn_ 14 28 spec_SeenRight.q15 HT_.out ?_
          refine pn_ 15 29 spec_SeenRight.q25 HT_.out ?_
          refine pn_ 16 30 spec_SeenRight.q26 HT_.out ?_
          refine pn_ 17 31 spec_SeenRight.q27 HT_.out ?_
          refine pn_ 18 32 spec_SeenRight.q28 HT_.out ?_
          refine pn_ 19 33 spec_SeenRight.q20 HT_.out ?_
          refine pn_ 20 34 spec_SeenRight.q21 HT_.out ?_
          refine pn_ 21 35 spec_SeenRight.q22 HT_.out ?_
          refine pu_ 22 36 spec_SeenRight.q23 HT_.out ?_
          refine pu_ 23 37 spec_SeenRight.q24 HT_.out ?_
          refine done_ (done_of HT_.out (by kernel_rfl)) ?_
          try go_wp2
          go_roundg kj1
          case measure => have := HK1.out; have := HJ1.out; omega
          case rel => exact ⟨(wrap64 (x3_1 + 1)), (z2_), H', ⟨by have := HK1.out; have := HJ1.out; omega⟩, ⟨z5_ HB.out⟩⟩
        ·replace c8 := Bool.eq_false_iff.mpr c8
         subst c8
         have H1 : (some false) = some r := by rw [if_neg (show ¬ (false = true) by decide)] at H; exact H
         clear H
         have H := H1
         clear H1
         obtain rfl := Option.some.inj H
         try go_wp2
         have n0_ := Aside0.mk (below_drew1 HB.out)
         clear HB
         have HB := n0_
         clear n0_
         have p107 : 0 ≤ (x3_1 : Int) := of_decide_eq_true (z3_)
         have q107 : x3_1 < (l0.length : Int) := of_decide_eq_true (z3_)
         obtain ⟨ad107, e107, hx107_0, hx107_1⟩ := at_T33 HR0.out x3_1 p107 q107
         have hw107_1 := hx107_1
         have hw107_0 := hx107_0
         cases e107
         replace hx107_0 := (HB.out.cell (World.block_lt_of_cell? w _ hx107_0)).trans hx107_0
         replace hx107_1 := (HB.out.cell (World.block_lt_of_cell? w _ hx107_1)).trans hx107_1
         replace p107 := eq_true p107
         replace q107 := eq_true q107
         refine start_ (n := 24) (S := fun w' => w'.cell? (ad107.add ((x3_1).toNat * 2)) = some (.int .i64 ((rd_T33 l0 x3_1).f0)) ∧ w'.cell? ⟨(ad107.add ((x3_1).toNat * 2)).block, (ad107.add ((x3_1).toNat * 2)).off + 1, none⟩ = some (.int .i64 ((rd_T33 l0 x3_1).f1))) (ds := []) spec_SeenRight.q0 (by kernel_rfl) rfl rfl ⟨((HB.out.cell (World.block_lt_of_cell? w _ hw107_0)).trans hw107_0), ((HB.out.cell (World.block_lt_of_cell? w _ hw107_1)).trans hw107_1)⟩ (fun hHeld => ?_); refine with_tabW spec_SeenRight.tab4 spec_SeenRight.bits4 (fun HT_ HW_ => ?_)
         generalize wc.drew = w20 at HB hx107_0 hx107_1 hHeld ⊢
         refine pu_ 0 14 spec_SeenRight.q1 HT_.out ?_
         refine pu_ 1 15 spec_SeenRight.q2 HT_.out ?_
         refine pu_ 2 16 spec_SeenRight.q3 HT_.out ?_
         refine tk2_ 3 17 spec_SeenRight.q4 HT_.out HW_.out hHeld ?_
         refine one_ (i := 4) (N := some 18) spec_SeenRight.q5 rfl rfl (one_of HT_.out (by kernel_rfl)) (by decide) (fun K hK => ?_)
         refine goes_ Try.func99 (by kernel_rfl) rfl #[.agg #[.int .i64 ((rd_T33 l0 x3_1).f0), .int .i64 ((rd_T33 l0 x3_1).f1)]] (by rfl) rfl rfl (z0_) ?_
         with_reducible refine (spec_l02Dot.calls ((rd_T33 l0 x3_1).f0) ((rd_T33 l0 x3_1).f1) false _ A7.out).mono ?_
         rintro e w21 ⟨rfl, hb⟩
         refine ⟨_, rfl, ?_⟩
         have n0_ := Aside0.mk (below_step (z5_ HB.out) hb)
         clear HB
         have HB := n0_
         clear n0_
         (try clear hb)
         (try clear hb2)
         (try clear hk)
         (try clear hi)
         refine hK.out _ _ ⟨((HB.out.cell (World.block_lt_of_cell? w _ hw107_0)).trans hw107_0), ((HB.out.cell (World.block_lt_of_cell? w _ hw107_1)).trans hw107_1)⟩ (fun hHeld => ?_)
         clear hK K
         refine norm_ (a' := ?_) ?_ ?_
         rotate_left
         ·show Act.put _ (some 18) _ = _
          simp only [Act.put, sa_, s0_, ss_, i64_w, i32_w]
          rfl
         refine pu_ 5 19 spec_SeenRight.q6 HT_.out ?_
         refine pu_ 6 20 spec_SeenRight.q7 HT_.out ?_
         refine pn_ 7 21 spec_SeenRight.q8 HT_.out ?_
         refine pn_ 8 22 spec_SeenRight.q9 HT_.out ?_
         refine pn_ 9 23 spec_SeenRight.q10 HT_.out ?_
         refine pn_ 10 24 spec_SeenRight.q11 HT_.out ?_
         refine pn_ 11 25 spec_SeenRight.q12 HT_.out ?_
         refine pn_ 12 26 spec_SeenRight.q13 HT_.out ?_
         refine pn_ 13 27 spec_SeenRight.q14 HT_.out ?_
         refine pn_ 14 28 spec_SeenRight.q15 HT_.out ?_
         refine pn_ 15 29 spec_SeenRight.q25 HT_.out ?_
         refine pn_ 16 30 spec_SeenRight.q26 HT_.out ?_
         refine pn_ 17 31 spec_SeenRight.q27 HT_.out ?_
         refine pn_ 18 32 spec_SeenRight.q28 HT_.out ?_
         refine pn_ 19 33 spec_SeenRight.q20 HT_.out ?_
         refine pn_ 20 34 spec_SeenRight.q21 HT_.out ?_
         refine pn_ 21 35 spec_SeenRight.q22 HT_.out ?_
         refine pn_ 22 36 spec_SeenRight.q23 HT_.out ?_
         refine pu_ 23 37 spec_SeenRight.q24 HT_.out ?_
         refine done_ (done_of HT_.out (by kernel_rfl)) ?_
         try go_wp2
         go_ret
         exact ⟨z8_, z5_ HB.out⟩
       ·rw [if_neg c6] at H
        exact absurd H (by simp)
      ·rw [if_neg c5] at H
       exact absurd H (by simp)
     ·replace c4 := Bool.eq_false_iff.mpr c4
      subst c4
      have H1 : (some (decide ((l0.length : Int) ≤ 5))) = some r := by rw [if_neg (show ¬ (false = true) by decide)] at H; exact H
      clear H
      have H := H1
      clear H1
      obtain rfl := Option.some.inj H
      go_wp2
      go_ret
      exact ⟨z8_, z5_ HB.out⟩


/-! ### spec_l02Of: function 98 -/
def spec_l02Of.l0 : Nat → List (S33) → Int → Int → Option (Int)
 | 0, _, _, _ => none
 | k + 1, x0, x1, x5 => if x5 < (x0.length : Int) then (if 0 ≤ x5 then (if ((rd_T33 x0 x5).f0) = x1 then (some ((rd_T33 x0 x5).f1)) else (spec_l02Of.l0 k x0 x1 (wrap64 (x5 + 1)))) else (none)) else (some 0)
def spec_l02Of.f (k : Nat) (l0 : List (S33)) (a1 : Int) : Option (Int) := spec_l02Of.l0 k l0 a1 0
theorem spec_l02Of.mono_l : ∀ k, (∀ y0 y1 y2, LeO (spec_l02Of.l0 k y0 y1 y2) (spec_l02Of.l0 (k + 1) y0 y1 y2))
 | 0 => fun _ _ _ r h => by simp [spec_l02Of.l0] at h
 | k + 1 => by
  have ih0 := spec_l02Of.mono_l k
  ·intro y0 y1 y2
   unfold spec_l02Of.l0
   repeat' first
   | (with_reducible exact ih0 _ _ _)
   | (with_reducible exact LeO.refl _)
   | (with_reducible exact LeO.none _)
   | (with_reducible refine LeO.ite ?_ ?_)
   | (with_reducible refine LeO.bind ?_ (fun _ => ?_))
   | exact ih0 _ _ _
   | exact LeO.none _
   | refine LeO.ite ?_ ?_
   | refine LeO.bind ?_ (fun _ => ?_)
theorem spec_l02Of.mono : ∀ a0 a1 k, LeO (spec_l02Of.f k a0 a1) (spec_l02Of.f (k + 1) a0 a1) := by
 intro a0 a1 k
 have ih0 := spec_l02Of.mono_l k
 unfold spec_l02Of.f
 repeat' first
   | (with_reducible exact ih0 _ _ _)
   | (with_reducible exact LeO.refl _)
   | (with_reducible exact LeO.none _)
   | (with_reducible refine LeO.ite ?_ ?_)
   | (with_reducible refine LeO.bind ?_ (fun _ => ?_))
   | exact ih0 _ _ _
   | exact LeO.none _
   | refine LeO.ite ?_ ?_
   | refine LeO.bind ?_ (fun _ => ?_)
set_option maxHeartbeats 8000000 in
set_option maxRecDepth 100000 in
theorem spec_l02Of.calls (k : Nat) (A0 : Option Addr) (c0 : Nat) (l0 : List (S33)) (a1 : Int) (r : Int) (w : World) (hr0 : Kd.C k33 w A0 l0.length l0) (hc0 : l0.length ≤ c0) (h : spec_l02Of.f k l0 a1 = some r) :
  Calls Try.prog 98 #[.slice A0 l0.length c0, .int .i64 a1] w fun e w' => e = .returned (.int .i64 r) ∧ Drawn0 w w' := by
 have HR0 := Aside0.mk hr0
 have HC0 := Aside0.mk hc0
 clear hr0 hc0
 have H : (spec_l02Of.l0 k l0 a1 0) = some r := h
 clear h
 have H' := Aside0.mk H
 clear H
 go_enter Try.func98, Try.ntmps98
 go_wp2
 go_loopg [5] k (fun kq v5 w' => ∃ (x5_1 : Int), v5 = .int .i64 x5_1 ∧ Aside0 (spec_l02Of.l0 kq l0 a1 x5_1 = some r) ∧ Aside0 (kq ≤ k) ∧ Drawn0 w w')
 case atStart => exact ⟨(0), (z2_), H', ⟨Nat.le_refl _⟩, z13_⟩
 case round =>
  clear H'
  try clear p2
  obtain ⟨x5_1, rfl, HA, HK1, ⟨m1, rfl⟩⟩ := hrel
  cases gk with
  | zero => exact absurd HA.out (by simp [spec_l02Of.l0])
  | succ k1 =>
   have H := HA.out
   clear HA
   simp only [spec_l02Of.l0] at H
   by_cases c3 : x5_1 < (l0.length : Int)
   ·rw [if_pos c3] at H
    have c3b0 : decide (x5_1 < (l0.length : Int)) = true := decide_eq_true c3
    clear c3
    by_cases c4 : 0 ≤ x5_1
    ·rw [if_pos c4] at H
     have c4b0 : decide (0 ≤ x5_1) = true := decide_eq_true c4
     clear c4
     by_cases c5 : ((rd_T33 l0 x5_1).f0) = a1
     ·rw [if_pos c5] at H
      have c5b0 : (((rd_T33 l0 x5_1).f0) == a1) = true := beq_iff_eq.mpr c5
      have c5b1 : (((rd_T33 l0 x5_1).f0) != a1) = false := bne_eq_false_iff_eq.mpr c5
      clear c5
      obtain rfl := Option.some.inj H
      have p111 : 0 ≤ (x5_1 : Int) := of_decide_eq_true (z3_)
      have q111 : x5_1 < (l0.length : Int) := of_decide_eq_true (z3_)
      obtain ⟨ad111, e111, hx111_0, hx111_1⟩ := at_T33 HR0.out x5_1 p111 q111
      cases e111
      replace p111 := eq_true p111
      replace q111 := eq_true q111
      have p112 : 0 ≤ (x5_1 : Int) := of_decide_eq_true (z3_)
      have q112 : x5_1 < (l0.length : Int) := of_decide_eq_true (z3_)
      obtain ⟨ad112, e112, hx112_0, hx112_1⟩ := at_T33 HR0.out x5_1 p112 q112
      obtain rfl : ad111 = ad112 := (by injection e112)
      replace p112 := eq_true p112
      replace q112 := eq_true q112
      go_wp2
      go_ret
      exact ⟨z2_, z13_⟩
     ·rw [if_neg c5] at H
      have c5b0 : (((rd_T33 l0 x5_1).f0) == a1) = false := beq_eq_false_iff_ne.mpr c5
      have c5b1 : (((rd_T33 l0 x5_1).f0) != a1) = true := bne_iff_ne.mpr c5
      have H' := Aside0.mk H
      clear H
      have p111 : 0 ≤ (x5_1 : Int) := of_decide_eq_true (z3_)
      have q111 : x5_1 < (l0.length : Int) := of_decide_eq_true (z3_)
      obtain ⟨ad111, e111, hx111_0, hx111_1⟩ := at_T33 HR0.out x5_1 p111 q111
      cases e111
      replace p111 := eq_true p111
      replace q111 := eq_true q111
      go_wp2
      go_roundg k1
      case measure => have := HK1.out; omega
      case rel => exact ⟨(wrap64 (x5_1 + 1)), (z2_), H', ⟨by have := HK1.out; omega⟩, z13_⟩
    ·rw [if_neg c4] at H
     exact absurd H (by simp)
   ·rw [if_neg c3] at H
    have c3b0 : decide (x5_1 < (l0.length : Int)) = false := decide_eq_false c3
    clear c3
    obtain rfl := Option.some.inj H
    go_wp2
    go_ret
    exact ⟨z2_, z13_⟩


/-! ### spec_SeenHas: function 34 -/
def spec_SeenHas.f (k : Nat) (l0 : List (S33)) (a1_0 : Int) (a1_1 : Int) : Option (Bool) := (spec_SeenRight.f k l0).bind fun t465 => (if t465 = true then ((spec_l02Dot.f a1_0 a1_1).bind fun t466 => (if t466 = true then ((spec_l02Of.f k l0 a1_0).bind fun t467 => (some (decide (a1_1 ≤ t467)))) else (some false))) else (some false))
theorem spec_SeenHas.mono : ∀ a0 a1 a2 k, LeO (spec_SeenHas.f k a0 a1 a2) (spec_SeenHas.f (k + 1) a0 a1 a2) := by
 intro a0 a1 a2 k
 unfold spec_SeenHas.f
 repeat' first
   | (with_reducible exact spec_SeenRight.mono _ _)
   | (with_reducible exact spec_l02Of.mono _ _ _)
   | (with_reducible exact LeO.refl _)
   | (with_reducible exact LeO.none _)
   | (with_reducible refine LeO.ite ?_ ?_)
   | (with_reducible refine LeO.bind ?_ (fun _ => ?_))
   | exact spec_SeenRight.mono _ _
   | exact spec_l02Of.mono _ _ _
   | exact LeO.none _
   | refine LeO.ite ?_ ?_
   | refine LeO.bind ?_ (fun _ => ?_)
def spec_SeenHas.T1 : Bool × List (List Nat × List Nat) := (true, [([], []), ([0], [0]), ([1, 1], [1]), ([2], [2]), ([3, 2, 2], [2, 3]), ([2, 4], [2, 4]), ([5, 4], [5]), ([6], [6]), ([7, 6], [6, 7]), ([6], [6]), ([6], [6]), ([10, 6], [6, 10]), ([9, 11, 6, 6], [6, 9, 11]), ([8, 12, 6], [6, 8, 12]), ([6, 13], [6, 13]), ([14, 12, 0, 1, 2, 3, 4, 5, 6, 7, 8, 9, 10, 11, 12, 13, 14], [14])])
def spec_SeenHas.B1 : List Nat := [0, 1, 3, 7, 15, 31, 63, 127, 255, 127, 127, 1151, 3711, 8191, 16383, 32767]
theorem spec_SeenHas.tab1 : rtab .any (opsOf Try.f34 1) = spec_SeenHas.T1 := by kernel_rfl
theorem spec_SeenHas.bits1 : waitsOk spec_SeenHas.T1.2 spec_SeenHas.B1 = true := by kernel_rfl
abbrev spec_SeenHas.q0 : Array Bool := #[false, false, false, false, false, false, false, false, false, false, false, false, false, false, false, false]
abbrev spec_SeenHas.q1 : Array Bool := #[true, false, false, false, false, false, false, false, false, false, false, false, false, false, false, false]
abbrev spec_SeenHas.q2 : Array Bool := #[true, true, false, false, false, false, false, false, false, false, false, false, false, false, false, false]
abbrev spec_SeenHas.q3 : Array Bool := #[true, true, true, false, false, false, false, false, false, false, false, false, false, false, false, false]
abbrev spec_SeenHas.q4 : Array Bool := #[true, true, true, true, false, false, false, false, false, false, false, false, false, false, false, false]
abbrev spec_SeenHas.q5 : Array Bool := #[true, true, true, true, true, false, false, false, false, false, false, false, false, false, false, false]
abbrev spec_SeenHas.q6 : Array Bool := #[true, true, true, true, true, true, false, false, false, false, false, false, false, false, false, false]
abbrev spec_SeenHas.q7 : Array Bool := #[true, true, true, true, true, true, true, false, false, false, false, false, false, false, false, false]
abbrev spec_SeenHas.q8 : Array Bool := #[true, true, true, true, true, true, true, true, false, false, false, false, false, false, false, false]
abbrev spec_SeenHas.q9 : Array Bool := #[true, true, true, true, true, true, true, true, true, true, true, false, false, false, false, false]
abbrev spec_SeenHas.q10 : Array Bool := #[true, true, true, true, true, true, true, true, true, true, true, true, false, false, false, false]
abbrev spec_SeenHas.q11 : Array Bool := #[true, true, true, true, true, true, true, true, true, true, true, true, true, false, false, false]
abbrev spec_SeenHas.q12 : Array Bool := #[true, true, true, true, true, true, true, true, true, true, true, true, true, true, false, false]
abbrev spec_SeenHas.q13 : Array Bool := #[true, true, true, true, true, true, true, true, true, true, true, true, true, true, true, false]
abbrev spec_SeenHas.q14 : Array Bool := #[true, true, true, true, true, true, true, true, true, true, true, true, true, true, true, true]
abbrev spec_SeenHas.q15 : Array Bool := #[true, true, true, true, true, true, true, true, true, false, false, false, false, false, false, false]
abbrev spec_SeenHas.q16 : Array Bool := #[true, true, true, true, true, true, true, true, true, true, false, false, false, false, false, false]
set_option maxHeartbeats 8000000 in
set_option maxRecDepth 100000 in
theorem spec_SeenHas.calls (k : Nat) (A0 : Option Addr) (c0 : Nat) (l0 : List (S33)) (a1_0 : Int) (a1_1 : Int) (r : Bool) (w : World) (hr0 : Kd.C k33 w A0 l0.length l0) (hc0 : l0.length ≤ c0) (h : spec_SeenHas.f k l0 a1_0 a1_1 = some r) :
  Calls Try.prog 34 #[.slice A0 l0.length c0, .agg #[.int .i64 a1_0, .int .i64 a1_1]] w fun e w' => e = .returned (.bool r) ∧ Below w.heap.size w w' := by
 have hu33 := Try.underlying33
 have HR0 := Aside0.mk hr0
 have HC0 := Aside0.mk hc0
 clear hr0 hc0
 have HB := Aside0.mk (Below.refl w.heap.size w)
 have H : ((spec_SeenRight.f k l0).bind fun t465 => (if t465 = true then ((spec_l02Dot.f a1_0 a1_1).bind fun t466 => (if t466 = true then ((spec_l02Of.f k l0 a1_0).bind fun t467 => (some (decide (a1_1 ≤ t467)))) else (some false))) else (some false))) = some r := h
 clear h
 replace H := Option.bind_eq_some_iff.mp H
 obtain ⟨t465, A30, H⟩ := H
 replace H : (if t465 = true then ((spec_l02Dot.f a1_0 a1_1).bind fun t466 => (if t466 = true then ((spec_l02Of.f k l0 a1_0).bind fun t467 => (some (decide (a1_1 ≤ t467)))) else (some false))) else (some false)) = some r := H
 have A3 := Aside0.mk A30
 clear A30
 by_cases c4 : t465 = true
 ·subst c4
  have H1 : ((spec_l02Dot.f a1_0 a1_1).bind fun t466 => (if t466 = true then ((spec_l02Of.f k l0 a1_0).bind fun t467 => (some (decide (a1_1 ≤ t467)))) else (some false))) = some r := by rw [if_pos rfl] at H; exact H
  clear H
  have H := H1
  clear H1
  replace H := Option.bind_eq_some_iff.mp H
  obtain ⟨t466, A50, H⟩ := H
  replace H : (if t466 = true then ((spec_l02Of.f k l0 a1_0).bind fun t467 => (some (decide (a1_1 ≤ t467)))) else (some false)) = some r := H
  have A5 := Aside0.mk A50
  clear A50
  by_cases c6 : t466 = true
  ·subst c6
   have H1 : ((spec_l02Of.f k l0 a1_0).bind fun t467 => (some (decide (a1_1 ≤ t467)))) = some r := by rw [if_pos rfl] at H; exact H
   clear H
   have H := H1
   clear H1
   replace H := Option.bind_eq_some_iff.mp H
   obtain ⟨t467, A70, H⟩ := H
   replace H : (some (decide (a1_1 ≤ t467))) = some r := H
   have A7 := Aside0.mk A70
   clear A70
   obtain rfl := Option.some.inj H
   go_enter Try.func34, Try.ntmps34
   try go_wp2_with (first | ((with_reducible refine gate_dst (N := 3) rfl ?_); refine box_event ?hg (N := 3) ?hd (cs := #[.int .i64 a1_0, .int .i64 a1_1]) (t := 33) ?hr ?_; (case hd => rfl); (case hg => rfl); (case hr => first | (go_simp; done) | (go_simp; rfl)); intro gb464 hg w8 hbox hb; have n_ := as4_ (below_step (z5_ HB.out) hb) (hbox) ((z7_ HB.out : w.heap.size ≤ gb464)) ((z7_ HB.out : w.heap.size ≤ gb464)); clear HB; have ⟨HB, BK464, GW464, GE464⟩ := n_; clear n_; clear hb hbox hg))
   have n_ := as2_ (blk_drew BK464.out) (below_drew1 HB.out)
   clear BK464 HB
   have ⟨BK464, HB⟩ := n_
   clear n_
   refine start_ (n := 16) (S := fun w' => w'.cell? ⟨gb464, 0, none⟩ = some (.int .i64 a1_0) ∧ w'.cell? ⟨gb464, 1, none⟩ = some (.int .i64 a1_1)) (ds := []) spec_SeenHas.q0 (by kernel_rfl) rfl rfl ⟨(blk_cell BK464.out 0).trans rfl, (blk_cell BK464.out 1).trans rfl⟩ (fun hHeld => ?_); refine with_tabW spec_SeenHas.tab1 spec_SeenHas.bits1 (fun HT_ HW_ => ?_)
   generalize w8.drew = w9 at BK464 HB hHeld ⊢
   refine pu_ 0 5 spec_SeenHas.q1 HT_.out ?_
   refine one_ (i := 1) (N := some 6) spec_SeenHas.q2 rfl rfl (one_of HT_.out (by kernel_rfl)) (by decide) (fun K hK => ?_)
   refine goes_ Try.func38 (by kernel_rfl) rfl #[.slice A0 l0.length c0] (by rfl) rfl rfl (z0_) ?_
   with_reducible refine (spec_SeenRight.calls k _ _ l0 true _ ?side1 ?side2 A3.out).mono ?_
   (case side1 => exact z12_ HR0.out HB.out)
   (case side2 => exact HC0.out)
   rintro e w10 ⟨rfl, hb⟩
   refine ⟨_, rfl, ?_⟩
   have n_ := as2_ (blkB_ BK464.out hb) (below_step (z1_ HB.out GE464.out) hb)
   clear BK464 HB
   have ⟨BK464, HB⟩ := n_
   clear n_
   (try clear hb)
   (try clear hb2)
   (try clear hk)
   (try clear hi)
   refine hK.out _ _ ⟨(blk_cell BK464.out 0).trans rfl, (blk_cell BK464.out 1).trans rfl⟩ (fun hHeld => ?_)
   clear hK K
   refine norm_ (a' := ?_) ?_ ?_
   rotate_left
   ·show Act.put _ (some 6) _ = _
    simp only [Act.put, sa_, s0_, ss_, i64_w, i32_w]
    rfl
   refine pu_ 2 7 spec_SeenHas.q3 HT_.out ?_
   refine tk2_ 3 8 spec_SeenHas.q4 HT_.out HW_.out hHeld ?_
   refine one_ (i := 4) (N := some 9) spec_SeenHas.q5 rfl rfl (one_of HT_.out (by kernel_rfl)) (by decide) (fun K hK => ?_)
   refine goes_ Try.func99 (by kernel_rfl) rfl #[.agg #[.int .i64 a1_0, .int .i64 a1_1]] (by rfl) rfl rfl (z0_) ?_
   with_reducible refine (spec_l02Dot.calls a1_0 a1_1 true _ A5.out).mono ?_
   rintro e w11 ⟨rfl, hb⟩
   refine ⟨_, rfl, ?_⟩
   have n_ := as2_ (blkB_ BK464.out hb) (below_step (z1_ HB.out GE464.out) hb)
   clear BK464 HB
   have ⟨BK464, HB⟩ := n_
   clear n_
   (try clear hb)
   (try clear hb2)
   (try clear hk)
   (try clear hi)
   refine hK.out _ _ ⟨(blk_cell BK464.out 0).trans rfl, (blk_cell BK464.out 1).trans rfl⟩ (fun hHeld => ?_)
   clear hK K
   refine norm_ (a' := ?_) ?_ ?_
   rotate_left
   ·show Act.put _ (some 9) _ = _
    simp only [Act.put, sa_, s0_, ss_, i64_w, i32_w]
    rfl
   refine pu_ 5 10 spec_SeenHas.q6 HT_.out ?_
   refine pu_ 6 11 spec_SeenHas.q7 HT_.out ?_
   refine pu_ 7 12 spec_SeenHas.q8 HT_.out ?_
   refine pu_ 9 14 #[true, true, true, true, true, true, true, true, false, true, false, false, false, false, false, false] HT_.out ?_
   refine pu_ 10 15 #[true, true, true, true, true, true, true, true, false, true, true, false, false, false, false, false] HT_.out ?_
   refine tk2_ 8 13 spec_SeenHas.q9 HT_.out HW_.out hHeld ?_
   refine tk2_ 11 16 spec_SeenHas.q10 HT_.out HW_.out hHeld ?_
   refine one_ (i := 12) (N := some 17) spec_SeenHas.q11 rfl rfl (one_of HT_.out (by kernel_rfl)) (by decide) (fun K hK => ?_)
   refine goes_ Try.func98 (by kernel_rfl) rfl #[.slice A0 l0.length c0, .int .i64 a1_0] (by rfl) rfl rfl (z0_) ?_
   with_reducible refine (spec_l02Of.calls k _ _ l0 a1_0 t467 _ ?side1 ?side2 A7.out).mono ?_
   (case side1 => exact z12_ HR0.out HB.out)
   (case side2 => exact HC0.out)
   rintro e w' ⟨rfl, ⟨nd, rfl⟩⟩
   refine ⟨_, rfl, ?_⟩
   refine hK.out _ _ ⟨(blk_cell BK464.out 0).trans rfl, (blk_cell BK464.out 1).trans rfl⟩ (fun hHeld => ?_)
   clear hK K
   refine norm_ (a' := ?_) ?_ ?_
   rotate_left
   ·show Act.put _ (some 17) _ = _
    simp only [Act.put, sa_, s0_, ss_, i64_w, i32_w]
    rfl
   refine pu_ 13 18 spec_SeenHas.q12 HT_.out ?_
   refine pu_ 14 19 spec_SeenHas.q13 HT_.out ?_
   refine pu_ 15 4 spec_SeenHas.q14 HT_.out ?_
   refine done_ (done_of HT_.out (by kernel_rfl)) ?_
   try go_wp2
   go_ret
   exact ⟨z8_, z1_ HB.out GE464.out⟩
  ·replace c6 := Bool.eq_false_iff.mpr c6
   subst c6
   have H1 : (some false) = some r := by rw [if_neg (show ¬ (false = true) by decide)] at H; exact H
   clear H
   have H := H1
   clear H1
   obtain rfl := Option.some.inj H
   go_enter Try.func34, Try.ntmps34
   try go_wp2_with (first | ((with_reducible refine gate_dst (N := 3) rfl ?_); refine box_event ?hg (N := 3) ?hd (cs := #[.int .i64 a1_0, .int .i64 a1_1]) (t := 33) ?hr ?_; (case hd => rfl); (case hg => rfl); (case hr => first | (go_simp; done) | (go_simp; rfl)); intro gb464 hg w12 hbox hb; have n_ := as4_ (below_step (z5_ HB.out) hb) (hbox) ((z7_ HB.out : w.heap.size ≤ gb464)) ((z7_ HB.out : w.heap.size ≤ gb464)); clear HB; have ⟨HB, BK464, GW464, GE464⟩ := n_; clear n_; clear hb hbox hg))
   have n_ := as2_ (blk_drew BK464.out) (below_drew1 HB.out)
   clear BK464 HB
   have ⟨BK464, HB⟩ := n_
   clear n_
   refine start_ (n := 16) (S := fun w' => w'.cell? ⟨gb464, 0, none⟩ = some (.int .i64 a1_0) ∧ w'.cell? ⟨gb464, 1, none⟩ = some (.int .i64 a1_1)) (ds := []) spec_SeenHas.q0 (by kernel_rfl) rfl rfl ⟨(blk_cell BK464.out 0).trans rfl, (blk_cell BK464.out 1).trans rfl⟩ (fun hHeld => ?_); refine with_tabW spec_SeenHas.tab1 spec_SeenHas.bits1 (fun HT_ HW_ => ?_)
   generalize w12.drew = w13 at BK464 HB hHeld ⊢
   refine pu_ 0 5 spec_SeenHas.q1 HT_.out ?_
   refine one_ (i := 1) (N := some 6) spec_SeenHas.q2 rfl rfl (one_of HT_.out (by kernel_rfl)) (by decide) (fun K hK => ?_)
   refine goes_ Try.func38 (by kernel_rfl) rfl #[.slice A0 l0.length c0] (by rfl) rfl rfl (z0_) ?_
   with_reducible refine (spec_SeenRight.calls k _ _ l0 true _ ?side1 ?side2 A3.out).mono ?_
   (case side1 => exact z12_ HR0.out HB.out)
   (case side2 => exact HC0.out)
   rintro e w14 ⟨rfl, hb⟩
   refine ⟨_, rfl, ?_⟩
   have n_ := as2_ (blkB_ BK464.out hb) (below_step (z1_ HB.out GE464.out) hb)
   clear BK464 HB
   have ⟨BK464, HB⟩ := n_
   clear n_
   (try clear hb)
   (try clear hb2)
   (try clear hk)
   (try clear hi)
   refine hK.out _ _ ⟨(blk_cell BK464.out 0).trans rfl, (blk_cell BK464.out 1).trans rfl⟩ (fun hHeld => ?_)
   clear hK K
   refine norm_ (a' := ?_) ?_ ?_
   rotate_left
   ·show Act.put _ (some 6) _ = _
    simp only [Act.put, sa_, s0_, ss_, i64_w, i32_w]
    rfl
   refine pu_ 2 7 spec_SeenHas.q3 HT_.out ?_
   refine tk2_ 3 8 spec_SeenHas.q4 HT_.out HW_.out hHeld ?_
   refine one_ (i := 4) (N := some 9) spec_SeenHas.q5 rfl rfl (one_of HT_.out (by kernel_rfl)) (by decide) (fun K hK => ?_)
   refine goes_ Try.func99 (by kernel_rfl) rfl #[.agg #[.int .i64 a1_0, .int .i64 a1_1]] (by rfl) rfl rfl (z0_) ?_
   with_reducible refine (spec_l02Dot.calls a1_0 a1_1 false _ A5.out).mono ?_
   rintro e w15 ⟨rfl, hb⟩
   refine ⟨_, rfl, ?_⟩
   have n_ := as2_ (blkB_ BK464.out hb) (below_step (z1_ HB.out GE464.out) hb)
   clear BK464 HB
   have ⟨BK464, HB⟩ := n_
   clear n_
   (try clear hb)
   (try clear hb2)
   (try clear hk)
   (try clear hi)
   refine hK.out _ _ ⟨(blk_cell BK464.out 0).trans rfl, (blk_cell BK464.out 1).trans rfl⟩ (fun hHeld => ?_)
   clear hK K
   refine norm_ (a' := ?_) ?_ ?_
   rotate_left
   ·show Act.put _ (some 9) _ = _
    simp only [Act.put, sa_, s0_, ss_, i64_w, i32_w]
    rfl
   refine pu_ 5 10 spec_SeenHas.q6 HT_.out ?_
   refine pu_ 6 11 spec_SeenHas.q7 HT_.out ?_
   refine pn_ 7 12 spec_SeenHas.q8 HT_.out ?_
   refine pn_ 8 13 spec_SeenHas.q15 HT_.out ?_
   refine pn_ 9 14 spec_SeenHas.q16 HT_.out ?_
   refine pn_ 10 15 spec_SeenHas.q9 HT_.out ?_
   refine pn_ 11 16 spec_SeenHas.q10 HT_.out ?_
   refine pn_ 12 17 spec_SeenHas.q11 HT_.out ?_
   refine pn_ 13 18 spec_SeenHas.q12 HT_.out ?_
   refine pu_ 14 19 spec_SeenHas.q13 HT_.out ?_
   refine pu_ 15 4 spec_SeenHas.q14 HT_.out ?_
   refine done_ (done_of HT_.out (by kernel_rfl)) ?_
   try go_wp2
   go_ret
   exact ⟨z8_, z1_ HB.out GE464.out⟩
 ·replace c4 := Bool.eq_false_iff.mpr c4
  subst c4
  have H1 : (some false) = some r := by rw [if_neg (show ¬ (false = true) by decide)] at H; exact H
  clear H
  have H := H1
  clear H1
  obtain rfl := Option.some.inj H
  go_enter Try.func34, Try.ntmps34
  try go_wp2_with (first | ((with_reducible refine gate_dst (N := 3) rfl ?_); refine box_event ?hg (N := 3) ?hd (cs := #[.int .i64 a1_0, .int .i64 a1_1]) (t := 33) ?hr ?_; (case hd => rfl); (case hg => rfl); (case hr => first | (go_simp; done) | (go_simp; rfl)); intro gb464 hg w16 hbox hb; have n_ := as4_ (below_step (z5_ HB.out) hb) (hbox) ((z7_ HB.out : w.heap.size ≤ gb464)) ((z7_ HB.out : w.heap.size ≤ gb464)); clear HB; have ⟨HB, BK464, GW464, GE464⟩ := n_; clear n_; clear hb hbox hg))
  have n_ := as2_ (blk_drew BK464.out) (below_drew1 HB.out)
  clear BK464 HB
  have ⟨BK464, HB⟩ := n_
  clear n_
  refine start_ (n := 16) (S := fun w' => True) (ds := []) spec_SeenHas.q0 (by kernel_rfl) rfl rfl trivial (fun hHeld => ?_); refine with_tabW spec_SeenHas.tab1 spec_SeenHas.bits1 (fun HT_ HW_ => ?_)
  generalize w16.drew = w17 at BK464 HB hHeld ⊢
  refine pu_ 0 5 spec_SeenHas.q1 HT_.out ?_
  refine one_ (i := 1) (N := some 6) spec_SeenHas.q2 rfl rfl (one_of HT_.out (by kernel_rfl)) (by decide) (fun K hK => ?_)
  refine goes_ Try.func38 (by kernel_rfl) rfl #[.slice A0 l0.length c0] (by rfl) rfl rfl (z0_) ?_
  with_reducible refine (spec_SeenRight.calls k _ _ l0 false _ ?side1 ?side2 A3.out).mono ?_
  (case side1 => exact z12_ HR0.out HB.out)
  (case side2 => exact HC0.out)
  rintro e w18 ⟨rfl, hb⟩
  refine ⟨_, rfl, ?_⟩
  have n_ := as2_ (blkB_ BK464.out hb) (below_step (z1_ HB.out GE464.out) hb)
  clear BK464 HB
  have ⟨BK464, HB⟩ := n_
  clear n_
  (try clear hb)
  (try clear hb2)
  (try clear hk)
  (try clear hi)
  refine hK.out _ _ trivial (fun hHeld => ?_)
  clear hK K
  refine norm_ (a' := ?_) ?_ ?_
  rotate_left
  ·show Act.put _ (some 6) _ = _
   simp only [Act.put, sa_, s0_, ss_, i64_w, i32_w]
   rfl
  refine pu_ 2 7 spec_SeenHas.q3 HT_.out ?_
  refine pn_ 3 8 spec_SeenHas.q4 HT_.out ?_
  refine pn_ 4 9 spec_SeenHas.q5 HT_.out ?_
  refine pu_ 5 10 spec_SeenHas.q6 HT_.out ?_
  refine pu_ 6 11 spec_SeenHas.q7 HT_.out ?_
  refine pn_ 7 12 spec_SeenHas.q8 HT_.out ?_
  refine pn_ 8 13 spec_SeenHas.q15 HT_.out ?_
  refine pn_ 9 14 spec_SeenHas.q16 HT_.out ?_
  refine pn_ 10 15 spec_SeenHas.q9 HT_.out ?_
  refine pn_ 11 16 spec_SeenHas.q10 HT_.out ?_
  refine pn_ 12 17 spec_SeenHas.q11 HT_.out ?_
  refine pn_ 13 18 spec_SeenHas.q12 HT_.out ?_
  refine pu_ 14 19 spec_SeenHas.q13 HT_.out ?_
  refine pu_ 15 4 spec_SeenHas.q14 HT_.out ?_
  refine done_ (done_of HT_.out (by kernel_rfl)) ?_
  try go_wp2
  go_ret
  exact ⟨z8_, z1_ HB.out GE464.out⟩


/-! ### spec_l03Less: function 118 -/
def spec_l03Less.f (a0_0 : Int) (a0_1 : Int) (a1_0 : Int) (a1_1 : Int) : Option (Bool) := if a0_0 < a1_0 then (some true) else (if a0_0 = a1_0 then (some (decide (a0_1 < a1_1))) else (some false))
set_option maxHeartbeats 8000000 in
set_option maxRecDepth 100000 in
theorem spec_l03Less.calls (a0_0 : Int) (a0_1 : Int) (a1_0 : Int) (a1_1 : Int) (r : Bool) (w : World) (h : spec_l03Less.f a0_0 a0_1 a1_0 a1_1 = some r) :
  Calls Try.prog 118 #[.agg #[.int .i64 a0_0, .int .i64 a0_1], .agg #[.int .i64 a1_0, .int .i64 a1_1]] w fun e w' => e = .returned (.bool r) ∧ Below w.heap.size w w' := by
 have hu33 := Try.underlying33
 have HB := Aside0.mk (Below.refl w.heap.size w)
 have H : (if a0_0 < a1_0 then (some true) else (if a0_0 = a1_0 then (some (decide (a0_1 < a1_1))) else (some false))) = some r := h
 clear h
 by_cases c3 : a0_0 < a1_0
 ·rw [if_pos c3] at H
  have c3b0 : decide (a0_0 < a1_0) = true := decide_eq_true c3
  clear c3
  obtain rfl := Option.some.inj H
  go_enter Try.func118, Try.ntmps118
  go_wp2_with (first | ((with_reducible refine gate_dst (N := 2) rfl ?_); refine box_event ?hg (N := 2) ?hd (cs := #[.int .i64 a0_0, .int .i64 a0_1]) (t := 33) ?hr ?_; (case hd => rfl); (case hg => rfl); (case hr => first | (go_simp; done) | (go_simp; rfl)); intro gb616 hg w4 hbox hb; have n_ := as4_ (below_step (z5_ HB.out) hb) (hbox) ((z7_ HB.out : w.heap.size ≤ gb616)) ((z7_ HB.out : w.heap.size ≤ gb616)); clear HB; have ⟨HB, BK616, GW616, GE616⟩ := n_; clear n_; clear hb hbox hg) | ((with_reducible refine gate_dst (N := 3) rfl ?_); refine box_event ?hg (N := 3) ?hd (cs := #[.int .i64 a1_0, .int .i64 a1_1]) (t := 33) ?hr ?_; (case hd => rfl); (case hg => rfl); (case hr => first | (go_simp; done) | (go_simp; rfl)); intro gb617 hg w5 hbox hb; have n_ := as7_ (blkB_ BK616.out hb) (below_step (z1_ HB.out GE616.out) hb) (hbox) ((z10_ HB.out GE616.out : w.heap.size ≤ gb617)) ((z10_ HB.out GE616.out : w.heap.size ≤ gb617)) (neL_ BK616.out hg) (neG_ BK616.out hg); clear BK616 HB; have ⟨BK616, HB, BK617, GW617, GE617, NB616_617, NB617_616⟩ := n_; clear n_; clear hb hbox hg; have hnb6 := NB616_617.out; have hnc6 := NB617_616.out; have ⟨hcz7_0, hcz7_1, hfz7_0, hfz7_1⟩ := cz2_ BK616.out; have hcz8_0 : w5.cell? ⟨gb617, 0, none⟩ = some (.int .i64 a1_0) := (blk_cell BK617.out 0).trans rfl; have hcz8_1 : w5.cell? ⟨gb617, 1, none⟩ = some (.int .i64 a1_1) := (blk_cell BK617.out 1).trans rfl; have hfz8_0 := blk_frozen BK617.out 0; have hfz8_1 := blk_frozen BK617.out 1))
  go_ret
  exact ⟨z8_, z6_ HB.out GE616.out GE617.out⟩
 ·rw [if_neg c3] at H
  have c3b0 : decide (a0_0 < a1_0) = false := decide_eq_false c3
  clear c3
  by_cases c9 : a0_0 = a1_0
  ·rw [if_pos c9] at H
   have c9b0 : (a0_0 == a1_0) = true := beq_iff_eq.mpr c9
   have c9b1 : (a0_0 != a1_0) = false := bne_eq_false_iff_eq.mpr c9
   clear c9
   obtain rfl := Option.some.inj H
   go_enter Try.func118, Try.ntmps118
   go_wp2_with (first | ((with_reducible refine gate_dst (N := 2) rfl ?_); refine box_event ?hg (N := 2) ?hd (cs := #[.int .i64 a0_0, .int .i64 a0_1]) (t := 33) ?hr ?_; (case hd => rfl); (case hg => rfl); (case hr => first | (go_simp; done) | (go_simp; rfl)); intro gb616 hg w10 hbox hb; have n_ := as4_ (below_step (z5_ HB.out) hb) (hbox) ((z7_ HB.out : w.heap.size ≤ gb616)) ((z7_ HB.out : w.heap.size ≤ gb616)); clear HB; have ⟨HB, BK616, GW616, GE616⟩ := n_; clear n_; clear hb hbox hg) | ((with_reducible refine gate_dst (N := 3) rfl ?_); refine box_event ?hg (N := 3) ?hd (cs := #[.int .i64 a1_0, .int .i64 a1_1]) (t := 33) ?hr ?_; (case hd => rfl); (case hg => rfl); (case hr => first | (go_simp; done) | (go_simp; rfl)); intro gb617 hg w11 hbox hb; have n_ := as7_ (blkB_ BK616.out hb) (below_step (z1_ HB.out GE616.out) hb) (hbox) ((z10_ HB.out GE616.out : w.heap.size ≤ gb617)) ((z10_ HB.out GE616.out : w.heap.size ≤ gb617)) (neL_ BK616.out hg) (neG_ BK616.out hg); clear BK616 HB; have ⟨BK616, HB, BK617, GW617, GE617, NB616_617, NB617_616⟩ := n_; clear n_; clear hb hbox hg; have hnb12 := NB616_617.out; have hnc12 := NB617_616.out; have ⟨hcz13_0, hcz13_1, hfz13_0, hfz13_1⟩ := cz2_ BK616.out; have hcz14_0 : w11.cell? ⟨gb617, 0, none⟩ = some (.int .i64 a1_0) := (blk_cell BK617.out 0).trans rfl; have hcz14_1 : w11.cell? ⟨gb617, 1, none⟩ = some (.int .i64 a1_1) := (blk_cell BK617.out 1).trans rfl; have hfz14_0 := blk_frozen BK617.out 0; have hfz14_1 := blk_frozen BK617.out 1))
   go_ret
   exact ⟨z8_, z6_ HB.out GE616.out GE617.out⟩
  ·rw [if_neg c9] at H
   have c9b0 : (a0_0 == a1_0) = false := beq_eq_false_iff_ne.mpr c9
   have c9b1 : (a0_0 != a1_0) = true := bne_iff_ne.mpr c9
   obtain rfl := Option.some.inj H
   go_enter Try.func118, Try.ntmps118
   go_wp2_with (first | ((with_reducible refine gate_dst (N := 2) rfl ?_); refine box_event ?hg (N := 2) ?hd (cs := #[.int .i64 a0_0, .int .i64 a0_1]) (t := 33) ?hr ?_; (case hd => rfl); (case hg => rfl); (case hr => first | (go_simp; done) | (go_simp; rfl)); intro gb616 hg w15 hbox hb; have n_ := as4_ (below_step (z5_ HB.out) hb) (hbox) ((z7_ HB.out : w.heap.size ≤ gb616)) ((z7_ HB.out : w.heap.size ≤ gb616)); clear HB; have ⟨HB, BK616, GW616, GE616⟩ := n_; clear n_; clear hb hbox hg) | ((with_reducible refine gate_dst (N := 3) rfl ?_); refine box_event ?hg (N := 3) ?hd (cs := #[.int .i64 a1_0, .int .i64 a1_1]) (t := 33) ?hr ?_; (case hd => rfl); (case hg => rfl); (case hr => first | (go_simp; done) | (go_simp; rfl)); intro gb617 hg w16 hbox hb; have n_ := as7_ (blkB_ BK616.out hb) (below_step (z1_ HB.out GE616.out) hb) (hbox) ((z10_ HB.out GE616.out : w.heap.size ≤ gb617)) ((z10_ HB.out GE616.out : w.heap.size ≤ gb617)) (neL_ BK616.out hg) (neG_ BK616.out hg); clear BK616 HB; have ⟨BK616, HB, BK617, GW617, GE617, NB616_617, NB617_616⟩ := n_; clear n_; clear hb hbox hg; have hnb17 := NB616_617.out; have hnc17 := NB617_616.out; have ⟨hcz18_0, hcz18_1, hfz18_0, hfz18_1⟩ := cz2_ BK616.out; have hcz19_0 : w16.cell? ⟨gb617, 0, none⟩ = some (.int .i64 a1_0) := (blk_cell BK617.out 0).trans rfl; have hcz19_1 : w16.cell? ⟨gb617, 1, none⟩ = some (.int .i64 a1_1) := (blk_cell BK617.out 1).trans rfl; have hfz19_0 := blk_frozen BK617.out 0; have hfz19_1 := blk_frozen BK617.out 1))
   go_ret
   exact ⟨z8_, z6_ HB.out GE616.out GE617.out⟩

end Go.Proofs.Ytconpopbpphpgaa.P
