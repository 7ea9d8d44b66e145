/-
  The reference's 'Decode'.
-/
import Derived.Test.YtbdcpahifcbcfaaVGw
namespace Go.Proofs.Ytbdcpahifcbcfaa
open Go Go.RowKit Go.Hs
theorem a6v_dt (ys : List UInt8) (k : Nat) : a6v ((ys.drop k).take 6) = aAt ys k := by
  unfold a6v aAt
  rw [getD_dt _ _ _ _ (by decide), getD_dt _ _ _ _ (by decide), getD_dt _ _ _ _ (by decide), getD_dt _ _ _ _ (by decide), getD_dt _ _ _ _ (by decide), getD_dt _ _ _ _ (by decide)]
  rfl
theorem putK (h : Hd) (l : List UInt8) (k : Nat) (hk : k < 4) (hl : l.length = 6) : h.cells.take (10 + 6 * k) ++ l.map bcell ++ h.cells.drop (10 + 6 * k + 6) = (setA h k (a6v l)).cells := by
  rw [a6v_map hl]
  have h3 : k = 0 ∨ k = 1 ∨ k = 2 ∨ k = 3 := by omega
  rcases h3 with rfl | rfl | rfl | rfl <;> rfl
theorem putA (h : Hd) (ys : List UInt8) (k o : Nat) (hk : k < 4) (hl : o + 6 ≤ ys.length) : h.cells.take (10 + 6 * k) ++ ((ys.drop o).take 6).map bcell ++ h.cells.drop (10 + 6 * k + 6) = (setA h k (aAt ys o)).cells := by
  rw [← a6v_dt]
  exact putK h _ k hk (by rw [List.length_take, List.length_drop]; omega)
theorem cell_u8 (ys : List UInt8) (k : Nat) (h : k < ys.length) : (ys.map bcell)[k]? = some (bcell (ys.getD k 0)) := by
  rw [List.getElem?_map, List.getElem?_eq_getElem h, List.getD_eq_getElem?_getD, List.getElem?_eq_getElem h]
  rfl
def szA (h : Hd) : Nat := 4 + 6 * radN h
def szB (h : Hd) : Nat := szA h + bN (ctlN h) 2
def szC (h : Hd) : Nat := szB h - bN (!decide (h.kind.toNat = 2) && decide (radN h = 4)) 6
def szD (h : Hd) : Nat := szC h + bN (qosB h) 2
theorem szD_S {h : Hd} (hk : knB h.kind h.sub = true) : szD h = hdS h := by
  have ht := traf_eq hk
  unfold szD szC szB szA hdS
  rw [ht]
  congr 1
  unfold radN befN fourB ctlN prtB
  rcases kn_kind hk with k | k | k
  · have c1 : ctsB h = false := by unfold ctsB; rw [k]; rfl
    have c2 : ctlB h = false := by unfold ctlB; rw [k]; rfl
    rw [c1, c2, k]
    cases h.toDs <;> cases h.fromDs <;> rfl
  · have c2 : ctlB h = true := by unfold ctlB; rw [k]; rfl
    rw [c2, k]
    cases ctsB h <;> rfl
  · have c1 : ctsB h = false := by unfold ctsB; rw [k]; rfl
    have c2 : ctlB h = false := by unfold ctlB; rw [k]; rfl
    rw [c1, c2, k]
    cases h.toDs <;> cases h.fromDs <;> rfl
def g0 (ys : List UInt8) (A : Hd) : Hd := setA (setD A (tw ys 2)) 0 (aAt ys 4)
def g1 (ys : List UInt8) (A : Hd) : Hd := bif !ctsB A then setA (g0 ys A) 1 (aAt ys 10) else g0 ys A
def g2 (ys : List UInt8) (A : Hd) : Hd := bif !ctlB A then setS (setA (g1 ys A) 2 (aAt ys 16)) (tw ys 22) else g1 ys A
def g3 (ys : List UInt8) (A : Hd) : Hd := bif fourB A then setA (g2 ys A) 3 (aAt ys 24) else g2 ys A
def g4 (ys : List UInt8) (A : Hd) : Hd := bif trafB A.kind A.sub then setQ (g3 ys A) (tw ys (hdS A - 2)) else g3 ys A
theorem g4_G (ys : List UInt8) {A : Hd} (hk : knB A.kind A.sub = true) : g4 ys A = hG ys A := by
  have e : ctlB A = !prtB A.kind := ctl_prt hk
  unfold g4 g3 g2 g1 g0 hG
  rw [e, Bool.not_not]
  generalize tw ys (hdS A - 2) = q
  generalize tw ys 2 = q2
  generalize tw ys 22 = q3
  generalize aAt ys 4 = x1
  generalize aAt ys 10 = x2
  generalize aAt ys 16 = x3
  generalize aAt ys 24 = x4
  clear e hk
  generalize ctsB A = c1
  generalize prtB A.kind = c2
  generalize fourB A = c3
  generalize trafB A.kind A.sub = c4
  obtain ⟨b1, b2, b3, b4, b5, b6, b7, b8, b9, b10, b11, b12, b13, b14, b15, b16, b17, b18, b19, b20⟩ := A
  dsimp only
  cases c1 <;> cases c2 <;> cases c3 <;> cases c4 <;> rfl
attribute [local irreducible] WL W WQ PL Runs Effs AllE Ent SubO FrIn Pick OneC Ones CellsE PartsE SeqE UZ By Sl Pt Ct

set_option maxRecDepth 100000 in
set_option maxHeartbeats 4000000 in
theorem rtwo_fn (v : Value) (ys : List UInt8) (k : Nat) (hk : k + 2 ≤ ys.length) (hl : ys.length ≤ 1000000) : CtD Try.prog 41 [v, .int .i64 (k : Int)] [By v ys] (.int .i64 (tw ys k : Int)) := by
  have h1 := (ys.getD k 0).toNat_lt
  have h2 := (ys.getD (k + 1) 0).toNat_lt
  unfold tw
  refine Ct_intro Try.func41 rfl Try.ntmps41 (by simp) _ rfl (fun w0 O0 => ?_)
  repeat (first | refine n1 ?_ | refine n2 (fun b _ => ?_) | refine n3 (fun _ _ => ?_) | refine n4 ?_ | refine n5 ?_ | refine WL_nil ?_ | refine W_seq ?_ | refine W_region ?_ | refine n7 ?_ | refine n8 ?_ | refine W_block ?_ | refine W_skip ?_ | refine W_ret ?_ | refine W_exit ?_ | refine WQ_then ?_ | refine WQ_then_ret ?_ | refine WQ_then_exit ?_ | refine WQ_block_normal ?_ | refine WQ_block_ret ?_ | refine WQ_block_exit ?_ | refine n9 ?_)
  (refine W_regionP' [] [] [0, 1, 2, 3, 4, 5, 6, 7, 8, 9, 10, 11, 12, 13] [] (by kernel_rfl) (by kernel_rfl) (by repeat (first | exact UZ.nil _ _ | (apply UZ.cons; exact rfl; (intro _; exact rfl)))) (by exact rfl) (by (repeat (first | exact SubO.nil _ | (apply SubO.cons; (focus (repeat' (first | exact Pick.head _ _ | apply Pick.tail))))))) ?_)
  repeat (first | refine p1 ?_ | refine p2 (fun b _ => ?_) | refine p3 (fun _ _ => ?_) | refine p4 ?_ | refine p5 ?_ | refine p7 (fun b => ?_) | refine PL_nil ?_)
  have e1 : ∀ b : UInt8, IntKind.i64.wrap (b.toNat : Int) = (b.toNat : Int) := fun b => wx_i64 (by have := b.toNat_lt; omega)
  have e2 : ∀ b : UInt8, IntKind.i64.wrap (256 * (b.toNat : Int)) = 256 * (b.toNat : Int) := fun b => wx_i64 (by have := b.toNat_lt; omega)
  have e3 : ∀ a b : UInt8, IntKind.i64.wrap ((a.toNat : Int) + 256 * (b.toNat : Int)) = (((a.toNat + 256 * b.toNat : Nat)) : Int) := fun a b => by
    rw [wx_i64 (by have := b.toNat_lt; have := a.toNat_lt; omega)]
    omega
  simp only [e1, e2, e3]
  repeat (first | refine n1 ?_ | refine n2 (fun b _ => ?_) | refine n3 (fun _ _ => ?_) | refine n4 ?_ | refine n5 ?_ | refine WL_nil ?_ | refine W_seq ?_ | refine W_region ?_ | refine n7 ?_ | refine n8 ?_ | refine W_block ?_ | refine W_skip ?_ | refine W_ret ?_ | refine W_exit ?_ | refine WQ_then ?_ | refine WQ_then_ret ?_ | refine WQ_then_exit ?_ | refine WQ_block_normal ?_ | refine WQ_block_ret ?_ | refine WQ_block_exit ?_ | refine n9 ?_)
  ((apply ret1 Try.results41 ( ())); (focus (first | trivial | assumption | omega)); (focus (first | exact RV_tmp rfl | (apply RV_cellN; exact rfl; (repeat' (first | exact Pick.head _ _ | apply Pick.tail)); (intro _; exact rfl); (intro _; exact rfl); exact rfl) | (apply RV_cell1; exact rfl; (repeat' (first | exact Pick.head _ _ | apply Pick.tail)); (intro _; exact rfl); exact rfl)));  (focus (first | exact rfl | (simp; done))); (focus (repeat (first | exact SubO.nil _ | (apply SubO.cons; (focus (repeat' (first | exact Pick.head _ _ | apply Pick.tail))))))); (focus (repeat (first | exact AllE.nil _ | (apply AllE.cons; (focus (first | exact ent_nilBy | exact ent_nilSl | (apply Ent.mem; repeat' (first | exact mcs | apply mct)))))))))
end Go.Proofs.Ytbdcpahifcbcfaa
