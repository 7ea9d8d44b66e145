/-
  Parts of an own row, handed on; the function 'strike'.
-/
import Derived.Test.YteojehocflbgdaaDoorXg
namespace Go.Proofs.YteojehocflbgdaaDoor
open Go Go.RowKit Go.Hs C03
section
variable {C : Ctx} {fr : Fr} {Γ Γ' : List OA} {Φ : List SP} {d : Nat} {ty : TypeId} {pos : String} {aft : Array Edge} {g : Option (Nat × Bool)}
theorem cutV_is {rt : TypeId} {v : Value} {size n lo hi : Nat} {xs : List Value} {w : World} (h : w.ownsRow 0 rt size v n xs) (h1 : lo < hi) (h2 : hi ≤ n) : ∃ A c, cutV size lo hi v = .slice (some (A.add (lo * size))) (hi - lo) c ∧ (∃ m k, v = .slice (some A) m k) := by
  rcases h with ⟨_, ⟨h2, _⟩ | ⟨b, cap, cur, hv, _, hb, hc, hm, hsz, htk⟩⟩
  · omega
  · subst hv
    refine ⟨⟨b, 0, none⟩, cap - lo, ?_, _, _, rfl⟩
    have hne : ¬ cap = lo := by omega
    show Value.slice (if cap = lo then _ else _) _ _ = _
    rw [if_neg hne]
    rfl
/-- the length of a part. -/
theorem R_lenCut {t e rt : TypeId} {x : Operand} {v : Value} {size n lo hi : Nat} {xs : List Value} (hx : evO fr x = some (cutV size lo hi v)) (hp : Pick (.row v rt size n xs) Γ Γ') (ht : C.P.underlying t = some (.slice e)) (h1 : lo < hi) (h2 : hi ≤ n) :
    Runs C fr Γ Φ ⟨some d, .call { callee := .builtin .len, args := #[x], argTypes := #[t] }, ty, pos, aft, g⟩ (.int .i64 ((hi - lo : Nat) : Int)) :=
  Runs.pure fun a w ha hw => by
    obtain ⟨A, c, e1, _⟩ := cutV_is (pick_holds hp hw).own.1 h1 h2
    rw [e1] at hx
    simp [execOp, resolve, invoke, builtin, Builtin.len_, evO_sound ha hx, run_underlying ht, goInt]
/-- the address of an element of a part. -/
theorem R_idxCut {t e rt : TypeId} {x y : Operand} {v : Value} {size n lo hi i : Nat} {xs : List Value} {kd : IntKind} {ii : Int} (hx : evO fr x = some (cutV size lo hi v)) (hy : evO fr y = some (.int kd ii)) (hp : Pick (.row v rt size n xs) Γ Γ')
    (ht : C.P.underlying t = some (.slice e)) (hs : ∀ w, (sizeOf e).run C.P w = .ok size w) (hii : ii = (i : Int)) (hi' : i < hi - lo) (h2 : hi ≤ n) :
    Runs C fr Γ Φ ⟨some d, .indexAddr t x y, ty, pos, aft, g⟩ (idxV size (lo + i) v) := by
  subst hii
  refine Runs.pure fun a w ha hw => ?_
  obtain ⟨A, c, e1, m, k, rfl⟩ := cutV_is (pick_holds hp hw).own.1 (show lo < hi by omega) h2
  rw [e1] at hx
  simp [execOp, evO_sound ha hx, evO_sound ha hy, run_indexAt_some ht hs hi', idxV, add_add', Nat.add_mul]
end
theorem set_mid {A B ys : List UInt8} {k : Nat} (hk : k < ys.length) (c : UInt8) : (A ++ ys ++ B).set (A.length + k) c = A ++ ys.set k c ++ B := by
  rw [List.set_append_left _ _ (by rw [List.length_append]; omega), List.set_append_right _ _ (by omega), Nat.add_sub_cancel_left]
theorem get_mid {A B ys : List UInt8} {k : Nat} (hk : k < ys.length) : ((A ++ ys ++ B).map bcell)[A.length + k]? = some (.int .u8 ((ys.getD k 0).toNat : Int)) := by
  rw [List.getElem?_map, List.append_assoc, List.getElem?_append_right (by omega), Nat.add_sub_cancel_left, List.getElem?_append_left hk, List.getElem?_eq_getElem hk, List.getD_eq_getElem?_getD, List.getElem?_eq_getElem hk]
  rfl
/-- what a hit leaves of a piece. -/
structure HB (l : List UInt8) (r : Nat) (p : BitVec 32) (i : Nat) (ys : List UInt8) (s : Bool) : Prop where
  bs : BS l r p i ys s
  no : s = false → ys = l
theorem HB.zero (l : List UInt8) (r : Nat) (p : BitVec 32) : HB l r p 0 l false := ⟨BS.zero l r p, fun _ => rfl⟩
theorem HB.off {l : List UInt8} {r i : Nat} {p : BitVec 32} {ys : List UInt8} {s : Bool} (h : HB l r p i ys s) (hb : p.toNat.testBit i = false ∨ 8 * l.length ≤ r + i) : HB l r p (i + 1) ys s := ⟨h.bs.off hb, h.no⟩
theorem HB.on {l : List UInt8} {r i : Nat} {p : BitVec 32} {ys : List UInt8} {s : Bool} (h : HB l r p i ys s) (hb : p.toNat.testBit i = true) (hk : r + i < 8 * l.length) : HB l r p (i + 1) (fl ys (r + i)) true := ⟨h.bs.on hb hk, fun e => (by cases e)⟩
def hitV (k : Int) (a : Nat) (p : BitVec 32) : Value := .agg #[.int .i64 k, .int .u16 (a : Int), .int .u32 (p.toNat : Int)]
attribute [local irreducible] WL W WQ PL Runs Effs AllE Ent SubO FrIn Pick OneC Ones CellsE PartsE SeqE UZ By Sl Pt Ct

set_option maxRecDepth 100000 in
set_option maxHeartbeats 8000000 in
theorem strike_fn (v : Value) (A l B : List UInt8) (n hi : Nat) (hn : n = (A ++ l ++ B).length) (hh : hi = A.length + l.length) (hl0 : 0 < l.length) (hlb : l.length ≤ 100000) (hab : A.length ≤ 1000000) (k : Int) (a : Nat) (ha : a < 65536) (p : BitVec 32) :
    Ct Tryd.prog 9 [cutV 1 A.length hi v, .agg #[.int .i64 k, .int .u16 (a : Int), .int .u32 (p.toNat : Int)]] [.row v 5 1 n ((A ++ l ++ B).map bcell)] []
    (X := List UInt8 × Bool) (fun x => HB l (a % (8 * l.length)) p 32 x.1 x.2) (fun _ => .tuple #[]) (fun x => [.row v 5 1 n ((A ++ x.1 ++ B).map bcell)]) (fun _ => []) := by
  have hml : hi - A.length = l.length := by omega
  have hhn : hi ≤ n := by rw [hn, List.length_append, List.length_append]; omega
  have m1 : ((a : Int).tmod (8 * (l.length : Int))) = ((a % (8 * l.length) : Nat) : Int) := rfl
  have t1 : a % (8 * l.length) < 8 * l.length := Nat.mod_lt _ (by omega)
  generalize a % (8 * l.length) = r at *
  refine Ct_intro Tryd.func9 rfl Tryd.ntmps9 (by simp) _ rfl (fun w0 O0 => ?_)
  repeat (first | refine n1 ?_ | refine n2 (fun b _ => ?_) | refine n3 (fun _ _ => ?_) | refine n4 ?_ | refine n5 ?_ | refine WL_nil ?_ | refine W_seq ?_ | refine W_region ?_ | refine n7 ?_ | refine n8 ?_ | refine W_block ?_ | refine W_skip ?_ | refine W_ret ?_ | refine W_exit ?_ | refine WQ_then ?_ | refine WQ_then_ret ?_ | refine WQ_then_exit ?_ | refine WQ_block_normal ?_ | refine WQ_block_ret ?_ | refine WQ_block_exit ?_ | refine n9 ?_)
  refine WL_runs rfl rfl rfl (R_lenCut (lo := A.length) (hi := hi) rfl (by repeat' (first | exact Pick.head _ _ | apply Pick.tail)) rfl (by omega) hhn) ?_
  rw [hml]
  repeat (first | refine n1 ?_ | refine n2 (fun b _ => ?_) | refine n3 (fun _ _ => ?_) | refine n4 ?_ | refine n5 ?_ | refine WL_nil ?_ | refine W_seq ?_ | refine W_region ?_ | refine n7 ?_ | refine n8 ?_ | refine W_block ?_ | refine W_skip ?_ | refine W_ret ?_ | refine W_exit ?_ | refine WQ_then ?_ | refine WQ_then_ret ?_ | refine WQ_then_exit ?_ | refine WQ_block_normal ?_ | refine WQ_block_ret ?_ | refine WQ_block_exit ?_ | refine n9 ?_)
  ((apply W_loopK (X := Nat × List UInt8 × Bool) [5, 6] [1] (fun x => x.1 ≤ 32 ∧ HB l r p x.1 x.2.1 x.2.2) (fun x => [(5, .int .i64 (x.1 : Int))]) (fun x => [.row v 5 1 n ((A ++ x.2.1 ++ B).map bcell)]) (fun _ => []) (fun x => 32 - x.1) ((0, l, false))); (focus exact ⟨Nat.zero_le _, HB.zero l r p⟩); exact rfl; exact rfl; (intro _; exact rfl); (intro _; exact rfl); (intro _; exact rfl); (focus (repeat (first | exact FrIn.nil _ | (apply FrIn.cons; exact rfl; (first | exact rfl | (congr 1; first | omega | (dsimp only; omega)) | (simp; done)))))); (focus (repeat (first | exact SubO.nil _ | (apply SubO.cons; (focus (repeat' (first | exact Pick.head _ _ | apply Pick.tail))))))); (focus (repeat (first | exact AllE.nil _ | (apply AllE.cons; (focus (first | exact ent_nilBy | exact ent_nilSl | (apply Ent.mem; repeat' (first | exact mcs | apply mct)))))))); intro x hx)
  obtain ⟨i, ys, s⟩ := x
  obtain ⟨hi1, hs⟩ := hx
  replace hi1 : i ≤ 32 := hi1
  replace hs : HB l r p i ys s := hs
  have hl := hs.bs.len
  dsimp only
  by_cases h : i < 32
  · have hm := pat_mod p i
    by_cases hk : r + i < 8 * l.length
    · cases hb : p.toNat.testBit i with
      | false =>
        rw [hb] at hm
        repeat (first | refine n1 ?_ | refine n2 (fun b _ => ?_) | refine n3 (fun _ _ => ?_) | refine n4 ?_ | refine n5 ?_ | refine WL_nil ?_ | refine W_seq ?_ | refine W_region ?_ | refine n7 ?_ | refine n8 ?_ | refine W_block ?_ | refine W_skip ?_ | refine W_ret ?_ | refine W_exit ?_ | refine WQ_then ?_ | refine WQ_then_ret ?_ | refine WQ_then_exit ?_ | refine WQ_block_normal ?_ | refine WQ_block_ret ?_ | refine WQ_block_exit ?_ | refine n9 ?_)
        refine WL_runs rfl rfl rfl (R_rem rfl rfl (by omega) m1) ?_
        repeat (first | refine n1 ?_ | refine n2 (fun b _ => ?_) | refine n3 (fun _ _ => ?_) | refine n4 ?_ | refine n5 ?_ | refine WL_nil ?_ | refine W_seq ?_ | refine W_region ?_ | refine n7 ?_ | refine n8 ?_ | refine W_block ?_ | refine W_skip ?_ | refine W_ret ?_ | refine W_exit ?_ | refine WQ_then ?_ | refine WQ_then_ret ?_ | refine WQ_then_exit ?_ | refine WQ_block_normal ?_ | refine WQ_block_ret ?_ | refine WQ_block_exit ?_ | refine n9 ?_)
        refine WL_runs rfl rfl rfl (R_shr rfl rfl (by omega) (pat_bit p i (by omega))) ?_
        refine WL_runs rfl rfl rfl (R_rem rfl rfl (by decide) hm) ?_
        repeat (first | refine n1 ?_ | refine n2 (fun b _ => ?_) | refine n3 (fun _ _ => ?_) | refine n4 ?_ | refine n5 ?_ | refine WL_nil ?_ | refine W_seq ?_ | refine W_region ?_ | refine n7 ?_ | refine n8 ?_ | refine W_block ?_ | refine W_skip ?_ | refine W_ret ?_ | refine W_exit ?_ | refine WQ_then ?_ | refine WQ_then_ret ?_ | refine WQ_then_exit ?_ | refine WQ_block_normal ?_ | refine WQ_block_ret ?_ | refine WQ_block_exit ?_ | refine n9 ?_)
        ((apply WQ_again ((i + 1, ys, s))); (focus (exact ⟨h, hs.off (.inl hb)⟩)); (focus (omega)); (focus (repeat (first | exact FrIn.nil _ | (apply FrIn.cons; exact rfl; (first | exact rfl | (congr 1; first | omega | (dsimp only; omega)) | (simp; done)))))); (focus (repeat (first | exact SubO.nil _ | (apply SubO.cons; (focus (repeat' (first | exact Pick.head _ _ | apply Pick.tail))))))); (focus (repeat (first | exact AllE.nil _ | (apply AllE.cons; (focus (first | exact ent_nilBy | exact ent_nilSl | (apply Ent.mem; repeat' (first | exact mcs | apply mct)))))))))
      | true =>
        rw [hb] at hm
        have e8 : IntKind.i64.wrap (((r + i : Nat) : Int).tdiv 8) = (((r + i) / 8 : Nat) : Int) := by
          rw [show (((r + i : Nat) : Int).tdiv 8) = (((r + i) / 8 : Nat) : Int) from rfl]
          exact wx_i64 (by omega)
        have e9 : (((r + i : Nat) : Int).tmod 8) = (((r + i) % 8 : Nat) : Int) := rfl
        have hii : (r + i) / 8 < ys.length := by omega
        have hii2 : A.length + (r + i) / 8 < n := by rw [hn, List.length_append, List.length_append]; omega
        rw [show ((r + i : Nat) : Int) = (r : Int) + (i : Int) by omega] at e8 e9
        repeat (first | refine n1 ?_ | refine n2 (fun b _ => ?_) | refine n3 (fun _ _ => ?_) | refine n4 ?_ | refine n5 ?_ | refine WL_nil ?_ | refine W_seq ?_ | refine W_region ?_ | refine n7 ?_ | refine n8 ?_ | refine W_block ?_ | refine W_skip ?_ | refine W_ret ?_ | refine W_exit ?_ | refine WQ_then ?_ | refine WQ_then_ret ?_ | refine WQ_then_exit ?_ | refine WQ_block_normal ?_ | refine WQ_block_ret ?_ | refine WQ_block_exit ?_ | refine n9 ?_)
        refine WL_runs rfl rfl rfl (R_rem rfl rfl (by omega) m1) ?_
        repeat (first | refine n1 ?_ | refine n2 (fun b _ => ?_) | refine n3 (fun _ _ => ?_) | refine n4 ?_ | refine n5 ?_ | refine WL_nil ?_ | refine W_seq ?_ | refine W_region ?_ | refine n7 ?_ | refine n8 ?_ | refine W_block ?_ | refine W_skip ?_ | refine W_ret ?_ | refine W_exit ?_ | refine WQ_then ?_ | refine WQ_then_ret ?_ | refine WQ_then_exit ?_ | refine WQ_block_normal ?_ | refine WQ_block_ret ?_ | refine WQ_block_exit ?_ | refine n9 ?_)
        refine WL_runs rfl rfl rfl (R_shr rfl rfl (by omega) (pat_bit p i (by omega))) ?_
        refine WL_runs rfl rfl rfl (R_rem rfl rfl (by decide) hm) ?_
        repeat (first | refine n1 ?_ | refine n2 (fun b _ => ?_) | refine n3 (fun _ _ => ?_) | refine n4 ?_ | refine n5 ?_ | refine WL_nil ?_ | refine W_seq ?_ | refine W_region ?_ | refine n7 ?_ | refine n8 ?_ | refine W_block ?_ | refine W_skip ?_ | refine W_ret ?_ | refine W_exit ?_ | refine WQ_then ?_ | refine WQ_then_ret ?_ | refine WQ_then_exit ?_ | refine WQ_block_normal ?_ | refine WQ_block_ret ?_ | refine WQ_block_exit ?_ | refine n9 ?_)
        refine WL_runs rfl rfl rfl (R_quo rfl rfl (by decide) e8) ?_
        repeat (first | refine n1 ?_ | refine n2 (fun b _ => ?_) | refine n3 (fun _ _ => ?_) | refine n4 ?_ | refine n5 ?_ | refine WL_nil ?_ | refine W_seq ?_ | refine W_region ?_ | refine n7 ?_ | refine n8 ?_ | refine W_block ?_ | refine W_skip ?_ | refine W_ret ?_ | refine W_exit ?_ | refine WQ_then ?_ | refine WQ_then_ret ?_ | refine WQ_then_exit ?_ | refine WQ_block_normal ?_ | refine WQ_block_ret ?_ | refine WQ_block_exit ?_ | refine n9 ?_)
        refine WL_runs rfl rfl rfl (R_quo rfl rfl (by decide) e8) ?_
        refine WL_runs rfl rfl rfl (R_idxCut rfl rfl (by repeat' (first | exact Pick.head _ _ | apply Pick.tail)) rfl (by intro _; exact rfl) rfl (by omega) hhn) ?_
        refine WL_runs rfl rfl rfl (R_loadRow rfl (by repeat' (first | exact Pick.head _ _ | apply Pick.tail)) (by intro _; exact rfl) hii2 (get_mid hii)) ?_
        repeat (first | refine n1 ?_ | refine n2 (fun b _ => ?_) | refine n3 (fun _ _ => ?_) | refine n4 ?_ | refine n5 ?_ | refine WL_nil ?_ | refine W_seq ?_ | refine W_region ?_ | refine n7 ?_ | refine n8 ?_ | refine W_block ?_ | refine W_skip ?_ | refine W_ret ?_ | refine W_exit ?_ | refine WQ_then ?_ | refine WQ_then_ret ?_ | refine WQ_then_exit ?_ | refine WQ_block_normal ?_ | refine WQ_block_ret ?_ | refine WQ_block_exit ?_ | refine n9 ?_)
        refine WL_runs rfl rfl rfl (R_rem rfl rfl (by decide) e9) ?_
        repeat (first | refine n1 ?_ | refine n2 (fun b _ => ?_) | refine n3 (fun _ _ => ?_) | refine n4 ?_ | refine n5 ?_ | refine WL_nil ?_ | refine W_seq ?_ | refine W_region ?_ | refine n7 ?_ | refine n8 ?_ | refine W_block ?_ | refine W_skip ?_ | refine W_ret ?_ | refine W_exit ?_ | refine WQ_then ?_ | refine WQ_then_ret ?_ | refine WQ_then_exit ?_ | refine WQ_block_normal ?_ | refine WQ_block_ret ?_ | refine WQ_block_exit ?_ | refine n9 ?_)
        refine WL_runs rfl rfl rfl (R_shr rfl rfl (by omega) (one_shr ((r + i) % 8) (by omega))) ?_
        refine WL_runs rfl rfl rfl (R_xor rfl rfl (xor_u8 (ys.getD ((r + i) / 8) 0) (128 >>> UInt8.ofNat ((r + i) % 8)))) ?_
        refine WL_runs rfl rfl rfl (R_idxCut rfl rfl (by repeat' (first | exact Pick.head _ _ | apply Pick.tail)) rfl (by intro _; exact rfl) rfl (by omega) hhn) ?_
        refine WL_do rfl rfl (E_storeRow rfl rfl (by repeat' (first | exact Pick.head _ _ | apply Pick.tail)) rfl (by intro _; exact rfl) hii2) ?_
        intro _ _
        rw [cell_set, set_mid hii]
        repeat (first | refine n1 ?_ | refine n2 (fun b _ => ?_) | refine n3 (fun _ _ => ?_) | refine n4 ?_ | refine n5 ?_ | refine WL_nil ?_ | refine W_seq ?_ | refine W_region ?_ | refine n7 ?_ | refine n8 ?_ | refine W_block ?_ | refine W_skip ?_ | refine W_ret ?_ | refine W_exit ?_ | refine WQ_then ?_ | refine WQ_then_ret ?_ | refine WQ_then_exit ?_ | refine WQ_block_normal ?_ | refine WQ_block_ret ?_ | refine WQ_block_exit ?_ | refine n9 ?_)
        ((apply WQ_again ((i + 1, fl ys (r + i), true))); (focus exact ⟨h, hs.on hb hk⟩); (focus (omega)); (focus (repeat (first | exact FrIn.nil _ | (apply FrIn.cons; exact rfl; (first | exact rfl | (congr 1; first | omega | (dsimp only; omega)) | (simp; done)))))); (focus (repeat (first | exact SubO.nil _ | (apply SubO.cons; (focus (repeat' (first | exact Pick.head _ _ | apply Pick.tail))))))); (focus (repeat (first | exact AllE.nil _ | (apply AllE.cons; (focus (first | exact ent_nilBy | exact ent_nilSl | (apply Ent.mem; repeat' (first | exact mcs | apply mct)))))))))
    · repeat (first | refine n1 ?_ | refine n2 (fun b _ => ?_) | refine n3 (fun _ _ => ?_) | refine n4 ?_ | refine n5 ?_ | refine WL_nil ?_ | refine W_seq ?_ | refine W_region ?_ | refine n7 ?_ | refine n8 ?_ | refine W_block ?_ | refine W_skip ?_ | refine W_ret ?_ | refine W_exit ?_ | refine WQ_then ?_ | refine WQ_then_ret ?_ | refine WQ_then_exit ?_ | refine WQ_block_normal ?_ | refine WQ_block_ret ?_ | refine WQ_block_exit ?_ | refine n9 ?_)
      refine WL_runs rfl rfl rfl (R_rem rfl rfl (by omega) m1) ?_
      repeat (first | refine n1 ?_ | refine n2 (fun b _ => ?_) | refine n3 (fun _ _ => ?_) | refine n4 ?_ | refine n5 ?_ | refine WL_nil ?_ | refine W_seq ?_ | refine W_region ?_ | refine n7 ?_ | refine n8 ?_ | refine W_block ?_ | refine W_skip ?_ | refine W_ret ?_ | refine W_exit ?_ | refine WQ_then ?_ | refine WQ_then_ret ?_ | refine WQ_then_exit ?_ | refine WQ_block_normal ?_ | refine WQ_block_ret ?_ | refine WQ_block_exit ?_ | refine n9 ?_)
      ((apply WQ_again ((i + 1, ys, s))); (focus (exact ⟨h, hs.off (.inr (by omega))⟩)); (focus (omega)); (focus (repeat (first | exact FrIn.nil _ | (apply FrIn.cons; exact rfl; (first | exact rfl | (congr 1; first | omega | (dsimp only; omega)) | (simp; done)))))); (focus (repeat (first | exact SubO.nil _ | (apply SubO.cons; (focus (repeat' (first | exact Pick.head _ _ | apply Pick.tail))))))); (focus (repeat (first | exact AllE.nil _ | (apply AllE.cons; (focus (first | exact ent_nilBy | exact ent_nilSl | (apply Ent.mem; repeat' (first | exact mcs | apply mct)))))))))
  · obtain rfl : i = 32 := by omega
    repeat (first | refine n1 ?_ | refine n2 (fun b _ => ?_) | refine n3 (fun _ _ => ?_) | refine n4 ?_ | refine n5 ?_ | refine WL_nil ?_ | refine W_seq ?_ | refine W_region ?_ | refine n7 ?_ | refine n8 ?_ | refine W_block ?_ | refine W_skip ?_ | refine W_ret ?_ | refine W_exit ?_ | refine WQ_then ?_ | refine WQ_then_ret ?_ | refine WQ_then_exit ?_ | refine WQ_block_normal ?_ | refine WQ_block_ret ?_ | refine WQ_block_exit ?_ | refine n9 ?_)
    ((apply ret0 (by first | exact .inl rfl | exact .inr rfl) Tryd.results9 ( (ys, s))); (focus (first | trivial | assumption | omega)); (focus (first | exact rfl | (simp; done))); (focus (repeat (first | exact SubO.nil _ | (apply SubO.cons; (focus (repeat' (first | exact Pick.head _ _ | apply Pick.tail))))))); (focus (repeat (first | exact AllE.nil _ | (apply AllE.cons; (focus (first | exact ent_nilBy | exact ent_nilSl | (apply Ent.mem; repeat' (first | exact mcs | apply mct)))))))))
end Go.Proofs.YteojehocflbgdaaDoor
