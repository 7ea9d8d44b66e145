/-
  A packet read at the front of a packed form.
-/
import Derived.Test.YtdhbgolbfkejcaaDoorVMb
import Derived.Test.YtdhbgolbfkejcaaDoorXc
namespace Go.Hs
open Go Go.RowKit
section
variable {C : Ctx} {fr : Fr} {Γ Γ' : List OA} {Φ : List SP} {d : Tmp} {ty : TypeId} {pos : String} {aft : Array Edge} {g : Option (Nat × Bool)}
/-- the front of bytes copied into a part of an own block. -/
theorem E_copyBlkM {t t' e bt : TypeId} {x y : Operand} {u : Value} {b o n : Nat} {bs : List UInt8} {cs ds : List Value} (hx : evO fr x = some (.slice (some ⟨b, o, none⟩) n n)) (hy : evO fr y = some u) (hp : Pick (.blk b bt cs) Γ Γ') (hm : By u bs ∈ Φ)
    (ht : C.P.underlying t = some (.slice e)) (hs : (C.P.info? e).map (·.size) = some 1) (hn : n ≤ bs.length) (h0 : 0 < n) (hf : o + n ≤ cs.length) (hu : cs.take o ++ (bs.take n).map bcell ++ cs.drop (o + n) = ds) :
    Effs C fr Γ Φ ⟨some d, .call { callee := .builtin .copy, args := #[x, y], argTypes := #[t, t'] }, ty, pos, aft, g⟩ (X := Unit) (fun _ => True) (fun _ => .int .i64 (n : Int)) (fun _ => .blk b bt ds :: Γ') (fun _ => Φ) := by
  subst hu
  refine ⟨fun _ => AllIn.refl _, fun R a w ha hw => ?_⟩
  have hw' := pick_holds (pick_app hp R) hw
  obtain ⟨hl, B, c', hu', _, _, hr⟩ := hw'.sp _ hm
  obtain ⟨ad, rfl, _, _, hcell⟩ := hr (by omega)
  subst hu'
  have hb : w.heap[b]? = some (.cells cs.toArray bt (0, 0)) := hw'.own.1
  have e2 : ((bs.take n).map bcell).length = n := by rw [List.length_map, List.length_take, Nat.min_eq_left hn]
  have hrun := run_copy_row (P := C.P) w t t' ty e b o n n ad bs.length c' cs.toArray bt ((bs.take n).map bcell) ht hs hb (by rw [e2]; exact (Nat.min_eq_right hn).symm) (fun j v hj => by
    have hjn : j < n := by
      have := (List.getElem?_eq_some_iff.1 hj).1
      omega
    rw [List.getElem?_map, List.getElem?_take, if_pos hjn, ← List.getElem?_map] at hj
    exact hcell j v hj) (by rw [e2]; exact hf) (bcells_one _)
  refine .val (v := .int .i64 (n : Int)) (w' := _) ?_ ⟨(), trivial, rfl, setRow_holds (ds := cs.take o ++ (bs.take n).map bcell ++ cs.drop (o + n)) hw'⟩
  rw [e2] at hrun
  simp only [execOp, resolve, invoke, builtin, Sem.run_bind, Sem.run_pure, Result.andThen_ok, List.map_toArray, List.map_cons, List.map_nil, evO_sound ha hx, evO_sound ha hy, hrun]
  simp only [Result.andThen_ok, goInt]
end
end Go.Hs
namespace Go.Proofs.YtdhbgolbfkejcaaDoor
open Go Go.RowKit Go.Hs C08
/-- a packet without the value that leads to its data. -/
structure Kz where
  to_ : A6
  fr_ : A6
  data : List UInt8
def PKz (p : PK) : Kz := ⟨p.to_, p.fr_, p.data⟩
def a6k (l : List UInt8) : A6 := ⟨l.getD 0 0, l.getD 1 0, l.getD 2 0, l.getD 3 0, l.getD 4 0, l.getD 5 0⟩
theorem a6k_map {l : List UInt8} (h : l.length = 6) : l.map bcell = [bcell (a6k l).a0, bcell (a6k l).a1, bcell (a6k l).a2, bcell (a6k l).a3, bcell (a6k l).a4, bcell (a6k l).a5] := by
  match l, h with
  | [_, _, _, _, _, _], _ => rfl
def upT (b : List UInt8) : A6 := a6k (b.take 6)
def upF (b : List UInt8) : A6 := a6k ((b.drop 6).take 6)
def upN (b : List UInt8) : Nat := num2 (b.drop 12)
def upE (b : List UInt8) : Int := if b.length < 14 then 10 else if grp (upF b).a0 = true then 12 else if 1500 < upN b then 11 else if b.length < 14 + upN b then 10 else 0
def upP (b : List UInt8) : Kz := ⟨upT b, upF b, (b.drop 14).take (upN b)⟩
theorem upN_at (b : List UInt8) : (b.getD 12 0).toNat + 256 * (b.getD 13 0).toNat = upN b := num2_at b 12
attribute [local irreducible] WL W WQ PL Runs Effs AllE Ent SubO FrIn Pick OneC Ones CellsE PartsE SeqE UZ By Sl Pt Ct

set_option maxRecDepth 100000 in
set_option maxHeartbeats 8000000 in
theorem unpack1_fn (v : Value) (bs : List UInt8) (hb : bs.length ≤ 1000000) : Ct Tryd.prog 25 [v] [] [By v bs]
    (X := PK) (fun p => upE bs = 0 → PKz p = upP bs) (fun p => .tuple #[p.val, .int .i64 (if upE bs = 0 then ((14 + upN bs : Nat) : Int) else 0), .int .i64 (upE bs)]) (fun p => [.row p.dv 5 1 p.data.length (p.data.map bcell)]) (fun _ => []) := by
  by_cases c1 : bs.length < 14
  · have he : upE bs = 10 := by unfold upE; rw [if_pos c1]
    have hp : upE bs = 0 → PKz ⟨zA6, zA6, .slice none 0 0, []⟩ = upP bs := fun h => by rw [he] at h; cases h
    rw [if_neg (by rw [he]; decide), he] at *
    refine Go.Hs.Ct_intro Tryd.func25 rfl Tryd.ntmps25 (by simp) _ rfl (fun w0 O0 => ?_)
    repeat (first | refine Go.Hs.n1 ?_ | refine Go.Hs.n2 (fun b _ => ?_) | refine Go.Hs.n3 (fun _ _ => ?_) | refine Go.Hs.n4 ?_ | refine Go.Hs.n5 ?_ | refine Go.Hs.WL_nil ?_ | refine Go.Hs.W_seq ?_ | refine Go.Hs.W_region ?_ | refine Go.Hs.n7 ?_ | refine Go.Hs.n8 ?_ | refine Go.Hs.W_block ?_ | refine Go.Hs.W_skip ?_ | refine Go.Hs.W_ret ?_ | refine Go.Hs.W_exit ?_ | refine Go.Hs.WQ_then ?_ | refine Go.Hs.WQ_then_ret ?_ | refine Go.Hs.WQ_then_exit ?_ | refine Go.Hs.WQ_block_normal ?_ | refine Go.Hs.WQ_block_ret ?_ | refine Go.Hs.WQ_block_exit ?_ | refine Go.Hs.n9 ?_)
    apply WQ_nilRow 5 1
    ((apply Go.Hs.ret3 Tryd.results25 ( (⟨zA6, zA6, .slice none 0 0, []⟩ : PK))); (focus (first | trivial | assumption | omega)); (focus (first | exact Go.Hs.RV_tmp rfl | (apply Go.Hs.RV_cellN; exact rfl; (repeat' (first | exact Go.Hs.Pick.head _ _ | apply Go.Hs.Pick.tail)); (intro _; exact rfl); (intro _; exact rfl); exact rfl) | (apply Go.Hs.RV_cell1; exact rfl; (repeat' (first | exact Go.Hs.Pick.head _ _ | apply Go.Hs.Pick.tail)); (intro _; exact rfl); exact rfl))); (focus (first | exact Go.Hs.RV_tmp rfl | (apply Go.Hs.RV_cellN; exact rfl; (repeat' (first | exact Go.Hs.Pick.head _ _ | apply Go.Hs.Pick.tail)); (intro _; exact rfl); (intro _; exact rfl); exact rfl) | (apply Go.Hs.RV_cell1; exact rfl; (repeat' (first | exact Go.Hs.Pick.head _ _ | apply Go.Hs.Pick.tail)); (intro _; exact rfl); exact rfl))); (focus (first | exact Go.Hs.RV_tmp rfl | (apply Go.Hs.RV_cellN; exact rfl; (repeat' (first | exact Go.Hs.Pick.head _ _ | apply Go.Hs.Pick.tail)); (intro _; exact rfl); (intro _; exact rfl); exact rfl) | (apply Go.Hs.RV_cell1; exact rfl; (repeat' (first | exact Go.Hs.Pick.head _ _ | apply Go.Hs.Pick.tail)); (intro _; exact rfl); exact rfl)));  (focus (first | exact rfl | (simp; done))); (focus (repeat (first | exact Go.Hs.SubO.nil _ | (apply Go.Hs.SubO.cons; (focus (repeat' (first | exact Go.Hs.Pick.head _ _ | apply Go.Hs.Pick.tail))))))); (focus (repeat (first | exact Go.Hs.AllE.nil _ | (apply Go.Hs.AllE.cons; (focus (first | exact Go.Hs.ent_nilBy | exact Go.Hs.ent_nilSl | (apply Go.Hs.Ent.mem; repeat' (first | exact Go.Hs.mcs | apply Go.Hs.mct)))))))))
  have hT : (bs.take 6).length = 6 := by rw [List.length_take]; omega
  have hF : ((bs.drop 6).take 6).length = 6 := by rw [List.length_take, List.length_drop]; omega
  have hn := upN_at bs
  have hN := num2_lt (bs.drop 12)
  replace hN : upN bs < 65536 := hN
  have h12 : (bs.getD 12 0).toNat < 256 := (bs.getD 12 0).toNat_lt
  have h13 : (bs.getD 13 0).toNat < 256 := (bs.getD 13 0).toNat_lt
  refine Go.Hs.Ct_intro Tryd.func25 rfl Tryd.ntmps25 (by simp) _ rfl (fun w0 O0 => ?_)
  repeat (first | refine Go.Hs.n1 ?_ | refine Go.Hs.n2 (fun b _ => ?_) | refine Go.Hs.n3 (fun _ _ => ?_) | refine Go.Hs.n4 ?_ | refine Go.Hs.n5 ?_ | refine Go.Hs.WL_nil ?_ | refine Go.Hs.W_seq ?_ | refine Go.Hs.W_region ?_ | refine Go.Hs.n7 ?_ | refine Go.Hs.n8 ?_ | refine Go.Hs.W_block ?_ | refine Go.Hs.W_skip ?_ | refine Go.Hs.W_ret ?_ | refine Go.Hs.W_exit ?_ | refine Go.Hs.WQ_then ?_ | refine Go.Hs.WQ_then_ret ?_ | refine Go.Hs.WQ_then_exit ?_ | refine Go.Hs.WQ_block_normal ?_ | refine Go.Hs.WQ_block_ret ?_ | refine Go.Hs.WQ_block_exit ?_ | refine Go.Hs.n9 ?_)
  rename Nat => b
  refine WL_effs rfl rfl rfl (E_copyBlkM (o := 0) (n := 6) (bs := bs) (ds := [bcell (upT bs).a0, bcell (upT bs).a1, bcell (upT bs).a2, bcell (upT bs).a3, bcell (upT bs).a4, bcell (upT bs).a5, .int .u8 0, .int .u8 0, .int .u8 0, .int .u8 0, .int .u8 0, .int .u8 0, .slice none 0 0]) rfl rfl (by repeat' (first | exact Go.Hs.Pick.head _ _ | apply Go.Hs.Pick.tail)) (by repeat' (first | exact Go.Hs.mcs | apply Go.Hs.mct)) rfl rfl (by omega) (by decide) (Nat.le_of_ble_eq_true rfl) (by rw [a6k_map hT]; rfl)) (fun _ _ => ?_)
  repeat (first | refine Go.Hs.n1 ?_ | refine Go.Hs.n2 (fun b _ => ?_) | refine Go.Hs.n3 (fun _ _ => ?_) | refine Go.Hs.n4 ?_ | refine Go.Hs.n5 ?_ | refine Go.Hs.WL_nil ?_ | refine Go.Hs.W_seq ?_ | refine Go.Hs.W_region ?_ | refine Go.Hs.n7 ?_ | refine Go.Hs.n8 ?_ | refine Go.Hs.W_block ?_ | refine Go.Hs.W_skip ?_ | refine Go.Hs.W_ret ?_ | refine Go.Hs.W_exit ?_ | refine Go.Hs.WQ_then ?_ | refine Go.Hs.WQ_then_ret ?_ | refine Go.Hs.WQ_then_exit ?_ | refine Go.Hs.WQ_block_normal ?_ | refine Go.Hs.WQ_block_ret ?_ | refine Go.Hs.WQ_block_exit ?_ | refine Go.Hs.n9 ?_)
  (refine Go.Hs.W_regionP' [4] [] [0, 1, 2, 3, 4] [0] (by kernel_rfl) (by kernel_rfl) (by repeat (first | exact Go.Hs.UZ.nil _ _ | (apply Go.Hs.UZ.cons; exact rfl; (intro _; exact rfl)))) (by exact rfl) (by (repeat (first | exact Go.Hs.SubO.nil _ | (apply Go.Hs.SubO.cons; (focus (repeat' (first | exact Go.Hs.Pick.head _ _ | apply Go.Hs.Pick.tail))))))) ?_)
  repeat (first | refine Go.Hs.p1 ?_ | refine Go.Hs.p2 (fun b _ => ?_) | refine Go.Hs.p3 (fun _ _ => ?_) | refine Go.Hs.p4 ?_ | refine Go.Hs.p5 ?_ | refine Go.Hs.p7 (fun b => ?_) | refine Go.Hs.PL_nil ?_)
  refine PL_effs rfl rfl rfl rfl rfl (E_copyBlkM (o := 6) (n := 6) (bs := (bs.drop 6).take (bs.length - 6)) (ds := [bcell (upT bs).a0, bcell (upT bs).a1, bcell (upT bs).a2, bcell (upT bs).a3, bcell (upT bs).a4, bcell (upT bs).a5, bcell (upF bs).a0, bcell (upF bs).a1, bcell (upF bs).a2, bcell (upF bs).a3, bcell (upF bs).a4, bcell (upF bs).a5, .slice none 0 0]) rfl rfl (by repeat' (first | exact Go.Hs.Pick.head _ _ | apply Go.Hs.Pick.tail)) (by repeat' (first | exact Go.Hs.mcs | apply Go.Hs.mct)) rfl rfl (by rw [List.length_take, List.length_drop]; omega) (by decide) (Nat.le_of_ble_eq_true rfl) (by rw [List.take_take, Nat.min_eq_left (by omega), a6k_map hF]; rfl)) (fun _ => (by (repeat (first | exact Go.Hs.SubO.nil _ | (apply Go.Hs.SubO.cons; (focus (repeat' (first | exact Go.Hs.Pick.head _ _ | apply Go.Hs.Pick.tail)))))))) (fun _ _ => ?_)
  repeat (first | refine Go.Hs.p1 ?_ | refine Go.Hs.p2 (fun b _ => ?_) | refine Go.Hs.p3 (fun _ _ => ?_) | refine Go.Hs.p4 ?_ | refine Go.Hs.p5 ?_ | refine Go.Hs.p7 (fun b => ?_) | refine Go.Hs.PL_nil ?_)
  repeat (first | refine Go.Hs.n1 ?_ | refine Go.Hs.n2 (fun b _ => ?_) | refine Go.Hs.n3 (fun _ _ => ?_) | refine Go.Hs.n4 ?_ | refine Go.Hs.n5 ?_ | refine Go.Hs.WL_nil ?_ | refine Go.Hs.W_seq ?_ | refine Go.Hs.W_region ?_ | refine Go.Hs.n7 ?_ | refine Go.Hs.n8 ?_ | refine Go.Hs.W_block ?_ | refine Go.Hs.W_skip ?_ | refine Go.Hs.W_ret ?_ | refine Go.Hs.W_exit ?_ | refine Go.Hs.WQ_then ?_ | refine Go.Hs.WQ_then_ret ?_ | refine Go.Hs.WQ_then_exit ?_ | refine Go.Hs.WQ_block_normal ?_ | refine Go.Hs.WQ_block_ret ?_ | refine Go.Hs.WQ_block_exit ?_ | refine Go.Hs.n9 ?_)
  (refine Go.Hs.W_regionP' [] [] [0, 1, 2, 3, 4, 5, 6, 7, 8, 9, 10, 11] [] (by kernel_rfl) (by kernel_rfl) (by repeat (first | exact Go.Hs.UZ.nil _ _ | (apply Go.Hs.UZ.cons; exact rfl; (intro _; exact rfl)))) (by exact rfl) (by (repeat (first | exact Go.Hs.SubO.nil _ | (apply Go.Hs.SubO.cons; (focus (repeat' (first | exact Go.Hs.Pick.head _ _ | apply Go.Hs.Pick.tail))))))) ?_)
  refine p1 ?_
  refine PL_runsF rfl rfl rfl rfl rfl (R_idxBy (i := 12) rfl rfl (by repeat' (first | exact Go.Hs.mcs | apply Go.Hs.mct)) rfl (by intro _; exact rfl) rfl (by omega)) ?_
  refine p1 ?_
  refine p1 ?_
  refine p1 ?_
  refine p1 ?_
  refine PL_runsF rfl rfl rfl rfl rfl (R_idxBy (i := 13) rfl rfl (by repeat' (first | exact Go.Hs.mcs | apply Go.Hs.mct)) rfl (by intro _; exact rfl) rfl (by omega)) ?_
  repeat (first | refine Go.Hs.p1 ?_ | refine Go.Hs.p2 (fun b _ => ?_) | refine Go.Hs.p3 (fun _ _ => ?_) | refine Go.Hs.p4 ?_ | refine Go.Hs.p5 ?_ | refine Go.Hs.p7 (fun b => ?_) | refine Go.Hs.PL_nil ?_)
  refine PL_runs rfl rfl rfl rfl rfl (R_shl rfl rfl (by decide) (i64_shl8 _)) ?_
  repeat (first | refine Go.Hs.p1 ?_ | refine Go.Hs.p2 (fun b _ => ?_) | refine Go.Hs.p3 (fun _ _ => ?_) | refine Go.Hs.p4 ?_ | refine Go.Hs.p5 ?_ | refine Go.Hs.p7 (fun b => ?_) | refine Go.Hs.PL_nil ?_)
  rw [show (14 + ((bs.getD 12 0).toNat : Int) + (((bs.getD 13 0).toNat * 256 : Nat) : Int)) = ((14 + upN bs : Nat) : Int) by omega]
  have hg := group_fn (upF bs)
  by_cases c2 : grp (upF bs).a0 = true
  · rw [c2] at hg
    have he : upE bs = 12 := by unfold upE; rw [if_neg c1, if_pos c2]
    have hp : upE bs = 0 → PKz ⟨upT bs, upF bs, .slice none 0 0, []⟩ = upP bs := fun h => by rw [he] at h; cases h
    rw [if_neg (by rw [he]; decide), he] at *
    repeat (first | refine Go.Hs.n1 ?_ | refine Go.Hs.n2 (fun b _ => ?_) | refine Go.Hs.n3 (fun _ _ => ?_) | refine Go.Hs.n4 ?_ | refine Go.Hs.n5 ?_ | refine Go.Hs.n6 (hg) ?_ | refine Go.Hs.n6v (hg) ?_ | refine Go.Hs.WL_nil ?_ | refine Go.Hs.W_seq ?_ | refine Go.Hs.W_region ?_ | refine Go.Hs.n7 ?_ | refine Go.Hs.n8 ?_ | refine Go.Hs.W_block ?_ | refine Go.Hs.W_skip ?_ | refine Go.Hs.W_ret ?_ | refine Go.Hs.W_exit ?_ | refine Go.Hs.WQ_then ?_ | refine Go.Hs.WQ_then_ret ?_ | refine Go.Hs.WQ_then_exit ?_ | refine Go.Hs.WQ_block_normal ?_ | refine Go.Hs.WQ_block_ret ?_ | refine Go.Hs.WQ_block_exit ?_ | refine Go.Hs.n9 ?_)
    apply WQ_nilRow 5 1
    ((apply Go.Hs.ret3 Tryd.results25 ( (⟨upT bs, upF bs, .slice none 0 0, []⟩ : PK))); (focus (first | trivial | assumption | omega)); (focus (first | exact Go.Hs.RV_tmp rfl | (apply Go.Hs.RV_cellN; exact rfl; (repeat' (first | exact Go.Hs.Pick.head _ _ | apply Go.Hs.Pick.tail)); (intro _; exact rfl); (intro _; exact rfl); exact rfl) | (apply Go.Hs.RV_cell1; exact rfl; (repeat' (first | exact Go.Hs.Pick.head _ _ | apply Go.Hs.Pick.tail)); (intro _; exact rfl); exact rfl))); (focus (first | exact Go.Hs.RV_tmp rfl | (apply Go.Hs.RV_cellN; exact rfl; (repeat' (first | exact Go.Hs.Pick.head _ _ | apply Go.Hs.Pick.tail)); (intro _; exact rfl); (intro _; exact rfl); exact rfl) | (apply Go.Hs.RV_cell1; exact rfl; (repeat' (first | exact Go.Hs.Pick.head _ _ | apply Go.Hs.Pick.tail)); (intro _; exact rfl); exact rfl))); (focus (first | exact Go.Hs.RV_tmp rfl | (apply Go.Hs.RV_cellN; exact rfl; (repeat' (first | exact Go.Hs.Pick.head _ _ | apply Go.Hs.Pick.tail)); (intro _; exact rfl); (intro _; exact rfl); exact rfl) | (apply Go.Hs.RV_cell1; exact rfl; (repeat' (first | exact Go.Hs.Pick.head _ _ | apply Go.Hs.Pick.tail)); (intro _; exact rfl); exact rfl)));  (focus (first | exact rfl | (simp; done))); (focus (repeat (first | exact Go.Hs.SubO.nil _ | (apply Go.Hs.SubO.cons; (focus (repeat' (first | exact Go.Hs.Pick.head _ _ | apply Go.Hs.Pick.tail))))))); (focus (repeat (first | exact Go.Hs.AllE.nil _ | (apply Go.Hs.AllE.cons; (focus (first | exact Go.Hs.ent_nilBy | exact Go.Hs.ent_nilSl | (apply Go.Hs.Ent.mem; repeat' (first | exact Go.Hs.mcs | apply Go.Hs.mct)))))))))
  have c2' : grp (upF bs).a0 = false := by
    cases e : grp (upF bs).a0
    · rfl
    · exact absurd e c2
  rw [c2'] at hg
  by_cases c3 : 1500 < upN bs
  · have he : upE bs = 11 := by unfold upE; rw [if_neg c1, if_neg c2, if_pos c3]
    have hp : upE bs = 0 → PKz ⟨upT bs, upF bs, .slice none 0 0, []⟩ = upP bs := fun h => by rw [he] at h; cases h
    rw [if_neg (by rw [he]; decide), he] at *
    repeat (first | refine Go.Hs.n1 ?_ | refine Go.Hs.n2 (fun b _ => ?_) | refine Go.Hs.n3 (fun _ _ => ?_) | refine Go.Hs.n4 ?_ | refine Go.Hs.n5 ?_ | refine Go.Hs.n6 (hg) ?_ | refine Go.Hs.n6v (hg) ?_ | refine Go.Hs.WL_nil ?_ | refine Go.Hs.W_seq ?_ | refine Go.Hs.W_region ?_ | refine Go.Hs.n7 ?_ | refine Go.Hs.n8 ?_ | refine Go.Hs.W_block ?_ | refine Go.Hs.W_skip ?_ | refine Go.Hs.W_ret ?_ | refine Go.Hs.W_exit ?_ | refine Go.Hs.WQ_then ?_ | refine Go.Hs.WQ_then_ret ?_ | refine Go.Hs.WQ_then_exit ?_ | refine Go.Hs.WQ_block_normal ?_ | refine Go.Hs.WQ_block_ret ?_ | refine Go.Hs.WQ_block_exit ?_ | refine Go.Hs.n9 ?_)
    apply WQ_nilRow 5 1
    ((apply Go.Hs.ret3 Tryd.results25 ( (⟨upT bs, upF bs, .slice none 0 0, []⟩ : PK))); (focus (first | trivial | assumption | omega)); (focus (first | exact Go.Hs.RV_tmp rfl | (apply Go.Hs.RV_cellN; exact rfl; (repeat' (first | exact Go.Hs.Pick.head _ _ | apply Go.Hs.Pick.tail)); (intro _; exact rfl); (intro _; exact rfl); exact rfl) | (apply Go.Hs.RV_cell1; exact rfl; (repeat' (first | exact Go.Hs.Pick.head _ _ | apply Go.Hs.Pick.tail)); (intro _; exact rfl); exact rfl))); (focus (first | exact Go.Hs.RV_tmp rfl | (apply Go.Hs.RV_cellN; exact rfl; (repeat' (first | exact Go.Hs.Pick.head _ _ | apply Go.Hs.Pick.tail)); (intro _; exact rfl); (intro _; exact rfl); exact rfl) | (apply Go.Hs.RV_cell1; exact rfl; (repeat' (first | exact Go.Hs.Pick.head _ _ | apply Go.Hs.Pick.tail)); (intro _; exact rfl); exact rfl))); (focus (first | exact Go.Hs.RV_tmp rfl | (apply Go.Hs.RV_cellN; exact rfl; (repeat' (first | exact Go.Hs.Pick.head _ _ | apply Go.Hs.Pick.tail)); (intro _; exact rfl); (intro _; exact rfl); exact rfl) | (apply Go.Hs.RV_cell1; exact rfl; (repeat' (first | exact Go.Hs.Pick.head _ _ | apply Go.Hs.Pick.tail)); (intro _; exact rfl); exact rfl)));  (focus (first | exact rfl | (simp; done))); (focus (repeat (first | exact Go.Hs.SubO.nil _ | (apply Go.Hs.SubO.cons; (focus (repeat' (first | exact Go.Hs.Pick.head _ _ | apply Go.Hs.Pick.tail))))))); (focus (repeat (first | exact Go.Hs.AllE.nil _ | (apply Go.Hs.AllE.cons; (focus (first | exact Go.Hs.ent_nilBy | exact Go.Hs.ent_nilSl | (apply Go.Hs.Ent.mem; repeat' (first | exact Go.Hs.mcs | apply Go.Hs.mct)))))))))
  by_cases c4 : bs.length < 14 + upN bs
  · have he : upE bs = 10 := by unfold upE; rw [if_neg c1, if_neg c2, if_neg c3, if_pos c4]
    have hp : upE bs = 0 → PKz ⟨upT bs, upF bs, .slice none 0 0, []⟩ = upP bs := fun h => by rw [he] at h; cases h
    rw [if_neg (by rw [he]; decide), he] at *
    repeat (first | refine Go.Hs.n1 ?_ | refine Go.Hs.n2 (fun b _ => ?_) | refine Go.Hs.n3 (fun _ _ => ?_) | refine Go.Hs.n4 ?_ | refine Go.Hs.n5 ?_ | refine Go.Hs.n6 (hg) ?_ | refine Go.Hs.n6v (hg) ?_ | refine Go.Hs.WL_nil ?_ | refine Go.Hs.W_seq ?_ | refine Go.Hs.W_region ?_ | refine Go.Hs.n7 ?_ | refine Go.Hs.n8 ?_ | refine Go.Hs.W_block ?_ | refine Go.Hs.W_skip ?_ | refine Go.Hs.W_ret ?_ | refine Go.Hs.W_exit ?_ | refine Go.Hs.WQ_then ?_ | refine Go.Hs.WQ_then_ret ?_ | refine Go.Hs.WQ_then_exit ?_ | refine Go.Hs.WQ_block_normal ?_ | refine Go.Hs.WQ_block_ret ?_ | refine Go.Hs.WQ_block_exit ?_ | refine Go.Hs.n9 ?_)
    apply WQ_nilRow 5 1
    ((apply Go.Hs.ret3 Tryd.results25 ( (⟨upT bs, upF bs, .slice none 0 0, []⟩ : PK))); (focus (first | trivial | assumption | omega)); (focus (first | exact Go.Hs.RV_tmp rfl | (apply Go.Hs.RV_cellN; exact rfl; (repeat' (first | exact Go.Hs.Pick.head _ _ | apply Go.Hs.Pick.tail)); (intro _; exact rfl); (intro _; exact rfl); exact rfl) | (apply Go.Hs.RV_cell1; exact rfl; (repeat' (first | exact Go.Hs.Pick.head _ _ | apply Go.Hs.Pick.tail)); (intro _; exact rfl); exact rfl))); (focus (first | exact Go.Hs.RV_tmp rfl | (apply Go.Hs.RV_cellN; exact rfl; (repeat' (first | exact Go.Hs.Pick.head _ _ | apply Go.Hs.Pick.tail)); (intro _; exact rfl); (intro _; exact rfl); exact rfl) | (apply Go.Hs.RV_cell1; exact rfl; (repeat' (first | exact Go.Hs.Pick.head _ _ | apply Go.Hs.Pick.tail)); (intro _; exact rfl); exact rfl))); (focus (first | exact Go.Hs.RV_tmp rfl | (apply Go.Hs.RV_cellN; exact rfl; (repeat' (first | exact Go.Hs.Pick.head _ _ | apply Go.Hs.Pick.tail)); (intro _; exact rfl); (intro _; exact rfl); exact rfl) | (apply Go.Hs.RV_cell1; exact rfl; (repeat' (first | exact Go.Hs.Pick.head _ _ | apply Go.Hs.Pick.tail)); (intro _; exact rfl); exact rfl)));  (focus (first | exact rfl | (simp; done))); (focus (repeat (first | exact Go.Hs.SubO.nil _ | (apply Go.Hs.SubO.cons; (focus (repeat' (first | exact Go.Hs.Pick.head _ _ | apply Go.Hs.Pick.tail))))))); (focus (repeat (first | exact Go.Hs.AllE.nil _ | (apply Go.Hs.AllE.cons; (focus (first | exact Go.Hs.ent_nilBy | exact Go.Hs.ent_nilSl | (apply Go.Hs.Ent.mem; repeat' (first | exact Go.Hs.mcs | apply Go.Hs.mct)))))))))
  have he : upE bs = 0 := by unfold upE; rw [if_neg c1, if_neg c2, if_neg c3, if_neg c4]
  rw [if_pos he, he]
  repeat (first | refine Go.Hs.n1 ?_ | refine Go.Hs.n2 (fun b _ => ?_) | refine Go.Hs.n3 (fun _ _ => ?_) | refine Go.Hs.n4 ?_ | refine Go.Hs.n5 ?_ | refine Go.Hs.n6 (hg) ?_ | refine Go.Hs.n6v (hg) ?_ | refine Go.Hs.WL_nil ?_ | refine Go.Hs.W_seq ?_ | refine Go.Hs.W_region ?_ | refine Go.Hs.n7 ?_ | refine Go.Hs.n8 ?_ | refine Go.Hs.W_block ?_ | refine Go.Hs.W_skip ?_ | refine Go.Hs.W_ret ?_ | refine Go.Hs.W_exit ?_ | refine Go.Hs.WQ_then ?_ | refine Go.Hs.WQ_then_ret ?_ | refine Go.Hs.WQ_then_exit ?_ | refine Go.Hs.WQ_block_normal ?_ | refine Go.Hs.WQ_block_ret ?_ | refine Go.Hs.WQ_block_exit ?_ | refine Go.Hs.n9 ?_)
  (apply Go.Hs.WL_effs; exact rfl; exact rfl; exact rfl; apply Go.Hs.E_call; exact rfl; (intro _ _; simp); (exact cloneB_fn _ ((bs.drop 14).take (upN bs)) (by rw [List.length_take, List.length_drop]; omega)); (repeat (first | exact Go.Hs.AllE.nil _ | (apply Go.Hs.AllE.cons; (focus (first | exact Go.Hs.ent_nilBy | exact Go.Hs.ent_nilSl | (apply Go.Hs.Ent.mem; repeat' (first | exact Go.Hs.mcs | apply Go.Hs.mct))))))); (intro _; exact rfl); (intro _; exact rfl))
  intro o _
  repeat (first | refine Go.Hs.n1 ?_ | refine Go.Hs.n2 (fun b _ => ?_) | refine Go.Hs.n3 (fun _ _ => ?_) | refine Go.Hs.n4 ?_ | refine Go.Hs.n5 ?_ | refine Go.Hs.WL_nil ?_ | refine Go.Hs.W_seq ?_ | refine Go.Hs.W_region ?_ | refine Go.Hs.n7 ?_ | refine Go.Hs.n8 ?_ | refine Go.Hs.W_block ?_ | refine Go.Hs.W_skip ?_ | refine Go.Hs.W_ret ?_ | refine Go.Hs.W_exit ?_ | refine Go.Hs.WQ_then ?_ | refine Go.Hs.WQ_then_ret ?_ | refine Go.Hs.WQ_then_exit ?_ | refine Go.Hs.WQ_block_normal ?_ | refine Go.Hs.WQ_block_ret ?_ | refine Go.Hs.WQ_block_exit ?_ | refine Go.Hs.n9 ?_)
  have hp : 0 = (0 : Int) → PKz ⟨upT bs, upF bs, o, (bs.drop 14).take (upN bs)⟩ = upP bs := fun _ => rfl
  ((apply Go.Hs.ret3 Tryd.results25 ( (⟨upT bs, upF bs, o, (bs.drop 14).take (upN bs)⟩ : PK))); (focus (first | trivial | assumption | omega)); (focus (first | exact Go.Hs.RV_tmp rfl | (apply Go.Hs.RV_cellN; exact rfl; (repeat' (first | exact Go.Hs.Pick.head _ _ | apply Go.Hs.Pick.tail)); (intro _; exact rfl); (intro _; exact rfl); exact rfl) | (apply Go.Hs.RV_cell1; exact rfl; (repeat' (first | exact Go.Hs.Pick.head _ _ | apply Go.Hs.Pick.tail)); (intro _; exact rfl); exact rfl))); (focus (first | exact Go.Hs.RV_tmp rfl | (apply Go.Hs.RV_cellN; exact rfl; (repeat' (first | exact Go.Hs.Pick.head _ _ | apply Go.Hs.Pick.tail)); (intro _; exact rfl); (intro _; exact rfl); exact rfl) | (apply Go.Hs.RV_cell1; exact rfl; (repeat' (first | exact Go.Hs.Pick.head _ _ | apply Go.Hs.Pick.tail)); (intro _; exact rfl); exact rfl))); (focus (first | exact Go.Hs.RV_tmp rfl | (apply Go.Hs.RV_cellN; exact rfl; (repeat' (first | exact Go.Hs.Pick.head _ _ | apply Go.Hs.Pick.tail)); (intro _; exact rfl); (intro _; exact rfl); exact rfl) | (apply Go.Hs.RV_cell1; exact rfl; (repeat' (first | exact Go.Hs.Pick.head _ _ | apply Go.Hs.Pick.tail)); (intro _; exact rfl); exact rfl)));  (focus (first | exact rfl | (simp; done))); (focus (repeat (first | exact Go.Hs.SubO.nil _ | (apply Go.Hs.SubO.cons; (focus (repeat' (first | exact Go.Hs.Pick.head _ _ | apply Go.Hs.Pick.tail))))))); (focus (repeat (first | exact Go.Hs.AllE.nil _ | (apply Go.Hs.AllE.cons; (focus (first | exact Go.Hs.ent_nilBy | exact Go.Hs.ent_nilSl | (apply Go.Hs.Ent.mem; repeat' (first | exact Go.Hs.mcs | apply Go.Hs.mct)))))))))
end Go.Proofs.YtdhbgolbfkejcaaDoor
