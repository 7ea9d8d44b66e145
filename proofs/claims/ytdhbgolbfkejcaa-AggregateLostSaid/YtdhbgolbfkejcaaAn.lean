/-
  The law 'AggregateLost' walked.
-/
import Derived.Test.YtdhbgolbfkejcaaAl
namespace Go.Proofs.Ytdhbgolbfkejcaa
open Go Go.RowKit Go.Hs

theorem getD_filter {fs gs : List (List UInt8)} {i : Nat} (h : fs.length ≤ i) : (fs ++ gs).getD i [] = gs.getD (i - fs.length) [] := by
  rw [List.getD_eq_getElem?_getD, List.getD_eq_getElem?_getD, List.getElem?_append_right h]
theorem getD_dropL {α : Type} (l : List α) (k i : Nat) (d : α) : (l.drop k).getD i d = l.getD (k + i) d := by
  rw [List.getD_eq_getElem?_getD, List.getD_eq_getElem?_getD, List.getElem?_drop]
/-- the joined form with its k-th delimiter told anew. -/
def lB (fs : List (List UInt8)) (k : Nat) (bad : List UInt8) : List UInt8 := pj ((fs.take k).map entp) ++ (bad ++ (fs.getD k [] ++ tl_ fs k))
theorem lB_length {fs : List (List UInt8)} {k : Nat} (h : k < fs.length) (bad : List UInt8) (hb : bad.length = 4) : (lB fs k bad).length = st fs k + 4 + (fs.getD k []).length + (tl_ fs k).length := by
  unfold lB
  rw [List.length_append, List.length_append, List.length_append, st_pj fs k (Nat.le_of_lt h), hb]
  omega
theorem lB_copy {fs : List (List UInt8)} {k : Nat} (h : k < fs.length) (bad : List UInt8) (hb : bad.length = 4) : ((jn fs).map bcell).take (st fs k) ++ bad.map bcell ++ ((jn fs).map bcell).drop (st fs k + 4) = (lB fs k bad).map bcell := by
  have hp := st_pj fs k (Nat.le_of_lt h)
  rw [jn_at h, ← List.map_take, ← List.map_drop, ← List.map_append, ← List.map_append]
  congr 1
  have e2 : (pj ((fs.take k).map entp) ++ dlm (fs.getD k []).length).length = st fs k + 4 := by rw [List.length_append, hp, dlm_length]
  rw [List.take_left' hp, entp, List.append_assoc (dlm _), ← List.append_assoc (pj _) (dlm _), List.drop_left' e2, lB, List.append_assoc]
theorem lB_drop {fs : List (List UInt8)} {k : Nat} (h : k < fs.length) (bad : List UInt8) (i : Nat) : (lB fs k bad).drop (st fs k + i) = (bad ++ (fs.getD k [] ++ tl_ fs k)).drop i := by
  rw [← List.drop_drop, lB, List.drop_left' (st_pj fs k (Nat.le_of_lt h))]
theorem row_form2 {C : Ctx} {Γ Γ' : List OA} {Φ : List SP} {v : Value} {t : TypeId} {size n : Nat} {xs : List Value} (hp : Pick (.row v t size n xs) Γ Γ') : ∀ w, Holds C Γ Φ w → ∃ A c, v = .slice A n c ∧ n ≤ c := fun w hw => by
  obtain ⟨A, c, h, _⟩ := row_nil_or (pick_holds hp hw).own.1
  have h2 := (pick_holds hp hw).own.1
  subst h
  refine ⟨A, c, rfl, ?_⟩
  rcases h2.2 with ⟨h3, h4⟩ | ⟨b, cap, cur, h3, _, _, h5, _⟩
  · omega
  · injection h3 with _ _ h3; omega
section
variable {C : Ctx} {fr : Fr} {Γ Γ' Γ1 : List OA} {Φ : List SP}
  {d : Nat} {ty : TypeId} {pos : String} {aft : Array Edge} {g : Option (Nat × Bool)}
theorem R_cutVal {t e : TypeId} {x : Operand} {lo? hi? : Option Operand} {A : Option Addr} {size n c : Nat} {ilo ihi : Int} {lo hi : Nat}
    (hx : evO fr x = some (.slice A n c)) (hc : n ≤ c) (ht : C.P.underlying t = some (.slice e)) (hs : ∀ w, (sizeOf e).run C.P w = .ok size w)
    (hlo : cutLo fr lo? = some ilo) (hhi : cutHi fr n hi? = some ihi) (el : ilo = (lo : Int)) (eh : ihi = (hi : Int)) (h1 : lo ≤ hi) (h2 : hi ≤ n) :
    Runs C fr Γ Φ ⟨some d, .slice t x lo? hi? none, ty, pos, aft, g⟩ (cutV size lo hi (.slice A n c)) := by
  subst el; subst eh
  refine Runs.pure fun a w ha hw => ?_
  simp only [execOp, Sem.run_bind, evO_sound ha hx, run_cut ha ht hs hlo hhi h1 h2 hc, Option.map_none, Result.andThen_ok, Sem.run_pure, cutV]
end
theorem ones_sub {C : Ctx} {Γ : List OA} {Φ : List SP} {us vs : List Value} (h : Ones C Γ Φ us) (k : ∀ u, u ∈ vs → u ∈ us) : Ones C Γ Φ vs := fun u hu => h u (k u hu)
theorem lostAl {Φ : List SP} {n k : Nat} {vs : Nat → Value} {fs : List (List UInt8)} (hn : n = fs.length) (hk : k < n) (hm : Al n (fun i => By (vs i) (fs.getD i [])) ∈ Φ) :
    Ent Φ (Al (fs.take k ++ fs.drop (k + 1)).length (fun i => By ((((List.range n).map vs).take k ++ ((List.range n).map vs).drop (k + 1)).getD i undef) ((fs.take k ++ fs.drop (k + 1)).getD i []))) := by
  subst hn
  have hl : (fs.take k ++ fs.drop (k + 1)).length = fs.length - 1 := by rw [List.length_append, List.length_take, List.length_drop]; omega
  have hl1 : (fs.take k).length = k := by rw [List.length_take]; omega
  have hl2 : (((List.range fs.length).map vs).take k).length = k := by rw [List.length_take, List.length_map, List.length_range]; omega
  refine ent_alI fun i hi => ?_
  rw [hl] at hi
  by_cases h : i < k
  · rw [getD_appl (by omega), getD_appl (by omega), getD_take _ _ _ _ h, getD_take _ _ _ _ h, getD_map_range (by omega)]
    exact ent_al (ψ := fun i => By (vs i) (fs.getD i [])) hm (by omega)
  · have e1 : ∀ {α : Type} (a b : List α) (d : α), a.length = k → (a ++ b).getD i d = b.getD (i - k) d := fun a b d ha => by
      rw [List.getD_eq_getElem?_getD, List.getD_eq_getElem?_getD, List.getElem?_append_right (by omega), ha]
    rw [e1 _ _ _ hl1, e1 _ _ _ hl2, getD_dropL, getD_dropL, show k + 1 + (i - k) = i + 1 by omega, getD_map_range (by omega)]
    exact ent_al (ψ := fun i => By (vs i) (fs.getD i [])) (i := i + 1) hm (by omega)
attribute [local irreducible] WL W WQ PL Runs Effs AllE Ent SubO FrIn Pick OneC Ones CellsE PartsE SeqE UZ By Sl Pt Ct

set_option maxRecDepth 100000 in
set_option maxHeartbeats 16000000 in
theorem lostLaw_fn (v : Value) (fs : List (List UInt8)) (vs : Nat → Value) (a : Int) (x0 x1 x2 x3 : UInt8) :
    CtD Try.prog 6 [v, .int .i64 a, .agg #[bcell x0, bcell x1, bcell x2, bcell x3]] [Rw 1 v fs.length (fun i => [vs i]), Al fs.length (fun i => By (vs i) (fs.getD i []))] (.bool true) := by
  have hal := alive_fn
  have hj := join_fn v fs vs
  refine Ct_intro Try.func6 rfl Try.ntmps6 (by simp) _ rfl (fun w0 O0 => ?_)
  (first | refine n1 ?_ | refine n2 (fun b _ => ?_) | refine n3 (fun _ _ => ?_) | refine n4 ?_ | refine n5 ?_ | refine WL_nil ?_ | refine W_seq ?_ | refine W_region ?_ | refine n7 ?_ | refine n8 ?_ | refine W_block ?_ | refine W_skip ?_ | refine W_ret ?_ | refine W_exit ?_ | refine WQ_then ?_ | refine WQ_then_ret ?_ | refine WQ_then_exit ?_ | refine WQ_block_normal ?_ | refine WQ_block_ret ?_ | refine WQ_block_exit ?_ | refine n9 ?_)
  (first | refine n1 ?_ | refine n2 (fun b _ => ?_) | refine n3 (fun _ _ => ?_) | refine n4 ?_ | refine n5 ?_ | refine WL_nil ?_ | refine W_seq ?_ | refine W_region ?_ | refine n7 ?_ | refine n8 ?_ | refine W_block ?_ | refine W_skip ?_ | refine W_ret ?_ | refine W_exit ?_ | refine WQ_then ?_ | refine WQ_then_ret ?_ | refine WQ_then_exit ?_ | refine WQ_block_normal ?_ | refine WQ_block_ret ?_ | refine WQ_block_exit ?_ | refine n9 ?_)
  (first | refine n1 ?_ | refine n2 (fun b _ => ?_) | refine n3 (fun _ _ => ?_) | refine n4 ?_ | refine n5 ?_ | refine WL_nil ?_ | refine W_seq ?_ | refine W_region ?_ | refine n7 ?_ | refine n8 ?_ | refine W_block ?_ | refine W_skip ?_ | refine W_ret ?_ | refine W_exit ?_ | refine WQ_then ?_ | refine WQ_then_ret ?_ | refine WQ_then_exit ?_ | refine WQ_block_normal ?_ | refine WQ_block_ret ?_ | refine WQ_block_exit ?_ | refine n9 ?_)
  obtain ⟨b5, rfl⟩ : ∃ b5, b5 = b := ⟨b, rfl⟩
  repeat (first | refine n1 ?_ | refine n2 (fun b _ => ?_) | refine n3 (fun _ _ => ?_) | refine n4 ?_ | refine n5 ?_ | refine n6 (hal) ?_ | refine n6v (hal) ?_ | refine WL_nil ?_ | refine W_seq ?_ | refine W_region ?_ | refine n7 ?_ | refine n8 ?_ | refine W_block ?_ | refine W_skip ?_ | refine W_ret ?_ | refine W_exit ?_ | refine WQ_then ?_ | refine WQ_then_ret ?_ | refine WQ_then_exit ?_ | refine WQ_block_normal ?_ | refine WQ_block_ret ?_ | refine WQ_block_exit ?_ | refine n9 ?_)
  refine WL_letgoK (b := b5) (by repeat' (first | exact Pick.head _ _ | apply Pick.tail)) ?_
  refine WL_ent (ent_ptBy (b := b5) (off := 0) (n := 4) (xs := [bcell x0, bcell x1, bcell x2, bcell x3]) (bs := [x0, x1, x2, x3]) (by repeat' (first | exact mcs | apply mct)) rfl rfl (by decide) (by decide)) ?_
  (apply WL_effs; exact rfl; exact rfl; exact rfl; apply E_call; exact rfl; (intro _ _; simp); exact greatP_fn v fs vs; (repeat (first | exact AllE.nil _ | (apply AllE.cons; (focus (first | exact ent_nilBy | exact ent_nilSl | (apply Ent.mem; repeat' (first | exact mcs | apply mct))))))); (intro _; exact rfl); (intro _; exact rfl))
  intro gr _
  cases gr with
  | true =>
    repeat (first | refine n1 ?_ | refine n2 (fun b _ => ?_) | refine n3 (fun _ _ => ?_) | refine n4 ?_ | refine n5 ?_ | refine WL_nil ?_ | refine W_seq ?_ | refine W_region ?_ | refine n7 ?_ | refine n8 ?_ | refine W_block ?_ | refine W_skip ?_ | refine W_ret ?_ | refine W_exit ?_ | refine WQ_then ?_ | refine WQ_then_ret ?_ | refine WQ_then_exit ?_ | refine WQ_block_normal ?_ | refine WQ_block_ret ?_ | refine WQ_block_exit ?_ | refine n9 ?_)
    ((apply ret1 Try.results6 ( ())); (focus (first | trivial | assumption | omega)); (focus (first | exact RV_tmp rfl | (apply RV_cellN; exact rfl; (repeat' (first | exact Pick.head _ _ | apply Pick.tail)); (intro _; exact rfl); (intro _; exact rfl); exact rfl) | (apply RV_cell1; exact rfl; (repeat' (first | exact Pick.head _ _ | apply Pick.tail)); (intro _; exact rfl); exact rfl)));  (focus (first | exact rfl | (simp; done))); (focus (repeat (first | exact SubO.nil _ | (apply SubO.cons; (focus (repeat' (first | exact Pick.head _ _ | apply Pick.tail))))))); (focus (repeat (first | exact AllE.nil _ | (apply AllE.cons; (focus (first | exact ent_nilBy | exact ent_nilSl | (apply Ent.mem; repeat' (first | exact mcs | apply mct)))))))))
  | false =>
    by_cases g1 : a < 0
    · repeat (first | refine n1 ?_ | refine n2 (fun b _ => ?_) | refine n3 (fun _ _ => ?_) | refine n4 ?_ | refine n5 ?_ | refine WL_nil ?_ | refine W_seq ?_ | refine W_region ?_ | refine n7 ?_ | refine n8 ?_ | refine W_block ?_ | refine W_skip ?_ | refine W_ret ?_ | refine W_exit ?_ | refine WQ_then ?_ | refine WQ_then_ret ?_ | refine WQ_then_exit ?_ | refine WQ_block_normal ?_ | refine WQ_block_ret ?_ | refine WQ_block_exit ?_ | refine n9 ?_)
      ((apply ret1 Try.results6 ( ())); (focus (first | trivial | assumption | omega)); (focus (first | exact RV_tmp rfl | (apply RV_cellN; exact rfl; (repeat' (first | exact Pick.head _ _ | apply Pick.tail)); (intro _; exact rfl); (intro _; exact rfl); exact rfl) | (apply RV_cell1; exact rfl; (repeat' (first | exact Pick.head _ _ | apply Pick.tail)); (intro _; exact rfl); exact rfl)));  (focus (first | exact rfl | (simp; done))); (focus (repeat (first | exact SubO.nil _ | (apply SubO.cons; (focus (repeat' (first | exact Pick.head _ _ | apply Pick.tail))))))); (focus (repeat (first | exact AllE.nil _ | (apply AllE.cons; (focus (first | exact ent_nilBy | exact ent_nilSl | (apply Ent.mem; repeat' (first | exact mcs | apply mct)))))))))
    · by_cases c1 : (jnE fs).2 = 0
      · obtain ⟨hne, hl, hok, hjl, hjb⟩ := jnE_ok c1
        rw [c1, hjb] at hj
        have hlen : 0 < fs.length := List.length_pos_iff.2 hne
        obtain ⟨at_, rfl⟩ : ∃ n : Nat, a = (n : Int) := ⟨a.toNat, by omega⟩
        have hkm : (at_ : Int).tmod (fs.length : Int) = ((at_ % fs.length : Nat) : Int) := rfl
        have hk : at_ % fs.length < fs.length := Nat.mod_lt _ hlen
        repeat (first | refine n1 ?_ | refine n2 (fun b _ => ?_) | refine n3 (fun _ _ => ?_) | refine n4 ?_ | refine n5 ?_ | refine WL_nil ?_ | refine W_seq ?_ | refine W_region ?_ | refine n7 ?_ | refine n8 ?_ | refine W_block ?_ | refine W_skip ?_ | refine W_ret ?_ | refine W_exit ?_ | refine WQ_then ?_ | refine WQ_then_ret ?_ | refine WQ_then_exit ?_ | refine WQ_block_normal ?_ | refine WQ_block_ret ?_ | refine WQ_block_exit ?_ | refine n9 ?_)
        (apply WL_effs; exact rfl; exact rfl; exact rfl; apply E_call; exact rfl; (intro _ _; simp); exact hj; (repeat (first | exact AllE.nil _ | (apply AllE.cons; (focus (first | exact ent_nilBy | exact ent_nilSl | (apply Ent.mem; repeat' (first | exact mcs | apply mct))))))); (intro _; exact rfl); (intro _; exact rfl))
        intro o _
        repeat (first | refine n1 ?_ | refine n2 (fun b _ => ?_) | refine n3 (fun _ _ => ?_) | refine n4 ?_ | refine n5 ?_ | refine WL_nil ?_ | refine W_seq ?_ | refine W_region ?_ | refine n7 ?_ | refine n8 ?_ | refine W_block ?_ | refine W_skip ?_ | refine W_ret ?_ | refine W_exit ?_ | refine WQ_then ?_ | refine WQ_then_ret ?_ | refine WQ_then_exit ?_ | refine WQ_block_normal ?_ | refine WQ_block_ret ?_ | refine WQ_block_exit ?_ | refine n9 ?_)
        refine WL_runs rfl rfl rfl (R_rem rfl rfl (by omega) hkm) ?_
        generalize at_ % fs.length = k at *
        have hpo := hok (fs.getD k []) (by rw [getD_of hk]; exact List.getElem_mem hk)
        have hpo1 := hpo.1
        have hpo2 := hpo.2
        have hsg := stV_get fs hk
        have hst := st_mono fs hok k (Nat.le_of_lt hk)
        have hjl2 := jB_length hk (fs.getD k []) rfl
        rw [jB_self hk] at hjl2
        have hlb := lB_length hk [x0, x1, x2, x3] rfl
        have hcp := lB_copy hk [x0, x1, x2, x3] rfl
        refine WL_ent (ent_al (i := k) (ψ := fun i => By (vs i) (fs.getD i [])) (by (focus (repeat' (first | exact mcs | apply mct)))) hk) ?_
        repeat (first | refine n1 ?_ | refine n2 (fun b _ => ?_) | refine n3 (fun _ _ => ?_) | refine n4 ?_ | refine n5 ?_ | refine WL_nil ?_ | refine W_seq ?_ | refine W_region ?_ | refine n7 ?_ | refine n8 ?_ | refine W_block ?_ | refine W_skip ?_ | refine W_ret ?_ | refine W_exit ?_ | refine WQ_then ?_ | refine WQ_then_ret ?_ | refine WQ_then_exit ?_ | refine WQ_block_normal ?_ | refine WQ_block_ret ?_ | refine WQ_block_exit ?_ | refine n9 ?_)
        (apply WL_effs; exact rfl; exact rfl; exact rfl; apply E_call; exact rfl; (intro _ _; simp); exact starts_fn v fs vs hok hl; (repeat (first | exact AllE.nil _ | (apply AllE.cons; (focus (first | exact ent_nilBy | exact ent_nilSl | (apply Ent.mem; repeat' (first | exact mcs | apply mct))))))); (intro _; exact rfl); (intro _; exact rfl))
        intro sv _
        refine WL_pure (row_form2 (v := o) (by repeat' (first | exact Pick.head _ _ | apply Pick.tail))) fun hform => ?_
        obtain ⟨oA, oc, rfl, hoc⟩ := hform
        repeat (first | refine n1 ?_ | refine n2 (fun b _ => ?_) | refine n3 (fun _ _ => ?_) | refine n4 ?_ | refine n5 ?_ | refine WL_nil ?_ | refine W_seq ?_ | refine W_region ?_ | refine n7 ?_ | refine n8 ?_ | refine W_block ?_ | refine W_skip ?_ | refine W_ret ?_ | refine W_exit ?_ | refine WQ_then ?_ | refine WQ_then_ret ?_ | refine WQ_then_exit ?_ | refine WQ_block_normal ?_ | refine WQ_block_ret ?_ | refine WQ_block_exit ?_ | refine n9 ?_)
        (refine W_regionP' [6] [] [0, 1, 2, 3, 4, 5, 6] [1] (by kernel_rfl) (by kernel_rfl) (by repeat (first | exact UZ.nil _ _ | (apply UZ.cons; exact rfl; (intro _; exact rfl)))) (by exact rfl) (by (repeat (first | exact SubO.nil _ | (apply SubO.cons; (focus (repeat' (first | exact Pick.head _ _ | apply Pick.tail))))))) ?_)
        repeat (first | refine p1 ?_ | refine p2 (fun b _ => ?_) | refine p3 (fun _ _ => ?_) | refine p4 ?_ | refine p5 ?_ | refine p7 (fun b => ?_) | refine PL_nil ?_)
        refine PL_runs rfl rfl rfl rfl rfl (R_cutVal (lo := st fs k) (hi := st fs k + 4) rfl hoc rfl (by intro _; exact rfl) rfl rfl rfl rfl (by omega) (by omega)) ?_
        repeat (first | refine p1 ?_ | refine p2 (fun b _ => ?_) | refine p3 (fun _ _ => ?_) | refine p4 ?_ | refine p5 ?_ | refine p7 (fun b => ?_) | refine PL_nil ?_)
        refine PL_effs rfl rfl rfl rfl rfl (E_copyCut (us := (lB fs k [x0, x1, x2, x3]).map bcell) rfl rfl (by repeat' (first | exact Pick.head _ _ | apply Pick.tail)) (by repeat' (first | exact mcs | apply mct)) rfl rfl (by show 4 = _; omega) (by omega) (by omega) hcp) (fun _ => (by (repeat (first | exact SubO.nil _ | (apply SubO.cons; (focus (repeat' (first | exact Pick.head _ _ | apply Pick.tail)))))))) (fun _ _ => ?_)
        repeat (first | refine p1 ?_ | refine p2 (fun b _ => ?_) | refine p3 (fun _ _ => ?_) | refine p4 ?_ | refine p5 ?_ | refine p7 (fun b => ?_) | refine PL_nil ?_)
        repeat (first | refine n1 ?_ | refine n2 (fun b _ => ?_) | refine n3 (fun _ _ => ?_) | refine n4 ?_ | refine n5 ?_ | refine WL_nil ?_ | refine W_seq ?_ | refine W_region ?_ | refine n7 ?_ | refine n8 ?_ | refine W_block ?_ | refine W_skip ?_ | refine W_ret ?_ | refine W_exit ?_ | refine WQ_then ?_ | refine WQ_then_ret ?_ | refine WQ_then_exit ?_ | refine WQ_block_normal ?_ | refine WQ_block_ret ?_ | refine WQ_block_exit ?_ | refine n9 ?_)
        refine W_letgoB (v := .slice oA (jn fs).length oc) (bs := lB fs k [x0, x1, x2, x3]) (by repeat' (first | exact Pick.head _ _ | apply Pick.tail)) rfl ?_
        have hjn : (jn fs).length = (lB fs k [x0, x1, x2, x3]).length := by rw [hlb, hjl2]
        ((apply W_loopK (X := Nat) [13, 14, 15, 16] [] (fun x => ∀ i, i < x → 4 * i < 4 + (fs.getD k []).length ∧ 4 ≤ (([x0, x1, x2, x3] ++ (fs.getD k [] ++ tl_ fs k)).drop (4 * i)).length ∧ hit (([x0, x1, x2, x3] ++ (fs.getD k [] ++ tl_ fs k)).drop (4 * i)) = false) (fun x => [(13, .int .i64 (x : Int)), (14, .int .i64 ((st fs k + 4 * x : Nat) : Int))]) (fun _ => []) (fun _ => []) (fun x => 2500 - x) (0)); (focus (exact fun i hi => absurd hi (by omega))); exact rfl; exact rfl; (intro _; exact rfl); (intro _; exact rfl); (intro _; exact rfl); (focus (repeat (first | exact FrIn.nil _ | (apply FrIn.cons; exact rfl; (first | exact rfl | (congr 1; first | omega | (dsimp only; omega)) | (simp; done)))))); (focus (repeat (first | exact SubO.nil _ | (apply SubO.cons; (focus (repeat' (first | exact Pick.head _ _ | apply Pick.tail))))))); (focus (repeat (first | exact AllE.nil _ | (apply AllE.cons; (focus (first | exact ent_nilBy | exact ent_nilSl | (apply Ent.mem; repeat' (first | exact mcs | apply mct)))))))); intro x hx)
        have hld := lB_drop hk [x0, x1, x2, x3] (4 * x)
        have hldl : (([x0, x1, x2, x3] ++ (fs.getD k [] ++ tl_ fs k)).drop (4 * x)).length = (lB fs k [x0, x1, x2, x3]).length - (st fs k + 4 * x) := by rw [← hld, List.length_drop]
        have hxm : x ≤ 2405 := by
          apply Nat.le_of_not_lt
          intro h
          have := (hx 2405 h).1
          omega
        by_cases c2 : 4 * x < 4 + (fs.getD k []).length
        · by_cases c3 : st fs k + 4 * x + 4 ≤ (lB fs k [x0, x1, x2, x3]).length
          · have hat := at_fn (.slice oA (jn fs).length oc) (lB fs k [x0, x1, x2, x3]) (st fs k + 4 * x) (by omega) c3
            rw [hld] at hat
            cases hh : hit (([x0, x1, x2, x3] ++ (fs.getD k [] ++ tl_ fs k)).drop (4 * x)) with
            | true =>
              rw [hh] at hat
              repeat (first | refine n1 ?_ | refine n2 (fun b _ => ?_) | refine n3 (fun _ _ => ?_) | refine n4 ?_ | refine n5 ?_ | refine n6 (hat) ?_ | refine n6v (hat) ?_ | refine WL_nil ?_ | refine W_seq ?_ | refine W_region ?_ | refine n7 ?_ | refine n8 ?_ | refine W_block ?_ | refine W_skip ?_ | refine W_ret ?_ | refine W_exit ?_ | refine WQ_then ?_ | refine WQ_then_ret ?_ | refine WQ_then_exit ?_ | refine WQ_block_normal ?_ | refine WQ_block_ret ?_ | refine WQ_block_exit ?_ | refine n9 ?_)
              ((apply ret1 Try.results6 ( ())); (focus (first | trivial | assumption | omega)); (focus (first | exact RV_tmp rfl | (apply RV_cellN; exact rfl; (repeat' (first | exact Pick.head _ _ | apply Pick.tail)); (intro _; exact rfl); (intro _; exact rfl); exact rfl) | (apply RV_cell1; exact rfl; (repeat' (first | exact Pick.head _ _ | apply Pick.tail)); (intro _; exact rfl); exact rfl)));  (focus (first | exact rfl | (simp; done))); (focus (repeat (first | exact SubO.nil _ | (apply SubO.cons; (focus (repeat' (first | exact Pick.head _ _ | apply Pick.tail))))))); (focus (repeat (first | exact AllE.nil _ | (apply AllE.cons; (focus (first | exact ent_nilBy | exact ent_nilSl | (apply Ent.mem; repeat' (first | exact mcs | apply mct)))))))))
            | false =>
              rw [hh] at hat
              repeat (first | refine n1 ?_ | refine n2 (fun b _ => ?_) | refine n3 (fun _ _ => ?_) | refine n4 ?_ | refine n5 ?_ | refine n6 (hat) ?_ | refine n6v (hat) ?_ | refine WL_nil ?_ | refine W_seq ?_ | refine W_region ?_ | refine n7 ?_ | refine n8 ?_ | refine W_block ?_ | refine W_skip ?_ | refine W_ret ?_ | refine W_exit ?_ | refine WQ_then ?_ | refine WQ_then_ret ?_ | refine WQ_then_exit ?_ | refine WQ_block_normal ?_ | refine WQ_block_ret ?_ | refine WQ_block_exit ?_ | refine n9 ?_)
              have hn : ∀ i, i < x + 1 → 4 * i < 4 + (fs.getD k []).length ∧ 4 ≤ (([x0, x1, x2, x3] ++ (fs.getD k [] ++ tl_ fs k)).drop (4 * i)).length ∧ hit (([x0, x1, x2, x3] ++ (fs.getD k [] ++ tl_ fs k)).drop (4 * i)) = false := fun i hi => by
                by_cases e : i = x
                · subst e; exact ⟨c2, by omega, hh⟩
                · exact hx i (by omega)
              ((apply WQ_again (x + 1)); (focus exact hn); (focus (omega)); (focus (repeat (first | exact FrIn.nil _ | (apply FrIn.cons; exact rfl; (first | exact rfl | (congr 1; first | omega | (dsimp only; omega)) | (simp; done)))))); (focus (repeat (first | exact SubO.nil _ | (apply SubO.cons; (focus (repeat' (first | exact Pick.head _ _ | apply Pick.tail))))))); (focus (repeat (first | exact AllE.nil _ | (apply AllE.cons; (focus (first | exact ent_nilBy | exact ent_nilSl | (apply Ent.mem; repeat' (first | exact mcs | apply mct)))))))))
          · have hend : 4 + (fs.getD k []).length ≤ 4 * x ∨ (([x0, x1, x2, x3] ++ (fs.getD k [] ++ tl_ fs k)).drop (4 * x)).length < 4 := .inr (by omega)
            refine W_ent (ent_rwR (v := v) (vs := vs) (by (focus (repeat' (first | exact mcs | apply mct))))) ?_
            have hsc := sc_lost hok hk [x0, x1, x2, x3] rfl x hx hend
            have hs := scan_fn (.slice oA (jn fs).length oc) (lB fs k [x0, x1, x2, x3]) (by omega)
            rw [show sc (lB fs k [x0, x1, x2, x3]) = _ from hsc] at hs
            have hLl : ((List.range fs.length).map vs).length = fs.length := by simp
            have hwl : (fs.take k ++ fs.drop (k + 1)).length = k + (fs.length - (k + 1)) := by rw [List.length_append, List.length_take, List.length_drop]; omega
            repeat (first | refine n1 ?_ | refine n2 (fun b _ => ?_) | refine n3 (fun _ _ => ?_) | refine n4 ?_ | refine n5 ?_ | refine WL_nil ?_ | refine W_seq ?_ | refine W_region ?_ | refine n7 ?_ | refine n8 ?_ | refine W_block ?_ | refine W_skip ?_ | refine W_ret ?_ | refine W_exit ?_ | refine WQ_then ?_ | refine WQ_then_ret ?_ | refine WQ_then_exit ?_ | refine WQ_block_normal ?_ | refine WQ_block_ret ?_ | refine WQ_block_exit ?_ | refine n9 ?_)
            (refine W_regionP' [0, 4, 9] [] [1, 2, 3, 5, 6, 7, 8, 0, 4, 9, 10] [] (by kernel_rfl) (by kernel_rfl) (by repeat (first | exact UZ.nil _ _ | (apply UZ.cons; exact rfl; (intro _; exact rfl)))) (by exact rfl) (by (repeat (first | exact SubO.nil _ | (apply SubO.cons; (focus (repeat' (first | exact Pick.head _ _ | apply Pick.tail))))))) ?_)
            repeat (first | refine p1 ?_ | refine p2 (fun b _ => ?_) | refine p3 (fun _ _ => ?_) | refine p4 ?_ | refine p5 ?_ | refine p7 (fun b => ?_) | refine PL_nil ?_)
            refine PL_runsF rfl rfl rfl rfl rfl (R_cutSl (lo := 0) (hi := k) (m := k) (us := ((List.range fs.length).map vs).take k) rfl (n := fs.length) (xs := (List.range fs.length).map vs) (by repeat' (first | exact mcs | apply mct)) rfl (by intro _; exact rfl) rfl rfl rfl rfl (Nat.zero_le _) (Nat.le_of_lt hk) rfl (by simp only [Nat.zero_mul, List.drop_zero, Nat.sub_zero, Nat.mul_one])) ?_
            repeat (first | refine p1 ?_ | refine p2 (fun b _ => ?_) | refine p3 (fun _ _ => ?_) | refine p4 ?_ | refine p5 ?_ | refine p7 (fun b => ?_) | refine PL_nil ?_)
            refine PL_runsF rfl rfl rfl rfl rfl (R_cutSl (lo := k + 1) (hi := fs.length) (m := fs.length - (k + 1)) (us := ((List.range fs.length).map vs).drop (k + 1)) rfl (n := fs.length) (xs := (List.range fs.length).map vs) (by repeat' (first | exact mcs | apply mct)) rfl (by intro _; exact rfl) rfl rfl rfl rfl hk (Nat.le_refl _) rfl (by rw [Nat.mul_one, Nat.mul_one]; exact List.take_of_length_le (by rw [List.length_drop, hLl]; exact Nat.le_refl _))) ?_
            repeat (first | refine p1 ?_ | refine p2 (fun b _ => ?_) | refine p3 (fun _ _ => ?_) | refine p4 ?_ | refine p5 ?_ | refine p7 (fun b => ?_) | refine PL_nil ?_)
            (apply PL_effs; exact rfl; exact rfl; exact rfl; exact rfl; exact rfl; (apply E_buildSlice; exact rfl; (focus (repeat (first | apply SeqE.nil | (apply SeqE.cons; exact rfl; (focus (first | (apply CellsE.lit; exact rfl) | (apply CellsE.one; (first | (apply OneC.lit; exact rfl) | (apply OneC.by_; (repeat' (first | exact mcs | apply mct)); done) | (apply OneC.sl; (repeat' (first | exact mcs | apply mct)); done) | (apply OneC.rw; (repeat' (first | exact mcs | apply mct)); done) | (apply OneC.row; (repeat' (first | exact Pick.head _ _ | apply Pick.tail))))))); exact rfl) | exact rfl))); exact rfl; (first | (intro _; exact (rfl : _ = Result.ok 1 _)) | (intro _; exact (rfl : _ = Result.ok 2 _)) | (intro _; exact (rfl : _ = Result.ok 3 _)) | (intro _; exact (rfl : _ = Result.ok 4 _)) | (intro _; exact (rfl : _ = Result.ok 5 _)) | (intro _; exact (rfl : _ = Result.ok 6 _)) | (intro _; exact (rfl : _ = Result.ok 7 _)) | (intro _; exact (rfl : _ = Result.ok 8 _)) | (intro _; exact (rfl : _ = Result.ok 13 _)) | (intro _; exact (rfl : _ = Result.ok 14 _)) | (intro _; exact (rfl : _ = Result.ok 26 _)) | (intro _; exact (rfl : _ = Result.ok 40 _)) | (intro _; exact (rfl : _ = Result.ok 41 _)) | (intro _; exact (rfl : _ = Result.ok 42 _)) | (intro _; exact (rfl : _ = Result.ok 43 _)) | (intro _; exact (rfl : _ = Result.ok 44 _)) | (intro _; exact (rfl : _ = Result.ok 45 _)) | (intro _; exact (rfl : _ = Result.ok 46 _))); (intro _; exact rfl); exact rfl; exact Nat.le_of_ble_eq_true rfl; exact Nat.le_of_ble_eq_true rfl); (intro _; (repeat (first | exact SubO.nil _ | (apply SubO.cons; (focus (repeat' (first | exact Pick.head _ _ | apply Pick.tail))))))); skip)
            intro q0 _
            refine PL_effs rfl rfl rfl rfl rfl (E_appendO (xs := []) (news := ((List.range fs.length).map vs).take k) (nm := k) (all := ((List.range fs.length).map vs).take k) rfl rfl (by repeat' (first | exact Pick.head _ _ | apply Pick.tail)) (m := k) (by repeat' (first | exact mcs | apply mct)) rfl rfl rfl rfl rfl (Nat.le_of_ble_eq_true rfl) (ones_sub (ones_al (n := fs.length) (vs := vs) (fs := fun i => fs.getD i []) (by repeat' (first | exact mcs | apply mct))) (fun u hu => List.mem_of_mem_take hu)) (Nat.le_of_ble_eq_true rfl) (by omega) (Nat.zero_add _) rfl) (fun _ => (by (repeat (first | exact SubO.nil _ | (apply SubO.cons; (focus (repeat' (first | exact Pick.head _ _ | apply Pick.tail)))))))) (fun q1 _ => ?_)
            refine PL_effs rfl rfl rfl rfl rfl (E_appendO (xs := ((List.range fs.length).map vs).take k) (news := ((List.range fs.length).map vs).drop (k + 1)) (nm := (fs.take k ++ fs.drop (k + 1)).length) (all := ((List.range fs.length).map vs).take k ++ ((List.range fs.length).map vs).drop (k + 1)) rfl rfl (by repeat' (first | exact Pick.head _ _ | apply Pick.tail)) (m := fs.length - (k + 1)) (by repeat' (first | exact mcs | apply mct)) rfl rfl rfl rfl rfl (Nat.le_of_ble_eq_true rfl) (ones_sub (ones_al (n := fs.length) (vs := vs) (fs := fun i => fs.getD i []) (by repeat' (first | exact mcs | apply mct))) (fun u hu => List.mem_of_mem_drop hu)) (Nat.le_of_ble_eq_true rfl) (by omega) hwl.symm rfl) (fun _ => (by (repeat (first | exact SubO.nil _ | (apply SubO.cons; (focus (repeat' (first | exact Pick.head _ _ | apply Pick.tail)))))))) (fun q2 _ => ?_)
            repeat (first | refine p1 ?_ | refine p2 (fun b _ => ?_) | refine p3 (fun _ _ => ?_) | refine p4 ?_ | refine p5 ?_ | refine p7 (fun b => ?_) | refine PL_nil ?_)
            refine WQ_letgo (v := q2) (by repeat' (first | exact Pick.head _ _ | apply Pick.tail)) ?_
            refine WQ_ent (ent_slRw1 (v := q2) (by repeat' (first | exact mcs | apply mct))) ?_
            refine WQ_ent (lostAl (vs := vs) (fs := fs) rfl hk (by (focus (repeat' (first | exact mcs | apply mct))))) ?_
            repeat (first | refine n1 ?_ | refine n2 (fun b _ => ?_) | refine n3 (fun _ _ => ?_) | refine n4 ?_ | refine n5 ?_ | refine WL_nil ?_ | refine W_seq ?_ | refine W_region ?_ | refine n7 ?_ | refine n8 ?_ | refine W_block ?_ | refine W_skip ?_ | refine W_ret ?_ | refine W_exit ?_ | refine WQ_then ?_ | refine WQ_then_ret ?_ | refine WQ_then_exit ?_ | refine WQ_block_normal ?_ | refine WQ_block_ret ?_ | refine WQ_block_exit ?_ | refine n9 ?_)
            (apply WL_effs; exact rfl; exact rfl; exact rfl; apply E_call; exact rfl; (intro _ _; simp); exact hs; (repeat (first | exact AllE.nil _ | (apply AllE.cons; (focus (first | exact ent_nilBy | exact ent_nilSl | (apply Ent.mem; repeat' (first | exact mcs | apply mct))))))); (intro _; exact rfl); (intro _; exact rfl))
            rintro ⟨y1, us⟩ _
            dsimp only
            have hsa := sameAll_fn y1 q2 (fun i => us.getD i undef) (fun i => (((List.range fs.length).map vs).take k ++ ((List.range fs.length).map vs).drop (k + 1)).getD i undef) (fs.take k ++ fs.drop (k + 1)) (by omega)
            repeat (first | refine n1 ?_ | refine n2 (fun b _ => ?_) | refine n3 (fun _ _ => ?_) | refine n4 ?_ | refine n5 ?_ | refine n6 (hsa) ?_ | refine n6v (hsa) ?_ | refine WL_nil ?_ | refine W_seq ?_ | refine W_region ?_ | refine n7 ?_ | refine n8 ?_ | refine W_block ?_ | refine W_skip ?_ | refine W_ret ?_ | refine W_exit ?_ | refine WQ_then ?_ | refine WQ_then_ret ?_ | refine WQ_then_exit ?_ | refine WQ_block_normal ?_ | refine WQ_block_ret ?_ | refine WQ_block_exit ?_ | refine n9 ?_)
            ((apply ret1 Try.results6 ( ())); (focus (first | trivial | assumption | omega)); (focus (first | exact RV_tmp rfl | (apply RV_cellN; exact rfl; (repeat' (first | exact Pick.head _ _ | apply Pick.tail)); (intro _; exact rfl); (intro _; exact rfl); exact rfl) | (apply RV_cell1; exact rfl; (repeat' (first | exact Pick.head _ _ | apply Pick.tail)); (intro _; exact rfl); exact rfl)));  (focus (first | exact rfl | (simp; done))); (focus (repeat (first | exact SubO.nil _ | (apply SubO.cons; (focus (repeat' (first | exact Pick.head _ _ | apply Pick.tail))))))); (focus (repeat (first | exact AllE.nil _ | (apply AllE.cons; (focus (first | exact ent_nilBy | exact ent_nilSl | (apply Ent.mem; repeat' (first | exact mcs | apply mct)))))))))
        · have hend : 4 + (fs.getD k []).length ≤ 4 * x ∨ (([x0, x1, x2, x3] ++ (fs.getD k [] ++ tl_ fs k)).drop (4 * x)).length < 4 := .inl (by omega)
          refine W_ent (ent_rwR (v := v) (vs := vs) (by (focus (repeat' (first | exact mcs | apply mct))))) ?_
          have hsc := sc_lost hok hk [x0, x1, x2, x3] rfl x hx hend
          have hs := scan_fn (.slice oA (jn fs).length oc) (lB fs k [x0, x1, x2, x3]) (by omega)
          rw [show sc (lB fs k [x0, x1, x2, x3]) = _ from hsc] at hs
          have hLl : ((List.range fs.length).map vs).length = fs.length := by simp
          have hwl : (fs.take k ++ fs.drop (k + 1)).length = k + (fs.length - (k + 1)) := by rw [List.length_append, List.length_take, List.length_drop]; omega
          repeat (first | refine n1 ?_ | refine n2 (fun b _ => ?_) | refine n3 (fun _ _ => ?_) | refine n4 ?_ | refine n5 ?_ | refine WL_nil ?_ | refine W_seq ?_ | refine W_region ?_ | refine n7 ?_ | refine n8 ?_ | refine W_block ?_ | refine W_skip ?_ | refine W_ret ?_ | refine W_exit ?_ | refine WQ_then ?_ | refine WQ_then_ret ?_ | refine WQ_then_exit ?_ | refine WQ_block_normal ?_ | refine WQ_block_ret ?_ | refine WQ_block_exit ?_ | refine n9 ?_)
          (refine W_regionP' [0, 4, 9] [] [1, 2, 3, 5, 6, 7, 8, 0, 4, 9, 10] [] (by kernel_rfl) (by kernel_rfl) (by repeat (first | exact UZ.nil _ _ | (apply UZ.cons; exact rfl; (intro _; exact rfl)))) (by exact rfl) (by (repeat (first | exact SubO.nil _ | (apply SubO.cons; (focus (repeat' (first | exact Pick.head _ _ | apply Pick.tail))))))) ?_)
          repeat (first | refine p1 ?_ | refine p2 (fun b _ => ?_) | refine p3 (fun _ _ => ?_) | refine p4 ?_ | refine p5 ?_ | refine p7 (fun b => ?_) | refine PL_nil ?_)
          refine PL_runsF rfl rfl rfl rfl rfl (R_cutSl (lo := 0) (hi := k) (m := k) (us := ((List.range fs.length).map vs).take k) rfl (n := fs.length) (xs := (List.range fs.length).map vs) (by repeat' (first | exact mcs | apply mct)) rfl (by intro _; exact rfl) rfl rfl rfl rfl (Nat.zero_le _) (Nat.le_of_lt hk) rfl (by simp only [Nat.zero_mul, List.drop_zero, Nat.sub_zero, Nat.mul_one])) ?_
          repeat (first | refine p1 ?_ | refine p2 (fun b _ => ?_) | refine p3 (fun _ _ => ?_) | refine p4 ?_ | refine p5 ?_ | refine p7 (fun b => ?_) | refine PL_nil ?_)
          refine PL_runsF rfl rfl rfl rfl rfl (R_cutSl (lo := k + 1) (hi := fs.length) (m := fs.length - (k + 1)) (us := ((List.range fs.length).map vs).drop (k + 1)) rfl (n := fs.length) (xs := (List.range fs.length).map vs) (by repeat' (first | exact mcs | apply mct)) rfl (by intro _; exact rfl) rfl rfl rfl rfl hk (Nat.le_refl _) rfl (by rw [Nat.mul_one, Nat.mul_one]; exact List.take_of_length_le (by rw [List.length_drop, hLl]; exact Nat.le_refl _))) ?_
          repeat (first | refine p1 ?_ | refine p2 (fun b _ => ?_) | refine p3 (fun _ _ => ?_) | refine p4 ?_ | refine p5 ?_ | refine p7 (fun b => ?_) | refine PL_nil ?_)
          (apply PL_effs; exact rfl; exact rfl; exact rfl; exact rfl; exact rfl; (apply E_buildSlice; exact rfl; (focus (repeat (first | apply SeqE.nil | (apply SeqE.cons; exact rfl; (focus (first | (apply CellsE.lit; exact rfl) | (apply CellsE.one; (first | (apply OneC.lit; exact rfl) | (apply OneC.by_; (repeat' (first | exact mcs | apply mct)); done) | (apply OneC.sl; (repeat' (first | exact mcs | apply mct)); done) | (apply OneC.rw; (repeat' (first | exact mcs | apply mct)); done) | (apply OneC.row; (repeat' (first | exact Pick.head _ _ | apply Pick.tail))))))); exact rfl) | exact rfl))); exact rfl; (first | (intro _; exact (rfl : _ = Result.ok 1 _)) | (intro _; exact (rfl : _ = Result.ok 2 _)) | (intro _; exact (rfl : _ = Result.ok 3 _)) | (intro _; exact (rfl : _ = Result.ok 4 _)) | (intro _; exact (rfl : _ = Result.ok 5 _)) | (intro _; exact (rfl : _ = Result.ok 6 _)) | (intro _; exact (rfl : _ = Result.ok 7 _)) | (intro _; exact (rfl : _ = Result.ok 8 _)) | (intro _; exact (rfl : _ = Result.ok 13 _)) | (intro _; exact (rfl : _ = Result.ok 14 _)) | (intro _; exact (rfl : _ = Result.ok 26 _)) | (intro _; exact (rfl : _ = Result.ok 40 _)) | (intro _; exact (rfl : _ = Result.ok 41 _)) | (intro _; exact (rfl : _ = Result.ok 42 _)) | (intro _; exact (rfl : _ = Result.ok 43 _)) | (intro _; exact (rfl : _ = Result.ok 44 _)) | (intro _; exact (rfl : _ = Result.ok 45 _)) | (intro _; exact (rfl : _ = Result.ok 46 _))); (intro _; exact rfl); exact rfl; exact Nat.le_of_ble_eq_true rfl; exact Nat.le_of_ble_eq_true rfl); (intro _; (repeat (first | exact SubO.nil _ | (apply SubO.cons; (focus (repeat' (first | exact Pick.head _ _ | apply Pick.tail))))))); skip)
          intro q0 _
          refine PL_effs rfl rfl rfl rfl rfl (E_appendO (xs := []) (news := ((List.range fs.length).map vs).take k) (nm := k) (all := ((List.range fs.length).map vs).take k) rfl rfl (by repeat' (first | exact Pick.head _ _ | apply Pick.tail)) (m := k) (by repeat' (first | exact mcs | apply mct)) rfl rfl rfl rfl rfl (Nat.le_of_ble_eq_true rfl) (ones_sub (ones_al (n := fs.length) (vs := vs) (fs := fun i => fs.getD i []) (by repeat' (first | exact mcs | apply mct))) (fun u hu => List.mem_of_mem_take hu)) (Nat.le_of_ble_eq_true rfl) (by omega) (Nat.zero_add _) rfl) (fun _ => (by (repeat (first | exact SubO.nil _ | (apply SubO.cons; (focus (repeat' (first | exact Pick.head _ _ | apply Pick.tail)))))))) (fun q1 _ => ?_)
          refine PL_effs rfl rfl rfl rfl rfl (E_appendO (xs := ((List.range fs.length).map vs).take k) (news := ((List.range fs.length).map vs).drop (k + 1)) (nm := (fs.take k ++ fs.drop (k + 1)).length) (all := ((List.range fs.length).map vs).take k ++ ((List.range fs.length).map vs).drop (k + 1)) rfl rfl (by repeat' (first | exact Pick.head _ _ | apply Pick.tail)) (m := fs.length - (k + 1)) (by repeat' (first | exact mcs | apply mct)) rfl rfl rfl rfl rfl (Nat.le_of_ble_eq_true rfl) (ones_sub (ones_al (n := fs.length) (vs := vs) (fs := fun i => fs.getD i []) (by repeat' (first | exact mcs | apply mct))) (fun u hu => List.mem_of_mem_drop hu)) (Nat.le_of_ble_eq_true rfl) (by omega) hwl.symm rfl) (fun _ => (by (repeat (first | exact SubO.nil _ | (apply SubO.cons; (focus (repeat' (first | exact Pick.head _ _ | apply Pick.tail)))))))) (fun q2 _ => ?_)
          repeat (first | refine p1 ?_ | refine p2 (fun b _ => ?_) | refine p3 (fun _ _ => ?_) | refine p4 ?_ | refine p5 ?_ | refine p7 (fun b => ?_) | refine PL_nil ?_)
          refine WQ_letgo (v := q2) (by repeat' (first | exact Pick.head _ _ | apply Pick.tail)) ?_
          refine WQ_ent (ent_slRw1 (v := q2) (by repeat' (first | exact mcs | apply mct))) ?_
          refine WQ_ent (lostAl (vs := vs) (fs := fs) rfl hk (by (focus (repeat' (first | exact mcs | apply mct))))) ?_
          repeat (first | refine n1 ?_ | refine n2 (fun b _ => ?_) | refine n3 (fun _ _ => ?_) | refine n4 ?_ | refine n5 ?_ | refine WL_nil ?_ | refine W_seq ?_ | refine W_region ?_ | refine n7 ?_ | refine n8 ?_ | refine W_block ?_ | refine W_skip ?_ | refine W_ret ?_ | refine W_exit ?_ | refine WQ_then ?_ | refine WQ_then_ret ?_ | refine WQ_then_exit ?_ | refine WQ_block_normal ?_ | refine WQ_block_ret ?_ | refine WQ_block_exit ?_ | refine n9 ?_)
          (apply WL_effs; exact rfl; exact rfl; exact rfl; apply E_call; exact rfl; (intro _ _; simp); exact hs; (repeat (first | exact AllE.nil _ | (apply AllE.cons; (focus (first | exact ent_nilBy | exact ent_nilSl | (apply Ent.mem; repeat' (first | exact mcs | apply mct))))))); (intro _; exact rfl); (intro _; exact rfl))
          rintro ⟨y1, us⟩ _
          dsimp only
          have hsa := sameAll_fn y1 q2 (fun i => us.getD i undef) (fun i => (((List.range fs.length).map vs).take k ++ ((List.range fs.length).map vs).drop (k + 1)).getD i undef) (fs.take k ++ fs.drop (k + 1)) (by omega)
          repeat (first | refine n1 ?_ | refine n2 (fun b _ => ?_) | refine n3 (fun _ _ => ?_) | refine n4 ?_ | refine n5 ?_ | refine n6 (hsa) ?_ | refine n6v (hsa) ?_ | refine WL_nil ?_ | refine W_seq ?_ | refine W_region ?_ | refine n7 ?_ | refine n8 ?_ | refine W_block ?_ | refine W_skip ?_ | refine W_ret ?_ | refine W_exit ?_ | refine WQ_then ?_ | refine WQ_then_ret ?_ | refine WQ_then_exit ?_ | refine WQ_block_normal ?_ | refine WQ_block_ret ?_ | refine WQ_block_exit ?_ | refine n9 ?_)
          ((apply ret1 Try.results6 ( ())); (focus (first | trivial | assumption | omega)); (focus (first | exact RV_tmp rfl | (apply RV_cellN; exact rfl; (repeat' (first | exact Pick.head _ _ | apply Pick.tail)); (intro _; exact rfl); (intro _; exact rfl); exact rfl) | (apply RV_cell1; exact rfl; (repeat' (first | exact Pick.head _ _ | apply Pick.tail)); (intro _; exact rfl); exact rfl)));  (focus (first | exact rfl | (simp; done))); (focus (repeat (first | exact SubO.nil _ | (apply SubO.cons; (focus (repeat' (first | exact Pick.head _ _ | apply Pick.tail))))))); (focus (repeat (first | exact AllE.nil _ | (apply AllE.cons; (focus (first | exact ent_nilBy | exact ent_nilSl | (apply Ent.mem; repeat' (first | exact mcs | apply mct)))))))))
      · rw [jnE_err c1] at hj
        generalize (jnE fs).2 = e at *
        repeat (first | refine n1 ?_ | refine n2 (fun b _ => ?_) | refine n3 (fun _ _ => ?_) | refine n4 ?_ | refine n5 ?_ | refine WL_nil ?_ | refine W_seq ?_ | refine W_region ?_ | refine n7 ?_ | refine n8 ?_ | refine W_block ?_ | refine W_skip ?_ | refine W_ret ?_ | refine W_exit ?_ | refine WQ_then ?_ | refine WQ_then_ret ?_ | refine WQ_then_exit ?_ | refine WQ_block_normal ?_ | refine WQ_block_ret ?_ | refine WQ_block_exit ?_ | refine n9 ?_)
        (apply WL_effs; exact rfl; exact rfl; exact rfl; apply E_call; exact rfl; (intro _ _; simp); exact hj; (repeat (first | exact AllE.nil _ | (apply AllE.cons; (focus (first | exact ent_nilBy | exact ent_nilSl | (apply Ent.mem; repeat' (first | exact mcs | apply mct))))))); (intro _; exact rfl); (intro _; exact rfl))
        intro o _
        repeat (first | refine n1 ?_ | refine n2 (fun b _ => ?_) | refine n3 (fun _ _ => ?_) | refine n4 ?_ | refine n5 ?_ | refine WL_nil ?_ | refine W_seq ?_ | refine W_region ?_ | refine n7 ?_ | refine n8 ?_ | refine W_block ?_ | refine W_skip ?_ | refine W_ret ?_ | refine W_exit ?_ | refine WQ_then ?_ | refine WQ_then_ret ?_ | refine WQ_then_exit ?_ | refine WQ_block_normal ?_ | refine WQ_block_ret ?_ | refine WQ_block_exit ?_ | refine n9 ?_)
        ((apply ret1 Try.results6 ( ())); (focus (first | trivial | assumption | omega)); (focus (first | exact RV_tmp rfl | (apply RV_cellN; exact rfl; (repeat' (first | exact Pick.head _ _ | apply Pick.tail)); (intro _; exact rfl); (intro _; exact rfl); exact rfl) | (apply RV_cell1; exact rfl; (repeat' (first | exact Pick.head _ _ | apply Pick.tail)); (intro _; exact rfl); exact rfl)));  (focus (first | exact rfl | (simp; done))); (focus (repeat (first | exact SubO.nil _ | (apply SubO.cons; (focus (repeat' (first | exact Pick.head _ _ | apply Pick.tail))))))); (focus (repeat (first | exact AllE.nil _ | (apply AllE.cons; (focus (first | exact ent_nilBy | exact ent_nilSl | (apply Ent.mem; repeat' (first | exact mcs | apply mct)))))))))
end Go.Proofs.Ytdhbgolbfkejcaa
