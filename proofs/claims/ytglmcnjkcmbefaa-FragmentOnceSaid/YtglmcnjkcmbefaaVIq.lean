/-
  The chapter's example: 'five', what Cut and Collect make of it; 'alive'.
-/
import Derived.Test.YtglmcnjkcmbefaaVIo
import Derived.Test.YtglmcnjkcmbefaaVIj
import Derived.Test.YtglmcnjkcmbefaaXd
namespace Go.Proofs.Ytglmcnjkcmbefaa
open Go Go.RowKit Go.Hs C05
theorem Holds.bf {C : Ctx} {Γ : List OA} {Φ : List SP} {bt : TypeId} {k : List Fm} {w : World} (h : Holds C (pk (rowsL bt (dlF k)) :: Γ) Φ w) : Holds C Γ (Bf k :: Φ) w := by
  have hd : ∀ j, fpL (rowsL bt (dlF k)) j → ¬ avo C.O0 Γ j := fun j hj hn => by
    rcases hn with hn | hn
    · have h1 := h.o0 j hn
      rcases h.ofp j (fpL_cons.2 (.inl hj)) with h2 | h2
      · exact h1.2 h2
      · omega
    · exact h.own.2.1 j hj hn
  have ho : Own (rowsL bt (dlF k)) w := h.own.1
  exact h.drop.cons (own_bf k ho hd)
/-- what Cut makes, told as lasting. -/
theorem Ct.letF {P : Program} {f : FuncId} {args : List Value} {Γ : List OA} {Φ : List SP} {X : Type} {pf : X → Prop} {ret : X → Value} {t bt : TypeId} {o : X → Value} {D : X → List Fm}
    (h : Ct P f args Γ Φ pf ret (fun x => [.row (o x) t 41 (D x).length (fcF (D x)), pk (rowsL bt (dlF (D x)))]) (fun _ => [])) :
    Ct P f args Γ Φ pf ret (fun _ => []) (fun x => [Rw 41 (o x) (D x).length (fun i => ((D x).getD i f0_).cells), Bf (D x)]) := by
  intro w O0 h0 ho hs
  refine (h w O0 h0 ho hs).mono fun e w' ⟨x, hp, he, hm, ho', hf, hs'⟩ => ⟨x, hp, he, hm, trivial, fun k hk => ?_, ?_⟩
  · obtain ⟨y, hy, _⟩ := hk
    cases hy
  · have hh : Holds { P := P, n := 0, w0 := w, O0 := O0, M := fpL Γ, rd := none, ds := [] } [.row (o x) t 41 (D x).length (fcF (D x)), pk (rowsL bt (dlF (D x)))] [] w' := ⟨hm, ho', hf, h0, hs'⟩
    have h1 := (Holds.letgo hh)
    have h2 : Rw 41 (o x) (D x).length (fun i => ((D x).getD i f0_).cells) ∈ [Rw 41 (o x) (D x).length (fun i => ((D x).getD i f0_).cells)] := List.mem_singleton.2 rfl
    have h3 : Holds { P := P, n := 0, w0 := w, O0 := O0, M := fpL Γ, rd := none, ds := [] } [] (Bf (D x) :: [Sl 41 (o x) (D x).length (fcF (D x))]) w' := Holds.bf h1
    intro ψ hψ
    rcases List.mem_cons.1 hψ with rfl | hψ
    · exact ent_slF (Φ := Bf (D x) :: [Sl 41 (o x) (D x).length (fcF (D x))]) (List.mem_cons_of_mem _ List.mem_cons_self) w' _ h3.sp
    · rcases List.mem_singleton.1 hψ with rfl
      exact h3.sp _ List.mem_cons_self
theorem cutS_fn (f : Fm) (size : Int) (hw : f.head.w) (hb : f.body.length ≤ 100000) : Ct Try.prog 11 [f.val, .int .i64 size] [] [f.fact]
    (X := Value × List Fm) (fun x => x.2.map Fmz = cutL f.head f.body size) (fun x => .tuple #[x.1, .int .i64 (cutE f.head f.body size)]) (fun _ => []) (fun x => [Rw 41 x.1 x.2.length (fun i => (x.2.getD i f0_).cells), Bf x.2]) := Ct.letF (cut_fn f size hw hb)

def fvH (frag : Int) (more : Bool) : Hd := ⟨2, 0, false, false, more, false, false, false, false, 0, ⟨2, 1, 0, 0, 0, 0⟩, ⟨2, 2, 0, 0, 0, 0⟩, ⟨2, 3, 0, 0, 0, 0⟩, zA6, 9, frag, 0, 0, false, false⟩
def fvB : List UInt8 := [1, 2, 3, 4, 5]
theorem fvH_w (frag : Nat) (more : Bool) (h : frag ≤ 16) : (fvH frag more).w := ⟨w64_zero, w64_nat 9 (by decide), w64_nat frag (by omega), w64_zero⟩
theorem fm_of (p : Fm) {a : Hd × List UInt8} (h : Fmz p = a) : p = ⟨a.1, p.bv, a.2⟩ := by
  subst h
  rfl
theorem map3 {l : List Fm} {a b c : Hd × List UInt8} (h : l.map Fmz = [a, b, c]) : ∃ u v w, l = [⟨a.1, u, a.2⟩, ⟨b.1, v, b.2⟩, ⟨c.1, w, c.2⟩] := by
  obtain ⟨p, l1, rfl, e1, h⟩ := List.map_eq_cons_iff.1 h
  obtain ⟨q, l2, rfl, e2, h⟩ := List.map_eq_cons_iff.1 h
  obtain ⟨r, l3, rfl, e3, h⟩ := List.map_eq_cons_iff.1 h
  obtain rfl := List.map_eq_nil_iff.1 h
  refine ⟨p.bv, q.bv, r.bv, ?_⟩
  rw [← fm_of p e1, ← fm_of q e2, ← fm_of r e3]
theorem map1P {l : List Pa} {a : Pz} (h : l.map Pa.z = [a]) : ∃ u, l = [⟨a.head, a.next, u, a.body, a.since⟩] := by
  obtain ⟨p, l1, rfl, e1, h⟩ := List.map_eq_cons_iff.1 h
  obtain rfl := List.map_eq_nil_iff.1 h
  refine ⟨p.bv, ?_⟩
  subst e1
  rfl
theorem map0P {l : List Pa} (h : l.map Pa.z = []) : l = [] := List.map_eq_nil_iff.1 h
@[reducible] def fv0 (v : Value) : Fm := ⟨fvH 0 true, v, [1, 2]⟩
@[reducible] def fv1 (v : Value) : Fm := ⟨fvH 1 true, v, [3, 4]⟩
@[reducible] def fv2 (v : Value) : Fm := ⟨fvH 2 false, v, [5]⟩
@[reducible] def fvP1 (v : Value) : Pa := ⟨fvH 0 true, 1, v, [1, 2], 10⟩
@[reducible] def fvP2 (v : Value) : Pa := ⟨fvH 0 true, 2, v, [1, 2, 3, 4], 10⟩
theorem fv_cut : cutL (fvH 0 false) fvB 2 = [(fvH 0 true, [1, 2]), (fvH 1 true, [3, 4]), (fvH 2 false, [5])] := by kernel_rfl
theorem fv_cutE : cutE (fvH 0 false) fvB 2 = 0 := by kernel_rfl
theorem fv_c1 : colR [] (fvH 0 true) [1, 2] 10 = ⟨0, false, h0_, [], [⟨fvH 0 true, 1, [1, 2], 10⟩]⟩ := by kernel_rfl
theorem fv_c2 : colR [⟨fvH 0 true, 1, [1, 2], 10⟩] (fvH 1 true) [3, 4] 20 = ⟨0, false, h0_, [], [⟨fvH 0 true, 2, [1, 2, 3, 4], 10⟩]⟩ := by kernel_rfl
theorem fv_c3 : colR [⟨fvH 0 true, 2, [1, 2, 3, 4], 10⟩] (fvH 2 false) [5] 30 = ⟨0, true, fvH 0 false, fvB, []⟩ := by kernel_rfl
theorem fv_c4 : colR [⟨fvH 0 true, 1, [1, 2], 10⟩] (fvH 2 false) [5] 30 = ⟨20, false, h0_, [], []⟩ := by kernel_rfl
theorem colK (v : Value) (l : List Pa) (f : Fm) (now : Int) (R : CR) (hR : colR (l.map Pa.z) f.head f.body now = R) (hw : ∀ p ∈ l, p.w) (hf : f.head.w) (hb : f.body.length ≤ 100000) : Ct Try.prog 16 [.agg #[v], f.val, .int .i64 now] [] [Rw 43 v l.length (fun i => (l.getD i p0_).cells), Bd l, f.fact]
    (X := Value × Value × List Pa) (fun x => x.2.2.map Pa.z = R.nl)
    (fun x => .tuple #[(⟨R.wh, x.1, R.wb⟩ : Fm).val, .bool R.done, .agg #[x.2.1], .int .i64 R.e]) (fun _ => [])
    (fun x => [By x.1 R.wb, Rw 43 x.2.1 x.2.2.length (fun i => (x.2.2.getD i p0_).cells), Bd x.2.2]) := by
  subst hR
  exact collect_fn v l f now hw hf hb
theorem fvP1_w (v : Value) : ∀ p ∈ [fvP1 v], p.w := fun p hp => by
  rcases List.mem_singleton.1 hp with rfl
  exact ⟨fvH_w 0 true (by decide), w64_nat 1 (by decide), w64_nat 10 (by decide)⟩
theorem fvP2_w (v : Value) : ∀ p ∈ [fvP2 v], p.w := fun p hp => by
  rcases List.mem_singleton.1 hp with rfl
  exact ⟨fvH_w 0 true (by decide), w64_nat 2 (by decide), w64_nat 10 (by decide)⟩
attribute [local irreducible] WL W WQ PL Runs Effs AllE Ent SubO FrIn Pick OneC Ones CellsE PartsE SeqE UZ By Sl Pt Ct

set_option maxRecDepth 100000 in
set_option maxHeartbeats 4000000 in
theorem five_fn : Ct Try.prog 15 [] [] []
    (X := Value) (fun _ => True) (fun x => (⟨fvH 0 false, x, fvB⟩ : Fm).val) (fun _ => []) (fun x => [By x fvB]) := by
  refine Ct_intro Try.func15 rfl Try.ntmps15 (by simp) _ rfl (fun w0 O0 => ?_)
  repeat (first | refine n1 ?_ | refine n2 (fun b _ => ?_) | refine n3 (fun _ _ => ?_) | refine n4 ?_ | refine n5 ?_ | refine WL_nil ?_ | refine W_seq ?_ | refine W_region ?_ | refine n7 ?_ | refine n8 ?_ | refine W_block ?_ | refine W_skip ?_ | refine W_ret ?_ | refine W_exit ?_ | refine WQ_then ?_ | refine WQ_then_ret ?_ | refine WQ_then_exit ?_ | refine WQ_block_normal ?_ | refine WQ_block_ret ?_ | refine WQ_block_exit ?_ | refine n9 ?_)
  refine WL_effs rfl rfl rfl (Effs.letB (n := fun _ => 5) (bs := fun _ => fvB) (by (apply E_buildSlice; exact rfl; (focus (repeat (first | apply SeqE.nil | (apply SeqE.cons; exact rfl; (focus (first | (apply CellsE.lit; exact rfl) | (apply CellsE.one; (first | (apply OneC.lit; exact rfl) | (apply OneC.by_; (repeat' (first | exact mcs | apply mct)); done) | (apply OneC.sl; (repeat' (first | exact mcs | apply mct)); done) | (apply OneC.rw; (repeat' (first | exact mcs | apply mct)); done) | (apply OneC.row; (repeat' (first | exact Pick.head _ _ | apply Pick.tail))))))); exact rfl) | exact rfl))); exact rfl; (first | (intro _; exact (rfl : _ = Result.ok 1 _)) | (intro _; exact (rfl : _ = Result.ok 2 _)) | (intro _; exact (rfl : _ = Result.ok 3 _)) | (intro _; exact (rfl : _ = Result.ok 4 _)) | (intro _; exact (rfl : _ = Result.ok 5 _)) | (intro _; exact (rfl : _ = Result.ok 6 _)) | (intro _; exact (rfl : _ = Result.ok 7 _)) | (intro _; exact (rfl : _ = Result.ok 8 _)) | (intro _; exact (rfl : _ = Result.ok 9 _)) | (intro _; exact (rfl : _ = Result.ok 13 _)) | (intro _; exact (rfl : _ = Result.ok 14 _)) | (intro _; exact (rfl : _ = Result.ok 26 _)) | (intro _; exact (rfl : _ = Result.ok 40 _)) | (intro _; exact (rfl : _ = Result.ok 41 _)) | (intro _; exact (rfl : _ = Result.ok 42 _)) | (intro _; exact (rfl : _ = Result.ok 43 _)) | (intro _; exact (rfl : _ = Result.ok 44 _)) | (intro _; exact (rfl : _ = Result.ok 45 _)) | (intro _; exact (rfl : _ = Result.ok 46 _))); (intro _; exact rfl); exact rfl; exact Nat.le_of_ble_eq_true rfl; exact Nat.le_of_ble_eq_true rfl))) ?_
  intro q _
  repeat (first | refine n1 ?_ | refine n2 (fun b _ => ?_) | refine n3 (fun _ _ => ?_) | refine n4 ?_ | refine n5 ?_ | refine WL_nil ?_ | refine W_seq ?_ | refine W_region ?_ | refine n7 ?_ | refine n8 ?_ | refine W_block ?_ | refine W_skip ?_ | refine W_ret ?_ | refine W_exit ?_ | refine WQ_then ?_ | refine WQ_then_ret ?_ | refine WQ_then_exit ?_ | refine WQ_block_normal ?_ | refine WQ_block_ret ?_ | refine WQ_block_exit ?_ | refine n9 ?_)
  ((apply ret1 Try.results15 ( q)); (focus (first | trivial | assumption | omega)); (focus (first | exact RV_tmp rfl | (apply RV_cellN; exact rfl; (repeat' (first | exact Pick.head _ _ | apply Pick.tail)); (intro _; exact rfl); (intro _; exact rfl); exact rfl) | (apply RV_cell1; exact rfl; (repeat' (first | exact Pick.head _ _ | apply Pick.tail)); (intro _; exact rfl); exact rfl)));  (focus (first | exact rfl | (simp; done))); (focus (repeat (first | exact SubO.nil _ | (apply SubO.cons; (focus (repeat' (first | exact Pick.head _ _ | apply Pick.tail))))))); (focus (repeat (first | exact AllE.nil _ | (apply AllE.cons; (focus (first | exact ent_nilBy | exact ent_nilSl | (apply Ent.mem; repeat' (first | exact mcs | apply mct)))))))))
end Go.Proofs.Ytglmcnjkcmbefaa
