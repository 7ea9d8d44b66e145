/-
  Rules for walks, merged.
-/
import Derived.Test.YteojehocflbgdaaDoorXb
import Derived.Test.YteojehocflbgdaaDoorXf
import Derived.Test.YteojehocflbgdaaDoorXc
import Derived.Test.YteojehocflbgdaaDoorXd
import Derived.Test.YteojehocflbgdaaDoorXe
import Derived.Test.YteojehocflbgdaaDoorXa
import Derived.Test.YteojehocflbgdaaDoorRows
import Derived.LaidLaws
import Derived.Handed
import Derived.Lay
import Derived.LaidOnce
import Derived.SevenTiedAt
import Derived.Lib.LaidU8T
import Derived.PinnedBridge
/-
  A region that draws its order, in which some operations are free: each makes something of its own, or tells lasting facts, in any order; one walk, in an order of our own, serves every order that the edges allow. No program is named here.
-/
namespace Go.Hs
open Go Go.RowKit

/-- the walk behind the settled beginning: settled operations lean on Γs alone; those of es make or write what is owned; those of us are free. -/
def PF (C : Ctx) (ops : Array Oper) (Γs : List OA) (es us : List Nat) (F : Nat → Value → List SP) (G : Nat → Value → List OA) (Q : Exit → Act → World → Prop) : List Nat → Fr → List OA → List SP → Prop
  | [], fr, Γ, Φ => WQ C .normal fr Γ Φ Q
  | i :: π, fr, Γ, Φ => ∃ o, ops[i]? = some o ∧ dstOk o.dst C.n = true ∧
      ((clsOf es us i = 0 ∧ ∃ v N, (∀ ψ ∈ N, Ent Φ ψ) ∧ ((gv ops fr o.guard = some true ∧ Runs C fr Γs Φ o v) ∨ (gv ops fr o.guard = some false ∧ v = undef)) ∧ PF C ops Γs es us F G Q π (putFr o.dst v fr) Γ (N ++ Φ)) ∨
       (clsOf es us i = 1 ∧ gv ops fr o.guard = some true ∧ ∃ (X : Type) (pf : X → Prop) (vx : X → Value) (Γ' : X → List OA) (Φ' : X → List SP), Effs C fr Γ Φ o pf vx Γ' Φ' ∧
          ∀ x, pf x → (SubO (Γ' x) Γs ∨ (π = [] ∧ ∀ j, j < ops.size → j ≠ i → depOn ops i j = true)) ∧ PF C ops Γs es us F G Q π (putFr o.dst (vx x) fr) (Γ' x) (Φ' x)) ∨
       (clsOf es us i = 2 ∧ ∀ v, PF C ops Γs es us F G Q π (putFr o.dst v fr) (G i v ++ Γ) (F i v ++ Φ)))

/-- a free operation: some value; what is told of it, what is its own. -/
def FreeE (C : Ctx) (fr : Fr) (Φ : List SP) (o : Oper) (F : Value → List SP) (G : Value → List OA) : Prop :=
  ∀ Ψ, Effs C fr [] (Φ ++ Ψ) o (X := Value) (fun _ => True) (fun v => v) G (fun v => F v ++ (Φ ++ Ψ))

def frOn (ops : Array Oper) (val : Nat → Value) (fr0 : Fr) : List Nat → Fr
  | [] => fr0
  | j :: r => putFr (dstAt ops j) (val j) (frOn ops val fr0 r)
def fsOn (F : Nat → Value → List SP) (val : Nat → Value) : List Nat → List SP
  | [] => []
  | j :: r => F j (val j) ++ fsOn F val r
def gsOn (G : Nat → Value → List OA) (val : Nat → Value) : List Nat → List OA
  | [] => []
  | j :: r => G j (val j) ++ gsOn G val r

def FSpec (C : Ctx) (ops : Array Oper) (us : List Nat) (dl : Nat → List Nat) (F : Nat → Value → List SP) (G : Nat → Value → List OA) (fr0 : Fr) (Φ0 : List SP) : Prop :=
  ∀ u ∈ us, ∃ o, ops[u]? = some o ∧ o.guard = none ∧ ∀ val, FreeE C (frOn ops val fr0 (dl u)) (fsOn F val (dl u) ++ Φ0) o (F u) (G u)

theorem fsOn_upd {F : Nat → Value → List SP} {val : Nat → Value} {i : Nat} {v : Value} : ∀ {l : List Nat}, i ∉ l → fsOn F (upd val i v) l = fsOn F val l
  | [], _ => rfl
  | j :: r, h => by
    rw [fsOn, fsOn, fsOn_upd fun hk => h (List.mem_cons_of_mem _ hk), upd_other _ _ fun (e : j = i) => h (List.mem_cons.2 (.inl e.symm))]
theorem gsOn_upd {G : Nat → Value → List OA} {val : Nat → Value} {i : Nat} {v : Value} : ∀ {l : List Nat}, i ∉ l → gsOn G (upd val i v) l = gsOn G val l
  | [], _ => rfl
  | j :: r, h => by
    rw [gsOn, gsOn, gsOn_upd fun hk => h (List.mem_cons_of_mem _ hk), upd_other _ _ fun (e : j = i) => h (List.mem_cons.2 (.inl e.symm))]
theorem fsOn_mem {F : Nat → Value → List SP} {val : Nat → Value} : ∀ {l : List Nat} {j : Nat}, j ∈ l → AllIn (F j (val j)) (fsOn F val l)
  | [], _, h => by cases h
  | k :: r, j, h => fun ψ hψ => by
    rw [fsOn]
    rcases List.mem_cons.1 h with rfl | h
    · exact List.mem_append.2 (.inl hψ)
    · exact List.mem_append.2 (.inr (fsOn_mem h ψ hψ))
theorem fsOn_nil {F : Nat → Value → List SP} {val : Nat → Value} : ∀ {l : List Nat}, (∀ j ∈ l, ∀ v, F j v = []) → fsOn F val l = []
  | [], _ => rfl
  | j :: r, h => by rw [fsOn, h j List.mem_cons_self, fsOn_nil fun k hk => h k (List.mem_cons_of_mem _ hk)]; rfl
theorem fsOn_all {F : Nat → Value → List SP} {val : Nat → Value} {Φ : List SP} : ∀ {l : List Nat}, (∀ j ∈ l, AllIn (F j (val j)) Φ) → AllIn (fsOn F val l) Φ
  | [], _ => fun _ h => by cases h
  | j :: r, h => fun ψ hψ => by
    rcases List.mem_append.1 hψ with h1 | h1
    · exact h j List.mem_cons_self ψ h1
    · exact fsOn_all (fun k hk => h k (List.mem_cons_of_mem _ hk)) ψ h1
theorem fsOn_app {F : Nat → Value → List SP} {val : Nat → Value} : ∀ {l m : List Nat}, fsOn F val (l ++ m) = fsOn F val l ++ fsOn F val m
  | [], _ => rfl
  | j :: r, m => by rw [List.cons_append, fsOn, fsOn, fsOn_app, List.append_assoc]
theorem gsOn_app {G : Nat → Value → List OA} {val : Nat → Value} : ∀ {l m : List Nat}, gsOn G val (l ++ m) = gsOn G val l ++ gsOn G val m
  | [], _ => rfl
  | j :: r, m => by rw [List.cons_append, gsOn, gsOn, gsOn_app, List.append_assoc]

/-- what is asked of the free operations' leanings. -/
structure FitF (ops : Array Oper) (es us s : List Nat) (dl : Nat → List Nat) (F : Nat → Value → List SP) (n : Nat) : Prop where
  dus : ∀ u ∈ us, ∀ j ∈ dl u, j ∈ us ∧ clsOf es us j = 2 ∧ depOn ops u j = true ∧ dstOk (dstAt ops j) n = true
  dep : ∀ u ∈ us, ∀ j, depOn ops u j = true → j ∈ s ∨ j ∈ dl u
  per : ∀ i, i < ops.size → clsOf es us i = 1 → ∀ j ∈ us, depOn ops i j = true ∨ ∀ v, F j v = []

section
variable {C : Ctx} {ops : Array Oper} {es us π0 s : List Nat} {dl : Nat → List Nat} {F : Nat → Value → List SP} {G : Nat → Value → List OA} {fr0 : Fr} {Φ0 : List SP} {Γs : List OA} {Q : Exit → Act → World → Prop}

theorem frOn_fok {a0 : Act} {val : Nat → Value} (h : fok C fr0 (puts ops a0 val s)) : ∀ {l : List Nat}, (∀ j ∈ l, dstOk (dstAt ops j) C.n = true) → fok C (frOn ops val fr0 l) (puts ops a0 val (l ++ s))
  | [], _ => h
  | j :: r, hd => by
    rw [List.cons_append, frOn, puts]
    exact (frOn_fok h fun k hk => hd k (List.mem_cons_of_mem _ hk)).putd (hd j List.mem_cons_self)

/-- the state of a drawn region, held against our walk. -/
structure SF (C : Ctx) (ops : Array Oper) (es us π0 s : List Nat) (F : Nat → Value → List SP) (G : Nat → Value → List OA) (fr0 : Fr) (Φ0 : List SP) (Γs : List OA) (Q : Exit → Act → World → Prop) (a0 : Act) (fuel : Nat) (π ps ex : List Nat) (val : Nat → Value) (fr : Fr) (Γ : List OA) (Φ : List SP)
    (el : List Nat) (listed : Array Bool) (w : World) : Prop where
  plan : π0 = ps.reverse ++ π
  lsz : listed.size = ops.size
  lex : ∀ i, i < ops.size → (listed.getD i false = true ↔ i ∈ ex)
  xlt : ∀ i ∈ ex, i < ops.size
  fu : (π0.filter fun k => !ex.contains k).length ≤ fuel
  xdep : ∀ i ∈ ex, ∀ j, depOn ops i j = true → j ∈ ex
  xps : ∀ i ∈ ex, i ∈ ps ∨ (i ∈ π ∧ i ∈ el)
  early : ∀ i ∈ el, i ∈ ex ∧ i ∈ π ∧ clsOf es us i = 2
  elnd : el.Nodup
  pend : ∀ j ∈ ps, j ∉ ex → Pend C ops Γs a0 val Φ ps j
  frm : fok C fr (puts ops a0 val ps)
  hol : Holds C (Γ ++ gsOn G val el) (fsOn F val el ++ Φ) w
  sub : SubO Γ Γs ∨ (π = [] ∧ ∀ j ∈ ps, j ∈ ex)
  walk : PF C ops Γs es us F G Q π fr Γ Φ
  base : fok C fr0 (puts ops a0 val s)
  sps : ∀ j ∈ s, j ∈ ps
  fct : AllIn Φ0 Φ
  pfct : ∀ j ∈ ps, clsOf es us j = 2 → AllIn (F j (val j)) Φ

theorem allR (Ψ Φ : List SP) : AllIn Φ (Ψ ++ Φ) := fun _ h => List.mem_append.2 (.inr h)
theorem allL (Ψ Φ : List SP) : AllIn Ψ (Ψ ++ Φ) := fun _ h => List.mem_append.2 (.inl h)
theorem AllIn.trans {Ψ Φ Θ : List SP} (h : AllIn Ψ Φ) (k : AllIn Φ Θ) : AllIn Ψ Θ := fun ψ hψ => k ψ (h ψ hψ)
theorem AllIn.app {Ψ Φ Θ : List SP} (h : AllIn Ψ Θ) (k : AllIn Φ Θ) : AllIn (Ψ ++ Φ) Θ := fun ψ hψ => (List.mem_append.1 hψ).elim (h ψ) (k ψ)

theorem SF.proper {a0 : Act} {fuel : Nat} {π ps ex : List Nat} {val : Nat → Value} {fr : Fr} {Γ : List OA} {Φ : List SP} {el : List Nat} {listed : Array Bool} {w : World}
    (T : Fit ops es us π0) (S : SF C ops es us π0 s F G fr0 Φ0 Γs Q a0 fuel π ps ex val fr Γ Φ el listed w) {i : Nat} {o : Oper} (ho : ops[i]? = some o) (hx : i ∉ ex) (hdep : ∀ j, depOn ops i j = true → j ∈ ex) : Proper ops i o ex := by
  refine ⟨hdep, fun k hk => ?_⟩
  obtain ⟨ok, hok⟩ : ∃ ok, ops[k]? = some ok := ⟨_, Array.getElem?_eq_getElem (S.xlt k hk)⟩
  have hne : k ≠ i := fun e => hx (e ▸ hk)
  rcases T.apart k i ok o hne hok ho with h | h | h
  · exact absurd (S.xdep k hk i h) hx
  · exact .inl h
  · exact .inr fun t ht => h t (by rw [← dstAt_eq hok]; exact ht)

/-- what is behind an operation in our order it does not look at. -/
theorem behind (T : Fit ops es us π0) {ps π : List Nat} (hp : π0 = ps.reverse ++ π) {i : Nat} {o : Oper} (ho : ops[i]? = some o) (hi : i ∉ ps) {k : Nat} (hk : k ∈ ps) : depOn ops i k = true ∨ ∀ t, dstAt ops k = some t → t ∉ o.looksAt ops := by
  have hklt := T.lt k (by rw [hp]; simp [hk])
  obtain ⟨ok, hok⟩ : ∃ ok, ops[k]? = some ok := ⟨_, Array.getElem?_eq_getElem hklt⟩
  rcases T.apart k i ok o (fun e => hi (e ▸ hk)) hok ho with h | h | h
  · exfalso
    obtain ⟨l1, l2, hl⟩ := List.append_of_mem (List.mem_reverse.2 hk)
    have h1 := T.ord l1 k (l2 ++ π) (by rw [hp, hl]; simp) i h
    exact hi (List.mem_reverse.1 (by rw [hl]; simp [h1]))
  · exact .inl h
  · exact .inr fun t ht => h t (by rw [← dstAt_eq hok]; exact ht)

/-- one operation is done. -/
theorem SF.step (T : Fit ops es us π0) (TF : FitF ops es us s dl F C.n) (hU : FSpec C ops us dl F G fr0 Φ0) {a0 : Act} {fuel : Nat}
    (ih : ∀ (π ps ex : List Nat) (val : Nat → Value) (fr : Fr) (Γ : List OA) (Φ : List SP) (el : List Nat) (listed : Array Bool) (w : World), SF C ops es us π0 s F G fr0 Φ0 Γs Q a0 fuel π ps ex val fr Γ Φ el listed w → wpAnyIn (fenceOf C.rd) 0 C.P .any ops Q fuel listed (puts ops a0 val ex) w)
    {π ps ex : List Nat} {val : Nat → Value} {fr : Fr} {Γ : List OA} {Φ : List SP} {el : List Nat} {listed : Array Bool} {w : World}
    (S : SF C ops es us π0 s F G fr0 Φ0 Γs Q a0 (fuel + 1) π ps ex val fr Γ Φ el listed w)
    (hst : ∀ h r, π = h :: r → h ∉ ex ∧ clsOf es us h ≠ 0) {i : Nat} (hlt : i < ops.size) (hx : i ∉ ex) (hdep : ∀ j, depOn ops i j = true → j ∈ ex) :
    wpOpIn (fenceOf C.rd) 0 C.P ops Q i (wpAnyIn (fenceOf C.rd) 0 C.P .any ops Q fuel (listed.setIfInBounds i true)) (puts ops a0 val ex) w := by
  obtain ⟨o, ho⟩ : ∃ o, ops[i]? = some o := ⟨_, Array.getElem?_eq_getElem hlt⟩
  have hprop := S.proper T ho hx hdep
  have hi0 := T.all i hlt
  have lsz' : (listed.setIfInBounds i true).size = ops.size := by simp [S.lsz]
  have lex' : ∀ j, j < ops.size → ((listed.setIfInBounds i true).getD j false = true ↔ j ∈ i :: ex) := fun j hj => by
    rw [getD_set_iff S.lsz hlt, S.lex j hj]
    simp
  have xlt' : ∀ j ∈ i :: ex, j < ops.size := fun j hj => by
    rcases List.mem_cons.1 hj with rfl | hj
    · exact hlt
    · exact S.xlt j hj
  have fu' : (π0.filter fun k => !(i :: ex).contains k).length ≤ fuel := by
    have := filter_lt (p := fun k => !ex.contains k) (q := fun k => !(i :: ex).contains k) (fun x hq => by simp at hq ⊢; exact hq.2) hi0 (by simpa using hx) (by simp)
    have := S.fu
    omega
  have xdep' : ∀ k ∈ i :: ex, ∀ j, depOn ops k j = true → j ∈ i :: ex := fun k hk j hj => by
    rcases List.mem_cons.1 hk with rfl | hk
    · exact List.mem_cons_of_mem _ (hdep j hj)
    · exact List.mem_cons_of_mem _ (S.xdep k hk j hj)
  have hmem : i ∈ ps ∨ i ∈ π := by
    rw [S.plan] at hi0
    simpa using hi0
  unfold wpOpIn
  rw [ho]
  show if Region.wanted o (yielded ops (puts ops a0 val ex).tmps) = true then _ else _
  rcases hmem with hmem | hmem
  · -- it waited
    obtain ⟨o', Φj, X, ho', hin, hT, hTp, h⟩ := S.pend i hmem hx
    obtain rfl : o = o' := by rw [ho] at ho'; injection ho' with e
    obtain ⟨e1, e2⟩ := exec_same T (a0 := a0) (val := val) ho hTp hprop
    have next : ∀ w', Holds C (Γ ++ gsOn G val el) (fsOn F val el ++ Φ) w' → SF C ops es us π0 s F G fr0 Φ0 Γs Q a0 fuel π ps (i :: ex) val fr Γ Φ el (listed.setIfInBounds i true) w' := fun w' hw' =>
      { plan := S.plan, lsz := lsz', lex := lex', xlt := xlt', fu := fu', xdep := xdep', elnd := S.elnd, frm := S.frm, hol := hw', sub := S.sub.imp_right (fun h => ⟨h.1, fun j hj => List.mem_cons_of_mem _ (h.2 j hj)⟩), walk := S.walk
        base := S.base, sps := S.sps, fct := S.fct, pfct := S.pfct
        xps := fun k hk => by
          rcases List.mem_cons.1 hk with rfl | hk
          · exact .inl hmem
          · exact S.xps k hk
        early := fun p hp => ⟨List.mem_cons_of_mem _ (S.early p hp).1, (S.early p hp).2⟩
        pend := fun j hj hjx => S.pend j hj fun hk => hjx (List.mem_cons_of_mem _ hk) }
    rcases h with ⟨hw1, hg⟩ | ⟨hw1, hv⟩
    · rw [if_pos (by rw [← e2]; exact hw1)]
      have hG := hg w (sub_holds S.hol (S.sub.resolve_right fun h => hx (h.2 i hmem)) (hin.trans (allR _ _)))
      rw [e1] at hG
      refine hG.wp fun v' w' ⟨hv, hm⟩ => ?_
      subst hv
      have := ih _ _ _ _ _ _ _ _ _ _ (next w' (S.hol.ext hm))
      rw [puts, dstAt_eq ho] at this
      exact this
    · rw [if_neg (by rw [← e2, hw1]; simp)]
      have := ih _ _ _ _ _ _ _ _ _ _ (next w S.hol)
      rw [puts, dstAt_eq ho, hv] at this
      exact ⟨fun f _ => fenceOf_fn _ f, this⟩
  · have hnps : i ∉ ps := fun h => by
      have := T.nodup
      rw [S.plan] at this
      exact (List.nodup_append.1 this).2.2 i (List.mem_reverse.2 h) i hmem rfl
    have hpps : ∀ k ∈ ps, k ≠ i := fun k hk e => hnps (e ▸ hk)
    have hns : i ∉ s := fun h => hnps (S.sps i h)
    by_cases hc : clsOf es us i = 2
    · -- a free operation
      have hius := cls_us hc
      obtain ⟨o', ho', hgd, hsp⟩ := hU i hius
      obtain rfl : o = o' := by rw [ho] at ho'; injection ho' with e
      have hdl := TF.dus i hius
      have hPr : Proper ops i o (dl i ++ s) := by
        refine ⟨fun j hj => List.mem_append.2 ((TF.dep i hius j hj).symm), fun k hk => ?_⟩
        rcases List.mem_append.1 hk with hk | hk
        · exact .inl (hdl k hk).2.2.1
        · exact behind T S.plan ho hnps (S.sps k hk)
      obtain ⟨e1, _⟩ := exec_same T (a0 := a0) (val := val) ho hPr hprop
      rw [if_pos (by simp [Region.wanted, hgd])]
      have hfk := frOn_fok S.base (l := dl i) fun j hj => (hdl j hj).2.2.2
      have hall : AllIn (fsOn F val (dl i) ++ Φ0) (fsOn F val el ++ Φ) := by
        refine AllIn.app (fsOn_all fun j hj => ?_) (S.fct.trans (allR _ _))
        rcases S.xps j (hdep j (hdl j hj).2.2.1) with h | ⟨_, h⟩
        · exact (S.pfct j h (hdl j hj).2.1).trans (allR _ _)
        · exact (fsOn_mem h).trans (allL _ _)
      have hG := (hsp val (fsOn F val el ++ Φ)).2 (Γ ++ gsOn G val el) _ w hfk ⟨S.hol.mod, S.hol.own, S.hol.ofp, S.hol.o0, fun ψ hψ => S.hol.sp ψ ((hall.app (AllIn.refl _)) ψ hψ)⟩
      rw [e1] at hG
      refine hG.wp fun v' w' ⟨x, _, hv, hw'⟩ => ?_
      subst hv
      have hnel : i ∉ el := fun h => hx (S.early i h).1
      have S' : SF C ops es us π0 s F G fr0 Φ0 Γs Q a0 fuel π ps (i :: ex) (upd val i v') fr Γ Φ (i :: el) (listed.setIfInBounds i true) w' :=
        { plan := S.plan, lsz := lsz', lex := lex', xlt := xlt', fu := fu', xdep := xdep', sub := S.sub.imp_right (fun h => ⟨h.1, fun j hj => List.mem_cons_of_mem _ (h.2 j hj)⟩), walk := S.walk
          base := by rw [puts_upd hns]; exact S.base
          sps := S.sps, fct := S.fct
          pfct := fun j hj hj2 => by rw [upd_other _ _ (hpps j hj)]; exact S.pfct j hj hj2
          xps := fun k hk => by
            rcases List.mem_cons.1 hk with rfl | hk
            · exact .inr ⟨hmem, List.mem_cons_self⟩
            · rcases S.xps k hk with h | ⟨h, hA⟩
              · exact .inl h
              · exact .inr ⟨h, List.mem_cons_of_mem _ hA⟩
          early := fun p hp => by
            rcases List.mem_cons.1 hp with rfl | hp
            · exact ⟨List.mem_cons_self, hmem, hc⟩
            · exact ⟨List.mem_cons_of_mem _ (S.early p hp).1, (S.early p hp).2⟩
          elnd := List.nodup_cons.2 ⟨hnel, S.elnd⟩
          pend := fun j hj hjx => (S.pend j hj fun hk => hjx (List.mem_cons_of_mem _ hk)).turn (fun k hk => (upd_other _ _ (hpps k hk)).symm) (upd_other _ _ (hpps j hj)).symm (AllIn.refl _) fun k hk => hk
          frm := by rw [puts_upd hnps]; exact S.frm
          hol := by
            rw [fsOn, gsOn, fsOn_upd hnel, gsOn_upd hnel, upd_same]
            have h1 : Holds C (G i v' ++ (Γ ++ gsOn G val el)) (F i v' ++ fsOn F val el ++ Φ) w' := hw'.sub fun ψ hψ => by
              rw [List.append_assoc] at hψ
              rcases List.mem_append.1 hψ with h | h
              · exact List.mem_append.2 (.inl h)
              · exact List.mem_append.2 (.inr (List.mem_append.2 (.inr h)))
            refine h1.perm ?_
            rw [← List.append_assoc, ← List.append_assoc]
            exact List.Perm.append_right _ List.perm_append_comm }
      have := ih _ _ _ _ _ _ _ _ _ _ S'
      rw [puts, dstAt_eq ho, upd_same, puts_upd hx] at this
      exact this
    · -- the walk's next
      cases hπ : π with
      | nil => rw [hπ] at hmem; cases hmem
      | cons h r =>
        obtain ⟨hhx, hh0⟩ := hst h r hπ
        have hih : i = h := by
          rw [hπ] at hmem
          rcases List.mem_cons.1 hmem with e | hr
          · exact e
          · exact absurd (hdep h (T.eff ps.reverse h r (by rw [S.plan, hπ]) hh0 i hr hc)) hhx
        subst hih
        have hpl := S.walk
        rw [hπ] at hpl
        obtain ⟨o', ho', hdo, hnode⟩ := hpl
        obtain rfl : o = o' := by rw [ho] at ho'; injection ho' with e
        rcases hnode with ⟨h0, _⟩ | ⟨hc1, hgv, X, pf, vx, Γ', Φ', heff, hk⟩ | ⟨h2, _⟩
        · exact absurd h0 hh0
        · have hpprop : Proper ops i o ps := ⟨fun j hj => by simpa using T.ord ps.reverse i r (by rw [S.plan, hπ]) j hj, fun k hk => behind T S.plan ho hnps hk⟩
          obtain ⟨e1, e2⟩ := exec_same T (a0 := a0) (val := val) ho hpprop hprop
          have hnone : fsOn F val el = [] := fsOn_nil fun j hj v => by
            obtain ⟨_, hjπ, hj2⟩ := S.early j hj
            rcases TF.per i hlt hc1 j (cls_us hj2) with h | h
            · have := T.ord ps.reverse i r (by rw [S.plan, hπ]) j h
              have hjp := List.mem_reverse.1 this
              have hnd := T.nodup
              rw [S.plan] at hnd
              exact absurd rfl ((List.nodup_append.1 hnd).2.2 j (List.mem_reverse.2 hjp) j hjπ)
            · exact h v
          rw [if_pos (by rw [← e2]; exact gv_sound S.frm hgv)]
          have hhol := S.hol
          rw [hnone, List.nil_append] at hhol
          have hG := heff.2 _ _ w S.frm hhol
          rw [e1] at hG
          refine hG.wp fun v' w' ⟨x, hpf, hv, hw'⟩ => ?_
          subst hv
          obtain ⟨hsub, hpl'⟩ := hk x hpf
          have hnel : i ∉ el := fun h => hx (S.early i h).1
          have S' : SF C ops es us π0 s F G fr0 Φ0 Γs Q a0 fuel r (i :: ps) (i :: ex) (upd val i (vx x)) (putFr o.dst (vx x) fr) (Γ' x) (Φ' x) el (listed.setIfInBounds i true) w' :=
            { plan := by rw [S.plan, hπ]; simp
              lsz := lsz', lex := lex', xlt := xlt', fu := fu', xdep := xdep', walk := hpl'
              sub := hsub.imp_right (fun h => ⟨h.1, fun j hj => by
                by_cases e : j = i
                · rw [e]; exact List.mem_cons_self
                · rcases List.mem_cons.1 hj with h' | h'
                  · exact absurd h' e
                  · exact List.mem_cons_of_mem _ (hdep j (h.2 j (T.lt j (by rw [S.plan]; simp [h'])) e))⟩)
              elnd := S.elnd
              hol := by rw [fsOn_upd hnel, gsOn_upd hnel, hnone, List.nil_append]; exact hw'
              base := by rw [puts_upd hns]; exact S.base
              sps := fun j hj => List.mem_cons_of_mem _ (S.sps j hj)
              fct := S.fct.trans (heff.1 x)
              pfct := fun j hj hj2 => by
                rcases List.mem_cons.1 hj with rfl | hj
                · exact absurd hj2 hc
                · rw [upd_other _ _ (hpps j hj)]; exact (S.pfct j hj hj2).trans (heff.1 x)
              xps := fun k hk => by
                rcases List.mem_cons.1 hk with rfl | hk
                · exact .inl List.mem_cons_self
                · rcases S.xps k hk with h | ⟨h, hA⟩
                  · exact .inl (List.mem_cons_of_mem _ h)
                  · rw [hπ] at h
                    rcases List.mem_cons.1 h with h | h
                    · exact absurd (h ▸ hk) hx
                    · exact .inr ⟨h, hA⟩
              early := fun p hp => by
                obtain ⟨h1, h2, h3⟩ := S.early p hp
                refine ⟨List.mem_cons_of_mem _ h1, ?_, h3⟩
                rw [hπ] at h2
                exact (List.mem_cons.1 h2).resolve_left fun e => hx (e ▸ h1)
              pend := fun j hj hjx => by
                rcases List.mem_cons.1 hj with rfl | hj
                · exact absurd List.mem_cons_self hjx
                · exact (S.pend j hj fun hk => hjx (List.mem_cons_of_mem _ hk)).turn (fun k hk => (upd_other _ _ (hpps k hk)).symm) (upd_other _ _ (hpps j hj)).symm (heff.1 x) fun k hk => List.mem_cons_of_mem _ hk
              frm := by
                rw [puts, upd_same, puts_upd hnps, dstAt_eq ho]
                exact S.frm.putd hdo }
          have := ih _ _ _ _ _ _ _ _ _ _ S'
          rw [puts, dstAt_eq ho, upd_same, puts_upd hx] at this
          exact this
        · exact absurd h2 hc
theorem SF.ready {a0 : Act} {fuel : Nat} {π ps ex : List Nat} {val : Nat → Value} {fr : Fr} {Γ : List OA} {Φ : List SP} {el : List Nat} {listed : Array Bool} {w : World}
    (T : Fit ops es us π0) (S : SF C ops es us π0 s F G fr0 Φ0 Γs Q a0 fuel π ps ex val fr Γ Φ el listed w) {i : Nat} (h : i ∈ Region.ready .any ops listed) : i < ops.size ∧ i ∉ ex ∧ ∀ j, depOn ops i j = true → j ∈ ex := by
  obtain ⟨hlt, hl, o, ho, hall⟩ := ready_mem h
  refine ⟨hlt, fun hx => ?_, fun j hj => ?_⟩
  · have := (S.lex i hlt).2 hx
    have hlt' : i < listed.size := by rw [S.lsz]; exact hlt
    simp [Array.getD_eq_getD_getElem?, hlt'] at this hl
    rw [this] at hl
    cases hl
  · obtain ⟨o', e, ho', he, hb, hor⟩ := T.clos i j hlt hj
    obtain rfl : o = o' := by rw [ho] at ho'; injection ho' with e
    have hle := hall e he hb
    have helt : e.on < ops.size := by
      rcases Nat.lt_or_ge e.on ops.size with h | h
      · exact h
      · have : listed[e.on]? = none := Array.getElem?_eq_none (by rw [S.lsz]; exact h)
        simp [Array.getD_eq_getD_getElem?, this] at hle
    have hex := (S.lex e.on helt).1 hle
    rcases hor with rfl | hor
    · exact hex
    · exact S.xdep _ hex j hor

/-- nothing is ready: all is done. -/
theorem SF.done {a0 : Act} {fuel : Nat} {π ps ex : List Nat} {val : Nat → Value} {fr : Fr} {Γ : List OA} {Φ : List SP} {el : List Nat} {listed : Array Bool} {w : World}
    (T : Fit ops es us π0) (S : SF C ops es us π0 s F G fr0 Φ0 Γs Q a0 fuel π ps ex val fr Γ Φ el listed w) (hr : Region.ready .any ops listed = []) : ∀ i ∈ π0, i ∈ ex := by
  have key : ∀ n l1 i l2, l1.length = n → π0 = l1 ++ i :: l2 → i ∈ ex := by
    intro n
    induction n using Nat.strongRecOn with
    | _ n ih =>
      intro l1 i l2 hn hl
      have hlt := T.lt i (by rw [hl]; simp)
      obtain ⟨o, ho⟩ : ∃ o, ops[i]? = some o := ⟨_, Array.getElem?_eq_getElem hlt⟩
      rcases Classical.em (i ∈ ex) with hx | hx
      · exact hx
      · exfalso
        have : i ∈ Region.ready .any ops listed := by
          refine mem_ready.2 ⟨?_, o, ho, fun e he hb => ?_⟩
          · have hlt' : i < listed.size := by rw [S.lsz]; exact hlt
            have h2 : ¬ listed.getD i false = true := fun h => hx ((S.lex i hlt).1 h)
            simp [Array.getD_eq_getD_getElem?, hlt'] at h2 ⊢
            exact h2
          · have hd := T.edge i o e ho he hb
            have hm := T.ord l1 i l2 hl e.on hd
            obtain ⟨m1, m2, hm2⟩ := List.append_of_mem hm
            have helt := T.lt e.on (by rw [hl, hm2]; simp)
            refine (S.lex e.on helt).2 (ih m1.length (by rw [← hn, hm2]; simp) m1 e.on (m2 ++ i :: l2) rfl (by rw [hl, hm2]; simp))
        rw [hr] at this
        cases this
  intro i hi
  obtain ⟨l1, l2, hl⟩ := List.append_of_mem hi
  exact key _ l1 i l2 rfl hl

theorem SF.fin {a0 : Act} {fuel : Nat} {π ps ex : List Nat} {val : Nat → Value} {fr : Fr} {Γ : List OA} {Φ : List SP} {el : List Nat} {listed : Array Bool} {w : World}
    (T : Fit ops es us π0) (S : SF C ops es us π0 s F G fr0 Φ0 Γs Q a0 fuel π ps ex val fr Γ Φ el listed w) (hst : ∀ h r, π = h :: r → h ∉ ex ∧ clsOf es us h ≠ 0) (hall : ∀ i ∈ π0, i ∈ ex) : Q .normal (puts ops a0 val ex) w := by
  have hπ : π = [] := by
    cases hπ : π with
    | nil => rfl
    | cons h r => exact absurd (hall h (by rw [S.plan, hπ]; simp)) (hst h r hπ).1
  subst hπ
  have hel : el = [] := by
    cases el with
    | nil => rfl
    | cons p r => have := (S.early p List.mem_cons_self).2.1; cases this
  subst hel
  have hw := S.walk
  refine hw _ w (fok_same T (fun j => ⟨fun h => hall j (by rw [S.plan]; simp [h]), fun h => ?_⟩) S.frm) (by simpa [gsOn, fsOn] using S.hol)
  rcases S.xps j h with h | ⟨h, _⟩
  · exact h
  · cases h

/-- what can be settled is settled, ahead of the next step. -/
theorem SF.settle (T : Fit ops es us π0) {a0 : Act} {fuel : Nat} {listed : Array Bool} {w : World} {ex : List Nat} {K : (Nat → Value) → Prop}
    (hK : ∀ (π ps : List Nat) (val : Nat → Value) (fr : Fr) (Γ : List OA) (Φ : List SP) (el : List Nat), SF C ops es us π0 s F G fr0 Φ0 Γs Q a0 fuel π ps ex val fr Γ Φ el listed w → (∀ h r, π = h :: r → h ∉ ex ∧ clsOf es us h ≠ 0) → K val)
    (hKc : ∀ val val', (∀ k ∈ ex, val k = val' k) → K val' → K val) :
    ∀ (π ps : List Nat) (val : Nat → Value) (fr : Fr) (Γ : List OA) (Φ : List SP) (el : List Nat), SF C ops es us π0 s F G fr0 Φ0 Γs Q a0 fuel π ps ex val fr Γ Φ el listed w → K val := by
  intro π
  induction π with
  | nil => exact fun ps val fr Γ Φ el S => hK _ _ _ _ _ _ _ S fun h r e => by cases e
  | cons i r ih =>
    intro ps val fr Γ Φ el S
    have hnd := T.nodup
    rw [S.plan] at hnd
    have hnps : i ∉ ps := fun h => (List.nodup_append.1 hnd).2.2 i (List.mem_reverse.2 h) i List.mem_cons_self rfl
    have hpps : ∀ k ∈ ps, k ≠ i := fun k hk e => hnps (e ▸ hk)
    have hns : i ∉ s := fun h => hnps (S.sps i h)
    obtain ⟨o, ho, hdo, hnode⟩ := S.walk
    have hpprop : Proper ops i o ps := ⟨fun j hj => by simpa using T.ord ps.reverse i r S.plan j hj, fun k hk => behind T S.plan ho hnps hk⟩
    rcases hnode with ⟨h0, v, N, hN, hrun, hpl⟩ | ⟨h1, _⟩ | ⟨h2, hpl⟩
    · -- settled by what is known
      have hix : i ∉ ex := fun h => by
        rcases S.xps i h with h | ⟨_, hA⟩
        · exact hnps h
        · have := (S.early _ hA).2.2
          rw [h0] at this
          cases this
      have hnel : i ∉ el := fun h => hix (S.early i h).1
      have hin : AllIn Φ (N ++ Φ) := fun ψ hψ => List.mem_append.2 (.inr hψ)
      refine hKc val (upd val i v) (fun k hk => (upd_other _ _ (fun (e : k = i) => hix (e ▸ hk))).symm) (ih (i :: ps) (upd val i v) (putFr o.dst v fr) Γ (N ++ Φ) el
        { plan := by rw [S.plan]; simp
          lsz := S.lsz, lex := S.lex, xlt := S.xlt, fu := S.fu, xdep := S.xdep, elnd := S.elnd, sub := .inl (S.sub.resolve_right fun h => by cases h.1), walk := hpl
          base := by rw [puts_upd hns]; exact S.base
          sps := fun j hj => List.mem_cons_of_mem _ (S.sps j hj)
          fct := S.fct.trans hin
          pfct := fun j hj hj2 => by
            rcases List.mem_cons.1 hj with rfl | hj
            · rw [h0] at hj2; cases hj2
            · rw [upd_other _ _ (hpps j hj)]; exact (S.pfct j hj hj2).trans hin
          hol := by
            rw [fsOn_upd hnel, gsOn_upd hnel]
            exact ⟨S.hol.mod, S.hol.own, S.hol.ofp, S.hol.o0, fun ψ hψ => by
              rcases List.mem_append.1 hψ with hψ | hψ
              · exact S.hol.sp ψ (List.mem_append.2 (.inl hψ))
              · rcases List.mem_append.1 hψ with hψ | hψ
                · exact hN ψ hψ _ _ fun χ hχ => S.hol.sp χ (List.mem_append.2 (.inr hχ))
                · exact S.hol.sp ψ (List.mem_append.2 (.inr hψ))⟩
          xps := fun k hk => by
            rcases S.xps k hk with h | ⟨h, A⟩
            · exact .inl (List.mem_cons_of_mem _ h)
            · exact .inr ⟨(List.mem_cons.1 h).resolve_left (fun (e : k = i) => hix (by rw [← e]; exact hk)), A⟩
          early := fun p hp => by
            obtain ⟨h1, h2, h3⟩ := S.early p hp
            exact ⟨h1, (List.mem_cons.1 h2).resolve_left fun e => hix (e ▸ h1), h3⟩
          pend := fun j hj hjx => by
            rcases List.mem_cons.1 hj with rfl | hj
            · refine ⟨o, Φ, ps, ho, hin, fun k hk => List.mem_cons_of_mem _ hk, hpprop, ?_⟩
              rw [puts_upd hnps, upd_same]
              rcases hrun with ⟨hg, hr⟩ | ⟨hg, hv⟩
              · refine .inl ⟨gv_sound S.frm hg, fun w' hw' => hr _ w' S.frm hw'⟩
              · exact .inr ⟨gv_sound S.frm hg, hv⟩
            · exact (S.pend j hj hjx).turn (fun k hk => (upd_other _ _ (hpps k hk)).symm) (upd_other _ _ (hpps j hj)).symm hin fun k hk => List.mem_cons_of_mem _ hk
          frm := by
            rw [puts, upd_same, puts_upd hnps, dstAt_eq ho]
            exact S.frm.putd hdo })
    · exact hK _ _ _ _ _ _ _ S fun h r' e => by
        injection e with e1 e2
        subst e1
        refine ⟨fun hx => ?_, by rw [h1]; decide⟩
        rcases S.xps i hx with h | ⟨_, hA⟩
        · exact hnps h
        · have := (S.early _ hA).2.2
          rw [h1] at this
          cases this
    · by_cases hx : i ∈ ex
      · -- what was done ahead takes its place
        have hA : i ∈ el := by
          rcases S.xps i hx with h | ⟨_, h⟩
          · exact absurd h hnps
          · exact h
        obtain ⟨e1, e2, hel⟩ := List.append_of_mem hA
        have hnd2 := S.elnd
        rw [hel] at hnd2
        have hni : ∀ p ∈ e1 ++ e2, p ≠ i := fun p hp e => by
          rw [List.nodup_append] at hnd2
          obtain ⟨_, h2, h3⟩ := hnd2
          rcases List.mem_append.1 hp with hp | hp
          · exact h3 p hp i List.mem_cons_self e
          · exact (List.nodup_cons.1 h2).1 (e ▸ hp)
        have hback : ∀ p ∈ e1 ++ e2, p ∈ el := fun p hp => by
          rw [hel]
          rcases List.mem_append.1 hp with h | h
          · exact List.mem_append.2 (.inl h)
          · exact List.mem_append.2 (.inr (List.mem_cons_of_mem _ h))
        have hin : AllIn Φ (F i (val i) ++ Φ) := allR _ _
        refine ih (i :: ps) val (putFr o.dst (val i) fr) (G i (val i) ++ Γ) (F i (val i) ++ Φ) (e1 ++ e2)
          { plan := by rw [S.plan]; simp
            lsz := S.lsz, lex := S.lex, xlt := S.xlt, fu := S.fu, xdep := S.xdep, walk := hpl (val i)
            base := S.base
            sps := fun j hj => List.mem_cons_of_mem _ (S.sps j hj)
            fct := S.fct.trans hin
            pfct := fun j hj hj2 => by
              rcases List.mem_cons.1 hj with rfl | hj
              · exact allL _ _
              · exact (S.pfct j hj hj2).trans hin
            sub := by
              obtain ⟨X, hX⟩ := S.sub.resolve_right fun h => by cases h.1
              refine .inl ⟨G i (val i) ++ X, (List.Perm.append_left _ hX).trans ?_⟩
              rw [← List.append_assoc, ← List.append_assoc]
              exact List.Perm.append_right _ List.perm_append_comm
            elnd := by
              rw [List.nodup_append] at hnd2 ⊢
              obtain ⟨h1, h2, h3⟩ := hnd2
              exact ⟨h1, (List.nodup_cons.1 h2).2, fun a ha b hb => h3 a ha b (List.mem_cons_of_mem _ hb)⟩
            hol := by
              have hh := S.hol
              rw [hel, fsOn_app, gsOn_app, fsOn, gsOn] at hh
              rw [fsOn_app, gsOn_app]
              have h1 := hh.sub (Ψ := fsOn F val e1 ++ fsOn F val e2 ++ (F i (val i) ++ Φ)) fun ψ hψ => by
                simp only [List.mem_append] at hψ ⊢
                rcases hψ with (h | h) | h | h
                · exact .inl (.inl h)
                · exact .inl (.inr (.inr h))
                · exact .inl (.inr (.inl h))
                · exact .inr h
              refine h1.perm ?_
              generalize gsOn G val e1 = A1
              generalize gsOn G val e2 = A2
              generalize G i (val i) = B
              have p1 : (A1 ++ (B ++ A2)).Perm (B ++ (A1 ++ A2)) := by
                rw [← List.append_assoc, ← List.append_assoc]
                exact List.Perm.append_right _ List.perm_append_comm
              refine (List.Perm.append_left Γ p1).trans ?_
              rw [← List.append_assoc]
              exact List.Perm.append_right _ List.perm_append_comm
            xps := fun k hk => by
              rcases S.xps k hk with h | ⟨h, hA'⟩
              · exact .inl (List.mem_cons_of_mem _ h)
              · by_cases e : k = i
                · exact .inl (e ▸ List.mem_cons_self)
                · refine .inr ⟨(List.mem_cons.1 h).resolve_left e, ?_⟩
                  rw [hel] at hA'
                  rcases List.mem_append.1 hA' with h | h
                  · exact List.mem_append.2 (.inl h)
                  · rcases List.mem_cons.1 h with h | h
                    · exact absurd h e
                    · exact List.mem_append.2 (.inr h)
            early := fun p hp => by
              obtain ⟨h1, h2, h3⟩ := S.early p (hback p hp)
              exact ⟨h1, (List.mem_cons.1 h2).resolve_left (hni p hp), h3⟩
            pend := fun j hj hjx => by
              rcases List.mem_cons.1 hj with rfl | hj
              · exact absurd hx hjx
              · exact (S.pend j hj hjx).turn (fun _ _ => rfl) rfl hin fun k hk => List.mem_cons_of_mem _ hk
            frm := by
              rw [puts, dstAt_eq ho]
              exact S.frm.putd hdo }
      · exact hK _ _ _ _ _ _ _ S fun h r' e => by
          injection e with e1 e2
          subst e1
          exact ⟨hx, by rw [h2]; decide⟩

/-- the settled beginning; what is known behind it serves the free operations. -/
def PS (C : Ctx) (ops : Array Oper) (Γs : List OA) (es us : List Nat) (Γ : List OA) (K : Fr → List SP → Prop) : List Nat → Fr → List SP → Prop
  | [], fr, Φ => K fr Φ
  | i :: s, fr, Φ => ∃ o, ops[i]? = some o ∧ dstOk o.dst C.n = true ∧ clsOf es us i = 0 ∧ ∃ v N, (∀ ψ ∈ N, Ent Φ ψ) ∧ ((gv ops fr o.guard = some true ∧ Runs C fr Γs Φ o v) ∨ (gv ops fr o.guard = some false ∧ v = undef)) ∧ PS C ops Γs es us Γ K s (putFr o.dst v fr) (N ++ Φ)

/-- the free operations' leanings, by reckoning: nf names those of which nothing is told. -/
def chkF (ops : Array Oper) (es us s nf : List Nat) (dl : Nat → List Nat) (n : Nat) : Bool :=
  let D := Region.before ops
  D.size == ops.size && (us.all fun u => ((dl u).all fun j => us.contains j && clsOf es us j == 2 && (D.getD u 0).testBit j && dstOk (dstAt ops j) n) && ((List.range ops.size).all fun j => !((D.getD u 0).testBit j) || s.contains j || (dl u).contains j)) &&
  ((List.range ops.size).all fun i => clsOf es us i != 1 || us.all fun j => (D.getD i 0).testBit j || nf.contains j)

end
end Go.Hs

/-
  The steps of a walk through a region with free operations. No program is named here.
-/
namespace Go.Hs
open Go Go.RowKit
section
variable {C : Ctx} {ops : Array Oper} {o : Oper} {d : Nat} {v : Value} {fr fr0 fr1 : Fr} {Γ Γs : List OA} {Φ : List SP} {Q : Exit → Act → World → Prop} {ψ : SP}
  {X : Type} {pf : X → Prop} {vx : X → Value} {Γ' : X → List OA} {Φ' : X → List SP} {es us π s : List Nat} {i : Nat} {F : Nat → Value → List SP} {G : Nat → Value → List OA} {K : Fr → List SP → Prop}

/-- the frame of a free operation, reckoned to the end. -/
def frOnO (ops : Array Oper) (val : Nat → Value) (fr0 : Fr) : List Nat → Option Fr
  | [] => some fr0
  | j :: r => match lget ops.toList j with
    | some o => match o.dst with
      | some d => match frOnO ops val fr0 r with
        | some f => some ((d, val j) :: f)
        | none => none
      | none => frOnO ops val fr0 r
    | none => none
theorem frOnO_eq {val : Nat → Value} : ∀ {l : List Nat} {f : Fr}, frOnO ops val fr0 l = some f → frOn ops val fr0 l = f
  | [], f, h => by injection h
  | j :: r, f, h => by
    rw [frOn]
    rw [frOnO] at h
    cases ho : lget ops.toList j with
    | none => rw [ho] at h; cases h
    | some o =>
      rw [ho] at h
      rw [dstAt_eq (lget_ops ho)]
      simp only at h
      cases hd : o.dst with
      | none => rw [hd] at h; exact frOnO_eq h
      | some d =>
        rw [hd] at h
        simp only at h
        cases hr : frOnO ops val fr0 r with
        | none => rw [hr] at h; cases h
        | some g =>
          rw [hr] at h
          injection h with h
          rw [← h, frOnO_eq hr]
          rfl

theorem FSpec.nil {dl : Nat → List Nat} {Φ0 : List SP} : FSpec C ops [] dl F G fr0 Φ0 := fun _ h => by cases h
theorem FSpec.cons {u : Nat} {dl : Nat → List Nat} {Φ0 : List SP} {frv : (Nat → Value) → Fr} {Φv : (Nat → Value) → List SP → List SP} {Φw : List SP → List SP} (ho : lget ops.toList u = some o) (hg : o.guard = none)
    (hf : ∀ val, frOnO ops val fr0 (dl u) = some (frv val)) (hw : ∀ Ψ, appO Φ0 Ψ = some (Φw Ψ)) (hv : ∀ val Ψ, appO (fsOn F val (dl u)) (Φw Ψ) = some (Φv val Ψ))
    (h : ∀ val Ψ, Effs C (frv val) [] (Φv val Ψ) o (X := Value) (fun _ => True) (fun v => v) (G u) (fun v => F u v ++ Φv val Ψ)) (k : FSpec C ops us dl F G fr0 Φ0) : FSpec C ops (u :: us) dl F G fr0 Φ0 := fun j hj => by
  rcases List.mem_cons.1 hj with rfl | hj
  · refine ⟨o, lget_ops ho, hg, fun val Ψ => ?_⟩
    rw [frOnO_eq (hf val), List.append_assoc, appO_eq (hw Ψ), appO_eq (hv val Ψ)]
    exact h val Ψ
  · exact k j hj

/-- what is made is told as lasting. -/
theorem Effs.tell {o : Oper} {Γ1 : List OA} {pf : Value → Prop} {vx : Value → Value} {t : TypeId} {size n : Nat} {xs : List Value} (h : Effs C fr Γ Φ o (X := Value) pf vx (fun v => .row (vx v) t size n xs :: Γ1) (fun _ => Φ)) : Effs C fr Γ Φ o (X := Value) pf vx (fun _ => Γ1) (fun v => Sl size (vx v) n xs :: Φ) :=
  ⟨fun _ ψ hψ => List.mem_cons_of_mem _ hψ, fun R a w ha hw => (h.2 R a w ha hw).mono fun _ _ ⟨x, hp, hv, hw'⟩ => ⟨x, hp, hv, Holds.letgo hw'⟩⟩
end
end Go.Hs

/-
  A packed form read: 'Unpack'.
-/
namespace Go.Proofs.YteojehocflbgdaaDoor.C08d
open Go Go.RowKit Go.Hs C08
theorem pk_len (p : PK) : p.cells.length = 13 := rfl
def fcK (l : List PK) : List Value := l.flatMap PK.cells
theorem fcK_snoc (l : List PK) (v : PK) : fcK l ++ v.cells = fcK (l ++ [v]) := by
  unfold fcK
  rw [List.flatMap_append]
  simp
def dlK (l : List PK) : List (Value × List UInt8) := l.map fun p => (p.dv, p.data)
theorem dlK_snoc (l : List PK) (v : PK) : dlK l ++ [(v.dv, v.data)] = dlK (l ++ [v]) := by unfold dlK; rw [List.map_append]; rfl
def upk : Nat → List Kz → List UInt8 → List Kz × Int
  | 0, _, _ => ([], 4)
  | k + 1, acc, b =>
    if ¬ upE b = 0 then ([], upE b)
    else if (b.drop (14 + upN b)).length = 0 then (acc ++ [upP b], 0)
    else if (b.drop (14 + upN b)).length < pad4 (14 + upN b) then ([], 10)
    else if (b.drop (14 + upN b)).length = pad4 (14 + upN b) then ([], 12)
    else if nzB ((b.drop (14 + upN b)).take (pad4 (14 + upN b))) = true then ([], 12)
    else upk k (acc ++ [upP b]) ((b.drop (14 + upN b)).drop (pad4 (14 + upN b)))
def unE (b : List UInt8) : List Kz × Int := if 2304 < b.length then ([], 11) else upk 32 [] b
attribute [local irreducible] WL W WQ PL Runs Effs AllE Ent SubO FrIn Pick OneC Ones CellsE PartsE SeqE UZ By Sl Pt Ct

set_option maxRecDepth 100000 in
set_option maxHeartbeats 16000000 in
theorem unpack_fn (v : Value) (bs : List UInt8) : Ct Tryd.prog 13 [v] [] [By v bs, tbF, tbA]
    (X := Value × List PK) (fun x => x.2.map PKz = (unE bs).1) (fun x => .tuple #[x.1, .int .i64 (unE bs).2]) (fun x => [.row x.1 61 13 x.2.length (fcK x.2), pk (rowsL 5 (dlK x.2))]) (fun _ => []) := by
  refine Ct_intro Tryd.func13 rfl Tryd.ntmps13 (by simp) _ rfl (fun w0 O0 => ?_)
  refine W_pure (by_le (v := v) (bs := bs) (by repeat' (first | exact mcs | apply mct))) fun hle => ?_
  by_cases c1 : 2304 < bs.length
  · have he : unE bs = ([], 11) := if_pos c1
    rw [he]
    repeat (first | refine n1 ?_ | refine n2 (fun b _ => ?_) | refine n3 (fun _ _ => ?_) | refine n4 ?_ | refine n5 ?_ | refine WL_nil ?_ | refine W_seq ?_ | refine W_region ?_ | refine n7 ?_ | refine n8 ?_ | refine W_block ?_ | refine W_skip ?_ | refine W_ret ?_ | refine W_exit ?_ | refine WQ_then ?_ | refine WQ_then_ret ?_ | refine WQ_then_exit ?_ | refine WQ_block_normal ?_ | refine WQ_block_ret ?_ | refine WQ_block_exit ?_ | refine n9 ?_)
    apply WQ_nilRow 61 13
    apply WQ_nilL 5
    ((apply ret2 Tryd.results13 ( (Value.slice none 0 0, []))); (focus (first | trivial | assumption | omega)); (focus (first | exact RV_tmp rfl | (apply RV_cellN; exact rfl; (repeat' (first | exact Pick.head _ _ | apply Pick.tail)); (intro _; exact rfl); (intro _; exact rfl); exact rfl) | (apply RV_cell1; exact rfl; (repeat' (first | exact Pick.head _ _ | apply Pick.tail)); (intro _; exact rfl); exact rfl))); (focus (first | exact RV_tmp rfl | (apply RV_cellN; exact rfl; (repeat' (first | exact Pick.head _ _ | apply Pick.tail)); (intro _; exact rfl); (intro _; exact rfl); exact rfl) | (apply RV_cell1; exact rfl; (repeat' (first | exact Pick.head _ _ | apply Pick.tail)); (intro _; exact rfl); exact rfl)));  (focus (first | exact rfl | (simp; done))); (focus (repeat (first | exact SubO.nil _ | (apply SubO.cons; (focus (repeat' (first | exact Pick.head _ _ | apply Pick.tail))))))); (focus (repeat (first | exact AllE.nil _ | (apply AllE.cons; (focus (first | exact ent_nilBy | exact ent_nilSl | (apply Ent.mem; repeat' (first | exact mcs | apply mct)))))))))
  have hU0 : upk 32 [] bs = unE bs := (if_neg c1).symm
  generalize unE bs = R at *
  repeat (first | refine n1 ?_ | refine n2 (fun b _ => ?_) | refine n3 (fun _ _ => ?_) | refine n4 ?_ | refine n5 ?_ | refine WL_nil ?_ | refine W_seq ?_ | refine W_region ?_ | refine n7 ?_ | refine n8 ?_ | refine W_block ?_ | refine W_skip ?_ | refine W_ret ?_ | refine W_exit ?_ | refine WQ_then ?_ | refine WQ_then_ret ?_ | refine WQ_then_exit ?_ | refine WQ_block_normal ?_ | refine WQ_block_ret ?_ | refine WQ_block_exit ?_ | refine n9 ?_)
  apply W_nilL 5
  apply W_nilRow 61 13
  have hx0 : ([] : List PK).length ≤ 32 ∧ bs.length ≤ 2304 ∧ upk (32 - ([] : List PK).length) (([] : List PK).map PKz) bs = R := ⟨Nat.zero_le _, by omega, hU0⟩
  ((apply W_loopK (X := Value × List UInt8 × Value × List PK) [0, 4, 5, 6, 7, 8] [0, 1] (fun x => x.2.2.2.length ≤ 32 ∧ x.2.1.length ≤ 2304 ∧ upk (32 - x.2.2.2.length) (x.2.2.2.map PKz) x.2.1 = R) (fun x => [(0, x.1), (4, x.2.2.1)]) (fun x => [.row x.2.2.1 61 13 x.2.2.2.length (fcK x.2.2.2), pk (rowsL 5 (dlK x.2.2.2))]) (fun x => [By x.1 x.2.1]) (fun x => 32 - x.2.2.2.length) ((v, bs, .slice none 0 0, []))); (focus exact hx0); exact rfl; exact rfl; (intro _; exact rfl); (intro _; exact rfl); (intro _; exact rfl); (focus (repeat (first | exact FrIn.nil _ | (apply FrIn.cons; exact rfl; (first | exact rfl | (congr 1; first | omega | (dsimp only; omega)) | (simp; done)))))); (focus (repeat (first | exact SubO.nil _ | (apply SubO.cons; (focus (repeat' (first | exact Pick.head _ _ | apply Pick.tail))))))); (focus (repeat (first | exact AllE.nil _ | (apply AllE.cons; (focus (first | exact ent_nilBy | exact ent_nilSl | (apply Ent.mem; repeat' (first | exact mcs | apply mct)))))))); intro x hx)
  obtain ⟨u, ys, o, D⟩ := x
  obtain ⟨hl, hb, hU⟩ := hx
  replace hl : D.length ≤ 32 := hl
  replace hb : ys.length ≤ 2304 := hb
  replace hU : upk (32 - D.length) (D.map PKz) ys = R := hU
  dsimp only
  by_cases c2 : D.length = 32
  · rw [c2] at hU
    obtain rfl : ([], 4) = R := hU
    repeat (first | refine n1 ?_ | refine n2 (fun b _ => ?_) | refine n3 (fun _ _ => ?_) | refine n4 ?_ | refine n5 ?_ | refine WL_nil ?_ | refine W_seq ?_ | refine W_region ?_ | refine n7 ?_ | refine n8 ?_ | refine W_block ?_ | refine W_skip ?_ | refine W_ret ?_ | refine W_exit ?_ | refine WQ_then ?_ | refine WQ_then_ret ?_ | refine WQ_then_exit ?_ | refine WQ_block_normal ?_ | refine WQ_block_ret ?_ | refine WQ_block_exit ?_ | refine n9 ?_)
    apply WQ_nilRow 61 13
    apply WQ_nilL 5
    ((apply ret2 Tryd.results13 ( (Value.slice none 0 0, []))); (focus (first | trivial | assumption | omega)); (focus (first | exact RV_tmp rfl | (apply RV_cellN; exact rfl; (repeat' (first | exact Pick.head _ _ | apply Pick.tail)); (intro _; exact rfl); (intro _; exact rfl); exact rfl) | (apply RV_cell1; exact rfl; (repeat' (first | exact Pick.head _ _ | apply Pick.tail)); (intro _; exact rfl); exact rfl))); (focus (first | exact RV_tmp rfl | (apply RV_cellN; exact rfl; (repeat' (first | exact Pick.head _ _ | apply Pick.tail)); (intro _; exact rfl); (intro _; exact rfl); exact rfl) | (apply RV_cell1; exact rfl; (repeat' (first | exact Pick.head _ _ | apply Pick.tail)); (intro _; exact rfl); exact rfl)));  (focus (first | exact rfl | (simp; done))); (focus (repeat (first | exact SubO.nil _ | (apply SubO.cons; (focus (repeat' (first | exact Pick.head _ _ | apply Pick.tail))))))); (focus (repeat (first | exact AllE.nil _ | (apply AllE.cons; (focus (first | exact ent_nilBy | exact ent_nilSl | (apply Ent.mem; repeat' (first | exact mcs | apply mct)))))))))
  obtain ⟨k, hk⟩ : ∃ k, 32 - D.length = k + 1 := ⟨31 - D.length, by omega⟩
  rw [hk] at hU
  unfold upk at hU
  have hN := num2_lt (ys.drop 12)
  replace hN : upN ys < 65536 := hN
  repeat (first | refine n1 ?_ | refine n2 (fun b _ => ?_) | refine n3 (fun _ _ => ?_) | refine n4 ?_ | refine n5 ?_ | refine WL_nil ?_ | refine W_seq ?_ | refine W_region ?_ | refine n7 ?_ | refine n8 ?_ | refine W_block ?_ | refine W_skip ?_ | refine W_ret ?_ | refine W_exit ?_ | refine WQ_then ?_ | refine WQ_then_ret ?_ | refine WQ_then_exit ?_ | refine WQ_block_normal ?_ | refine WQ_block_ret ?_ | refine WQ_block_exit ?_ | refine n9 ?_)
  (apply WL_effs; exact rfl; exact rfl; exact rfl; apply E_call; exact rfl; (intro _ _; simp); (exact unpack1_fn u ys (by omega)); (repeat (first | exact AllE.nil _ | (apply AllE.cons; (focus (first | exact ent_nilBy | exact ent_nilSl | (apply Ent.mem; repeat' (first | exact mcs | apply mct))))))); (intro _; exact rfl); (intro _; exact rfl))
  intro p hp
  by_cases c3 : upE ys = 0
  case neg =>
    rw [if_pos c3] at hU
    rw [if_neg c3]
    subst hU
    repeat (first | refine n1 ?_ | refine n2 (fun b _ => ?_) | refine n3 (fun _ _ => ?_) | refine n4 ?_ | refine n5 ?_ | refine WL_nil ?_ | refine W_seq ?_ | refine W_region ?_ | refine n7 ?_ | refine n8 ?_ | refine W_block ?_ | refine W_skip ?_ | refine W_ret ?_ | refine W_exit ?_ | refine WQ_then ?_ | refine WQ_then_ret ?_ | refine WQ_then_exit ?_ | refine WQ_block_normal ?_ | refine WQ_block_ret ?_ | refine WQ_block_exit ?_ | refine n9 ?_)
    apply WQ_nilRow 61 13
    apply WQ_nilL 5
    ((apply ret2 Tryd.results13 ( (Value.slice none 0 0, []))); (focus (first | trivial | assumption | omega)); (focus (first | exact RV_tmp rfl | (apply RV_cellN; exact rfl; (repeat' (first | exact Pick.head _ _ | apply Pick.tail)); (intro _; exact rfl); (intro _; exact rfl); exact rfl) | (apply RV_cell1; exact rfl; (repeat' (first | exact Pick.head _ _ | apply Pick.tail)); (intro _; exact rfl); exact rfl))); (focus (first | exact RV_tmp rfl | (apply RV_cellN; exact rfl; (repeat' (first | exact Pick.head _ _ | apply Pick.tail)); (intro _; exact rfl); (intro _; exact rfl); exact rfl) | (apply RV_cell1; exact rfl; (repeat' (first | exact Pick.head _ _ | apply Pick.tail)); (intro _; exact rfl); exact rfl)));  (focus (first | exact rfl | (simp; done))); (focus (repeat (first | exact SubO.nil _ | (apply SubO.cons; (focus (repeat' (first | exact Pick.head _ _ | apply Pick.tail))))))); (focus (repeat (first | exact AllE.nil _ | (apply AllE.cons; (focus (first | exact ent_nilBy | exact ent_nilSl | (apply Ent.mem; repeat' (first | exact mcs | apply mct)))))))))
  rw [if_neg (fun h => h c3)] at hU
  rw [if_pos c3, c3]
  have hp := hp c3
  have hup : ¬ ys.length < 14 + upN ys := fun h => by
    unfold upE at c3
    repeat' (split at c3)
    all_goals first | (exact absurd c3 (by decide)) | skip
    all_goals exact absurd h (by assumption)
  have hmz : (D ++ [p]).map PKz = D.map PKz ++ [upP ys] := by rw [List.map_append, ← hp]; rfl
  have hap : fcK D ++ p.cells = fcK (D ++ [p]) := fcK_snoc _ _
  have hdp : dlK D ++ [(p.dv, p.data)] = dlK (D ++ [p]) := dlK_snoc _ _
  have hln : D.length + 1 = (D ++ [p]).length := by rw [List.length_append]; rfl
  have hup' : 14 + upN ys ≤ ys.length := by omega
  have hpd := pad4_lt (14 + upN ys)
  generalize hM : 14 + upN ys = M at *
  have hrl : (ys.drop M).length = ys.length - M := List.length_drop
  repeat (first | refine n1 ?_ | refine n2 (fun b _ => ?_) | refine n3 (fun _ _ => ?_) | refine n4 ?_ | refine n5 ?_ | refine WL_nil ?_ | refine W_seq ?_ | refine W_region ?_ | refine n7 ?_ | refine n8 ?_ | refine W_block ?_ | refine W_skip ?_ | refine W_ret ?_ | refine W_exit ?_ | refine WQ_then ?_ | refine WQ_then_ret ?_ | refine WQ_then_exit ?_ | refine WQ_block_normal ?_ | refine WQ_block_ret ?_ | refine WQ_block_exit ?_ | refine n9 ?_)
  (refine W_regionP' [2, 3] [] [0, 1, 4, 5, 6, 2, 3, 7, 8] [2] (by kernel_rfl) (by kernel_rfl) (by repeat (first | exact UZ.nil _ _ | (apply UZ.cons; exact rfl; (intro _; exact rfl)))) (by exact rfl) (by (repeat (first | exact SubO.nil _ | (apply SubO.cons; (focus (repeat' (first | exact Pick.head _ _ | apply Pick.tail))))))) ?_)
  repeat (first | refine p1 ?_ | refine p2 (fun b _ => ?_) | refine p3 (fun _ _ => ?_) | refine p4 ?_ | refine p5 ?_ | refine p7 (fun b => ?_) | refine PL_nil ?_)
  refine PL_effs rfl rfl rfl rfl rfl (Effs.tell (by (apply E_buildSlice; exact rfl; (focus (repeat (first | apply SeqE.nil | (apply SeqE.cons; exact rfl; (focus (first | (apply CellsE.lit; exact rfl) | (apply CellsE.one; (first | (apply OneC.lit; exact rfl) | (apply OneC.by_; (repeat' (first | exact mcs | apply mct)); done) | (apply OneC.sl; (repeat' (first | exact mcs | apply mct)); done) | (apply OneC.rw; (repeat' (first | exact mcs | apply mct)); done) | (apply OneC.row; (repeat' (first | exact Pick.head _ _ | apply Pick.tail))))))); exact rfl) | exact rfl))); exact rfl; (first | (intro _; exact (rfl : _ = Result.ok 1 _)) | (intro _; exact (rfl : _ = Result.ok 2 _)) | (intro _; exact (rfl : _ = Result.ok 3 _)) | (intro _; exact (rfl : _ = Result.ok 4 _)) | (intro _; exact (rfl : _ = Result.ok 5 _)) | (intro _; exact (rfl : _ = Result.ok 6 _)) | (intro _; exact (rfl : _ = Result.ok 7 _)) | (intro _; exact (rfl : _ = Result.ok 8 _)) | (intro _; exact (rfl : _ = Result.ok 9 _)) | (intro _; exact (rfl : _ = Result.ok 13 _)) | (intro _; exact (rfl : _ = Result.ok 14 _)) | (intro _; exact (rfl : _ = Result.ok 26 _)) | (intro _; exact (rfl : _ = Result.ok 40 _)) | (intro _; exact (rfl : _ = Result.ok 41 _)) | (intro _; exact (rfl : _ = Result.ok 42 _)) | (intro _; exact (rfl : _ = Result.ok 43 _)) | (intro _; exact (rfl : _ = Result.ok 44 _)) | (intro _; exact (rfl : _ = Result.ok 45 _)) | (intro _; exact (rfl : _ = Result.ok 46 _))); (intro _; exact rfl); exact rfl; exact Nat.le_of_ble_eq_true rfl; exact Nat.le_of_ble_eq_true rfl))) (fun _ => (by (repeat (first | exact SubO.nil _ | (apply SubO.cons; (focus (repeat' (first | exact Pick.head _ _ | apply Pick.tail)))))))) (fun q _ => ?_)
  refine PL_effs rfl rfl rfl rfl rfl (E_appendO (size := 13) (xs := fcK D) (news := p.cells) (nm := D.length + 1) (all := fcK (D ++ [p])) (m := 1) rfl rfl (by repeat' (first | exact Pick.head _ _ | apply Pick.tail)) (by repeat' (first | exact mcs | apply mct)) rfl rfl rfl rfl rfl (Nat.le_of_ble_eq_true rfl) (by (focus (repeat (first | apply Ones.nil | exact Ones.bytes | (apply Ones.cons; (focus (first | (apply OneC.lit; exact rfl) | (apply OneC.by_; (repeat' (first | exact mcs | apply mct)); done) | (apply OneC.sl; (repeat' (first | exact mcs | apply mct)); done) | (apply OneC.rw; (repeat' (first | exact mcs | apply mct)); done) | (apply OneC.row; (repeat' (first | exact Pick.head _ _ | apply Pick.tail)))))))))) (Nat.le_of_ble_eq_true rfl) (by omega) rfl hap) (fun _ => (by (repeat (first | exact SubO.nil _ | (apply SubO.cons; (focus (repeat' (first | exact Pick.head _ _ | apply Pick.tail)))))))) (fun r _ => ?_)
  repeat (first | refine p1 ?_ | refine p2 (fun b _ => ?_) | refine p3 (fun _ _ => ?_) | refine p4 ?_ | refine p5 ?_ | refine p7 (fun b => ?_) | refine PL_nil ?_)
  rw [hln, drop_rest ys M]
  refine WQ_addL p.data rfl (v := p.dv) (by repeat' (first | exact Pick.head _ _ | apply Pick.tail)) (by repeat' (first | exact Pick.head _ _ | apply Pick.tail)) ?_
  rw [hdp]
  by_cases c4 : (ys.drop M).length = 0
  · rw [if_pos c4] at hU
    subst hU
    repeat (first | refine n1 ?_ | refine n2 (fun b _ => ?_) | refine n3 (fun _ _ => ?_) | refine n4 ?_ | refine n5 ?_ | refine WL_nil ?_ | refine W_seq ?_ | refine W_region ?_ | refine n7 ?_ | refine n8 ?_ | refine W_block ?_ | refine W_skip ?_ | refine W_ret ?_ | refine W_exit ?_ | refine WQ_then ?_ | refine WQ_then_ret ?_ | refine WQ_then_exit ?_ | refine WQ_block_normal ?_ | refine WQ_block_ret ?_ | refine WQ_block_exit ?_ | refine n9 ?_)
    ((apply ret2 Tryd.results13 ( (r, D ++ [p]))); (focus (first | trivial | assumption | omega)); (focus (first | exact RV_tmp rfl | (apply RV_cellN; exact rfl; (repeat' (first | exact Pick.head _ _ | apply Pick.tail)); (intro _; exact rfl); (intro _; exact rfl); exact rfl) | (apply RV_cell1; exact rfl; (repeat' (first | exact Pick.head _ _ | apply Pick.tail)); (intro _; exact rfl); exact rfl))); (focus (first | exact RV_tmp rfl | (apply RV_cellN; exact rfl; (repeat' (first | exact Pick.head _ _ | apply Pick.tail)); (intro _; exact rfl); (intro _; exact rfl); exact rfl) | (apply RV_cell1; exact rfl; (repeat' (first | exact Pick.head _ _ | apply Pick.tail)); (intro _; exact rfl); exact rfl)));  (focus (first | exact rfl | (simp; done))); (focus (repeat (first | exact SubO.nil _ | (apply SubO.cons; (focus (repeat' (first | exact Pick.head _ _ | apply Pick.tail))))))); (focus (repeat (first | exact AllE.nil _ | (apply AllE.cons; (focus (first | exact ent_nilBy | exact ent_nilSl | (apply Ent.mem; repeat' (first | exact mcs | apply mct)))))))))
  rw [if_neg c4] at hU
  have hpa := padding_fn M (by omega)
  by_cases c5 : (ys.drop M).length < pad4 M
  · rw [if_pos c5] at hU
    subst hU
    repeat (first | refine n1 ?_ | refine n2 (fun b _ => ?_) | refine n3 (fun _ _ => ?_) | refine n4 ?_ | refine n5 ?_ | refine n6 (hpa) ?_ | refine n6v (hpa) ?_ | refine WL_nil ?_ | refine W_seq ?_ | refine W_region ?_ | refine n7 ?_ | refine n8 ?_ | refine W_block ?_ | refine W_skip ?_ | refine W_ret ?_ | refine W_exit ?_ | refine WQ_then ?_ | refine WQ_then_ret ?_ | refine WQ_then_exit ?_ | refine WQ_block_normal ?_ | refine WQ_block_ret ?_ | refine WQ_block_exit ?_ | refine n9 ?_)
    apply WQ_nilRow 61 13
    apply WQ_nilL 5
    ((apply ret2 Tryd.results13 ( (Value.slice none 0 0, []))); (focus (first | trivial | assumption | omega)); (focus (first | exact RV_tmp rfl | (apply RV_cellN; exact rfl; (repeat' (first | exact Pick.head _ _ | apply Pick.tail)); (intro _; exact rfl); (intro _; exact rfl); exact rfl) | (apply RV_cell1; exact rfl; (repeat' (first | exact Pick.head _ _ | apply Pick.tail)); (intro _; exact rfl); exact rfl))); (focus (first | exact RV_tmp rfl | (apply RV_cellN; exact rfl; (repeat' (first | exact Pick.head _ _ | apply Pick.tail)); (intro _; exact rfl); (intro _; exact rfl); exact rfl) | (apply RV_cell1; exact rfl; (repeat' (first | exact Pick.head _ _ | apply Pick.tail)); (intro _; exact rfl); exact rfl)));  (focus (first | exact rfl | (simp; done))); (focus (repeat (first | exact SubO.nil _ | (apply SubO.cons; (focus (repeat' (first | exact Pick.head _ _ | apply Pick.tail))))))); (focus (repeat (first | exact AllE.nil _ | (apply AllE.cons; (focus (first | exact ent_nilBy | exact ent_nilSl | (apply Ent.mem; repeat' (first | exact mcs | apply mct)))))))))
  rw [if_neg c5] at hU
  by_cases c6 : (ys.drop M).length = pad4 M
  · rw [if_pos c6] at hU
    subst hU
    repeat (first | refine n1 ?_ | refine n2 (fun b _ => ?_) | refine n3 (fun _ _ => ?_) | refine n4 ?_ | refine n5 ?_ | refine n6 (hpa) ?_ | refine n6v (hpa) ?_ | refine WL_nil ?_ | refine W_seq ?_ | refine W_region ?_ | refine n7 ?_ | refine n8 ?_ | refine W_block ?_ | refine W_skip ?_ | refine W_ret ?_ | refine W_exit ?_ | refine WQ_then ?_ | refine WQ_then_ret ?_ | refine WQ_then_exit ?_ | refine WQ_block_normal ?_ | refine WQ_block_ret ?_ | refine WQ_block_exit ?_ | refine n9 ?_)
    apply WQ_nilRow 61 13
    apply WQ_nilL 5
    ((apply ret2 Tryd.results13 ( (Value.slice none 0 0, []))); (focus (first | trivial | assumption | omega)); (focus (first | exact RV_tmp rfl | (apply RV_cellN; exact rfl; (repeat' (first | exact Pick.head _ _ | apply Pick.tail)); (intro _; exact rfl); (intro _; exact rfl); exact rfl) | (apply RV_cell1; exact rfl; (repeat' (first | exact Pick.head _ _ | apply Pick.tail)); (intro _; exact rfl); exact rfl))); (focus (first | exact RV_tmp rfl | (apply RV_cellN; exact rfl; (repeat' (first | exact Pick.head _ _ | apply Pick.tail)); (intro _; exact rfl); (intro _; exact rfl); exact rfl) | (apply RV_cell1; exact rfl; (repeat' (first | exact Pick.head _ _ | apply Pick.tail)); (intro _; exact rfl); exact rfl)));  (focus (first | exact rfl | (simp; done))); (focus (repeat (first | exact SubO.nil _ | (apply SubO.cons; (focus (repeat' (first | exact Pick.head _ _ | apply Pick.tail))))))); (focus (repeat (first | exact AllE.nil _ | (apply AllE.cons; (focus (first | exact ent_nilBy | exact ent_nilSl | (apply Ent.mem; repeat' (first | exact mcs | apply mct)))))))))
  rw [if_neg c6] at hU
  repeat (first | refine n1 ?_ | refine n2 (fun b _ => ?_) | refine n3 (fun _ _ => ?_) | refine n4 ?_ | refine n5 ?_ | refine n6 (hpa) ?_ | refine n6v (hpa) ?_ | refine WL_nil ?_ | refine W_seq ?_ | refine W_region ?_ | refine n7 ?_ | refine n8 ?_ | refine W_block ?_ | refine W_skip ?_ | refine W_ret ?_ | refine W_exit ?_ | refine WQ_then ?_ | refine WQ_then_ret ?_ | refine WQ_then_exit ?_ | refine WQ_block_normal ?_ | refine WQ_block_ret ?_ | refine WQ_block_exit ?_ | refine n9 ?_)
  (apply WL_effs; exact rfl; exact rfl; exact rfl; apply E_call; exact rfl; (intro _ _; simp); (exact contains_fn _ ((ys.drop M).take (pad4 M))); (repeat (first | exact AllE.nil _ | (apply AllE.cons; (focus (first | exact ent_nilBy | exact ent_nilSl | (apply Ent.mem; repeat' (first | exact mcs | apply mct))))))); (intro _; exact rfl); (intro _; exact rfl))
  intro _ _
  cases c7 : nzB ((ys.drop M).take (pad4 M)) with
  | true =>
    rw [if_pos c7] at hU
    subst hU
    repeat (first | refine n1 ?_ | refine n2 (fun b _ => ?_) | refine n3 (fun _ _ => ?_) | refine n4 ?_ | refine n5 ?_ | refine WL_nil ?_ | refine W_seq ?_ | refine W_region ?_ | refine n7 ?_ | refine n8 ?_ | refine W_block ?_ | refine W_skip ?_ | refine W_ret ?_ | refine W_exit ?_ | refine WQ_then ?_ | refine WQ_then_ret ?_ | refine WQ_then_exit ?_ | refine WQ_block_normal ?_ | refine WQ_block_ret ?_ | refine WQ_block_exit ?_ | refine n9 ?_)
    apply WQ_nilRow 61 13
    apply WQ_nilL 5
    ((apply ret2 Tryd.results13 ( (Value.slice none 0 0, []))); (focus (first | trivial | assumption | omega)); (focus (first | exact RV_tmp rfl | (apply RV_cellN; exact rfl; (repeat' (first | exact Pick.head _ _ | apply Pick.tail)); (intro _; exact rfl); (intro _; exact rfl); exact rfl) | (apply RV_cell1; exact rfl; (repeat' (first | exact Pick.head _ _ | apply Pick.tail)); (intro _; exact rfl); exact rfl))); (focus (first | exact RV_tmp rfl | (apply RV_cellN; exact rfl; (repeat' (first | exact Pick.head _ _ | apply Pick.tail)); (intro _; exact rfl); (intro _; exact rfl); exact rfl) | (apply RV_cell1; exact rfl; (repeat' (first | exact Pick.head _ _ | apply Pick.tail)); (intro _; exact rfl); exact rfl)));  (focus (first | exact rfl | (simp; done))); (focus (repeat (first | exact SubO.nil _ | (apply SubO.cons; (focus (repeat' (first | exact Pick.head _ _ | apply Pick.tail))))))); (focus (repeat (first | exact AllE.nil _ | (apply AllE.cons; (focus (first | exact ent_nilBy | exact ent_nilSl | (apply Ent.mem; repeat' (first | exact mcs | apply mct)))))))))
  | false =>
    rw [if_neg (by rw [c7]; decide), ← hmz] at hU
    have hk' : 32 - (D ++ [p]).length = k := by rw [← hln]; omega
    have hn : (D ++ [p]).length ≤ 32 ∧ ((ys.drop M).drop (pad4 M)).length ≤ 2304 ∧ upk (32 - (D ++ [p]).length) ((D ++ [p]).map PKz) ((ys.drop M).drop (pad4 M)) = R := ⟨by omega, by rw [List.length_drop]; omega, by rw [hk']; exact hU⟩
    repeat (first | refine n1 ?_ | refine n2 (fun b _ => ?_) | refine n3 (fun _ _ => ?_) | refine n4 ?_ | refine n5 ?_ | refine WL_nil ?_ | refine W_seq ?_ | refine W_region ?_ | refine n7 ?_ | refine n8 ?_ | refine W_block ?_ | refine W_skip ?_ | refine W_ret ?_ | refine W_exit ?_ | refine WQ_then ?_ | refine WQ_then_ret ?_ | refine WQ_then_exit ?_ | refine WQ_block_normal ?_ | refine WQ_block_ret ?_ | refine WQ_block_exit ?_ | refine n9 ?_)
    rw [drop_rest (ys.drop M) (pad4 M)]
    ((apply WQ_again ((_, (ys.drop M).drop (pad4 M), r, D ++ [p]))); (focus exact hn); (focus (exact (show 32 - (D ++ [p]).length < 32 - D.length by omega))); (focus (repeat (first | exact FrIn.nil _ | (apply FrIn.cons; exact rfl; (first | exact rfl | (congr 1; first | omega | (dsimp only; omega)) | (simp; done)))))); (focus (repeat (first | exact SubO.nil _ | (apply SubO.cons; (focus (repeat' (first | exact Pick.head _ _ | apply Pick.tail))))))); (focus (repeat (first | exact AllE.nil _ | (apply AllE.cons; (focus (first | exact ent_nilBy | exact ent_nilSl | (apply Ent.mem; repeat' (first | exact mcs | apply mct)))))))))
end Go.Proofs.YteojehocflbgdaaDoor.C08d

/-
  A packed form read by the reference.
-/
namespace Go.Proofs.YteojehocflbgdaaDoor.C08d
open Go Go.RowKit Go.Hs C08
attribute [local irreducible] WL W WQ PL Runs Effs AllE Ent SubO FrIn Pick OneC Ones CellsE PartsE SeqE UZ By Sl Pt Ct

end Go.Proofs.YteojehocflbgdaaDoor.C08d

/-
  Packets packed by the reference; lists that are too large.
-/
namespace Go.Proofs.YteojehocflbgdaaDoor.C08d
open Go Go.RowKit Go.Hs C01 C08
/-- what stands when i entries are written. -/
def pdx (fs : List (List UInt8)) (i : Nat) : List UInt8 := if i < fs.length then pj (fs.take i) else jg fs
attribute [local irreducible] WL W WQ PL Runs Effs AllE Ent SubO FrIn Pick OneC Ones CellsE PartsE SeqE UZ By Sl Pt Ct

set_option maxRecDepth 100000 in
set_option maxHeartbeats 4000000 in
theorem greatK_fn (v : Value) (ps : List PK) : Ct Tryd.prog 4 [v] [] [Rw 13 v ps.length (fun i => (ps.getD i pk0).cells), Al ps.length (fun i => By (ps.getD i pk0).dv (ps.getD i pk0).data)]
    (X := Bool) (fun _ => True) (fun x => .bool x) (fun _ => []) (fun _ => []) := by
  refine Ct_intro Tryd.func4 rfl Tryd.ntmps4 (by simp) _ rfl (fun w0 O0 => ?_)
  refine W_pure (rw_le (n := ps.length) (by repeat' (first | exact mcs | apply mct))) fun hnl => ?_
  repeat (first | refine n1 ?_ | refine n2 (fun b _ => ?_) | refine n3 (fun _ _ => ?_) | refine n4 ?_ | refine n5 ?_ | refine WL_nil ?_ | refine W_seq ?_ | refine W_region ?_ | refine n7 ?_ | refine n8 ?_ | refine W_block ?_ | refine W_skip ?_ | refine W_ret ?_ | refine W_exit ?_ | refine WQ_then ?_ | refine WQ_then_ret ?_ | refine WQ_then_exit ?_ | refine WQ_block_normal ?_ | refine WQ_block_ret ?_ | refine WQ_block_exit ?_ | refine n9 ?_)
  ((apply W_loopK (X := Nat × Int) [3, 4] [] (fun x => x.1 ≤ ps.length) (fun x => [(3, .int .i64 x.2), (4, .int .i64 (x.1 : Int))]) (fun _ => []) (fun _ => []) (fun x => ps.length - x.1) ((0, 0))); (focus exact Nat.zero_le _); exact rfl; exact rfl; (intro _; exact rfl); (intro _; exact rfl); (intro _; exact rfl); (focus (repeat (first | exact FrIn.nil _ | (apply FrIn.cons; exact rfl; (first | exact rfl | (congr 1; first | omega | (dsimp only; omega)) | (simp; done)))))); (focus (repeat (first | exact SubO.nil _ | (apply SubO.cons; (focus (repeat' (first | exact Pick.head _ _ | apply Pick.tail))))))); (focus (repeat (first | exact AllE.nil _ | (apply AllE.cons; (focus (first | exact ent_nilBy | exact ent_nilSl | (apply Ent.mem; repeat' (first | exact mcs | apply mct)))))))); intro x hx)
  obtain ⟨x, n⟩ := x
  replace hx : x ≤ ps.length := hx
  dsimp only
  by_cases c1 : x < ps.length
  · refine W_ent (ent_al (i := x) (ψ := fun i => By (ps.getD i pk0).dv (ps.getD i pk0).data) (by (focus (repeat' (first | exact mcs | apply mct)))) c1) ?_
    by_cases c2 : n ≤ 8000
    · repeat (first | refine n1 ?_ | refine n2 (fun b _ => ?_) | refine n3 (fun _ _ => ?_) | refine n4 ?_ | refine n5 ?_ | refine WL_nil ?_ | refine W_seq ?_ | refine W_region ?_ | refine n7 ?_ | refine n8 ?_ | refine W_block ?_ | refine W_skip ?_ | refine W_ret ?_ | refine W_exit ?_ | refine WQ_then ?_ | refine WQ_then_ret ?_ | refine WQ_then_exit ?_ | refine WQ_block_normal ?_ | refine WQ_block_ret ?_ | refine WQ_block_exit ?_ | refine n9 ?_)
      ((apply WQ_again ((x + 1, _))); (focus exact c1); (focus (exact (show ps.length - (x + 1) < ps.length - x by omega))); (focus (repeat (first | exact FrIn.nil _ | (apply FrIn.cons; exact rfl; (first | exact rfl | (congr 1; first | omega | (dsimp only; omega)) | (simp; done)))))); (focus (repeat (first | exact SubO.nil _ | (apply SubO.cons; (focus (repeat' (first | exact Pick.head _ _ | apply Pick.tail))))))); (focus (repeat (first | exact AllE.nil _ | (apply AllE.cons; (focus (first | exact ent_nilBy | exact ent_nilSl | (apply Ent.mem; repeat' (first | exact mcs | apply mct)))))))))
    · repeat (first | refine n1 ?_ | refine n2 (fun b _ => ?_) | refine n3 (fun _ _ => ?_) | refine n4 ?_ | refine n5 ?_ | refine WL_nil ?_ | refine W_seq ?_ | refine W_region ?_ | refine n7 ?_ | refine n8 ?_ | refine W_block ?_ | refine W_skip ?_ | refine W_ret ?_ | refine W_exit ?_ | refine WQ_then ?_ | refine WQ_then_ret ?_ | refine WQ_then_exit ?_ | refine WQ_block_normal ?_ | refine WQ_block_ret ?_ | refine WQ_block_exit ?_ | refine n9 ?_)
      ((apply ret1 Tryd.results4 ( true)); (focus (first | trivial | assumption | omega)); (focus (first | exact RV_tmp rfl | (apply RV_cellN; exact rfl; (repeat' (first | exact Pick.head _ _ | apply Pick.tail)); (intro _; exact rfl); (intro _; exact rfl); exact rfl) | (apply RV_cell1; exact rfl; (repeat' (first | exact Pick.head _ _ | apply Pick.tail)); (intro _; exact rfl); exact rfl)));  (focus (first | exact rfl | (simp; done))); (focus (repeat (first | exact SubO.nil _ | (apply SubO.cons; (focus (repeat' (first | exact Pick.head _ _ | apply Pick.tail))))))); (focus (repeat (first | exact AllE.nil _ | (apply AllE.cons; (focus (first | exact ent_nilBy | exact ent_nilSl | (apply Ent.mem; repeat' (first | exact mcs | apply mct)))))))))
  · by_cases c2 : n ≤ 8000
    · repeat (first | refine n1 ?_ | refine n2 (fun b _ => ?_) | refine n3 (fun _ _ => ?_) | refine n4 ?_ | refine n5 ?_ | refine WL_nil ?_ | refine W_seq ?_ | refine W_region ?_ | refine n7 ?_ | refine n8 ?_ | refine W_block ?_ | refine W_skip ?_ | refine W_ret ?_ | refine W_exit ?_ | refine WQ_then ?_ | refine WQ_then_ret ?_ | refine WQ_then_exit ?_ | refine WQ_block_normal ?_ | refine WQ_block_ret ?_ | refine WQ_block_exit ?_ | refine n9 ?_)
      ((apply ret1 Tryd.results4 ( false)); (focus (first | trivial | assumption | omega)); (focus (first | exact RV_tmp rfl | (apply RV_cellN; exact rfl; (repeat' (first | exact Pick.head _ _ | apply Pick.tail)); (intro _; exact rfl); (intro _; exact rfl); exact rfl) | (apply RV_cell1; exact rfl; (repeat' (first | exact Pick.head _ _ | apply Pick.tail)); (intro _; exact rfl); exact rfl)));  (focus (first | exact rfl | (simp; done))); (focus (repeat (first | exact SubO.nil _ | (apply SubO.cons; (focus (repeat' (first | exact Pick.head _ _ | apply Pick.tail))))))); (focus (repeat (first | exact AllE.nil _ | (apply AllE.cons; (focus (first | exact ent_nilBy | exact ent_nilSl | (apply Ent.mem; repeat' (first | exact mcs | apply mct)))))))))
    · repeat (first | refine n1 ?_ | refine n2 (fun b _ => ?_) | refine n3 (fun _ _ => ?_) | refine n4 ?_ | refine n5 ?_ | refine WL_nil ?_ | refine W_seq ?_ | refine W_region ?_ | refine n7 ?_ | refine n8 ?_ | refine W_block ?_ | refine W_skip ?_ | refine W_ret ?_ | refine W_exit ?_ | refine WQ_then ?_ | refine WQ_then_ret ?_ | refine WQ_then_exit ?_ | refine WQ_block_normal ?_ | refine WQ_block_ret ?_ | refine WQ_block_exit ?_ | refine n9 ?_)
      ((apply ret1 Tryd.results4 ( true)); (focus (first | trivial | assumption | omega)); (focus (first | exact RV_tmp rfl | (apply RV_cellN; exact rfl; (repeat' (first | exact Pick.head _ _ | apply Pick.tail)); (intro _; exact rfl); (intro _; exact rfl); exact rfl) | (apply RV_cell1; exact rfl; (repeat' (first | exact Pick.head _ _ | apply Pick.tail)); (intro _; exact rfl); exact rfl)));  (focus (first | exact rfl | (simp; done))); (focus (repeat (first | exact SubO.nil _ | (apply SubO.cons; (focus (repeat' (first | exact Pick.head _ _ | apply Pick.tail))))))); (focus (repeat (first | exact AllE.nil _ | (apply AllE.cons; (focus (first | exact ent_nilBy | exact ent_nilSl | (apply Ent.mem; repeat' (first | exact mcs | apply mct)))))))))

end Go.Proofs.YteojehocflbgdaaDoor.C08d

/-
  Packets packed by the reference.
-/
namespace Go.Proofs.YteojehocflbgdaaDoor.C08d
open Go Go.RowKit Go.Hs C01 C08
theorem leb2 (xs : List UInt8) (n : Nat) : xs ++ leB 2 n = xs ++ dl2 n := by
  have := C08.leB2 n
  rw [List.nil_append] at this
  rw [this]
theorem ent_alN {Φ : List SP} {n : Nat} {ψ : Nat → SP} (h : n = 0) : Ent Φ (Al n ψ) := fun _ _ _ i hi => absurd hi (by omega)
attribute [local irreducible] WL W WQ PL Runs Effs AllE Ent SubO FrIn Pick OneC Ones CellsE PartsE SeqE UZ By Sl Pt Ct

end Go.Proofs.YteojehocflbgdaaDoor.C08d

/-
  Lists of packets compared.
-/
namespace Go.Proofs.YteojehocflbgdaaDoor.C08d
open Go Go.RowKit Go.Hs C01 C08
theorem mapKz {ps qs : List PK} : ps.map PKz = qs.map PKz ↔ ps.length = qs.length ∧ ∀ i, i < ps.length → (ps.getD i pk0).to_ = (qs.getD i pk0).to_ ∧ (ps.getD i pk0).fr_ = (qs.getD i pk0).fr_ ∧ (ps.getD i pk0).data = (qs.getD i pk0).data := by
  constructor
  · intro h
    have hl : ps.length = qs.length := by have := congrArg List.length h; simpa using this
    refine ⟨hl, fun i hi => ?_⟩
    have e : PKz (ps.getD i pk0) = PKz (qs.getD i pk0) := by
      have h1 := congrArg (fun l => l[i]?) h
      simp only [List.getElem?_map] at h1
      rw [List.getD_eq_getElem?_getD, List.getD_eq_getElem?_getD, List.getElem?_eq_getElem hi, List.getElem?_eq_getElem (by omega : i < qs.length)]
      rw [List.getElem?_eq_getElem hi, List.getElem?_eq_getElem (by omega : i < qs.length)] at h1
      exact Option.some.inj h1
    exact ⟨congrArg Kz.to_ e, congrArg Kz.fr_ e, congrArg Kz.data e⟩
  · rintro ⟨hl, h⟩
    apply List.ext_getElem (by rw [List.length_map, List.length_map, hl])
    intro i h1 h2
    rw [List.length_map] at h1 h2
    rw [List.getElem_map, List.getElem_map]
    obtain ⟨a, b, c⟩ := h i h1
    rw [List.getD_eq_getElem?_getD, List.getD_eq_getElem?_getD, List.getElem?_eq_getElem h1, List.getElem?_eq_getElem h2] at a b c
    unfold PKz
    rw [show (ps[i]).to_ = (qs[i]).to_ from a, show (ps[i]).fr_ = (qs[i]).fr_ from b, show (ps[i]).data = (qs[i]).data from c]
attribute [local irreducible] WL W WQ PL Runs Effs AllE Ent SubO FrIn Pick OneC Ones CellsE PartsE SeqE UZ By Sl Pt Ct

set_option maxRecDepth 100000 in
set_option maxHeartbeats 8000000 in
theorem rsameK_fn (v : Value) (ps : List PK) (u : Value) (qs : List PK) (gb : Bool) (hb : gb = true ↔ ps.map PKz = qs.map PKz) : CtD Tryd.prog 14 [v, u]
    [Rw 13 v ps.length (fun i => (ps.getD i pk0).cells), Al ps.length (fun i => By (ps.getD i pk0).dv (ps.getD i pk0).data), Rw 13 u qs.length (fun i => (qs.getD i pk0).cells), Al qs.length (fun i => By (qs.getD i pk0).dv (qs.getD i pk0).data)] (.bool gb) := by
  rw [mapKz] at hb
  refine Ct_intro Tryd.func14 rfl Tryd.ntmps14 (by simp) _ rfl (fun w0 O0 => ?_)
  refine W_pure (rw_le (v := v) (n := ps.length) (by repeat' (first | exact mcs | apply mct))) fun hle => ?_
  refine W_pure (rw_le (v := u) (n := qs.length) (by repeat' (first | exact mcs | apply mct))) fun hle2 => ?_
  by_cases c0 : ps.length = qs.length
  case neg =>
    obtain rfl : gb = false := by
      cases gb
      · rfl
      · exact absurd (hb.1 rfl).1 c0
    repeat (first | refine n1 ?_ | refine n2 (fun b _ => ?_) | refine n3 (fun _ _ => ?_) | refine n4 ?_ | refine n5 ?_ | refine WL_nil ?_ | refine W_seq ?_ | refine W_region ?_ | refine n7 ?_ | refine n8 ?_ | refine W_block ?_ | refine W_skip ?_ | refine W_ret ?_ | refine W_exit ?_ | refine WQ_then ?_ | refine WQ_then_ret ?_ | refine WQ_then_exit ?_ | refine WQ_block_normal ?_ | refine WQ_block_ret ?_ | refine WQ_block_exit ?_ | refine n9 ?_)
    ((apply ret1 Tryd.results14 ( ())); (focus (first | trivial | assumption | omega)); (focus (first | exact RV_tmp rfl | (apply RV_cellN; exact rfl; (repeat' (first | exact Pick.head _ _ | apply Pick.tail)); (intro _; exact rfl); (intro _; exact rfl); exact rfl) | (apply RV_cell1; exact rfl; (repeat' (first | exact Pick.head _ _ | apply Pick.tail)); (intro _; exact rfl); exact rfl)));  (focus (first | exact rfl | (simp; done))); (focus (repeat (first | exact SubO.nil _ | (apply SubO.cons; (focus (repeat' (first | exact Pick.head _ _ | apply Pick.tail))))))); (focus (repeat (first | exact AllE.nil _ | (apply AllE.cons; (focus (first | exact ent_nilBy | exact ent_nilSl | (apply Ent.mem; repeat' (first | exact mcs | apply mct)))))))))
  repeat (first | refine n1 ?_ | refine n2 (fun b _ => ?_) | refine n3 (fun _ _ => ?_) | refine n4 ?_ | refine n5 ?_ | refine WL_nil ?_ | refine W_seq ?_ | refine W_region ?_ | refine n7 ?_ | refine n8 ?_ | refine W_block ?_ | refine W_skip ?_ | refine W_ret ?_ | refine W_exit ?_ | refine WQ_then ?_ | refine WQ_then_ret ?_ | refine WQ_then_exit ?_ | refine WQ_block_normal ?_ | refine WQ_block_ret ?_ | refine WQ_block_exit ?_ | refine n9 ?_)
  ((apply W_loopK (X := Nat × Unit) [5] [] (fun x => x.1 ≤ ps.length ∧ ∀ i, i < x.1 → (ps.getD i pk0).to_ = (qs.getD i pk0).to_ ∧ (ps.getD i pk0).fr_ = (qs.getD i pk0).fr_ ∧ (ps.getD i pk0).data = (qs.getD i pk0).data) (fun x => [(5, .int .i64 (x.1 : Int))]) (fun _ => []) (fun _ => []) (fun x => ps.length - x.1) ((0, ()))); (focus (exact ⟨Nat.zero_le _, fun i h => absurd h (Nat.not_lt_zero _)⟩)); exact rfl; exact rfl; (intro _; exact rfl); (intro _; exact rfl); (intro _; exact rfl); (focus (repeat (first | exact FrIn.nil _ | (apply FrIn.cons; exact rfl; (first | exact rfl | (congr 1; first | omega | (dsimp only; omega)) | (simp; done)))))); (focus (repeat (first | exact SubO.nil _ | (apply SubO.cons; (focus (repeat' (first | exact Pick.head _ _ | apply Pick.tail))))))); (focus (repeat (first | exact AllE.nil _ | (apply AllE.cons; (focus (first | exact ent_nilBy | exact ent_nilSl | (apply Ent.mem; repeat' (first | exact mcs | apply mct)))))))); intro x hx)
  obtain ⟨i, _⟩ := x
  obtain ⟨hi, hs⟩ := hx
  replace hi : i ≤ ps.length := hi
  replace hs : ∀ j, j < i → (ps.getD j pk0).to_ = (qs.getD j pk0).to_ ∧ (ps.getD j pk0).fr_ = (qs.getD j pk0).fr_ ∧ (ps.getD j pk0).data = (qs.getD j pk0).data := hs
  dsimp only
  by_cases d1 : i < ps.length
  · refine W_ent (ent_al (i := i) (ψ := fun i => By (ps.getD i pk0).dv (ps.getD i pk0).data) (by (focus (repeat' (first | exact mcs | apply mct)))) d1) ?_
    refine W_ent (ent_al (i := i) (n := qs.length) (ψ := fun i => By (qs.getD i pk0).dv (qs.getD i pk0).data) (by (focus (repeat' (first | exact mcs | apply mct)))) (by omega)) ?_
    have d2 : i < qs.length := by omega
    by_cases e1 : (ps.getD i pk0).to_ = (qs.getD i pk0).to_
    · by_cases e2 : (ps.getD i pk0).fr_ = (qs.getD i pk0).fr_
      · by_cases e3 : (ps.getD i pk0).data = (qs.getD i pk0).data
        · have hn : i + 1 ≤ ps.length ∧ ∀ j, j < i + 1 → (ps.getD j pk0).to_ = (qs.getD j pk0).to_ ∧ (ps.getD j pk0).fr_ = (qs.getD j pk0).fr_ ∧ (ps.getD j pk0).data = (qs.getD j pk0).data := ⟨d1, fun j hj => by
            rcases Nat.lt_succ_iff_lt_or_eq.1 hj with h | rfl
            · exact hs j h
            · exact ⟨e1, e2, e3⟩⟩
          repeat (first | refine n1 ?_ | refine n2 (fun b _ => ?_) | refine n3 (fun _ _ => ?_) | refine n4 ?_ | refine n5 ?_ | refine WL_nil ?_ | refine W_seq ?_ | refine W_region ?_ | refine n7 ?_ | refine n8 ?_ | refine W_block ?_ | refine W_skip ?_ | refine W_ret ?_ | refine W_exit ?_ | refine WQ_then ?_ | refine WQ_then_ret ?_ | refine WQ_then_exit ?_ | refine WQ_block_normal ?_ | refine WQ_block_ret ?_ | refine WQ_block_exit ?_ | refine n9 ?_)
          (refine W_regionP' [] [] [0, 1, 2, 3, 4, 5, 6, 7, 8, 9, 10, 11, 12, 13, 14, 15, 16, 17, 18, 19, 20, 21, 22, 23, 24, 25, 26, 27, 28, 29, 30, 31, 32, 33, 34, 35, 36, 37, 38] [] (by kernel_rfl) (by kernel_rfl) (by repeat (first | exact UZ.nil _ _ | (apply UZ.cons; exact rfl; (intro _; exact rfl)))) (by exact rfl) (by (repeat (first | exact SubO.nil _ | (apply SubO.cons; (focus (repeat' (first | exact Pick.head _ _ | apply Pick.tail))))))) ?_)
          repeat (first | refine p1 ?_ | refine p2 (fun b _ => ?_) | refine p3 (fun _ _ => ?_) | refine p4 ?_ | refine p5 ?_ | refine p7 (fun b => ?_) | refine PL_nil ?_)
          repeat (first | refine n1 ?_ | refine n2 (fun b _ => ?_) | refine n3 (fun _ _ => ?_) | refine n4 ?_ | refine n5 ?_ | refine WL_nil ?_ | refine W_seq ?_ | refine W_region ?_ | refine n7 ?_ | refine n8 ?_ | refine W_block ?_ | refine W_skip ?_ | refine W_ret ?_ | refine W_exit ?_ | refine WQ_then ?_ | refine WQ_then_ret ?_ | refine WQ_then_exit ?_ | refine WQ_block_normal ?_ | refine WQ_block_ret ?_ | refine WQ_block_exit ?_ | refine n9 ?_)
          ((apply WQ_again ((i + 1, ()))); (focus exact hn); (focus (exact (show ps.length - (i + 1) < ps.length - i by omega))); (focus (repeat (first | exact FrIn.nil _ | (apply FrIn.cons; exact rfl; (first | exact rfl | (congr 1; first | omega | (dsimp only; omega)) | (simp; done)))))); (focus (repeat (first | exact SubO.nil _ | (apply SubO.cons; (focus (repeat' (first | exact Pick.head _ _ | apply Pick.tail))))))); (focus (repeat (first | exact AllE.nil _ | (apply AllE.cons; (focus (first | exact ent_nilBy | exact ent_nilSl | (apply Ent.mem; repeat' (first | exact mcs | apply mct)))))))))
        · obtain rfl : gb = false := by
            cases gb
            · rfl
            · exact absurd ((hb.1 rfl).2 i d1).2.2 e3
          repeat (first | refine n1 ?_ | refine n2 (fun b _ => ?_) | refine n3 (fun _ _ => ?_) | refine n4 ?_ | refine n5 ?_ | refine WL_nil ?_ | refine W_seq ?_ | refine W_region ?_ | refine n7 ?_ | refine n8 ?_ | refine W_block ?_ | refine W_skip ?_ | refine W_ret ?_ | refine W_exit ?_ | refine WQ_then ?_ | refine WQ_then_ret ?_ | refine WQ_then_exit ?_ | refine WQ_block_normal ?_ | refine WQ_block_ret ?_ | refine WQ_block_exit ?_ | refine n9 ?_)
          (refine W_regionP' [] [] [0, 1, 2, 3, 4, 5, 6, 7, 8, 9, 10, 11, 12, 13, 14, 15, 16, 17, 18, 19, 20, 21, 22, 23, 24, 25, 26, 27, 28, 29, 30, 31, 32, 33, 34, 35, 36, 37, 38] [] (by kernel_rfl) (by kernel_rfl) (by repeat (first | exact UZ.nil _ _ | (apply UZ.cons; exact rfl; (intro _; exact rfl)))) (by exact rfl) (by (repeat (first | exact SubO.nil _ | (apply SubO.cons; (focus (repeat' (first | exact Pick.head _ _ | apply Pick.tail))))))) ?_)
          repeat (first | refine p1 ?_ | refine p2 (fun b _ => ?_) | refine p3 (fun _ _ => ?_) | refine p4 ?_ | refine p5 ?_ | refine p7 (fun b => ?_) | refine PL_nil ?_)
          repeat (first | refine n1 ?_ | refine n2 (fun b _ => ?_) | refine n3 (fun _ _ => ?_) | refine n4 ?_ | refine n5 ?_ | refine WL_nil ?_ | refine W_seq ?_ | refine W_region ?_ | refine n7 ?_ | refine n8 ?_ | refine W_block ?_ | refine W_skip ?_ | refine W_ret ?_ | refine W_exit ?_ | refine WQ_then ?_ | refine WQ_then_ret ?_ | refine WQ_then_exit ?_ | refine WQ_block_normal ?_ | refine WQ_block_ret ?_ | refine WQ_block_exit ?_ | refine n9 ?_)
          ((apply ret1 Tryd.results14 ( ())); (focus (first | trivial | assumption | omega)); (focus (first | exact RV_tmp rfl | (apply RV_cellN; exact rfl; (repeat' (first | exact Pick.head _ _ | apply Pick.tail)); (intro _; exact rfl); (intro _; exact rfl); exact rfl) | (apply RV_cell1; exact rfl; (repeat' (first | exact Pick.head _ _ | apply Pick.tail)); (intro _; exact rfl); exact rfl)));  (focus (first | exact rfl | (simp; done))); (focus (repeat (first | exact SubO.nil _ | (apply SubO.cons; (focus (repeat' (first | exact Pick.head _ _ | apply Pick.tail))))))); (focus (repeat (first | exact AllE.nil _ | (apply AllE.cons; (focus (first | exact ent_nilBy | exact ent_nilSl | (apply Ent.mem; repeat' (first | exact mcs | apply mct)))))))))
      · obtain rfl : gb = false := by
          cases gb
          · rfl
          · exact absurd ((hb.1 rfl).2 i d1).2.1 e2
        repeat (first | refine n1 ?_ | refine n2 (fun b _ => ?_) | refine n3 (fun _ _ => ?_) | refine n4 ?_ | refine n5 ?_ | refine WL_nil ?_ | refine W_seq ?_ | refine W_region ?_ | refine n7 ?_ | refine n8 ?_ | refine W_block ?_ | refine W_skip ?_ | refine W_ret ?_ | refine W_exit ?_ | refine WQ_then ?_ | refine WQ_then_ret ?_ | refine WQ_then_exit ?_ | refine WQ_block_normal ?_ | refine WQ_block_ret ?_ | refine WQ_block_exit ?_ | refine n9 ?_)
        (refine W_regionP' [] [] [0, 1, 2, 3, 4, 5, 6, 7, 8, 9, 10, 11, 12, 13, 14, 15, 16, 17, 18, 19, 20, 21, 22, 23, 24, 25, 26, 27, 28, 29, 30, 31, 32, 33, 34, 35, 36, 37, 38] [] (by kernel_rfl) (by kernel_rfl) (by repeat (first | exact UZ.nil _ _ | (apply UZ.cons; exact rfl; (intro _; exact rfl)))) (by exact rfl) (by (repeat (first | exact SubO.nil _ | (apply SubO.cons; (focus (repeat' (first | exact Pick.head _ _ | apply Pick.tail))))))) ?_)
        repeat (first | refine p1 ?_ | refine p2 (fun b _ => ?_) | refine p3 (fun _ _ => ?_) | refine p4 ?_ | refine p5 ?_ | refine p7 (fun b => ?_) | refine PL_nil ?_)
        repeat (first | refine n1 ?_ | refine n2 (fun b _ => ?_) | refine n3 (fun _ _ => ?_) | refine n4 ?_ | refine n5 ?_ | refine WL_nil ?_ | refine W_seq ?_ | refine W_region ?_ | refine n7 ?_ | refine n8 ?_ | refine W_block ?_ | refine W_skip ?_ | refine W_ret ?_ | refine W_exit ?_ | refine WQ_then ?_ | refine WQ_then_ret ?_ | refine WQ_then_exit ?_ | refine WQ_block_normal ?_ | refine WQ_block_ret ?_ | refine WQ_block_exit ?_ | refine n9 ?_)
        ((apply ret1 Tryd.results14 ( ())); (focus (first | trivial | assumption | omega)); (focus (first | exact RV_tmp rfl | (apply RV_cellN; exact rfl; (repeat' (first | exact Pick.head _ _ | apply Pick.tail)); (intro _; exact rfl); (intro _; exact rfl); exact rfl) | (apply RV_cell1; exact rfl; (repeat' (first | exact Pick.head _ _ | apply Pick.tail)); (intro _; exact rfl); exact rfl)));  (focus (first | exact rfl | (simp; done))); (focus (repeat (first | exact SubO.nil _ | (apply SubO.cons; (focus (repeat' (first | exact Pick.head _ _ | apply Pick.tail))))))); (focus (repeat (first | exact AllE.nil _ | (apply AllE.cons; (focus (first | exact ent_nilBy | exact ent_nilSl | (apply Ent.mem; repeat' (first | exact mcs | apply mct)))))))))
    · obtain rfl : gb = false := by
        cases gb
        · rfl
        · exact absurd ((hb.1 rfl).2 i d1).1 e1
      repeat (first | refine n1 ?_ | refine n2 (fun b _ => ?_) | refine n3 (fun _ _ => ?_) | refine n4 ?_ | refine n5 ?_ | refine WL_nil ?_ | refine W_seq ?_ | refine W_region ?_ | refine n7 ?_ | refine n8 ?_ | refine W_block ?_ | refine W_skip ?_ | refine W_ret ?_ | refine W_exit ?_ | refine WQ_then ?_ | refine WQ_then_ret ?_ | refine WQ_then_exit ?_ | refine WQ_block_normal ?_ | refine WQ_block_ret ?_ | refine WQ_block_exit ?_ | refine n9 ?_)
      (refine W_regionP' [] [] [0, 1, 2, 3, 4, 5, 6, 7, 8, 9, 10, 11, 12, 13, 14, 15, 16, 17, 18, 19, 20, 21, 22, 23, 24, 25, 26, 27, 28, 29, 30, 31, 32, 33, 34, 35, 36, 37, 38] [] (by kernel_rfl) (by kernel_rfl) (by repeat (first | exact UZ.nil _ _ | (apply UZ.cons; exact rfl; (intro _; exact rfl)))) (by exact rfl) (by (repeat (first | exact SubO.nil _ | (apply SubO.cons; (focus (repeat' (first | exact Pick.head _ _ | apply Pick.tail))))))) ?_)
      repeat (first | refine p1 ?_ | refine p2 (fun b _ => ?_) | refine p3 (fun _ _ => ?_) | refine p4 ?_ | refine p5 ?_ | refine p7 (fun b => ?_) | refine PL_nil ?_)
      repeat (first | refine n1 ?_ | refine n2 (fun b _ => ?_) | refine n3 (fun _ _ => ?_) | refine n4 ?_ | refine n5 ?_ | refine WL_nil ?_ | refine W_seq ?_ | refine W_region ?_ | refine n7 ?_ | refine n8 ?_ | refine W_block ?_ | refine W_skip ?_ | refine W_ret ?_ | refine W_exit ?_ | refine WQ_then ?_ | refine WQ_then_ret ?_ | refine WQ_then_exit ?_ | refine WQ_block_normal ?_ | refine WQ_block_ret ?_ | refine WQ_block_exit ?_ | refine n9 ?_)
      ((apply ret1 Tryd.results14 ( ())); (focus (first | trivial | assumption | omega)); (focus (first | exact RV_tmp rfl | (apply RV_cellN; exact rfl; (repeat' (first | exact Pick.head _ _ | apply Pick.tail)); (intro _; exact rfl); (intro _; exact rfl); exact rfl) | (apply RV_cell1; exact rfl; (repeat' (first | exact Pick.head _ _ | apply Pick.tail)); (intro _; exact rfl); exact rfl)));  (focus (first | exact rfl | (simp; done))); (focus (repeat (first | exact SubO.nil _ | (apply SubO.cons; (focus (repeat' (first | exact Pick.head _ _ | apply Pick.tail))))))); (focus (repeat (first | exact AllE.nil _ | (apply AllE.cons; (focus (first | exact ent_nilBy | exact ent_nilSl | (apply Ent.mem; repeat' (first | exact mcs | apply mct)))))))))
  · obtain rfl : i = ps.length := by omega
    obtain rfl : gb = true := hb.2 ⟨c0, hs⟩
    repeat (first | refine n1 ?_ | refine n2 (fun b _ => ?_) | refine n3 (fun _ _ => ?_) | refine n4 ?_ | refine n5 ?_ | refine WL_nil ?_ | refine W_seq ?_ | refine W_region ?_ | refine n7 ?_ | refine n8 ?_ | refine W_block ?_ | refine W_skip ?_ | refine W_ret ?_ | refine W_exit ?_ | refine WQ_then ?_ | refine WQ_then_ret ?_ | refine WQ_then_exit ?_ | refine WQ_block_normal ?_ | refine WQ_block_ret ?_ | refine WQ_block_exit ?_ | refine n9 ?_)
    ((apply ret1 Tryd.results14 ( ())); (focus (first | trivial | assumption | omega)); (focus (first | exact RV_tmp rfl | (apply RV_cellN; exact rfl; (repeat' (first | exact Pick.head _ _ | apply Pick.tail)); (intro _; exact rfl); (intro _; exact rfl); exact rfl) | (apply RV_cell1; exact rfl; (repeat' (first | exact Pick.head _ _ | apply Pick.tail)); (intro _; exact rfl); exact rfl)));  (focus (first | exact rfl | (simp; done))); (focus (repeat (first | exact SubO.nil _ | (apply SubO.cons; (focus (repeat' (first | exact Pick.head _ _ | apply Pick.tail))))))); (focus (repeat (first | exact AllE.nil _ | (apply AllE.cons; (focus (first | exact ent_nilBy | exact ent_nilSl | (apply Ent.mem; repeat' (first | exact mcs | apply mct)))))))))

end Go.Proofs.YteojehocflbgdaaDoor.C08d

/-
  The law 'AggregatePacks' walked.
-/
namespace Go.Proofs.YteojehocflbgdaaDoor.C08d
open Go Go.RowKit Go.Hs C01 C08
theorem own_pks {bt : TypeId} {w : World} {O : Nat → Prop} : ∀ (k : List PK), Own (rowsL bt (dlK k)) w → (∀ j, fpL (rowsL bt (dlK k)) j → ¬ O j) → ∀ p ∈ k, (By p.dv p.data).p w O
  | [], _, _, p, hp => by cases hp
  | q :: r, h1, h2, p, hp => by
    rcases List.mem_cons.1 hp with rfl | hp
    · exact slP_of_row h1.1 fun j hj => h2 j (fpL_cons.2 (.inl hj))
    · exact own_pks r h1.2.2 (fun j hj => h2 j (fpL_cons.2 (.inr hj))) p hp
theorem getPK {l : List PK} {i : Nat} (h : i < l.length) : l.getD i pk0 ∈ l := by
  rw [List.getD_eq_getElem?_getD, List.getElem?_eq_getElem h]
  exact List.getElem_mem h
/-- a list of packets is lent with its data. -/
theorem Bor.pks {Φ : List SP} {et bt : TypeId} {o : Value} {l : List PK} : Bor [.row o et 13 l.length (fcK l), pk (rowsL bt (dlK l))] Φ (Rw 13 o l.length (fun i => (l.getD i pk0).cells) :: Al l.length (fun i => By (l.getD i pk0).dv (l.getD i pk0).data) :: Φ) := fun w O ho hd hΦ ψ hψ => by
  rcases List.mem_cons.1 hψ with rfl | hψ
  · exact Bor.rowG (cf := PK.cells) (S := 13) (Φ := Φ) (et := et) pk_len pk0 rfl rfl w O ⟨ho.1, fun _ _ h => (by obtain ⟨a, ha, _⟩ := h; cases ha), trivial⟩ (fun k hk => hd k (by
      rcases fpL_cons.1 hk with hk | hk
      · exact fpL_cons.2 (.inl hk)
      · obtain ⟨a, ha, _⟩ := hk; cases ha)) hΦ _ List.mem_cons_self
  · rcases List.mem_cons.1 hψ with rfl | hψ
    · exact fun i hi => own_pks l ho.2.2.1 (fun k hk => hd k (fpL_cons.2 (.inr (fpL_cons.2 (.inl hk))))) _ (getPK hi)
    · exact hΦ ψ hψ
theorem Holds.pks {C : Ctx} {Γ : List OA} {Φ : List SP} {bt : TypeId} {k : List PK} {w : World} (h : Holds C (pk (rowsL bt (dlK k)) :: Γ) Φ w) : Holds C Γ (Al k.length (fun i => By (k.getD i pk0).dv (k.getD i pk0).data) :: Φ) w := by
  have hd : ∀ j, fpL (rowsL bt (dlK k)) j → ¬ avo C.O0 Γ j := fun j hj hn => by
    rcases hn with hn | hn
    · have h1 := h.o0 j hn
      rcases h.ofp j (fpL_cons.2 (.inl hj)) with h2 | h2
      · exact h1.2 h2
      · omega
    · exact h.own.2.1 j hj hn
  have ho : Own (rowsL bt (dlK k)) w := h.own.1
  exact h.drop.cons (fun i hi => own_pks k ho hd _ (getPK hi))
/-- what Unpack makes, told as lasting. -/
theorem Ct.letK {P : Program} {f : FuncId} {args : List Value} {Γ : List OA} {Φ : List SP} {X : Type} {pf : X → Prop} {ret : X → Value} {t bt : TypeId} {o : X → Value} {D : X → List PK}
    (h : Ct P f args Γ Φ pf ret (fun x => [.row (o x) t 13 (D x).length (fcK (D x)), pk (rowsL bt (dlK (D x)))]) (fun _ => [])) :
    Ct P f args Γ Φ pf ret (fun _ => []) (fun x => [Rw 13 (o x) (D x).length (fun i => ((D x).getD i pk0).cells), Al (D x).length (fun i => By ((D x).getD i pk0).dv ((D x).getD i pk0).data)]) := by
  intro w O0 h0 ho hs
  refine (h w O0 h0 ho hs).mono fun e w' ⟨x, hp, he, hm, ho', hf, hs'⟩ => ⟨x, hp, he, hm, trivial, fun k hk => ?_, ?_⟩
  · obtain ⟨y, hy, _⟩ := hk
    cases hy
  · have hh : Holds { P := P, n := 0, w0 := w, O0 := O0, M := fpL Γ, rd := none, ds := [] } [.row (o x) t 13 (D x).length (fcK (D x)), pk (rowsL bt (dlK (D x)))] [] w' := ⟨hm, ho', hf, h0, hs'⟩
    have h1 := (Holds.letgo hh)
    have h3 := Holds.pks h1
    intro ψ hψ
    rcases List.mem_cons.1 hψ with rfl | hψ
    · exact ent_slG (cf := PK.cells) (Φ := [Al (D x).length (fun i => By ((D x).getD i pk0).dv ((D x).getD i pk0).data), Sl 13 (o x) (D x).length (fcK (D x))]) pk_len pk0 (List.mem_cons_of_mem _ List.mem_cons_self) rfl rfl w' _ h3.sp
    · rcases List.mem_singleton.1 hψ with rfl
      exact h3.sp _ List.mem_cons_self
theorem unpackL_fn (v : Value) (bs : List UInt8) : Ct Tryd.prog 13 [v] [] [By v bs, tbF, tbA]
    (X := Value × List PK) (fun x => x.2.map PKz = (unE bs).1) (fun x => .tuple #[x.1, .int .i64 (unE bs).2]) (fun _ => []) (fun x => [Rw 13 x.1 x.2.length (fun i => (x.2.getD i pk0).cells), Al x.2.length (fun i => By (x.2.getD i pk0).dv (x.2.getD i pk0).data)]) := Ct.letK (unpack_fn v bs)
theorem packL_fn (v : Value) (ps : List PK) : Ct Tryd.prog 15 [v] [] [Rw 13 v ps.length (fun i => (ps.getD i pk0).cells), Al ps.length (fun i => By (ps.getD i pk0).dv (ps.getD i pk0).data)]
    (X := Value) (fun _ => True) (fun x => .tuple #[x, .int .i64 (jkE ps).2]) (fun _ => []) (fun x => [By x (jkE ps).1]) := Ct.letB (bs := fun _ => (jkE ps).1) (pack_fn v ps) (fun _ => rfl)
def flip8 (a : UInt8) : UInt8 := a ^^^ 255
attribute [local irreducible] WL W WQ PL Runs Effs AllE Ent SubO FrIn Pick OneC Ones CellsE PartsE SeqE UZ By Sl Pt Ct

end Go.Proofs.YteojehocflbgdaaDoor.C08d

/-
  The law 'CheckLinear' walked.
-/
namespace Go.Proofs.YteojehocflbgdaaDoor.C03
open Go Go.RowKit Go.Hs
attribute [local irreducible] WL W WQ PL Runs Effs AllE Ent SubO FrIn Pick OneC Ones CellsE PartsE SeqE UZ By Sl Pt Ct

def lin3 (xs ys zs : List UInt8) (k : Nat) : List UInt8 := (List.range k).map fun i => xs.getD i 0 ^^^ ys.getD i 0 ^^^ zs.getD i 0
theorem xor_u8 (a b : UInt8) : bits .xor .u8 (a.toNat : Int) (b.toNat : Int) = ((a ^^^ b).toNat : Int) := by
  rw [u8_xor_nat _ _ a.toNat_lt b.toNat_lt, UInt8.toNat_xor]

end Go.Proofs.YteojehocflbgdaaDoor.C03

/-
  The law 'CheckAppends' walked.
-/
namespace Go.Proofs.YteojehocflbgdaaDoor.C03
open Go Go.RowKit Go.Hs
attribute [local irreducible] WL W WQ PL Runs Effs AllE Ent SubO FrIn Pick OneC Ones CellsE PartsE SeqE UZ By Sl Pt Ct

theorem cell_set (ys : List UInt8) (k : Nat) (b : UInt8) : (ys.map bcell).set k (.int .u8 (b.toNat : Int)) = (ys.set k b).map bcell := by
  rw [List.map_set]
  rfl

end Go.Proofs.YteojehocflbgdaaDoor.C03

/-
  Contracts: changed bits.
-/
namespace Go.Proofs.YteojehocflbgdaaDoor.C03
open Go Go.RowKit Go.Hs
attribute [local irreducible] WL W WQ PL Runs Effs AllE Ent SubO FrIn Pick OneC Ones CellsE PartsE SeqE UZ By Sl Pt Ct

theorem one_shr (j : Nat) (h : j < 8) : (128 : Int).fdiv (2 ^ (min ((j : Nat) : Int).toNat IntKind.u8.bits)) = ((128 >>> UInt8.ofNat j : UInt8).toNat : Int) := by
  have h1 : ∀ j : Fin 8, 128 / 2 ^ j.val = (128 >>> UInt8.ofNat j.val : UInt8).toNat := by decide
  have h2 := h1 ⟨j, h⟩
  simp only at h2
  rw [← h2, Int.toNat_natCast, show min j IntKind.u8.bits = j from Nat.min_eq_left (show j ≤ 8 by omega), show ((2 : Int) ^ j) = ((2 ^ j : Nat) : Int) by simp]
  rw [Int.fdiv_eq_ediv_of_nonneg _ (Int.natCast_nonneg _)]
  rfl

def eB (at_ n : Nat) (p : BitVec 32) (j : Nat) : Bool := decide (at_ ≤ j ∧ j < at_ + n) && p.toNat.testBit (j - at_)
theorem eB_zero (at_ : Nat) (p : BitVec 32) (j : Nat) : eB at_ 0 p j = false := by
  unfold eB
  rw [decide_eq_false (by omega)]
  rfl
theorem eB_succ (at_ n : Nat) (p : BitVec 32) (j : Nat) : eB at_ (n + 1) p j = (eB at_ n p j ^^ (decide (j = at_ + n) && p.toNat.testBit n)) := by
  unfold eB
  by_cases h : j = at_ + n
  · subst h
    rw [decide_eq_true (show at_ ≤ at_ + n ∧ at_ + n < at_ + (n + 1) by omega), decide_eq_false (show ¬ (at_ ≤ at_ + n ∧ at_ + n < at_ + n) by omega), Nat.add_sub_cancel_left]
    simp
  · rw [decide_eq_false h]
    by_cases h2 : at_ ≤ j ∧ j < at_ + n
    · rw [decide_eq_true h2, decide_eq_true (show at_ ≤ j ∧ j < at_ + (n + 1) by omega)]
      simp
    · rw [decide_eq_false h2, decide_eq_false (show ¬ (at_ ≤ j ∧ j < at_ + (n + 1)) by omega)]
      simp

structure BS (xs : List UInt8) (at_ : Nat) (p : BitVec 32) (i : Nat) (ys : List UInt8) (s : Bool) : Prop where
  len : ys.length = xs.length
  bit : ∀ j, j < 8 * xs.length → bitAt ys j = (bitAt xs j ^^ eB at_ i p j)
  some_ : s = true ↔ ∃ j, j < 8 * xs.length ∧ eB at_ i p j = true

theorem BS.zero (xs : List UInt8) (at_ : Nat) (p : BitVec 32) : BS xs at_ p 0 xs false :=
  ⟨rfl, fun j _ => by rw [eB_zero, Bool.xor_false], by
    constructor
    · intro h; cases h
    · rintro ⟨j, _, h⟩
      rw [eB_zero] at h
      cases h⟩
theorem BS.off {xs : List UInt8} {at_ i : Nat} {p : BitVec 32} {ys : List UInt8} {s : Bool} (h : BS xs at_ p i ys s) (hb : p.toNat.testBit i = false ∨ 8 * xs.length ≤ at_ + i) : BS xs at_ p (i + 1) ys s := by
  have e : ∀ j, j < 8 * xs.length → eB at_ (i + 1) p j = eB at_ i p j := fun j hj => by
    rw [eB_succ]
    rcases hb with hb | hb
    · rw [hb, Bool.and_false, Bool.xor_false]
    · rw [decide_eq_false (by omega), Bool.false_and, Bool.xor_false]
  refine ⟨h.len, fun j hj => by rw [e j hj]; exact h.bit j hj, h.some_.trans ?_⟩
  constructor
  · rintro ⟨j, hj, h⟩
    exact ⟨j, hj, by rw [e j hj]; exact h⟩
  · rintro ⟨j, hj, h⟩
    exact ⟨j, hj, by rw [← e j hj]; exact h⟩
theorem BS.on {xs : List UInt8} {at_ i : Nat} {p : BitVec 32} {ys : List UInt8} {s : Bool} (h : BS xs at_ p i ys s) (hb : p.toNat.testBit i = true) (hk : at_ + i < 8 * xs.length) : BS xs at_ p (i + 1) (fl ys (at_ + i)) true := by
  refine ⟨by rw [fl_length]; exact h.len, fun j hj => ?_, ?_⟩
  · rw [fl_at ys _ _ (by rw [h.len]; exact hk), h.bit j hj, eB_succ, hb, Bool.and_true, Bool.xor_assoc]
  · refine ⟨fun _ => ⟨at_ + i, hk, ?_⟩, fun _ => rfl⟩
    rw [eB_succ, hb, decide_eq_true rfl]
    unfold eB
    rw [decide_eq_false (by omega)]
    rfl

theorem pat_bit (p : BitVec 32) (i : Nat) (h : i ≤ 32) : (p.toNat : Int).fdiv (2 ^ (min ((i : Nat) : Int).toNat IntKind.u32.bits)) = ((p.toNat / 2 ^ i : Nat) : Int) := by
  rw [Int.toNat_natCast, show min i IntKind.u32.bits = i from Nat.min_eq_left h, show ((2 : Int) ^ i) = ((2 ^ i : Nat) : Int) by simp]
  rw [Int.fdiv_eq_ediv_of_nonneg _ (Int.natCast_nonneg _)]
  rfl
theorem pat_mod (p : BitVec 32) (i : Nat) : (((p.toNat / 2 ^ i : Nat) : Int).tmod 2) = if p.toNat.testBit i then 1 else 0 := by
  rw [show (((p.toNat / 2 ^ i : Nat) : Int).tmod 2) = ((p.toNat / 2 ^ i % 2 : Nat) : Int) from rfl, Nat.testBit_eq_decide_div_mod_eq]
  by_cases h : p.toNat / 2 ^ i % 2 = 1
  · rw [h]; rfl
  · have : p.toNat / 2 ^ i % 2 = 0 := by omega
    rw [this]; rfl

end Go.Proofs.YteojehocflbgdaaDoor.C03

/-
  The law 'CheckBursts' walked.
-/
namespace Go.Proofs.YteojehocflbgdaaDoor.C03
open Go Go.RowKit Go.Hs
attribute [local irreducible] WL W WQ PL Runs Effs AllE Ent SubO FrIn Pick OneC Ones CellsE PartsE SeqE UZ By Sl Pt Ct

theorem vE_iff {w : Nat} {P : BitVec w} {cb : BitVec w → List UInt8} {m : Nat} {xs : List UInt8} (h : m ≤ xs.length) : (vok P cb m xs → vE P cb m xs = 0) ∧ (¬ vok P cb m xs → vE P cb m xs = 31) := by
  unfold vok vE
  rw [if_neg (by omega)]
  exact ⟨fun h => if_pos h, fun h => if_neg h⟩

theorem burst_e {w : Nat} {P : BitVec w} {cb : BitVec w → List UInt8} {m : Nat} (g : Good P cb m) {xs ys : List UInt8} {at_ n : Nat} {p : BitVec 32} {s : Bool} (hm : m ≤ xs.length) (hv : vok P cb m xs) (ha : at_ ≤ 8 * xs.length) (hn : n ≤ w) (h : BS xs at_ p n ys s) :
    (s = false → vE P cb m ys = 0) ∧ (s = true → vE P cb m ys = 31 ∧ vB P cb m ys = []) := by
  have hb := g.burst hm h.len hv (eB at_ n p) at_ h.bit ha fun j _ hj => by
    unfold eB at hj
    rw [Bool.and_eq_true, decide_eq_true_eq] at hj
    omega
  have hi := vE_iff (P := P) (cb := cb) (m := m) (xs := ys) (by rw [h.len]; exact hm)
  constructor
  · intro hs
    refine hi.1 (hb.2 fun j hj => ?_)
    cases he : eB at_ n p j with
    | false => rfl
    | true =>
      have := h.some_.2 ⟨j, hj, he⟩
      rw [hs] at this
      cases this
  · intro hs
    have : vE P cb m ys = 31 := hi.2 fun hv' => by
      obtain ⟨j, hj, he⟩ := h.some_.1 hs
      rw [hb.1 hv' j hj] at he
      cases he
    exact ⟨this, by rw [vB, this, if_neg (by decide)]⟩

end Go.Proofs.YteojehocflbgdaaDoor.C03

/-
  The law 'CheckOdd' walked.
-/
namespace Go.Proofs.YteojehocflbgdaaDoor.C03
open Go Go.RowKit Go.Hs
attribute [local irreducible] WL W WQ PL Runs Effs AllE Ent SubO FrIn Pick OneC Ones CellsE PartsE SeqE UZ By Sl Pt Ct

structure OS (l : List UInt8) (i : Nat) (ys : List UInt8) : Prop where
  len : ys.length = l.length
  par_ : parN (bitAt ys) (8 * l.length) = (parN (bitAt l) (8 * l.length) ^^ decide (i % 2 = 1))
theorem OS.zero (l : List UInt8) : OS l 0 l := ⟨rfl, by simp⟩
theorem OS.next {l : List UInt8} {i : Nat} {ys : List UInt8} (h : OS l i ys) {k : Nat} (hk : k < 8 * l.length) : OS l (i + 1) (fl ys k) := by
  refine ⟨by rw [fl_length]; exact h.len, ?_⟩
  rw [parN_congr fun j _ => fl_at ys k j (by rw [h.len]; exact hk), parN_xor, h.par_, parN_one, decide_eq_true hk]
  rcases Nat.mod_two_eq_zero_or_one i with h | h
  · rw [decide_eq_false (show ¬ i % 2 = 1 by omega), decide_eq_true (show (i + 1) % 2 = 1 by omega)]
    simp
  · rw [decide_eq_true h, decide_eq_false (show ¬ (i + 1) % 2 = 1 by omega)]
    simp
theorem OS.found {w : Nat} {P : BitVec w} {cb : BitVec w → List UInt8} {m : Nat} (g : Good P cb m) {l ys : List UInt8} {n : Nat} (h : OS l n ys) (hm : m ≤ l.length) (hv : vok P cb m l) (hn : n % 2 = 1) : vE P cb m ys = 31 := by
  refine (vE_iff (by rw [h.len]; exact hm)).2 fun hv' => ?_
  have h2 := g.parity hm h.len hv hv'
  rw [h.par_, decide_eq_true hn] at h2
  revert h2
  cases parN (bitAt l) (8 * l.length) <;> simp

end Go.Proofs.YteojehocflbgdaaDoor.C03

/-
  Rules for walks: elements taken out of an own row, in place. No program is named here.
-/
namespace Go.Hs
open Go Go.RowKit
section
variable {C : Ctx} {ops : Array Oper} {l : List Oper} {fr : Fr} {Γ Γ' : List OA} {Φ : List SP} {Q : Exit → Act → World → Prop}
  {d : Nat} {ty : TypeId} {pos : String} {aft : Array Edge} {g : Option (Nat × Bool)}
def cut3V (size lo hi mx : Nat) : Value → Value
  | .slice A _ _ => .slice (if mx = lo then A else A.map (·.add (lo * size))) (hi - lo) (mx - lo)
  | v => v
/-- a value that is a slice. -/
def isSl (n : Nat) (v : Value) : Prop := ∃ A c, v = .slice A n c ∧ n ≤ c ∧ c ≤ maxLen
theorem row_isSl {rt : TypeId} {v : Value} {size n : Nat} {xs : List Value} (hp : Pick (.row v rt size n xs) Γ Γ') : ∀ w, Holds C Γ Φ w → isSl n v := fun w hw => by
  obtain ⟨A, c, h, h1, h2, _⟩ := row_nil_or (pick_holds hp hw).own.1
  exact ⟨A, c, h, h1, h2⟩
theorem isSl.pre {n m size : Nat} {v : Value} (h : isSl n v) (hm : m ≤ n) : isSl m (cutV size 0 m v) := by
  obtain ⟨A, c, rfl, h1, h2⟩ := h
  exact ⟨_, _, rfl, by omega, by omega⟩
end
end Go.Hs

/-
  'HeaderBack', the law.
-/
namespace Go.Proofs.YteojehocflbgdaaDoor.C05
open Go Go.RowKit Go.Hs
attribute [local irreducible] WL W WQ PL Runs Effs AllE Ent SubO FrIn Pick OneC Ones CellsE PartsE SeqE UZ By Sl Pt Ct

theorem sameB_refl (h : Hd) (b : List UInt8) : sameB h h b b = true := by unfold sameB; rw [decide_eq_true rfl, decide_eq_true rfl]; rfl

end Go.Proofs.YteojehocflbgdaaDoor.C05

/-
  'HeaderDamage', the law.
-/
namespace Go.Proofs.YteojehocflbgdaaDoor.C05
open Go Go.RowKit Go.Hs
theorem dcE_31 {xs : List UInt8} (h : vrE xs = 31) : dcE xs = 31 := by unfold dcE; rw [if_neg (by rw [h]; decide)]; exact h
attribute [local irreducible] WL W WQ PL Runs Effs AllE Ent SubO FrIn Pick OneC Ones CellsE PartsE SeqE UZ By Sl Pt Ct

end Go.Proofs.YteojehocflbgdaaDoor.C05

/-
  'HeaderSizes', the law.
-/
namespace Go.Proofs.YteojehocflbgdaaDoor.C05
open Go Go.RowKit Go.Hs
/-- an encoding's parts. -/
theorem enc_parts {h : Hd} {body : List UInt8} (e : encE h body = 0) : (encY h body).length = hdS h + body.length + 4 ∧ ((encY h body).drop (hdS h)).take (body.length) = body ∧ (encY h body).take (hdS h) = hdY h := by
  have hY : encY h body = crcB (hdY h ++ body) := if_pos e
  rw [hY]
  have hl := hdY_length h
  refine ⟨by rw [crcB_length, List.length_append, hl], ?_, ?_⟩
  · unfold crcB
    rw [List.append_assoc, ← hl, List.drop_left, List.take_left]
  · unfold crcB
    rw [List.append_assoc, ← hl, List.take_left]
attribute [local irreducible] WL W WQ PL Runs Effs AllE Ent SubO FrIn Pick OneC Ones CellsE PartsE SeqE UZ By Sl Pt Ct

end Go.Proofs.YteojehocflbgdaaDoor.C05

/-
  The rules of the small logic for parts of slices of things, and for copies into a part of an own row. No program is named here.
-/
namespace Go.Hs
open Go Go.RowKit

section
variable {C : Ctx} {fr : Fr} {Γ Γ' Γ1 : List OA} {Φ : List SP}
  {d : Nat} {ty : TypeId} {pos : String} {aft : Array Edge} {g : Option (Nat × Bool)}
end
end Go.Hs

/-
  The law 'AggregateFront' walked.
-/
namespace Go.Proofs.YteojehocflbgdaaDoor.C01
end Go.Proofs.YteojehocflbgdaaDoor.C01
namespace Go.Proofs.YteojehocflbgdaaDoor.C03
end Go.Proofs.YteojehocflbgdaaDoor.C03
namespace Go.Proofs.YteojehocflbgdaaDoor.C08
open C01 C03
open Go Go.RowKit Go.Hs
attribute [local irreducible] WL W WQ PL Runs Effs AllE Ent SubO FrIn Pick OneC Ones CellsE PartsE SeqE UZ By Sl Pt Ct

end Go.Proofs.YteojehocflbgdaaDoor.C08

/-
  The law 'AggregateDamage' walked.
-/
namespace Go.Proofs.YteojehocflbgdaaDoor.C01
end Go.Proofs.YteojehocflbgdaaDoor.C01
namespace Go.Proofs.YteojehocflbgdaaDoor.C03
end Go.Proofs.YteojehocflbgdaaDoor.C03
namespace Go.Proofs.YteojehocflbgdaaDoor.C08
open C01 C03
open Go Go.RowKit Go.Hs

/-- a joined form in which one piece is told anew. -/
def jB (fs : List (List UInt8)) (k : Nat) (q : List UInt8) : List UInt8 := pj ((fs.take k).map entp) ++ (dlm (fs.getD k []).length ++ q ++ tl_ fs k)
theorem cell_set (ys : List UInt8) (k : Nat) (b : UInt8) : (ys.map bcell).set k (bcell b) = (ys.set k b).map bcell := by rw [List.map_set]
theorem getD_of {α : Type} {l : List α} {k : Nat} (h : k < l.length) (d : α) : l.getD k d = l[k] := by
  rw [List.getD_eq_getElem?_getD, List.getElem?_eq_getElem h]; rfl
theorem getD_set1 {α : Type} {l : List α} {k : Nat} (h : k < l.length) (x d : α) : (l.set k x).getD k d = x := by
  rw [List.getD_eq_getElem?_getD, List.getElem?_set_self h]; rfl
theorem getD_set2 {α : Type} {l : List α} {k i : Nat} (h : ¬ i = k) (x d : α) : (l.set k x).getD i d = l.getD i d := by
  rw [List.getD_eq_getElem?_getD, List.getD_eq_getElem?_getD, List.getElem?_set_ne (fun e => h e.symm)]
attribute [local irreducible] WL W WQ PL Runs Effs AllE Ent SubO FrIn Pick OneC Ones CellsE PartsE SeqE UZ By Sl Pt Ct

end Go.Proofs.YteojehocflbgdaaDoor.C08

/-
  Plain law: what is packed is unpacked, and the other way round.
-/
namespace Go.Proofs.YteojehocflbgdaaDoor.C08d
open Go Go.RowKit Go.Hs C01 C08
def entz (z : Kz) : List UInt8 := z.to_.bytes ++ (z.fr_.bytes ++ (dl2 z.data.length ++ z.data))
theorem entz_length (z : Kz) : (entz z).length = 14 + z.data.length := by simp [entz, A6.bytes, dl2]; omega
def okZ (z : Kz) : Prop := grp z.fr_.a0 = false ∧ z.data.length ≤ 1500
theorem dl2_num {n : Nat} (h : n < 65536) (r : List UInt8) : num2 (dl2 n ++ r) = n := by
  unfold num2 dl2
  simp
  omega
/-- what is read at the front of an entry. -/
theorem up_ent {z : Kz} (h : okZ z) (T : List UInt8) : upE (entz z ++ T) = 0 ∧ upP (entz z ++ T) = z ∧ upN (entz z ++ T) = z.data.length ∧ (entz z ++ T).drop (14 + upN (entz z ++ T)) = T := by
  obtain ⟨⟨a0, a1, a2, a3, a4, a5⟩, ⟨b0, b1, b2, b3, b4, b5⟩, data⟩ := z
  obtain ⟨h1, h2⟩ := h
  replace h1 : grp b0 = false := h1
  replace h2 : data.length ≤ 1500 := h2
  have e : entz ⟨⟨a0, a1, a2, a3, a4, a5⟩, ⟨b0, b1, b2, b3, b4, b5⟩, data⟩ ++ T = [a0, a1, a2, a3, a4, a5, b0, b1, b2, b3, b4, b5] ++ (dl2 data.length ++ (data ++ T)) := by
    simp [entz, A6.bytes]
  rw [e]
  have hn : upN ([a0, a1, a2, a3, a4, a5, b0, b1, b2, b3, b4, b5] ++ (dl2 data.length ++ (data ++ T))) = data.length := by
    unfold upN
    exact dl2_num (by omega) (data ++ T)
  have hF : upF ([a0, a1, a2, a3, a4, a5, b0, b1, b2, b3, b4, b5] ++ (dl2 data.length ++ (data ++ T))) = ⟨b0, b1, b2, b3, b4, b5⟩ := rfl
  have hT : upT ([a0, a1, a2, a3, a4, a5, b0, b1, b2, b3, b4, b5] ++ (dl2 data.length ++ (data ++ T))) = ⟨a0, a1, a2, a3, a4, a5⟩ := rfl
  have hl : ([a0, a1, a2, a3, a4, a5, b0, b1, b2, b3, b4, b5] ++ (dl2 data.length ++ (data ++ T))).length = 14 + data.length + T.length := by
    simp [dl2]
    omega
  have hd : ([a0, a1, a2, a3, a4, a5, b0, b1, b2, b3, b4, b5] ++ (dl2 data.length ++ (data ++ T))).drop 14 = data ++ T := rfl
  refine ⟨?_, ?_, hn, ?_⟩
  · unfold upE
    rw [hn, hF, hl, if_neg (by omega), if_neg (by rw [h1]; decide), if_neg (by omega), if_neg (by omega)]
  · unfold upP
    rw [hn, hF, hT, hd, List.take_left' rfl]
  · rw [hn, ← List.drop_drop, hd, List.drop_left' rfl]
theorem nz_zer (n : Nat) (r : List UInt8) : nzB ((zer n ++ r).take n) = false := by
  rw [List.take_left' (zer_length n)]
  unfold nzB zer
  rw [List.any_eq_false]
  intro b hb
  rw [List.eq_of_mem_replicate hb]
  decide
theorem upk_jg : ∀ (l : List Kz) (k : Nat) (acc : List Kz), l ≠ [] → (∀ z ∈ l, okZ z) → l.length ≤ k → upk k acc (jg (l.map entz)) = (acc ++ l, 0)
  | [], _, _, h, _, _ => absurd rfl h
  | z :: r, k, acc, _, hok, hk => by
    obtain ⟨k, rfl⟩ : ∃ j, k = j + 1 := ⟨k - 1, by simp at hk; omega⟩
    have hz := hok z List.mem_cons_self
    by_cases hr : r = []
    · subst hr
      rw [List.map_cons, List.map_nil, jg_one]
      obtain ⟨u1, u2, u3, u4⟩ := up_ent hz []
      rw [List.append_nil] at u1 u2 u3 u4
      unfold upk
      rw [if_neg (fun h => h u1), u4, u2, if_pos (show ([] : List UInt8).length = 0 from rfl)]
    · have hrm : r.map entz ≠ [] := by simpa using hr
      rw [List.map_cons, jg_cons hrm]
      obtain ⟨u1, u2, u3, u4⟩ := up_ent hz (zer (pad4 (entz z).length) ++ jg (r.map entz))
      have hM : 14 + upN (entz z ++ (zer (pad4 (entz z).length) ++ jg (r.map entz))) = (entz z).length := by rw [u3, entz_length]
      have hj : 0 < (jg (r.map entz)).length := by
        cases r with
        | nil => exact absurd rfl hr
        | cons y s =>
          rw [List.map_cons, jg, List.length_append, entz_length]
          omega
      unfold upk
      rw [if_neg (fun h => h u1), u4, u2, hM, if_neg (by rw [List.length_append]; omega), if_neg (by rw [List.length_append, zer_length]; omega), if_neg (by rw [List.length_append, zer_length]; omega), nz_zer, if_neg (by decide), List.drop_left' (zer_length _)]
      rw [upk_jg r k (acc ++ [z]) hr (fun y hy => hok y (List.mem_cons_of_mem _ hy)) (by simp at hk; omega), List.append_assoc]
      rfl
theorem jk_z (ps : List PK) : jk ps = jg ((ps.map PKz).map entz) := by
  unfold jk
  rw [List.map_map]
  rfl
/-- what is packed is unpacked. -/
theorem jkE_un {ps : List PK} (h : (jkE ps).2 = 0) : unE (jkE ps).1 = (ps.map PKz, 0) := by
  unfold jkE at h ⊢
  by_cases c1 : ps.length = 0
  · rw [if_pos c1] at h; cases h
  rw [if_neg c1] at h ⊢
  by_cases c2 : 32 < ps.length
  · rw [if_pos c2] at h; cases h
  rw [if_neg c2] at h ⊢
  by_cases c3 : pckE ps = 0
  case neg =>
    rw [if_neg c3] at h
    exact absurd h c3
  rw [if_pos c3] at h ⊢
  by_cases c4 : 2304 < (jk ps).length
  · rw [if_pos c4] at h; cases h
  rw [if_neg c4]
  unfold unE
  rw [if_neg c4, jk_z]
  have hok := pckE_ok.1 c3
  rw [upk_jg (ps.map PKz) 32 [] (by
    intro e
    rw [List.map_eq_nil_iff] at e
    rw [e] at c1
    exact c1 rfl) (fun z hz => by
    obtain ⟨p, hp, rfl⟩ := List.mem_map.1 hz
    exact hok p hp) (by rw [List.length_map]; omega)]
  rfl
end Go.Proofs.YteojehocflbgdaaDoor.C08d

/-
  Rules for walks: what 'make' lays.
-/
namespace Go.Hs
open Go Go.RowKit
theorem made_one (c : Value) (k : Nat) : (madeCells #[c] k).toList = List.replicate k c := by
  unfold madeCells
  rw [Array.toList_map, Array.toList_range, List.eq_replicate_iff]
  refine ⟨by rw [List.length_map, List.length_range], fun b hb => ?_⟩
  obtain ⟨i, _, rfl⟩ := List.mem_map.1 hb
  show (#[c])[i % 1]! = c
  rw [Nat.mod_one]
  rfl
end Go.Hs

/-
  Openings of arguments that are arrays of bytes. No program is named here.
-/
namespace Go.Hs
open Go Go.RowKit

theorem cells_bytes : ∀ (cs : List Value), (∀ i, i < cs.length → ∃ b : UInt8, (cs.drop i).take 1 = [bcell b]) → ∃ bs : List UInt8, cs = bs.map bcell
  | [], _ => ⟨[], rfl⟩
  | c :: r, h => by
    obtain ⟨b, hb⟩ := h 0 (by simp)
    simp only [List.drop_zero, List.take_succ_cons, List.take_zero, List.cons.injEq, and_true] at hb
    obtain ⟨bs, hbs⟩ := cells_bytes r fun i hi => by
      obtain ⟨b', h'⟩ := h (i + 1) (by simpa using hi)
      exact ⟨b', by simpa using h'⟩
    exact ⟨b :: bs, by rw [hb, hbs]; rfl⟩
section
variable {H : Type} {enc : TypeId × Value → H} {P : Program} {w : World} {held : Bool}
theorem op_arr {t e : TypeId} {n fuel : Nat} {cs : List Value} {x : DataW H × List MemPlace} (ht : P.underlying t = some (.array n e)) (he : P.underlying e = some (.int .u8)) (hc : P.cellsOf e = 1) (hct : P.cellsOf t = n)
    (h : DataW.trod enc P w 0 (fun _ => true) held fuel t cs = some x) : ∃ bs : List UInt8, bs.length = n ∧ cs = bs.map bcell := by
  have key : cs.length = n ∧ ∃ fuel', ∀ i, i < n → ∃ y, DataW.trod enc P w 0 (fun _ => true) held fuel' e ((cs.drop i).take 1) = some y := by
    cases fuel with
    | zero => simp [DataW.trod] at h
    | succ fuel =>
      unfold DataW.trod at h
      rw [ht] at h
      split at h <;> first | (rename_i heq; injection heq with heq; cases heq; done) | skip
      all_goals first | (exfalso; simp_all; done) | skip
      split at h
      · rename_i heq hl
        injection heq with heq
        injection heq with h1 h2
        subst h1; subst h2
        rw [Option.map_eq_some_iff] at h
        obtain ⟨ys, hm, _⟩ := h
        refine ⟨by rw [hl, hct], fuel, fun i hi => ?_⟩
        obtain ⟨y, hy⟩ := mapM_get hm (i := i) (a := i) (by rw [List.getElem?_range hi])
        rw [hc, Nat.mul_one] at hy
        exact ⟨y, hy⟩
      · cases h
  obtain ⟨hl, fuel', hk⟩ := key
  obtain ⟨bs, hbs⟩ := cells_bytes cs fun i hi => by
    obtain ⟨y, hy⟩ := hk i (by omega)
    obtain ⟨k, h1, h2⟩ := op_int he hy
    obtain ⟨b, rfl⟩ := wf_u8 h2
    exact ⟨b, h1⟩
  exact ⟨bs, by rw [← hl, hbs, List.length_map], hbs⟩
theorem op_a6 {t e : TypeId} {fuel : Nat} {cs : List Value} {x : DataW H × List MemPlace} (ht : P.underlying t = some (.array 6 e)) (he : P.underlying e = some (.int .u8)) (hc : P.cellsOf e = 1) (hct : P.cellsOf t = 6)
    (h : DataW.trod enc P w 0 (fun _ => true) held fuel t cs = some x) : ∃ a : A6, cs = a.cells := by
  obtain ⟨bs, hl, rfl⟩ := op_arr ht he hc hct h
  match bs, hl with
  | [b0, b1, b2, b3, b4, b5], _ => exact ⟨⟨b0, b1, b2, b3, b4, b5⟩, rfl⟩
end
end Go.Hs

/-
  Headers and frames that are handed in, opened.
-/
namespace Go.Proofs.YteojehocflbgdaaDoor.C05
open Go Go.ChangeShapes Go.WideShapes Go.ChangeAt Go.RowKit Go.Hs
theorem op_u8 {H : Type} {enc : TypeId × Value → H} {w : World} {held : Bool} {fuel : Nat} {cs : List Value} {x : DataW H × List MemPlace} (h : DataW.trod enc Tryd.prog w 0 (fun _ => true) held fuel 5 cs = some x) : ∃ b : UInt8, cs = [bcell b] := by
  obtain ⟨n, h1, h2⟩ := op_int Tryd.underlying5 h
  obtain ⟨k, hk⟩ := wf_u8 h2
  exact ⟨k, by rw [h1, hk]; rfl⟩
section
variable {H : Type} {enc : TypeId × Value → H} {w : World} {held : Bool}
set_option maxRecDepth 100000 in
set_option maxHeartbeats 4000000 in
theorem op_hd {fuel : Nat} {cs : List Value} {x : DataW H × List MemPlace} (h : DataW.trod enc Tryd.prog w 0 (fun _ => true) held fuel 32 cs = some x) : ∃ h : Hd, cs = h.cells ∧ h.w := by
  obtain ⟨hl, fu, hf⟩ := op_struct Tryd.underlying32 h
  have hl : cs.length = 40 := hl.trans (by kernel_rfl)
  match cs, hl with
  | k :: s :: t0 :: t1 :: t2 :: t3 :: t4 :: t5 :: t6 :: du :: p0 :: p1 :: p2 :: p3 :: p4 :: p5 :: q0 :: q1 :: q2 :: q3 :: q4 :: q5 :: r0 :: r1 :: r2 :: r3 :: r4 :: r5 :: u0 :: u1 :: u2 :: u3 :: u4 :: u5 :: sq :: fg :: td :: ak :: am :: eo :: [], _ =>
  obtain ⟨y0, f0⟩ := fld hf 0 5 0 1 rfl rfl rfl (by kernel_rfl) rfl
  obtain ⟨y1, f1⟩ := fld hf 1 5 1 1 rfl rfl rfl (by kernel_rfl) rfl
  obtain ⟨y2, f2⟩ := fld hf 2 4 2 1 rfl rfl rfl (by kernel_rfl) rfl
  obtain ⟨y3, f3⟩ := fld hf 3 4 3 1 rfl rfl rfl (by kernel_rfl) rfl
  obtain ⟨y4, f4⟩ := fld hf 4 4 4 1 rfl rfl rfl (by kernel_rfl) rfl
  obtain ⟨y5, f5⟩ := fld hf 5 4 5 1 rfl rfl rfl (by kernel_rfl) rfl
  obtain ⟨y6, f6⟩ := fld hf 6 4 6 1 rfl rfl rfl (by kernel_rfl) rfl
  obtain ⟨y7, f7⟩ := fld hf 7 4 7 1 rfl rfl rfl (by kernel_rfl) rfl
  obtain ⟨y8, f8⟩ := fld hf 8 4 8 1 rfl rfl rfl (by kernel_rfl) rfl
  obtain ⟨y9, f9⟩ := fld hf 9 3 9 1 rfl rfl rfl (by kernel_rfl) rfl
  obtain ⟨y10, f10⟩ := fld hf 10 30 10 6 rfl rfl rfl (by kernel_rfl) rfl
  obtain ⟨y11, f11⟩ := fld hf 11 30 16 6 rfl rfl rfl (by kernel_rfl) rfl
  obtain ⟨y12, f12⟩ := fld hf 12 30 22 6 rfl rfl rfl (by kernel_rfl) rfl
  obtain ⟨y13, f13⟩ := fld hf 13 30 28 6 rfl rfl rfl (by kernel_rfl) rfl
  obtain ⟨y14, f14⟩ := fld hf 14 3 34 1 rfl rfl rfl (by kernel_rfl) rfl
  obtain ⟨y15, f15⟩ := fld hf 15 3 35 1 rfl rfl rfl (by kernel_rfl) rfl
  obtain ⟨y16, f16⟩ := fld hf 16 3 36 1 rfl rfl rfl (by kernel_rfl) rfl
  obtain ⟨y17, f17⟩ := fld hf 17 5 37 1 rfl rfl rfl (by kernel_rfl) rfl
  obtain ⟨y18, f18⟩ := fld hf 18 4 38 1 rfl rfl rfl (by kernel_rfl) rfl
  obtain ⟨y19, f19⟩ := fld hf 19 4 39 1 rfl rfl rfl (by kernel_rfl) rfl
  obtain ⟨n0', e0⟩ := op_u8 f0
  obtain ⟨n1', e1⟩ := op_u8 f1
  obtain ⟨n2', e2⟩ := op_bool Tryd.underlying4 f2
  obtain ⟨n3', e3⟩ := op_bool Tryd.underlying4 f3
  obtain ⟨n4', e4⟩ := op_bool Tryd.underlying4 f4
  obtain ⟨n5', e5⟩ := op_bool Tryd.underlying4 f5
  obtain ⟨n6', e6⟩ := op_bool Tryd.underlying4 f6
  obtain ⟨n7', e7⟩ := op_bool Tryd.underlying4 f7
  obtain ⟨n8', e8⟩ := op_bool Tryd.underlying4 f8
  obtain ⟨n9', e9, w9⟩ := op_int Tryd.underlying3 f9
  obtain ⟨n10', e10⟩ := op_a6 Tryd.underlying30 Tryd.underlying5 (by kernel_rfl) (by kernel_rfl) f10
  obtain ⟨n11', e11⟩ := op_a6 Tryd.underlying30 Tryd.underlying5 (by kernel_rfl) (by kernel_rfl) f11
  obtain ⟨n12', e12⟩ := op_a6 Tryd.underlying30 Tryd.underlying5 (by kernel_rfl) (by kernel_rfl) f12
  obtain ⟨n13', e13⟩ := op_a6 Tryd.underlying30 Tryd.underlying5 (by kernel_rfl) (by kernel_rfl) f13
  obtain ⟨n14', e14, w14⟩ := op_int Tryd.underlying3 f14
  obtain ⟨n15', e15, w15⟩ := op_int Tryd.underlying3 f15
  obtain ⟨n16', e16, w16⟩ := op_int Tryd.underlying3 f16
  obtain ⟨n17', e17⟩ := op_u8 f17
  obtain ⟨n18', e18⟩ := op_bool Tryd.underlying4 f18
  obtain ⟨n19', e19⟩ := op_bool Tryd.underlying4 f19
  injection e0 with z0_0 e0
  injection e1 with z1_0 e1
  injection e2 with z2_0 e2
  injection e3 with z3_0 e3
  injection e4 with z4_0 e4
  injection e5 with z5_0 e5
  injection e6 with z6_0 e6
  injection e7 with z7_0 e7
  injection e8 with z8_0 e8
  injection e9 with z9_0 e9
  injection e10 with z10_0 e10
  injection e10 with z10_1 e10
  injection e10 with z10_2 e10
  injection e10 with z10_3 e10
  injection e10 with z10_4 e10
  injection e10 with z10_5 e10
  injection e11 with z11_0 e11
  injection e11 with z11_1 e11
  injection e11 with z11_2 e11
  injection e11 with z11_3 e11
  injection e11 with z11_4 e11
  injection e11 with z11_5 e11
  injection e12 with z12_0 e12
  injection e12 with z12_1 e12
  injection e12 with z12_2 e12
  injection e12 with z12_3 e12
  injection e12 with z12_4 e12
  injection e12 with z12_5 e12
  injection e13 with z13_0 e13
  injection e13 with z13_1 e13
  injection e13 with z13_2 e13
  injection e13 with z13_3 e13
  injection e13 with z13_4 e13
  injection e13 with z13_5 e13
  injection e14 with z14_0 e14
  injection e15 with z15_0 e15
  injection e16 with z16_0 e16
  injection e17 with z17_0 e17
  injection e18 with z18_0 e18
  injection e19 with z19_0 e19
  subst z0_0
  subst z1_0
  subst z2_0
  subst z3_0
  subst z4_0
  subst z5_0
  subst z6_0
  subst z7_0
  subst z8_0
  subst z9_0
  subst z10_0
  subst z10_1
  subst z10_2
  subst z10_3
  subst z10_4
  subst z10_5
  subst z11_0
  subst z11_1
  subst z11_2
  subst z11_3
  subst z11_4
  subst z11_5
  subst z12_0
  subst z12_1
  subst z12_2
  subst z12_3
  subst z12_4
  subst z12_5
  subst z13_0
  subst z13_1
  subst z13_2
  subst z13_3
  subst z13_4
  subst z13_5
  subst z14_0
  subst z15_0
  subst z16_0
  subst z17_0
  subst z18_0
  subst z19_0
  exact ⟨⟨n0', n1', n2', n3', n4', n5', n6', n7', n8', n9', n10', n11', n12', n13', n14', n15', n16', n17', n18', n19'⟩, rfl, w9, w14, w15, w16⟩
end
end Go.Proofs.YteojehocflbgdaaDoor.C05

/-
  Packets that are handed in, opened.
-/
namespace Go.Proofs.YteojehocflbgdaaDoor.C08d
open Go Go.ChangeShapes Go.WideShapes Go.ChangeAt Go.RowKit Go.Hs C08

section
variable {H : Type} {enc : TypeId × Value → H} {w : World} {held : Bool}
set_option maxRecDepth 100000 in
theorem op_pk {fuel : Nat} {cs : List Value} {x : DataW H × List MemPlace} (h : DataW.trod enc Tryd.prog w 0 (fun _ => true) held fuel 61 cs = some x) : ∃ p : PK, cs = p.cells ∧ (By p.dv p.data).p w (fun _ => False) := by
  obtain ⟨hl, fu, hf⟩ := op_struct Tryd.underlying61 h
  have hl : cs.length = 13 := hl.trans (by kernel_rfl)
  match cs, hl with
  | [c0, c1, c2, c3, c4, c5, c6, c7, c8, c9, c10, c11, c12], _ =>
  obtain ⟨y0, f0⟩ := fld hf 0 30 0 6 rfl rfl rfl (by kernel_rfl) rfl
  obtain ⟨y1, f1⟩ := fld hf 1 30 6 6 rfl rfl rfl (by kernel_rfl) rfl
  obtain ⟨y2, f2⟩ := fld hf 2 36 12 1 rfl rfl rfl (by kernel_rfl) rfl
  obtain ⟨a, e0⟩ := op_a6 Tryd.underlying30 Tryd.underlying5 (by kernel_rfl) (by kernel_rfl) f0
  obtain ⟨b, e1⟩ := op_a6 Tryd.underlying30 Tryd.underlying5 (by kernel_rfl) (by kernel_rfl) f1
  obtain ⟨v, bs, e2, hb, _⟩ := op_bytes Tryd.underlying36 Tryd.underlying5 (by kernel_rfl) f2
  refine ⟨⟨a, b, v, bs⟩, ?_, hb⟩
  have e0 : [c0, c1, c2, c3, c4, c5] = a.cells := e0
  have e1 : [c6, c7, c8, c9, c10, c11] = b.cells := e1
  have e2 : [c12] = [v] := e2
  show [c0, c1, c2, c3, c4, c5] ++ ([c6, c7, c8, c9, c10, c11] ++ [c12]) = a.cells ++ (b.cells ++ [v])
  rw [e0, e1, e2]
/-- a list of packets that is handed in. -/
theorem list_pk {n : Nat} {v : Value} {f : Nat → List Value} (hr : (Rw 13 v n f).p w (fun _ => False)) (hel : ∀ i, i < n → ∃ u : PK, f i = u.cells ∧ (By u.dv u.data).p w (fun _ => False)) :
    ∃ l : List PK, l.length = n ∧ (Rw 13 v l.length (fun i => (l.getD i pk0).cells)).p w (fun _ => False) ∧ (Al l.length (fun i => By (l.getD i pk0).dv (l.getD i pk0).data)).p w (fun _ => False) := by
  have hch : ∀ i, ∃ u : PK, i < n → f i = u.cells ∧ (By u.dv u.data).p w (fun _ => False) := fun i => by
    by_cases hi : i < n
    · obtain ⟨u, h1, h2⟩ := hel i hi
      exact ⟨u, fun _ => ⟨h1, h2⟩⟩
    · exact ⟨pk0, fun h => absurd h hi⟩
  obtain ⟨g, hg⟩ := Classical.axiomOfChoice hch
  have hl : ((List.range n).map g).length = n := by simp
  have hget : ∀ i, i < n → ((List.range n).map g).getD i pk0 = g i := fun i hi => by
    rw [List.getD_eq_getElem?_getD, List.getElem?_map, List.getElem?_range hi]; rfl
  refine ⟨(List.range n).map g, hl, ?_, fun i hi => ?_⟩
  · rw [hl]
    have hr' : rwP 13 v n f w (fun _ => False) := hr
    exact rwP_congr hr' fun i hi => by rw [hget i hi]; exact (hg i hi).1
  · rw [hl] at hi
    show (By _ _).p w _
    rw [hget i hi]
    exact (hg i hi).2
end
end Go.Proofs.YteojehocflbgdaaDoor.C08d

/-
  From a contract to the row where package variables are laid. No program is named here.
-/
namespace Go.Hs
open Go Go.ChangeShapes Go.WideShapes Go.ChangeAt Go.RowKit
theorem law_liftL {H : Type} {enc : TypeId × Value → H} {C : Checked} {os : Os} {f : FuncId} {fn : Func} {s : ChangeSpec} {laid : List (String × DataW Unit)} {tb : TypeId}
    (own : ownKnob C.prog.godebug = none) (started : os.Started) (noInit : C.prog.inits.idxOf? f = none) (hfn : C.prog.funcs[f]? = some fn)
    (witness : ∃ (w : World) (tape : Tape) (i : Input), w.os = os ∧ (w.forCall tape i).Shaped C.prog ∧ i.vars = [] ∧ Input.okWide C.prog (w.forCall tape i) .any w.heap.size f i ∧
      ((s.pre enc C.prog fn [] false (w.forCall tape i).memory i.args ∧ laidMetH C.prog laid (w.forCall tape i).memory) ∧ sizedMet enc C.prog fn (OpenSpec.ofChange s) false (w.forCall tape i).memory i.args) ∧ ({} : Assume).holds C.prog (lone (Frame.enter C.prog f i.args .normal) [] (w.forCall tape i)))
    (hl : laidOutB C.prog = true) (hv : s.vars = [])
    (hr : fn.resultTypes = #[tb]) (htb : C.prog.underlying tb = some .bool)
    (hs : ∀ (ds : List (DataW H)), ds.length = fn.params.toList.length → s.fn H ds = { results := [.lit (.bool true)], args := ds })
    (hp : fn.params.toList.all (fun t => C.prog.readableRec t && decide (t < C.prog.types.size)) = true)
    (walk : ∀ (W : World) (base : Nat) (args : Array Value) (ds : List (DataW H)) (p : List MemPlace),
      (∀ (j : Nat) t v, fn.params[j]? = some t → args[j]? = some v → Value.okWide C.prog W .any base t v) →
      DataW.TrodAll enc C.prog W 0 (fun _ => true) true fn.params.toList args.toList ds p →
      laidMetH C.prog laid W →
      Calls C.prog f args W fun e W' => e = .returned (.bool true) ∧ Below W.heap.size W W') :
    ReturnsInHanded {} C os f .any (fun w args => (s.pre enc C.prog fn [] false w args ∧ laidMetH C.prog laid w) ∧ sizedMet enc C.prog fn (OpenSpec.ofChange s) false w args) (s.post enc C.prog fn false true false false) := by
  refine returnsInHanded_of_change_and (C := C) (X := fun w _ => laidMetH C.prog laid w) (fun _ _ _ hh h => h.of_heap hh) own started noInit hfn witness ?_
  intro W base args ds gs before hval hW _ _ hL _
  have hW' := hW
  obtain ⟨p, q, hA, hV, rfl, hfz, hnd⟩ := hW
  rw [hv] at hV
  obtain ⟨rfl, rfl⟩ := trodVars_none hV
  refine (walk W base args ds p hval hA hL).mono fun e W' ⟨he, bel⟩ => ?_
  subst he
  have hf := hs ds (trodAll_length hA)
  refine ⟨_, rfl, ds, [], _, [], p, [], hW', ?_, ?_, ?_, bel.frame _, fun h => by cases h⟩
  · rw [List.append_nil, hf, hr]
    exact trodAll_mk1 (shut_bool htb _)
  · rw [List.append_nil, hf]
    exact trodAll_stays hl bel hp hA
  · rw [List.append_nil, hf, hv]
    rfl
end Go.Hs

/-
  The two tables, as the rows lay them.
-/
namespace Go.Proofs.YteojehocflbgdaaDoor.C08d
open Go Go.ChangeShapes Go.WideShapes Go.ChangeAt Go.RowKit Go.Hs
def u8ren : Go.Shelf.Ren := ⟨fun f => f, fun t => if t = 119 then 105 else if t = 138 then 115 else if t = 139 then 116 else if t = 5 then 5 else t, fun g => if g = 3 then 0 else 1⟩
def laidT : List (String × DataW Unit) := [("unicode/utf8.acceptRanges", Rows.laid_unicode_utf8_acceptRanges), ("unicode/utf8.first", Rows.laid_unicode_utf8_first)]
theorem tabs_of {W : World} (h : laidMetH Tryd.prog laidT W) : Lib.Utf8Tabs 0 1 W := by
  rw [MakeChecks.laidMetH_plain _ _ _ (by kernel_rfl)] at h
  have hA : (Rows.laid_unicode_utf8_acceptRanges : DataW Unit) = Lib.acceptData := by kernel_rfl
  have hF : Rows.laid_unicode_utf8_first = Lib.firstData := Pinned.utf8First_eq
  exact utf8Tabs_of_readsT (P := Tryd.prog) (ρ := u8ren) ⟨by kernel_rfl, by kernel_rfl, by kernel_rfl, by kernel_rfl⟩ ⟨by kernel_rfl, by kernel_rfl, by kernel_rfl, by kernel_rfl, by kernel_rfl, by kernel_rfl, by kernel_rfl⟩
    (hF ▸ Lib.laidMet.reads h (.tail _ (.head _))) (hA ▸ Lib.laidMet.reads h (.head _))
theorem tbF_of {W : World} (h : Lib.Utf8Tabs 0 1 W) : tbF.p W (fun _ => False) := by
  refine ⟨⟨0, 0, none⟩, rfl, ?_, fun h => h, fun j u hu => ?_⟩
  · have := cell_block (h.1 0 (by decide))
    exact this
  · rw [List.getElem?_map] at hu
    have hj : j < 256 := by
      rcases Nat.lt_or_ge j 256 with hj | hj
      · exact hj
      · rw [List.getElem?_eq_none (by rw [List.length_range]; omega)] at hu
        cases hu
    rw [List.getElem?_range hj] at hu
    injection hu with hu
    subst hu
    rw [add_at, Nat.zero_add]
    exact h.1 j hj
theorem tbA_of {W : World} (h : Lib.Utf8Tabs 0 1 W) : tbA.p W (fun _ => False) := by
  refine ⟨⟨1, 0, none⟩, rfl, ?_, fun h => h, fun j u hu => ?_⟩
  · have := cell_block (h.2 0 (by decide)).1
    exact this
  · have hl : ((List.range 16).flatMap fun i => [Value.int .u8 (Lib.accLo i : Int), Value.int .u8 (Lib.accHi i : Int)]).length = 32 := by decide +kernel
    have hj : j < 32 := by
      have := (List.getElem?_eq_some_iff.1 hu).1
      omega
    rw [add_at, Nat.zero_add]
    have key : ∀ i, i < 16 → (((List.range 16).flatMap fun i => [Value.int .u8 (Lib.accLo i : Int), Value.int .u8 (Lib.accHi i : Int)])[2 * i]? = some (.int .u8 (Lib.accLo i : Int)) ∧ ((List.range 16).flatMap fun i => [Value.int .u8 (Lib.accLo i : Int), Value.int .u8 (Lib.accHi i : Int)])[2 * i + 1]? = some (.int .u8 (Lib.accHi i : Int))) := fun i hi => by
      have hi : i = 0 ∨ i = 1 ∨ i = 2 ∨ i = 3 ∨ i = 4 ∨ i = 5 ∨ i = 6 ∨ i = 7 ∨ i = 8 ∨ i = 9 ∨ i = 10 ∨ i = 11 ∨ i = 12 ∨ i = 13 ∨ i = 14 ∨ i = 15 := by omega
      rcases hi with rfl | rfl | rfl | rfl | rfl | rfl | rfl | rfl | rfl | rfl | rfl | rfl | rfl | rfl | rfl | rfl <;> exact ⟨rfl, rfl⟩
    obtain ⟨q, hq⟩ : ∃ q, j / 2 = q := ⟨_, rfl⟩
    obtain ⟨k1, k2⟩ := key q (by omega)
    obtain ⟨a1, a2⟩ := h.2 q (by omega)
    rcases Nat.mod_two_eq_zero_or_one j with e | e
    · obtain rfl : j = 2 * q := by omega
      rw [k1] at hu
      injection hu with hu
      subst hu
      exact a1
    · obtain rfl : j = 2 * q + 1 := by omega
      rw [k2] at hu
      injection hu with hu
      subst hu
      exact a2
end Go.Proofs.YteojehocflbgdaaDoor.C08d
