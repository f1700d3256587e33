import PyProof.Rows.All
import Wide.All
import OpenK.AllK
import Wide.FinOn
import HandS.ForMost
import HandS.Evl
import HandS.IsInst
import HandS.SortInts
import HandS.Style
import HandS.Rev
import KE.KSortedM
import PySem.Challenge.RW_sumsync_k08_series
set_option Elab.async false
set_option linter.all false
set_option maxRecDepth 100000
set_option maxHeartbeats 4000000
/-! Own layer over the readings: data, calls, lists of whole numbers. -/
namespace Kx
open PySem PySem.Spec PyProof.Rows L2 Evl

/-- what a value stands for -/
inductive D where
  | v (x : V)
  | l (xs : List V)
  | t (xs : List V)
  | p (a b : D)
  | ll (xss : List (List V))
  | s (xs : List V)
  | al (a : D)

def D.rep (K : PySem.W.Frag) : D → V → Hp → Prop
  | .v x, u, _ => u = x
  | .l xs, u, H => ∃ a, u = .ref a ∧ H a = some (.lst xs)
  | .t xs, u, H => ∃ a, u = .ref a ∧ H a = some (.tup xs)
  | .p d e, u, H => ∃ a x y, u = .ref a ∧ H a = some (.tup [x, y]) ∧ d.rep K x H ∧ e.rep K y H
  | .ll xss, u, H => ∃ a ps, u = .ref a ∧ H a = some (.lst (ps.map V.ref)) ∧ Paired (fun q xs => H q = some (.lst xs)) ps xss
  | .s xs, u, H => ∃ a, u = .ref a ∧ SqL K H a xs
  | .al d, u, H => d.rep K u H

/-- .. made anew behind H0 -/
def D.new (K : PySem.W.Frag) (H0 : Hp) : D → V → Hp → Prop
  | .v x, u, _ => u = x
  | .l xs, u, H => ∃ a, u = .ref a ∧ H0 a = none ∧ H a = some (.lst xs)
  | .t xs, u, H => ∃ a, u = .ref a ∧ H a = some (.tup xs)
  | .p d e, u, H => ∃ a x y, u = .ref a ∧ H a = some (.tup [x, y]) ∧ d.new K H0 x H ∧ e.new K H0 y H ∧ (∀ b, x = .ref b → y ≠ .ref b)
  | .ll xss, u, H => ∃ a ps, u = .ref a ∧ H0 a = none ∧ H a = some (.lst (ps.map V.ref)) ∧ (a :: ps).Nodup ∧ Paired (fun q xs => H0 q = none ∧ H q = some (.lst xs)) ps xss
  | .s xs, u, H => ∃ a, u = .ref a ∧ SqL K H a xs
  | .al d, u, H => d.rep K u H

theorem paired_imp {α β : Type} {F G : α → β → Prop} (h : ∀ a b, F a b → G a b) : ∀ {l : List α} {m : List β}, Paired F l m → Paired G l m
  | _, _, .nil => .nil
  | _, _, .cons a b => .cons (h _ _ a) (paired_imp h b)

section
variable {K : PySem.W.Frag} {H0 H H' H1 H2 : Hp}
theorem D.mono (e : Ex H H') : ∀ {d : D} {u : V}, d.rep K u H → d.rep K u H'
  | .v _, _, h => h
  | .l _, _, ⟨a, h1, h2⟩ => ⟨a, h1, e _ _ h2⟩
  | .t _, _, ⟨a, h1, h2⟩ => ⟨a, h1, e _ _ h2⟩
  | .p _ _, _, ⟨a, x, y, h1, h2, h3, h4⟩ => ⟨a, x, y, h1, e _ _ h2, D.mono e h3, D.mono e h4⟩
  | .ll _, _, ⟨a, ps, h1, h2, h3⟩ => ⟨a, ps, h1, e _ _ h2, paired_imp (fun _ _ q => e _ _ q) h3⟩
  | .s _, _, ⟨a, h1, h2⟩ => ⟨a, h1, ex_l e h2⟩
  | .al d, _, h => D.mono (d := d) e h
theorem D.nrep : ∀ {d : D} {u : V}, d.new K H0 u H → d.rep K u H
  | .v _, _, h => h
  | .l _, _, ⟨a, h1, _, h2⟩ => ⟨a, h1, h2⟩
  | .t _, _, ⟨a, h1, h2⟩ => ⟨a, h1, h2⟩
  | .p _ _, _, ⟨a, x, y, h1, h2, h3, h4, _⟩ => ⟨a, x, y, h1, h2, D.nrep h3, D.nrep h4⟩
  | .ll _, _, ⟨a, ps, h1, _, h2, _, h3⟩ => ⟨a, ps, h1, h2, paired_imp (fun _ _ q => q.2) h3⟩
  | .s _, _, ⟨a, h1, h2⟩ => ⟨a, h1, h2⟩
  | .al _, _, h => h
theorem D.nmono (e : Ex H H') : ∀ {d : D} {u : V}, d.new K H0 u H → d.new K H0 u H'
  | .v _, _, h => h
  | .l _, _, ⟨a, h1, n, h2⟩ => ⟨a, h1, n, e _ _ h2⟩
  | .t _, _, ⟨a, h1, h2⟩ => ⟨a, h1, e _ _ h2⟩
  | .p _ _, _, ⟨a, x, y, h1, h2, h3, h4, n⟩ => ⟨a, x, y, h1, e _ _ h2, D.nmono e h3, D.nmono e h4, n⟩
  | .ll _, _, ⟨a, ps, h1, n, h2, m, h3⟩ => ⟨a, ps, h1, n, e _ _ h2, m, paired_imp (fun _ _ q => ⟨q.1, e _ _ q.2⟩) h3⟩
  | .s _, _, ⟨a, h1, h2⟩ => ⟨a, h1, ex_l e h2⟩
  | .al d, _, h => D.mono (d := d) e h
theorem D.nback (e : Ex H0 H1) : ∀ {d : D} {u : V}, d.new K H1 u H → d.new K H0 u H
  | .v _, _, h => h
  | .l _, _, ⟨a, h1, n, h2⟩ => ⟨a, h1, fresh_back e n, h2⟩
  | .t _, _, ⟨a, h1, h2⟩ => ⟨a, h1, h2⟩
  | .p _ _, _, ⟨a, x, y, h1, h2, h3, h4, n⟩ => ⟨a, x, y, h1, h2, D.nback e h3, D.nback e h4, n⟩
  | .ll _, _, ⟨a, ps, h1, n, h2, m, h3⟩ => ⟨a, ps, h1, fresh_back e n, h2, m, paired_imp (fun _ _ q => ⟨fresh_back e q.1, q.2⟩) h3⟩
  | .s _, _, ⟨a, h1, h2⟩ => ⟨a, h1, h2⟩
  | .al _, _, h => h
end

/-- te gives something that stands for d | .. made anew -/
def EvD (K : PySem.W.Frag) (te : TE) (σ : L2.St) (H : Hp) (d : D) : Prop := ∀ H1, Ex H H1 → ∀ Q : VK, (∀ u H2, Ex H1 H2 → d.rep K u H2 → Q u H2) → te σ H1 Q
def EvN (K : PySem.W.Frag) (te : TE) (σ : L2.St) (H : Hp) (d : D) : Prop := ∀ H1, Ex H H1 → ∀ Q : VK, (∀ u H2, Ex H1 H2 → d.new K H1 u H2 → Q u H2) → te σ H1 Q
def Reps (K : PySem.W.Frag) (H : Hp) : List V → List D → Prop := Paired fun u d => d.rep K u H
def EvAs (K : PySem.W.Frag) (ta : TA) (σ : L2.St) (H : Hp) (ds : List D) : Prop := ∀ H1, Ex H H1 → ∀ Q : List V → Hp → Prop, (∀ us H2, Ex H1 H2 → Reps K H2 us ds → Q us H2) → ta σ H1 Q

section
variable {K : PySem.W.Frag} {σ : L2.St} {H H' : Hp} {ta tb te tx : TE} {t u : TT} {x y z : V} {d e : D} {D' : Ends} {tz tu : TS}
theorem EvN.toD (h : EvN K te σ H d) : EvD K te σ H d := fun H1 e Q q => h H1 e Q fun u H2 e2 r => q u H2 e2 (D.nrep r)
theorem EvD.mono (e : Ex H H') (h : EvD K te σ H d) : EvD K te σ H' d := fun H1 a Q q => h H1 (e.trans a) Q q
theorem EvN.mono (e : Ex H H') (h : EvN K te σ H d) : EvN K te σ H' d := fun H1 a Q q => h H1 (e.trans a) Q q
theorem ed_v (h : Ev te σ H x) : EvD K te σ H (.v x) := fun H1 e Q q => h H1 e Q fun H2 e2 => q x H2 e2 rfl
theorem en_v (h : Ev te σ H x) : EvN K te σ H (.v x) := fun H1 e Q q => h H1 e Q fun H2 e2 => q x H2 e2 rfl
theorem ev_of (h : EvD K te σ H (.v x)) : Ev te σ H x := fun H1 e Q q => h H1 e Q fun u H2 e2 r => by
  have r' : u = x := r
  rw [r']
  exact q H2 e2
theorem ev_ofN (h : EvN K te σ H (.v x)) : Ev te σ H x := ev_of h.toD
theorem ed_var {i : Nat} (h : σ[i]? = some (some x)) (r : d.rep K x H) : EvD K (tVar i) σ H d := fun H1 e _ q => ⟨x, h, q x H1 (Ex.refl H1) (D.mono e r)⟩
theorem ed_ref {a : Addr} {xs : List V} (h : Ev te σ H (.ref a)) (r : H a = some (.lst xs)) : EvD K te σ H (.l xs) := fun H1 e _ q => h H1 e _ fun H2 e2 => q _ H2 e2 ⟨a, rfl, e2 _ _ (e _ _ r)⟩
theorem eas_nil : EvAs K tNil σ H [] := fun H1 _ _ q => q [] H1 (Ex.refl H1) .nil
theorem eas_cons {tr : TA} {ds : List D} (h : EvD K te σ H d) (hr : EvAs K tr σ H ds) : EvAs K (tCons te tr) σ H (d :: ds) := fun H1 e _ q =>
  h H1 e _ fun u H2 e2 r => hr H2 (e.trans e2) _ fun us H3 e3 rs => q (u :: us) H3 (e2.trans e3) (.cons (D.mono e3 r) rs)
theorem ea_of (h : Ev te σ H x) : EvA (tCons te tNil) σ H [x] := ea_cons h ea_nil

/-- the promises' shape -/
def spG (K : PySem.W.Frag) {α : Type} (args : α → List D) (pre : α → Prop) (res : α → D) : Sp := fun vs H Q _ => ∃ a : α, Reps K H vs (args a) ∧ pre a ∧ ∀ u H', Ex H H' → (res a).new K H u H' → Q u H'
theorem en_call {α : Type} {args : α → List D} {pre : α → Prop} {res : α → D} {ta : TA} {E : XK} (a : α) (h : EvAs K ta σ H (args a)) (hp : pre a) : EvN K (tCall (spG K args pre res) [] E ta) σ H (res a) := fun H1 e Q q =>
  h H1 e _ fun us H2 e2 r => ⟨a, by rw [List.append_nil]; exact r, hp, fun u H3 e3 n => q u H3 (e2.trans e3) (D.nback e2 n)⟩

/-! ### lists -/
abbrev il (xs : List Int) : List V := xs.map V.int
/-- the number at a place -/
def gi (xs : List Int) (i : Int) : Int := xs.getD i.toNat 0
theorem gi_at {xs : List Int} {i : Int} (h0 : 0 ≤ i) (h1 : i < xs.length) : atI (il xs) i = some (.int (gi xs i)) := by
  have hj : i.toNat < xs.length := by omega
  refine at_of (j := i.toNat) (by omega) ?_
  rw [List.getElem?_map, List.getElem?_eq_getElem hj]
  show some (V.int xs[i.toNat]) = some (V.int (xs.getD i.toNat 0))
  rw [List.getD_eq_getElem?_getD, List.getElem?_eq_getElem hj]
  rfl
theorem gi_get {xs : List Int} {i : Nat} {v : Int} (h : xs[i]? = some v) : gi xs (i : Int) = v := by
  unfold gi
  rw [Int.toNat_natCast, List.getD_eq_getElem?_getD, h]
  rfl
theorem ev_len (h : EvD K te σ H (.l xs)) : Ev (tCB (rLenS K) (tCons te tNil)) σ H (.int (xs.length : Int)) := fun H1 e Q q =>
  h H1 e _ fun u H2 e2 ⟨a, hu, ha⟩ => ⟨a, xs, by rw [hu], .inl (sq_of ha), q H2 e2⟩
theorem ev_lenI {ns : List Int} (h : EvD K te σ H (.l (il ns))) : Ev (tCB (rLenS K) (tCons te tNil)) σ H (.int (ns.length : Int)) := by
  have g := ev_len h
  rw [List.length_map] at g
  exact g
theorem ev_lenT (h : EvD K te σ H (.t xs)) : Ev (tCB (rLenS K) (tCons te tNil)) σ H (.int (xs.length : Int)) := fun H1 e Q q =>
  h H1 e _ fun u H2 e2 ⟨a, hu, ha⟩ => ⟨a, xs, by rw [hu], .inr (st_of ha), q H2 e2⟩
theorem ev_lenTI {ns : List Int} (h : EvD K te σ H (.t (il ns))) : Ev (tCB (rLenS K) (tCons te tNil)) σ H (.int (ns.length : Int)) := by
  have g := ev_lenT h
  rw [List.length_map] at g
  exact g
theorem ev_lenP {d e : D} (h : EvD K te σ H (.p d e)) : Ev (tCB (rLenS K) (tCons te tNil)) σ H (.int 2) := fun H1 e Q q =>
  h H1 e _ fun u H2 e2 ⟨a, x, y, hu, ha, _⟩ => ⟨a, [x, y], by rw [hu], .inr (st_of ha), q H2 e2⟩
theorem ev_lenS {ns : List Int} (h : EvD K te σ H (.s (il ns))) : Ev (tCB (rLenS K) (tCons te tNil)) σ H (.int (ns.length : Int)) := fun H1 e Q q =>
  h H1 e _ fun u H2 e2 ⟨a, hu, ha⟩ => ⟨a, il ns, by rw [hu], .inl ha, by
    rw [List.length_map]
    exact q H2 e2⟩
theorem ev_sum {ns : List Int} (h : EvD K te σ H (.l (il ns))) : Ev (tCB (rSum K) (tCons te tNil)) σ H (.int ns.sum) := fun H1 e Q q =>
  h H1 e _ fun u H2 e2 ⟨a, hu, ha⟩ => ⟨a, ns, by rw [hu], sq_of ha, q H2 e2⟩
theorem ev_all {bs : List Bool} (h : EvD K te σ H (.l (bs.map V.bl))) : Ev (tCB (rAll K) (tCons te tNil)) σ H (.bl (bs.all id)) := fun H1 e Q q =>
  h H1 e _ fun u H2 e2 ⟨a, hu, ha⟩ => ⟨a, bs, by rw [hu], sq_of ha, q H2 e2⟩
theorem ev_any {bs : List Bool} (h : EvD K te σ H (.l (bs.map V.bl))) : Ev (tCB (rAny K) (tCons te tNil)) σ H (.bl (bs.any id)) := fun H1 e Q q =>
  h H1 e _ fun u H2 e2 ⟨a, hu, ha⟩ => ⟨a, bs, by rw [hu], sq_of ha, q H2 e2⟩
def rMin2 : List V → Hp → VK → Prop := fun xs H Q => ∃ i j, xs = [.int i, .int j] ∧ Q (.int (if j < i then j else i)) H
theorem max_if (i j : Int) : (if j > i then j else i) = max i j := by
  split <;> omega
theorem min_if (i j : Int) : (if j < i then j else i) = min i j := by
  split <;> omega
theorem ev_maxI {i j : Int} (ha : Ev ta σ H (.int i)) (hb : Ev tb σ H (.int j)) : Ev (tCB rMax2 (tCons ta (tCons tb tNil))) σ H (.int (max i j)) := by
  rw [← max_if]
  exact ev_max2 ha hb
theorem ev_minI {i j : Int} (ha : Ev ta σ H (.int i)) (hb : Ev tb σ H (.int j)) : Ev (tCB rMin2 (tCons ta (tCons tb tNil))) σ H (.int (min i j)) := by
  rw [← min_if]
  exact fun H1 e Q q => ha H1 e _ fun H2 e2 => hb H2 (e.trans e2) _ fun H3 e3 => ⟨i, j, rfl, q H3 (e2.trans e3)⟩
/-- a list in order -/
def srt (ns : List Int) : List Int := ns.mergeSort (fun a b => decide (a ≤ b))
theorem srt_perm (ns : List Int) : (srt ns).Perm ns := List.mergeSort_perm ns _
theorem srt_le (ns : List Int) : (srt ns).Pairwise (· ≤ ·) := by
  have h := List.pairwise_mergeSort (le := fun a b : Int => decide (a ≤ b)) (fun a b c h1 h2 => by
    simp only [decide_eq_true_eq] at *
    omega) (fun a b => by
    simp only [Bool.or_eq_true, decide_eq_true_eq]
    omega) ns
  exact h.imp fun q => of_decide_eq_true q
theorem srt_eq {ns ms : List Int} (h : ms.Perm ns) (p : ms.Pairwise (· ≤ ·)) : ms = srt ns := PySem.W.ksm_same (h.trans (srt_perm ns).symm) p (srt_le ns)
theorem en_sorted {ns : List Int} (h : EvD K te σ H (.l (il ns))) : EvN K (tCB (rSortedI K) (tCons te tNil)) σ H (.l (il (srt ns))) := fun H1 e Q q =>
  h H1 e _ fun u H2 e2 ⟨a, hu, ha⟩ => ⟨a, ns, by rw [hu], sq_of ha, fun ms p hp hs n => by
    rw [srt_eq hp hs]
    exact q _ _ (e2.trans (Ex.new n)) ⟨p, rfl, fresh_back e2 n, upd_same⟩⟩
def rTupOf (K : PySem.W.Frag) : List V → Hp → VK → Prop := fun xs H Q => ∃ p ys, xs = [.ref p] ∧ ((SqL K H p ys ∧ ∀ l, H l = none → Q (.ref l) (upd H l (.tup ys))) ∨ (SqT K H p ys ∧ Q (.ref p) H))
theorem en_tuple (h : EvD K te σ H (.l xs)) : EvN K (tCB (rTupOf K) (tCons te tNil)) σ H (.t xs) := fun H1 e Q q =>
  h H1 e _ fun u H2 e2 ⟨a, hu, ha⟩ => ⟨a, xs, by rw [hu], .inl ⟨sq_of ha, fun l n => q _ _ (e2.trans (Ex.new n)) ⟨l, rfl, upd_same⟩⟩⟩
theorem en_list (h : EvD K te σ H (.l xs)) : EvN K (tCB (rListS K) (tCons te tNil)) σ H (.l xs) := fun H1 e Q q =>
  h H1 e _ fun u H2 e2 ⟨a, hu, ha⟩ => ⟨a, xs, by rw [hu], .inl (sq_of ha), fun l n => q _ _ (e2.trans (Ex.new n)) ⟨l, rfl, fresh_back e2 n, upd_same⟩⟩
theorem en_listT (h : EvD K te σ H (.t xs)) : EvN K (tCB (rListS K) (tCons te tNil)) σ H (.l xs) := fun H1 e Q q =>
  h H1 e _ fun u H2 e2 ⟨a, hu, ha⟩ => ⟨a, xs, by rw [hu], .inr (st_of ha), fun l n => q _ _ (e2.trans (Ex.new n)) ⟨l, rfl, fresh_back e2 n, upd_same⟩⟩
theorem ev_ix {ns : List Int} {i : Int} (ha : EvD K ta σ H (.l (il ns))) (hb : Ev tb σ H (.int i)) (h : 0 ≤ i ∧ i < ns.length) : Ev (tOp (rIxL K) ta tb) σ H (.int (gi ns i)) := fun H1 e Q q =>
  ha H1 e _ fun u H2 e2 ⟨a, hu, hx⟩ => hb H2 (e.trans e2) _ fun H3 e3 => ⟨a, il ns, i, _, hu, rfl, sq_of (e3 _ _ hx), gi_at h.1 h.2, q H3 (e2.trans e3)⟩
theorem ev_ixS {ns : List Int} {i : Int} (ha : EvD K ta σ H (.s (il ns))) (hb : Ev tb σ H (.int i)) (h : 0 ≤ i ∧ i < ns.length) : Ev (tOp (rIxL K) ta tb) σ H (.int (gi ns i)) := fun H1 e Q q =>
  ha H1 e _ fun u H2 e2 ⟨a, hu, hx⟩ => hb H2 (e.trans e2) _ fun H3 e3 => ⟨a, il ns, i, _, hu, rfl, ex_l e3 hx, gi_at h.1 h.2, q H3 (e2.trans e3)⟩
theorem ev_ixT {ns : List Int} {i : Int} (ha : EvD K ta σ H (.t (il ns))) (hb : Ev tb σ H (.int i)) (h : 0 ≤ i ∧ i < ns.length) : Ev (tOp (rIxT K) ta tb) σ H (.int (gi ns i)) := fun H1 e Q q =>
  ha H1 e _ fun u H2 e2 ⟨a, hu, hx⟩ => hb H2 (e.trans e2) _ fun H3 e3 => ⟨a, il ns, i, _, hu, rfl, st_of (e3 _ _ hx), gi_at h.1 h.2, q H3 (e2.trans e3)⟩
theorem ed_ixP0 (ha : EvD K ta σ H (.p d e)) (hb : Ev tb σ H (.int 0)) : EvD K (tOp (rIxT K) ta tb) σ H d := fun H1 e Q q =>
  ha H1 e _ fun u H2 e2 ⟨a, x, y, hu, hx, r1, r2⟩ => hb H2 (e.trans e2) _ fun H3 e3 => ⟨a, [x, y], 0, x, hu, rfl, st_of (e3 _ _ hx), rfl, q _ H3 (e2.trans e3) (D.mono e3 r1)⟩
theorem ed_ixP1 (ha : EvD K ta σ H (.p d e)) (hb : Ev tb σ H (.int 1)) : EvD K (tOp (rIxT K) ta tb) σ H e := fun H1 e Q q =>
  ha H1 e _ fun u H2 e2 ⟨a, x, y, hu, hx, r1, r2⟩ => hb H2 (e.trans e2) _ fun H3 e3 => ⟨a, [x, y], 1, y, hu, rfl, st_of (e3 _ _ hx), rfl, q _ H3 (e2.trans e3) (D.mono e3 r2)⟩
/-- the last number -/
def gl (xs : List Int) : Int := xs.getLastD 0
theorem gl_at {xs : List Int} (h : xs ≠ []) : atI (il xs) (-1) = some (.int (gl xs)) := by
  have e : il xs = il xs.dropLast ++ [.int (xs.getLast h)] := by
    conv => lhs; rw [← List.dropLast_concat_getLast h]
    rw [il, List.map_append]
    rfl
  have e2 : gl xs = xs.getLast h := by
    unfold gl
    rw [List.getLastD_eq_getLast?, List.getLast?_eq_getLast h]
    rfl
  rw [e, e2]
  exact atI_last _ _
theorem ev_last {ns : List Int} (ha : EvD K ta σ H (.l (il ns))) (hb : Ev tb σ H (.int (-1))) (h : ns ≠ []) : Ev (tOp (rIxL K) ta tb) σ H (.int (gl ns)) := fun H1 e Q q =>
  ha H1 e _ fun u H2 e2 ⟨a, hu, hx⟩ => hb H2 (e.trans e2) _ fun H3 e3 => ⟨a, il ns, -1, _, hu, rfl, sq_of (e3 _ _ hx), gl_at h, q H3 (e2.trans e3)⟩
theorem en_cut {xs : List V} {tl th : TO} {lo hi : Option Int} (h : EvD K te σ H (.l xs)) (h1 : EvO tl σ H lo) (h2 : EvO th σ H hi) : EvN K (tSl (rSlL K) te tl th) σ H (.l (cutV xs lo hi)) := fun H1 e Q q =>
  h H1 e _ fun u H2 e2 ⟨a, hu, ha⟩ => h1 H2 (e.trans e2) _ fun H3 e3 => h2 H3 ((e.trans e2).trans e3) _ fun H4 e4 =>
    ⟨a, xs, hu, sq_of (e4 _ _ (e3 _ _ ha)), fun p n => q _ _ (((e2.trans e3).trans e4).trans (Ex.new n)) ⟨p, rfl, fresh_back ((e2.trans e3).trans e4) n, upd_same⟩⟩
theorem six_pos (n d : Nat) {i : Int} (h : 0 ≤ i) : HT.sIx n d (some i) = min i.toNat n := by
  show (if i < 0 then (i + (n : Int)).toNat else min i.toNat n) = min i.toNat n
  rw [if_neg (by omega)]
theorem cut_take {xs : List Int} {n : Int} (h : 0 ≤ n) : cutV (il xs) none (some n) = il (xs.take n.toNat) := by
  unfold cutV
  rw [HT.sIx_none, six_pos _ _ h, List.drop_zero, Nat.sub_zero]
  by_cases c : n.toNat ≤ xs.length
  · rw [show min n.toNat (il xs).length = n.toNat by rw [List.length_map]; omega]
    exact (List.map_take).symm
  · rw [List.take_of_length_le (by rw [List.length_map]; omega), List.take_of_length_le (by omega)]
theorem cut_drop {xs : List Int} {n : Int} (h : 0 ≤ n) : cutV (il xs) (some n) none = il (xs.drop n.toNat) := by
  unfold cutV
  rw [HT.sIx_none, six_pos _ _ h]
  by_cases c : n.toNat ≤ xs.length
  · rw [show min n.toNat (il xs).length = n.toNat by rw [List.length_map]; omega, List.take_of_length_le (by rw [List.length_drop]; exact Nat.le_refl _)]
    exact (List.map_drop).symm
  · rw [List.drop_of_length_le (by rw [List.length_map]; omega), List.drop_of_length_le (by omega), List.take_nil]
    rfl
theorem cut_mid {xs : List Int} {m n : Int} (h : 0 ≤ m) (h2 : 0 ≤ n) : cutV (il xs) (some m) (some n) = il ((xs.take n.toNat).drop m.toNat) := by
  unfold cutV
  rw [six_pos _ _ h, six_pos _ _ h2]
  apply List.ext_getElem?
  intro k
  rw [List.length_map, List.getElem?_take, List.getElem?_drop, List.getElem?_map, List.getElem?_map, List.getElem?_drop, List.getElem?_take]
  by_cases c : m.toNat + k < n.toNat
  · by_cases c2 : m.toNat + k < xs.length
    · rw [if_pos (by omega), if_pos c, show min m.toNat xs.length = m.toNat by omega]
    · rw [if_pos c, List.getElem?_eq_none (by omega : xs.length ≤ m.toNat + k)]
      split
      · rw [List.getElem?_eq_none (by omega)]
      · rfl
  · rw [if_neg c]
    split
    · rw [List.getElem?_eq_none (by omega)]
    · rfl
theorem cut_init {xs : List Int} : cutV (il xs) none (some (-1)) = il xs.dropLast := by
  unfold cutV
  rw [HT.sIx_none]
  show List.take ((if (-1 : Int) < 0 then ((-1 : Int) + ((il xs).length : Int)).toNat else min (-1 : Int).toNat (il xs).length) - 0) (List.drop 0 (il xs)) = _
  rw [if_pos (by decide), List.drop_zero, Nat.sub_zero, List.length_map, List.dropLast_eq_take, show ((-1 : Int) + (xs.length : Int)).toNat = xs.length - 1 by omega]
  exact (List.map_take).symm
theorem en_is {d' : D} (h : EvN K te σ H d) (e : d = d') : EvN K te σ H d' := by
  rw [← e]
  exact h
theorem ed_is {d' : D} (h : EvD K te σ H d) (e : d = d') : EvD K te σ H d' := by
  rw [← e]
  exact h
theorem en_take {ns : List Int} {th : TE} {n : Int} (h : EvD K te σ H (.l (il ns))) (h2 : Ev th σ H (.int n)) (h0 : 0 ≤ n) : EvN K (tSl (rSlL K) te tNoPart (tPart th)) σ H (.l (il (ns.take n.toNat))) := en_is (en_cut h eo_none (eo_some h2)) (congrArg D.l (cut_take h0))
theorem en_init {ns : List Int} {th : TE} (h : EvD K te σ H (.l (il ns))) (h2 : Ev th σ H (.int (-1))) : EvN K (tSl (rSlL K) te tNoPart (tPart th)) σ H (.l (il ns.dropLast)) := en_is (en_cut h eo_none (eo_some h2)) (congrArg D.l cut_init)
theorem en_drop {ns : List Int} {th : TE} {n : Int} (h : EvD K te σ H (.l (il ns))) (h2 : Ev th σ H (.int n)) (h0 : 0 ≤ n) : EvN K (tSl (rSlL K) te (tPart th) tNoPart) σ H (.l (il (ns.drop n.toNat))) := en_is (en_cut h (eo_some h2) eo_none) (congrArg D.l (cut_drop h0))
theorem en_mid {ns : List Int} {tl th : TE} {m n : Int} (h : EvD K te σ H (.l (il ns))) (h1 : Ev tl σ H (.int m)) (h2 : Ev th σ H (.int n)) (hm : 0 ≤ m) (h0 : 0 ≤ n) : EvN K (tSl (rSlL K) te (tPart tl) (tPart th)) σ H (.l (il ((ns.take n.toNat).drop m.toNat))) := en_is (en_cut h (eo_some h1) (eo_some h2)) (congrArg D.l (cut_mid hm h0))
theorem en_rev {ns : List Int} (h : EvD K te σ H (.l (il ns))) : EvN K (tRevL K te) σ H (.l (il ns.reverse)) := fun H1 e Q q =>
  h H1 e _ fun u H2 e2 ⟨a, hu, ha⟩ => ⟨a, il ns, hu, sq_of ha, fun p n => by
    rw [← List.map_reverse]
    exact q _ _ (e2.trans (Ex.new n)) ⟨p, rfl, fresh_back e2 n, upd_same⟩⟩
theorem en_cat {ns ms : List Int} (ha : EvD K ta σ H (.l (il ns))) (hb : EvD K tb σ H (.l (il ms))) (hz : ns.length + ms.length ≤ 100000) : EvN K (tOp rCat ta tb) σ H (.l (il (ns ++ ms))) := fun H1 e Q q =>
  ha H1 e _ fun u H2 e2 ⟨a, hu, hx⟩ => hb H2 (e.trans e2) _ fun w H3 e3 ⟨b, hw, hy⟩ => ⟨a, b, il ns, il ms, hu, hw, e3 _ _ hx, hy, by
    rw [List.length_map, List.length_map]
    exact sz_of hz, fun p n => by
    rw [← List.map_append]
    exact q _ _ ((e2.trans e3).trans (Ex.new n)) ⟨p, rfl, fresh_back (e2.trans e3) n, upd_same⟩⟩
/-- so many noughts -/
def zs (k : Int) : List Int := List.replicate k.toNat 0
theorem zs_len (k : Int) : (zs k).length = k.toNat := List.length_replicate
theorem flat_one (k : Nat) (x : V) : (List.replicate k [x]).flatten = List.replicate k x := by
  induction k with
  | zero => rfl
  | succ k ih => rw [List.replicate_succ, List.flatten_cons, ih, List.replicate_succ]; rfl
theorem en_rep {k : Int} (ha : EvD K ta σ H (.l (il [0]))) (hb : Ev tb σ H (.int k)) (hz : -100000 ≤ k ∧ k ≤ 100000) : EvN K (tOp rRep ta tb) σ H (.l (il (zs k))) := fun H1 e Q q =>
  ha H1 e _ fun u H2 e2 ⟨a, hu, hx⟩ => hb H2 (e.trans e2) _ fun H3 e3 => ⟨a, k, il [0], hu, rfl, e3 _ _ hx, by omega, by omega, by
    show 1 * k.toNat ≤ sizeLine
    rw [Nat.one_mul]
    exact sz_of (by omega), fun p n => by
    refine q _ _ ((e2.trans e3).trans (Ex.new n)) ⟨p, rfl, fresh_back (e2.trans e3) n, ?_⟩
    rw [upd_same]
    show some (HO.lst (List.replicate k.toNat [V.int 0]).flatten) = some (HO.lst (il (zs k)))
    rw [flat_one]
    unfold zs il
    rw [List.map_replicate]⟩
end

/-! ### comparisons -/
def vpy : V → PyData
  | .non => .none
  | .bl b => .bool b
  | .int i => .int i
  | _ => .none
def flI : V → Bool
  | .non => true
  | .bl _ => true
  | .int _ => true
  | _ => false
def D.py : D → PyData
  | .v x => vpy x
  | .l xs => .list (xs.map vpy)
  | .t xs => .tuple (xs.map vpy)
  | .p d e => .tuple [d.py, e.py]
  | .ll xss => .list (xss.map fun xs => .list (xs.map vpy))
  | .s xs => .list (xs.map vpy)
  | .al d => d.py
def D.fl : D → Bool
  | .v x => flI x
  | .l xs => xs.all flI
  | .t xs => xs.all flI
  | .p d e => d.fl && e.fl
  | .ll xss => xss.all fun xs => xs.all flI
  | .s xs => xs.all flI
  | .al d => d.fl
def D.dsz : D → Nat
  | .v _ => 0
  | .l _ => 1
  | .t _ => 1
  | .p d e => max d.dsz e.dsz + 1
  | .ll _ => 2
  | .s _ => 1
  | .al d => d.dsz
theorem fl_il (ns : List Int) : (il ns).all flI = true := by
  rw [List.all_map]
  exact List.all_eq_true.mpr fun _ _ => rfl
theorem vpy_lay : ∀ {x : V}, flI x = true → PyData.canLay0 (vpy x) = true ∧ PyData.depth (vpy x) = 0
  | .non, _ => ⟨rfl, by simp [vpy, PyData.depth]⟩
  | .bl _, _ => ⟨by simp [vpy, PyData.canLay0], by simp [vpy, PyData.depth]⟩
  | .int _, _ => ⟨by simp [vpy, PyData.canLay0], by simp [vpy, PyData.depth]⟩
  | .str _, h => nomatch h
  | .byt _, h => nomatch h
  | .flt _, h => nomatch h
  | .ref _, h => nomatch h
  | .ty _, h => nomatch h
theorem vpys_lay : ∀ {xs : List V}, xs.all flI = true → PyData.canLayAll0 (xs.map vpy) = true ∧ PyData.depthAll (xs.map vpy) = 0
  | [], _ => ⟨by simp [PyData.canLayAll0], by simp [PyData.depthAll]⟩
  | x :: xs, h => by
    rw [List.all_cons, Bool.and_eq_true] at h
    have a := vpy_lay h.1
    have b := vpys_lay h.2
    simp only [List.map_cons, PyData.canLayAll0, PyData.depthAll, a.1, a.2, b.1, b.2]
    exact ⟨rfl, rfl⟩
theorem vpyss_lay : ∀ {xss : List (List V)}, (xss.all fun xs => xs.all flI) = true → PyData.canLayAll0 (xss.map fun xs => .list (xs.map vpy)) = true ∧ PyData.depthAll (xss.map fun xs => .list (xs.map vpy)) ≤ 1
  | [], _ => ⟨by simp [PyData.canLayAll0], by simp [PyData.depthAll]⟩
  | xs :: xss, h => by
    rw [List.all_cons, Bool.and_eq_true] at h
    have a := vpys_lay h.1
    have b := vpyss_lay h.2
    simp only [List.map_cons, PyData.canLayAll0, PyData.depthAll, PyData.canLay0, PyData.depth, a.1, a.2, b.1]
    exact ⟨rfl, by have := b.2; omega⟩
theorem py_lay : ∀ {d : D}, d.fl = true → PyData.canLay0 d.py = true ∧ PyData.depth d.py ≤ d.dsz
  | .al d, h => py_lay (d := d) h
  | .v x, h => by
    have a := vpy_lay h
    exact ⟨a.1, Nat.le_of_eq a.2⟩
  | .l xs, h => by
    have a := vpys_lay h
    simp only [D.py, PyData.canLay0, PyData.depth, a.1, a.2, D.dsz]
    exact ⟨trivial, Nat.le_refl _⟩
  | .t xs, h => by
    have a := vpys_lay h
    simp only [D.py, PyData.canLay0, PyData.depth, a.1, a.2, D.dsz]
    exact ⟨trivial, Nat.le_refl _⟩
  | .s xs, h => by
    have a := vpys_lay h
    simp only [D.py, PyData.canLay0, PyData.depth, a.1, a.2, D.dsz]
    exact ⟨trivial, Nat.le_refl _⟩
  | .ll xss, h => by
    have a := vpyss_lay h
    simp only [D.py, PyData.canLay0, PyData.depth, a.1, D.dsz]
    exact ⟨trivial, by have := a.2; omega⟩
  | .p d e, h => by
    have h' : (d.fl && e.fl) = true := h
    rw [Bool.and_eq_true] at h'
    have a := py_lay h'.1
    have b := py_lay h'.2
    simp only [D.py, PyData.canLay0, PyData.depth, PyData.canLayAll0, PyData.depthAll, a.1, b.1, D.dsz]
    exact ⟨rfl, by have := a.2; have := b.2; omega⟩
theorem py_shaped {d : D} (h : d.fl = true) (hz : d.dsz ≤ 64) : SeqAt.shaped d.py = true := by
  have a := py_lay h
  show (PyData.canLay0 d.py && decide (PyData.depth d.py ≤ 64)) = true
  rw [Bool.and_eq_true]
  exact ⟨a.1, decide_eq_true (Nat.le_trans a.2 hz)⟩
section
variable {K : PySem.W.Frag} {H : Hp}
theorem vpy_dp : ∀ {x : V}, flI x = true → Dp K H x (vpy x)
  | .non, _ => .non
  | .bl _, _ => .bl _
  | .int _, _ => .int _
  | .str _, h => nomatch h
  | .byt _, h => nomatch h
  | .flt _, h => nomatch h
  | .ref _, h => nomatch h
  | .ty _, h => nomatch h
theorem vpys_dp : ∀ {xs : List V}, xs.all flI = true → DpAll K H xs (xs.map vpy)
  | [], _ => .nil
  | x :: xs, h => by
    rw [List.all_cons, Bool.and_eq_true] at h
    exact .cons (vpy_dp h.1) (vpys_dp h.2)
theorem pss_dp : ∀ {ps : List Addr} {xss : List (List V)}, (xss.all fun xs => xs.all flI) = true → Paired (fun q xs => H q = some (.lst xs)) ps xss → DpAll K H (ps.map V.ref) (xss.map fun xs => .list (xs.map vpy))
  | _, _, _, .nil => .nil
  | q :: ps, xs :: xss, h, .cons a b => by
    rw [List.all_cons, Bool.and_eq_true] at h
    exact .cons (.lst (sq_of a) (vpys_dp h.1)) (pss_dp h.2 b)
theorem py_dp : ∀ {d : D} {u : V}, d.fl = true → d.rep K u H → Dp K H u d.py
  | .al d, _, h, r => py_dp (d := d) h r
  | .v x, u, h, r => by
    have r' : u = x := r
    rw [r']
    exact vpy_dp h
  | .l xs, _, h, ⟨a, hu, ha⟩ => by
    rw [hu]
    exact .lst (sq_of ha) (vpys_dp h)
  | .t xs, _, h, ⟨a, hu, ha⟩ => by
    rw [hu]
    exact .tup (st_of ha) (vpys_dp h)
  | .s xs, _, h, ⟨a, hu, ha⟩ => by
    rw [hu]
    exact .lst ha (vpys_dp h)
  | .ll xss, _, h, ⟨a, ps, hu, ha, hp⟩ => by
    rw [hu]
    exact .lst (sq_of ha) (pss_dp h hp)
  | .p d e, _, h, ⟨a, x, y, hu, ha, r1, r2⟩ => by
    have h' : (d.fl && e.fl) = true := h
    rw [Bool.and_eq_true] at h'
    rw [hu]
    exact .tup (st_of ha) (.cons (py_dp h'.1 r1) (.cons (py_dp h'.2 r2) .nil))
end
theorem eqv_il : ∀ xs ys : List Int, PyData.eqvAll ((il xs).map vpy) ((il ys).map vpy) = decide (xs = ys)
  | [], [] => by simp [PyData.eqvAll]
  | [], _ :: _ => by simp [PyData.eqvAll]
  | _ :: _, [] => by simp [PyData.eqvAll]
  | x :: xs, y :: ys => by
    have ih := eqv_il xs ys
    simp only [List.map_cons, PyData.eqvAll, vpy, PyData.eqv, ih]
    by_cases h : x = y <;> by_cases h' : xs = ys <;> simp [h, h']
theorem eqv_ll (xs ys : List Int) : PyData.eqv (D.l (il xs)).py (D.l (il ys)).py = decide (xs = ys) := by
  simp only [D.py, PyData.eqv]
  exact eqv_il xs ys
theorem eqv_tt (xs ys : List Int) : PyData.eqv (D.t (il xs)).py (D.t (il ys)).py = decide (xs = ys) := by
  simp only [D.py, PyData.eqv]
  exact eqv_il xs ys
theorem eqv_vv (i j : Int) : PyData.eqv (D.v (.int i)).py (D.v (.int j)).py = decide (i = j) := by
  simp only [D.py, vpy, PyData.eqv]
  by_cases h : i = j <;> simp [h]
theorem eqv_pp {a b c d : D} : PyData.eqv (D.p a b).py (D.p c d).py = (PyData.eqv a.py c.py && PyData.eqv b.py d.py) := by
  simp only [D.py, PyData.eqv, PyData.eqvAll, Bool.and_true]
theorem eqv_lss : ∀ xss yss : List (List Int), PyData.eqvAll ((xss.map il).map fun xs => .list (xs.map vpy)) ((yss.map il).map fun xs => .list (xs.map vpy)) = decide (xss = yss)
  | [], [] => by simp [PyData.eqvAll]
  | [], _ :: _ => by simp [PyData.eqvAll]
  | _ :: _, [] => by simp [PyData.eqvAll]
  | x :: xs, y :: ys => by
    have ih := eqv_lss xs ys
    simp only [List.map_cons, PyData.eqvAll, PyData.eqv, ih, eqv_il]
    by_cases h : x = y <;> by_cases h' : xs = ys <;> simp [h, h']
theorem eqv_llll (xss yss : List (List Int)) : PyData.eqv (D.ll (xss.map il)).py (D.ll (yss.map il)).py = decide (xss = yss) := by
  simp only [D.py, PyData.eqv]
  exact eqv_lss xss yss
section
variable {K : PySem.W.Frag} {σ : L2.St} {H H' : Hp} {ta tb te tx tl : TE} {t u : TT} {x y z : V} {d e : D} {D' : Ends} {tz tu : TS}
theorem ev_eqD (ha : EvD K ta σ H d) (hb : EvD K tb σ H e) (h1 : d.fl = true) (h2 : e.fl = true) (z1 : d.dsz ≤ 64) (z2 : e.dsz ≤ 64) : Ev (tOp (rEqD K) ta tb) σ H (.bl (PyData.eqv d.py e.py)) := fun H1 a Q q =>
  ha H1 a _ fun u H2 e2 r => hb H2 (a.trans e2) _ fun w H3 e3 r' => ⟨d.py, e.py, py_dp h1 (D.mono e3 r), py_dp h2 r', py_shaped h1 z1, py_shaped h2 z2, q H3 (e2.trans e3)⟩
theorem ev_neD (ha : EvD K ta σ H d) (hb : EvD K tb σ H e) (h1 : d.fl = true) (h2 : e.fl = true) (z1 : d.dsz ≤ 64) (z2 : e.dsz ≤ 64) : Ev (tOp (rNeD K) ta tb) σ H (.bl (!PyData.eqv d.py e.py)) := fun H1 a Q q =>
  ha H1 a _ fun u H2 e2 r => hb H2 (a.trans e2) _ fun w H3 e3 r' => ⟨d.py, e.py, py_dp h1 (D.mono e3 r), py_dp h2 r', py_shaped h1 z1, py_shaped h2 z2, q H3 (e2.trans e3)⟩
theorem ev_eqL {xs ys : List Int} (ha : EvD K ta σ H (.l (il xs))) (hb : EvD K tb σ H (.l (il ys))) : Ev (tOp (rEqD K) ta tb) σ H (.bl (decide (xs = ys))) := by
  rw [← eqv_ll]
  exact ev_eqD ha hb (fl_il _) (fl_il _) (Nat.le_of_ble_eq_true rfl) (Nat.le_of_ble_eq_true rfl)
theorem ev_neL {xs ys : List Int} (ha : EvD K ta σ H (.l (il xs))) (hb : EvD K tb σ H (.l (il ys))) : Ev (tOp (rNeD K) ta tb) σ H (.bl (!decide (xs = ys))) := by
  rw [← eqv_ll]
  exact ev_neD ha hb (fl_il _) (fl_il _) (Nat.le_of_ble_eq_true rfl) (Nat.le_of_ble_eq_true rfl)
theorem ev_eqI {i j : Int} (ha : Ev ta σ H (.int i)) (hb : Ev tb σ H (.int j)) : Ev (tOp rEq ta tb) σ H (.bl (decide (i = j))) := by
  have g := ev_op ha hb (rv_eq (H := H) (x := .int i) (y := .int j) rfl)
  have e : decide ((V.int i) = V.int j) = decide (i = j) := by simp
  rw [e] at g
  exact g
theorem ev_neI {i j : Int} (ha : Ev ta σ H (.int i)) (hb : Ev tb σ H (.int j)) : Ev (tOp rNe ta tb) σ H (.bl (!decide (i = j))) := by
  have g := ev_op ha hb (rv_ne (H := H) (x := .int i) (y := .int j) rfl)
  have e : decide ((V.int i) = V.int j) = decide (i = j) := by simp
  rw [e] at g
  exact g
theorem ev_isN (ha : Ev ta σ H x) : Ev (tIsN ta) σ H (.bl (decide (x = .non))) := fun H1 e Q q => ha H1 e _ fun H2 e2 => q H2 e2
theorem ev_notN (ha : Ev ta σ H x) : Ev (tNotN ta) σ H (.bl (!decide (x = .non))) := fun H1 e Q q => ha H1 e _ fun H2 e2 => q H2 e2
theorem inV_il (i : Int) (ns : List Int) : inV (.int i) (il ns) = decide (i ∈ ns) := by
  unfold inV
  rw [List.any_map]
  induction ns with
  | nil => rfl
  | cons n ns ih =>
    rw [List.any_cons, ih]
    have e : ((fun y => eqV y (V.int i)) ∘ V.int) n = (n == i) := rfl
    rw [e]
    by_cases h : n = i
    · subst h; simp
    · have h' : ¬ i = n := fun z => h z.symm
      by_cases h2 : i ∈ ns <;> simp [h, h', h2]
theorem flat_il (ns : List Int) : (il ns).all flatV = true := by
  rw [List.all_map]
  exact List.all_eq_true.mpr fun _ _ => rfl
theorem ev_in {i : Int} {ns : List Int} (ha : Ev ta σ H (.int i)) (hb : EvD K tb σ H (.l (il ns))) : Ev (tOp (rIn K false) ta tb) σ H (.bl (decide (i ∈ ns))) := fun H1 e Q q =>
  ha H1 e _ fun H2 e2 => hb H2 (e.trans e2) _ fun u H3 e3 ⟨a, hu, hx⟩ => ⟨a, il ns, hu, .inl (sq_of hx), rfl, flat_il ns, by
    show Q (.bl (inV (.int i) (il ns))) H3
    rw [inV_il]
    exact q H3 (e2.trans e3)⟩
theorem ev_ni {i : Int} {ns : List Int} (ha : Ev ta σ H (.int i)) (hb : EvD K tb σ H (.l (il ns))) : Ev (tOp (rIn K true) ta tb) σ H (.bl (!decide (i ∈ ns))) := fun H1 e Q q =>
  ha H1 e _ fun H2 e2 => hb H2 (e.trans e2) _ fun u H3 e3 ⟨a, hu, hx⟩ => ⟨a, il ns, hu, .inl (sq_of hx), rfl, flat_il ns, by
    show Q (.bl (!inV (.int i) (il ns))) H3
    rw [inV_il]
    exact q H3 (e2.trans e3)⟩
/-- a < b < c -/
theorem ev_chain {r r' : R2} {a b c : Int} {k1 k2 : Bool} (ha : Ev ta σ H (.int a)) (hb : Ev tb σ H (.int b)) (hc : Ev te σ H (.int c)) (h1 : RV r (.int a) (.int b) H (.bl k1)) (h2 : RV r' (.int b) (.int c) H (.bl k2)) :
    Ev (tChain r r' ta tb te) σ H (.bl (k1 && k2)) := fun H1 e Q q => ha H1 e _ fun H2 e2 => hb H2 (e.trans e2) _ fun H3 e3 => h1 H3 ((e.trans e2).trans e3) _ fun H4 e4 => ⟨k1, rfl, by
  cases k1 with
  | true =>
    rw [if_pos rfl]
    exact hc H4 (((e.trans e2).trans e3).trans e4) _ fun H5 e5 => h2 H5 ((((e.trans e2).trans e3).trans e4).trans e5) Q fun H6 e6 => q H6 ((((e2.trans e3).trans e4).trans e5).trans e6)
  | false =>
    rw [if_neg Bool.false_ne_true]
    exact q H4 ((e2.trans e3).trans e4)⟩
/-- isinstance -/
theorem ev_isi {x : V} {c : V} {u t : Value} {b : Bool} (ha : Ev ta σ H x) (hb : Ev tb σ H c) (hc : ClsV c u) (ht : ∀ H1, Ex H H1 → TyX K H1 x t) (hk : PySem.W.kitOne K t u = some b) : Ev (tCB (rIsi K) (tCons ta (tCons tb tNil))) σ H (.bl b) := fun H1 e Q q =>
  ha H1 e _ fun H2 e2 => hb H2 (e.trans e2) _ fun H3 e3 => ⟨x, c, t, u, b, rfl, hc, ht H3 ((e.trans e2).trans e3), hk, q H3 (e2.trans e3)⟩
def tyD : D → Option String
  | .v .non => some "NoneType"
  | .v (.bl _) => some "bool"
  | .v (.int _) => some "int"
  | .v (.str _) => some "str"
  | .l _ => some "list"
  | .t _ => some "tuple"
  | .p _ _ => some "tuple"
  | .ll _ => some "list"
  | _ => none
theorem tyD_ok : ∀ {d : D} {u : V} {s : String}, tyD d = some s → d.rep K u H → TyX K H u (.type s)
  | .v .non, _, _, h, r => by cases h; cases r; exact .base .non
  | .v (.bl _), _, _, h, r => by cases h; cases r; exact .base (.bl _)
  | .v (.int _), _, _, h, r => by cases h; cases r; exact .base (.int _)
  | .v (.str _), _, _, h, r => by cases h; cases r; exact .base (.str _)
  | .l _, _, _, h, ⟨a, hu, ha⟩ => by cases h; rw [hu]; exact .base (.lst ha)
  | .t _, _, _, h, ⟨a, hu, ha⟩ => by cases h; rw [hu]; exact .base (.tup ha)
  | .p _ _, _, _, h, ⟨a, x, y, hu, ha, _⟩ => by cases h; rw [hu]; exact .base (.tup ha)
  | .ll _, _, _, h, ⟨a, ps, hu, ha, _⟩ => by cases h; rw [hu]; exact .base (.lst ha)
  | .v (.byt _), _, _, h, _ => nomatch h
  | .v (.flt _), _, _, h, _ => nomatch h
  | .v (.ref _), _, _, h, _ => nomatch h
  | .v (.ty _), _, _, h, _ => nomatch h
  | .s _, _, _, h, _ => nomatch h
  | .al _, _, _, h, _ => nomatch h
theorem ev_isD {d : D} {s c : String} {b : Bool} (ha : EvD K ta σ H d) (hb : Ev tb σ H (.ty c)) (hs : tyD d = some s) (hk : kitB s c = some b) : Ev (tCB (rIsi K) (tCons ta (tCons tb tNil))) σ H (.bl b) := fun H1 e Q q =>
  ha H1 e _ fun u H2 e2 r => hb H2 (e.trans e2) _ fun H3 e3 => ⟨u, .ty c, .type s, .type c, b, rfl, .ty c, tyD_ok hs (D.mono e3 r), kit_ty hk, q H3 (e2.trans e3)⟩

/-! ### comprehensions -/
theorem wipe1 (σ : L2.St) (j : Nat) (y : Option V) : (wipe σ [j]).set j y = σ.set j y := by
  show (σ.set j none).set j y = σ.set j y
  rw [List.set_set]
theorem wipe2 (σ : L2.St) (j : Nat) (y : Option V) : wipe (σ.set j y) [j] = wipe σ [j] := by
  show (σ.set j y).set j none = σ.set j none
  rw [List.set_set]
theorem et_yes : EvT tYes σ H true := fun H1 _ _ q => q H1 (Ex.refl H1)
def CwI (H : Hp) (ns : List Int) (p : Int → Bool) (g : Int → V) (Dl : Addr) (i : Nat) (H' : Hp) : Prop := H Dl = none ∧ Ex H H' ∧ H' Dl = some (.lst (((ns.take i).filter p).map g))
theorem take_snoc {α : Type} {l : List α} {i : Nat} {x : α} (h : l[i]? = some x) : l.take (i + 1) = l.take i ++ [x] := by
  rw [List.take_add_one, h]
  rfl
theorem cwI_turn {ns : List Int} {p : Int → Bool} {g : Int → V} {Dl : Addr} {i : Nat} {x : Int} {σ2 : L2.St} (hx : ns[i]? = some x) (hz : ns.length ≤ 40000) (c : CwI H ns p g Dl i H') (ht : EvT t σ2 H (p x)) (he : p x = true → Ev te σ2 H (g x)) :
    t σ2 H' fun b H3 => if b = true then te σ2 H3 fun y H4 => ∃ acc, H4 Dl = some (.lst acc) ∧ acc.length < sizeLine ∧ CwI H ns p g Dl (i + 1) (upd H4 Dl (.lst (acc ++ [y]))) else CwI H ns p g Dl (i + 1) H3 := by
  obtain ⟨p1, p2, p3⟩ := c
  refine ht H' p2 _ fun H3 e3 => ?_
  have es : ns.take (i + 1) = ns.take i ++ [x] := take_snoc hx
  cases hf : p x with
  | true =>
    show te σ2 H3 fun y H4 => ∃ acc, H4 Dl = some (.lst acc) ∧ acc.length < sizeLine ∧ CwI H ns p g Dl (i + 1) (upd H4 Dl (.lst (acc ++ [y])))
    refine he hf H3 (p2.trans e3) _ fun H4 e4 => ⟨_, e4 Dl _ (e3 Dl _ p3), sz_lt ?_, p1, Ex.mut ((p2.trans e3).trans e4) p1, ?_⟩
    · rw [List.length_map]
      have h1 := List.length_filter_le p (ns.take i)
      have h2 := List.length_take_le i ns
      rw [List.length_take] at h1
      omega
    · rw [upd_same, es, List.filter_append, List.map_append, List.filter_cons, if_pos hf]
      rfl
  | false =>
    show CwI H ns p g Dl (i + 1) H3
    refine ⟨p1, p2.trans e3, ?_⟩
    rw [es, List.filter_append, List.filter_cons, if_neg (by rw [hf]; decide)]
    show H3 Dl = some (.lst ((List.filter p (ns.take i) ++ []).map g))
    rw [List.append_nil]
    exact e3 Dl _ p3
theorem en_lcF {j : Nat} {ns : List Int} {p : Int → Bool} {g : Int → V} (h : EvD K tl σ H (.l (il ns))) (hz : ns.length ≤ 40000)
    (ht : ∀ x, x ∈ ns → EvT t (σ.set j (some (.int x))) H (p x)) (he : ∀ x, x ∈ ns → p x = true → Ev te (σ.set j (some (.int x))) H (g x)) : EvN K (tLc (iList K tl) (gName j) t te [j]) σ H (.l ((ns.filter p).map g)) := fun H0 e Q q =>
  h H0 e _ fun u H1 e1 ⟨a, hu, ha⟩ => ⟨a, hu, ⟨_, sq_of ha⟩, fun Dl hD =>
    lc_list (xs := il ns) (CwI H1 ns p g Dl) ⟨hD, Ex.new hD, upd_same⟩ (fun i H' _ c => sq_of (c.2.1 _ _ ha)) (fun i x H' hi c => by
      obtain ⟨n, hn, rfl⟩ : ∃ n, ns[i]? = some n ∧ x = .int n := by
        rw [List.getElem?_map] at hi
        cases hn : ns[i]? with
        | none => rw [hn] at hi; cases hi
        | some n => rw [hn] at hi; exact ⟨n, rfl, (Option.some.inj hi).symm⟩
      have hm : n ∈ ns := List.mem_of_getElem? hn
      show wipe ((wipe σ [j]).set j (some (V.int n))) [j] = wipe σ [j] ∧ t ((wipe σ [j]).set j (some (V.int n))) H' _
      rw [wipe1, wipe2]
      exact ⟨rfl, cwI_turn hn hz c (fun H2 a => ht n hm H2 ((e.trans e1).trans a)) (fun hf H2 a => he n hm hf H2 ((e.trans e1).trans a))⟩)
    (fun H' c => by
      have c3 := c.2.2
      rw [List.length_map, List.take_length] at c3
      exact q _ H' (e1.trans c.2.1) ⟨Dl, rfl, fresh_back e1 c.1, c3⟩)⟩
theorem en_lc {j : Nat} {ns : List Int} {g : Int → V} (h : EvD K tl σ H (.l (il ns))) (hz : ns.length ≤ 40000)
    (he : ∀ x, x ∈ ns → Ev te (σ.set j (some (.int x))) H (g x)) : EvN K (tLc (iList K tl) (gName j) tYes te [j]) σ H (.l (ns.map g)) := by
  have r := en_lcF (p := fun _ => true) (g := g) (t := tYes) (te := te) (j := j) h hz (fun _ _ => et_yes) (fun x hx _ => he x hx)
  rw [List.filter_eq_self.mpr (fun _ _ => rfl)] at r
  exact r
/-- lo, lo + 1, .. below hi -/
def rng (lo hi : Int) : List Int := (List.range (hi - lo).toNat).map fun (i : Nat) => lo + (i : Int)
theorem rng_len (lo hi : Int) : (rng lo hi).length = (hi - lo).toNat := by
  unfold rng
  rw [List.length_map, List.length_range]
theorem rng_get {lo hi : Int} {i : Nat} (h : i < (hi - lo).toNat) : (rng lo hi)[i]? = some (lo + (i : Int)) := by
  unfold rng
  rw [List.getElem?_map, List.getElem?_range h]
  rfl
theorem rng_mem {lo hi x : Int} : x ∈ rng lo hi ↔ lo ≤ x ∧ x < hi := by
  unfold rng
  rw [List.mem_map]
  constructor
  · rintro ⟨i, hi', rfl⟩
    have := List.mem_range.mp hi'
    omega
  · intro h
    exact ⟨(x - lo).toNat, List.mem_range.mpr (by omega), by omega⟩
theorem en_lcR {j : Nat} {ns : List Int} {lo : Int} {n : Nat} {p : Int → Bool} {g : Int → V} {wi : TI} (hns : ns = (List.range n).map fun (i : Nat) => lo + (i : Int)) (hn : n ≤ 40000)
    (hwi : ∀ H1, Ex H H1 → ∀ R : It → Hp → Prop, (∀ H2, Ex H1 H2 → R (Itr lo n) H2) → wi σ H1 R)
    (ht : ∀ x, x ∈ ns → EvT t (σ.set j (some (.int x))) H (p x)) (he : ∀ x, x ∈ ns → p x = true → Ev te (σ.set j (some (.int x))) H (g x)) : EvN K (tLc wi (gName j) t te [j]) σ H (.l ((ns.filter p).map g)) := fun H0 e Q q =>
  hwi H0 e _ fun H1 e1 => fun Dl hD => by
    have hl : ns.length = n := by rw [hns, List.length_map, List.length_range]
    refine lc_range (lo := lo) (n := n) (CwI H1 ns p g Dl) ⟨hD, Ex.new hD, upd_same⟩ (fun i H' hi c => ?_) (fun H' c => ?_)
    · have hg : ns[i]? = some (lo + (i : Int)) := by
        rw [hns, List.getElem?_map, List.getElem?_range hi]
        rfl
      have hm := List.mem_of_getElem? hg
      show wipe ((wipe σ [j]).set j (some (V.int (lo + (i : Int))))) [j] = wipe σ [j] ∧ t ((wipe σ [j]).set j (some (V.int (lo + (i : Int))))) H' _
      rw [wipe1, wipe2]
      exact ⟨rfl, cwI_turn hg (by omega) c (fun H2 a => ht _ hm H2 ((e.trans e1).trans a)) (fun hf H2 a => he _ hm hf H2 ((e.trans e1).trans a))⟩
    · have c3 := c.2.2
      rw [← hl, List.take_length] at c3
      exact q _ H' (e1.trans c.2.1) ⟨Dl, rfl, fresh_back e1 c.1, c3⟩
theorem en_lcR1 {j : Nat} {n : Int} {p : Int → Bool} {g : Int → V} (h : Ev ta σ H (.int n)) (hn : -40000 ≤ n ∧ n ≤ 40000)
    (ht : ∀ x, x ∈ rng 0 n → EvT t (σ.set j (some (.int x))) H (p x)) (he : ∀ x, x ∈ rng 0 n → p x = true → Ev te (σ.set j (some (.int x))) H (g x)) : EvN K (tLc (iRng1 (tCons ta tNil)) (gName j) t te [j]) σ H (.l (((rng 0 n).filter p).map g)) :=
  en_lcR (lo := 0) (n := n.toNat) (by unfold rng; rw [Int.sub_zero]) (by omega) (fun H1 e R r => (ea_of h) H1 e _ fun H2 e2 => ⟨n, rfl, by omega, by omega, r H2 e2⟩) ht he
theorem en_lcR2 {j : Nat} {lo n : Int} {p : Int → Bool} {g : Int → V} (h1 : Ev ta σ H (.int lo)) (h : Ev tb σ H (.int n)) (hn : -40000 ≤ n ∧ n ≤ 20000 ∧ -20000 ≤ lo ∧ lo ≤ 40000)
    (ht : ∀ x, x ∈ rng lo n → EvT t (σ.set j (some (.int x))) H (p x)) (he : ∀ x, x ∈ rng lo n → p x = true → Ev te (σ.set j (some (.int x))) H (g x)) : EvN K (tLc (iRng2 (tCons ta (tCons tb tNil))) (gName j) t te [j]) σ H (.l (((rng lo n).filter p).map g)) :=
  en_lcR (lo := lo) (n := (n - lo).toNat) rfl (by omega) (fun H1 e R r => (ea_cons h1 (ea_cons h ea_nil)) H1 e _ fun H2 e2 => ⟨lo, n, rfl, by omega, r H2 e2⟩) ht he
theorem filt_t (ns : List Int) : ns.filter (fun _ => true) = ns := List.filter_eq_self.mpr (fun _ _ => rfl)
theorem en_lcR1t {j : Nat} {n : Int} {g : Int → V} (h : Ev ta σ H (.int n)) (hn : -40000 ≤ n ∧ n ≤ 40000)
    (he : ∀ x, x ∈ rng 0 n → Ev te (σ.set j (some (.int x))) H (g x)) : EvN K (tLc (iRng1 (tCons ta tNil)) (gName j) tYes te [j]) σ H (.l ((rng 0 n).map g)) := by
  have r := en_lcR1 (K := K) (p := fun _ => true) (g := g) (t := tYes) (te := te) (j := j) h hn (fun _ _ => et_yes) (fun x hx _ => he x hx)
  rw [filt_t] at r
  exact r
theorem en_lcR2t {j : Nat} {lo n : Int} {g : Int → V} (h1 : Ev ta σ H (.int lo)) (h : Ev tb σ H (.int n)) (hn : -40000 ≤ n ∧ n ≤ 20000 ∧ -20000 ≤ lo ∧ lo ≤ 40000)
    (he : ∀ x, x ∈ rng lo n → Ev te (σ.set j (some (.int x))) H (g x)) : EvN K (tLc (iRng2 (tCons ta (tCons tb tNil))) (gName j) tYes te [j]) σ H (.l ((rng lo n).map g)) := by
  have r := en_lcR2 (K := K) (p := fun _ => true) (g := g) (t := tYes) (te := te) (j := j) h1 h hn (fun _ _ => et_yes) (fun x hx _ => he x hx)
  rw [filt_t] at r
  exact r
/-- the made list is one of whole numbers -/
theorem il_map (ns : List Int) (g : Int → Int) : ns.map (fun x => V.int (g x)) = il (ns.map g) := by
  unfold il
  rw [List.map_map]
  rfl
theorem bl_map (ns : List Int) (g : Int → Bool) : ns.map (fun x => V.bl (g x)) = (ns.map g).map V.bl := by
  rw [List.map_map]
  rfl
theorem en_il {ns : List Int} {g : Int → Int} (h : EvN K te σ H (.l (ns.map fun x => V.int (g x)))) : EvN K te σ H (.l (il (ns.map g))) := by
  rw [il_map] at h
  exact h
theorem en_bl {ns : List Int} {g : Int → Bool} (h : EvN K te σ H (.l (ns.map fun x => V.bl (g x)))) : EvN K te σ H (.l ((ns.map g).map V.bl)) := by
  rw [bl_map] at h
  exact h

/-! ### displays -/
theorem en_l0 : EvN K (tLst tNil) σ H (.l (il [])) := fun H1 e Q q => ⟨Nat.zero_le _, fun p n => q _ _ (Ex.new n) ⟨p, rfl, n, upd_same⟩⟩
theorem en_ls {ta : TA} {vs : List V} (h : EvA ta σ H vs) (hl : vs.length ≤ 100000) : EvN K (tLst ta) σ H (.l vs) := fun H1 e _ q =>
  h H1 e _ fun H2 e2 => ⟨sz_of hl, fun p n => q _ _ (e2.trans (Ex.new n)) ⟨p, rfl, fresh_back e2 n, upd_same⟩⟩
/-- (a, b), both made anew -/
theorem en_p (ha : EvN K ta σ H d) (hb : EvN K tb σ H e) (hd : ∀ H1 H2 x y, d.rep K x H1 → e.new K H1 y H2 → ∀ b, x = V.ref b → y ≠ .ref b) : EvN K (tTup (tCons ta (tCons tb tNil))) σ H (.p d e) := fun H1 e1 _ q =>
  ha H1 e1 _ fun x H2 e2 r => hb H2 (e1.trans e2) _ fun y H3 e3 r' => ⟨(by decide : 2 ≤ sizeLine), fun p n => q _ _ ((e2.trans e3).trans (Ex.new n)) ⟨p, x, y, rfl, upd_same, D.nmono (e3.trans (Ex.new n)) r, D.nmono (Ex.new n) (D.nback e2 r'), hd _ _ _ _ (D.nrep r) r'⟩⟩
theorem dis_ll {xs ys : List V} : ∀ H1 H2 x y, (D.l xs).rep K x H1 → (D.l ys).new K H1 y H2 → ∀ b, x = V.ref b → y ≠ .ref b := fun H1 H2 x y ⟨a, hx, ha⟩ ⟨c, hy, hc, _⟩ b e1 e2 => by
  rw [hx] at e1
  rw [hy] at e2
  cases e1
  cases e2
  rw [ha] at hc
  cases hc
theorem dis_v {x0 : V} (h : ∀ b, x0 ≠ .ref b) : ∀ H1 H2 x y, (D.v x0).rep K x H1 → e.new K H1 y H2 → ∀ b, x = V.ref b → y ≠ .ref b := fun H1 H2 x y hx _ b e1 => by
  have hx' : x = x0 := hx
  rw [hx'] at e1
  exact absurd e1 (h b)

/-! ### statements -/
theorem q_asgN {i : Nat} (h : EvN K te σ H d) (k : ∀ u H1, Ex H H1 → d.new K H u H1 → tz D' (σ.set i (some u)) H1) : tSeq (tAsg te (gName i)) tz D' σ H := h H (Ex.refl H) _ fun u H1 e n => k u H1 e n
theorem s_asgN {i : Nat} (h : EvN K te σ H d) (k : ∀ u H1, Ex H H1 → d.new K H u H1 → D'.nx (σ.set i (some u)) H1) : tAsg te (gName i) D' σ H := h H (Ex.refl H) _ fun u H1 e n => k u H1 e n
theorem q_asgD {i : Nat} (h : EvD K te σ H d) (k : ∀ u H1, Ex H H1 → d.rep K u H1 → tz D' (σ.set i (some u)) H1) : tSeq (tAsg te (gName i)) tz D' σ H := h H (Ex.refl H) _ fun u H1 e n => k u H1 e n
theorem s_asgD {i : Nat} (h : EvD K te σ H d) (k : ∀ u H1, Ex H H1 → d.rep K u H1 → D'.nx (σ.set i (some u)) H1) : tAsg te (gName i) D' σ H := h H (Ex.refl H) _ fun u H1 e n => k u H1 e n
theorem q_asgNl {i : Nat} {xs : List V} (h : EvN K te σ H (.l xs)) (k : ∀ p H1, H p = none → Ex H H1 → H1 p = some (.lst xs) → tz D' (σ.set i (some (.ref p))) H1) : tSeq (tAsg te (gName i)) tz D' σ H :=
  q_asgN h fun u H1 e n => by
    obtain ⟨p, rfl, n1, n2⟩ := n
    exact k p H1 n1 e n2
theorem s_asgNl {i : Nat} {xs : List V} (h : EvN K te σ H (.l xs)) (k : ∀ p H1, H p = none → Ex H H1 → H1 p = some (.lst xs) → D'.nx (σ.set i (some (.ref p))) H1) : tAsg te (gName i) D' σ H :=
  s_asgN h fun u H1 e n => by
    obtain ⟨p, rfl, n1, n2⟩ := n
    exact k p H1 n1 e n2
theorem s_retN (h : EvN K te σ H d) (k : ∀ u H1, Ex H H1 → d.new K H u H1 → D'.rt u H1) : tRet te D' σ H := h H (Ex.refl H) _ k
theorem s_retD (h : EvD K te σ H d) (k : ∀ u H1, Ex H H1 → d.rep K u H1 → D'.rt u H1) : tRet te D' σ H := h H (Ex.refl H) _ k
theorem q_dropN (h : EvN K te σ H d) (k : ∀ H1, Ex H H1 → tz D' σ H1) : tSeq (tDrop te) tz D' σ H := h H (Ex.refl H) _ fun _ H1 e _ => k H1 e
theorem s_dropN (h : EvN K te σ H d) (k : ∀ H1, Ex H H1 → D'.nx σ H1) : tDrop te D' σ H := h H (Ex.refl H) _ fun _ H1 e _ => k H1 e
/-- a, b = e -/
theorem q_asgP {i j : Nat} (h : EvN K te σ H (.p d e)) (k : ∀ x y H1, Ex H H1 → d.new K H x H1 → e.new K H y H1 → (∀ b, x = V.ref b → y ≠ .ref b) → tz D' ((σ.set i (some x)).set j (some y)) H1) :
    tSeq (tAsg te (gTup K 2 (gCons (gName i) (gCons (gName j) gNil)))) tz D' σ H := h H (Ex.refl H) _ fun u H1 e1 ⟨a, x, y, hu, ha, r1, r2, nd⟩ =>
  ⟨a, [x, y], hu, st_of ha, rfl, x, [y], rfl, y, [], rfl, rfl, k x y H1 e1 r1 r2 nd⟩
/-- what stands but at l -/
def But (l : Addr) (H H' : Hp) : Prop := ∀ b o, b ≠ l → H b = some o → H' b = some o
theorem But.ex {H0 : Hp} {l : Addr} (e : Ex H0 H) (n : H0 l = none) (b : But l H H') : Ex H0 H' := fun a o h => b a o (ne_of_none h n) (e a o h)
theorem but_upd {l : Addr} {o : HO} (e : Ex H H') : But l H (upd H' l o) := fun b o' hb h => by
  rw [upd_ne hb]
  exact e b o' h
theorem s_appB {l : Addr} {xs : List V} (hl : H l = some (.lst xs)) (ha : Ev ta σ H (.ref l)) (h : Ev te σ H x) (hz : xs.length < 100000) (k : ∀ H1, But l H H1 → H1 l = some (.lst (xs ++ [x])) → D'.nx σ H1) :
    tDrop (tBM K "list" rAppend ta (tCons te tNil)) D' σ H := s_app hl ha h hz fun H1 e1 => k _ (but_upd e1) upd_same
theorem q_appB {l : Addr} {xs : List V} (hl : H l = some (.lst xs)) (ha : Ev ta σ H (.ref l)) (h : Ev te σ H x) (hz : xs.length < 100000) (k : ∀ H1, But l H H1 → H1 l = some (.lst (xs ++ [x])) → tz D' σ H1) :
    tSeq (tDrop (tBM K "list" rAppend ta (tCons te tNil))) tz D' σ H := s_appB (D' := { D' with nx := tz D' }) hl ha h hz k
theorem s_appI {l : Addr} {ns : List Int} {n : Int} (hl : H l = some (.lst (il ns))) (ha : Ev ta σ H (.ref l)) (h : Ev te σ H (.int n)) (hz : ns.length < 100000) (k : ∀ H1, But l H H1 → H1 l = some (.lst (il (ns ++ [n]))) → D'.nx σ H1) :
    tDrop (tBM K "list" rAppend ta (tCons te tNil)) D' σ H := s_appB hl ha h (by rw [List.length_map]; exact hz) fun H1 b e => k H1 b (by rw [e]; unfold il; rw [List.map_append]; rfl)
theorem q_appI {l : Addr} {ns : List Int} {n : Int} (hl : H l = some (.lst (il ns))) (ha : Ev ta σ H (.ref l)) (h : Ev te σ H (.int n)) (hz : ns.length < 100000) (k : ∀ H1, But l H H1 → H1 l = some (.lst (il (ns ++ [n]))) → tz D' σ H1) :
    tSeq (tDrop (tBM K "list" rAppend ta (tCons te tNil))) tz D' σ H := s_appI (D' := { D' with nx := tz D' }) hl ha h hz k
/-- a list with a number changed -/
def si (xs : List Int) (i v : Int) : List Int := xs.set i.toNat v
theorem si_len (xs : List Int) (i v : Int) : (si xs i v).length = xs.length := List.length_set
theorem s_setI {l : Addr} {ns : List Int} {i n : Int} (hl : H l = some (.lst (il ns))) (h : Ev te σ H (.int n)) (ha : Ev ta σ H (.ref l)) (hb : Ev tb σ H (.int i)) (hi : 0 ≤ i ∧ i < ns.length) (k : ∀ H1, But l H H1 → H1 l = some (.lst (il (si ns i n))) → D'.nx σ H1) :
    tAsg te (gSub ta tb rSetL) D' σ H := by
  have e : i = (i.toNat : Int) := by omega
  refine s_setL (j := i.toNat) hl h ha (by rw [← e]; exact hb) (by rw [List.length_map]; omega) fun H1 e1 => k _ (but_upd e1) ?_
  rw [upd_same]
  unfold si il
  rw [List.map_set]
theorem q_setI {l : Addr} {ns : List Int} {i n : Int} (hl : H l = some (.lst (il ns))) (h : Ev te σ H (.int n)) (ha : Ev ta σ H (.ref l)) (hb : Ev tb σ H (.int i)) (hi : 0 ≤ i ∧ i < ns.length) (k : ∀ H1, But l H H1 → H1 l = some (.lst (il (si ns i n))) → tz D' σ H1) :
    tSeq (tAsg te (gSub ta tb rSetL)) tz D' σ H := s_setI (D' := { D' with nx := tz D' }) hl h ha hb hi k

/-! ### loops -/
theorem s_forI {a : Addr} {ns : List Int} {j : Nat} (h : Ev tl σ H (.ref a)) (hx : H a = some (.lst (il ns))) (Pv : Nat → L2.St → Hp → Prop) (h0 : ∀ H1, Ex H H1 → Pv 0 σ H1) (hl : ∀ i σ' H', Pv i σ' H' → H' a = some (.lst (il ns)))
    (hs : ∀ (i : Nat) (x : Int) σ' H', ns[i]? = some x → Pv i σ' H' → tu { D' with nx := Pv (i + 1), ct := Pv (i + 1), bk := D'.nx } (σ'.set j (some (.int x))) H') (hd : ∀ σ' H', Pv ns.length σ' H' → D'.nx σ' H') : tFor (iList K tl) (gName j) tu D' σ H :=
  s_forLn h (sq_of hx) Pv h0 (fun i σ' H' _ p => sq_of (hl i σ' H' p)) (fun i x σ' H' hi p => by
    rw [List.getElem?_map] at hi
    cases hn : ns[i]? with
    | none => rw [hn] at hi; cases hi
    | some n =>
      rw [hn] at hi
      cases hi
      exact hs i n σ' H' hn p) (fun σ' H' p => hd σ' H' (by rw [List.length_map] at p; exact p))
theorem q_forI {a : Addr} {ns : List Int} {j : Nat} (h : Ev tl σ H (.ref a)) (hx : H a = some (.lst (il ns))) (Pv : Nat → L2.St → Hp → Prop) (h0 : ∀ H1, Ex H H1 → Pv 0 σ H1) (hl : ∀ i σ' H', Pv i σ' H' → H' a = some (.lst (il ns)))
    (hs : ∀ (i : Nat) (x : Int) σ' H', ns[i]? = some x → Pv i σ' H' → tu { D' with nx := Pv (i + 1), ct := Pv (i + 1), bk := tz D' } (σ'.set j (some (.int x))) H') (hd : ∀ σ' H', Pv ns.length σ' H' → tz D' σ' H') : tSeq (tFor (iList K tl) (gName j) tu) tz D' σ H :=
  s_forI (D' := { D' with nx := tz D' }) h hx Pv h0 hl hs hd
theorem s_forV {a : Addr} {ns : List Int} {j : Nat} (h : Ev tl σ H (.ref a)) (hx : H a = some (.lst (il ns))) (Pv : Nat → L2.St → Hp → Prop) (h0 : ∀ H1, Ex H H1 → Pv 0 σ H1) (hl : ∀ i σ' H', Pv i σ' H' → H' a = some (.lst (il ns)))
    (hs : ∀ (i : Nat) (x : Int) σ' H', ns.reverse[i]? = some x → Pv i σ' H' → tu { D' with nx := Pv (i + 1), ct := Pv (i + 1), bk := D'.nx } (σ'.set j (some (.int x))) H') (hd : ∀ σ' H', Pv ns.length σ' H' → D'.nx σ' H') : tFor (iRev K (tCons tl tNil)) (gName j) tu D' σ H := by
  unfold tFor iRev
  exact (ea_of h) H (Ex.refl H) _ fun H1 e => ⟨a, il ns, rfl, sq_of (e _ _ hx), RT.for_Itv (K := K) (xs := il ns) Pv (h0 H1 e) (fun i σ' H' p => sq_of (hl i σ' H' p)) (fun i x σ' H' hi hg p => by
    rw [List.length_map] at hi hg
    have hr : ns.reverse[i]? = ns[ns.length - 1 - i]? := List.getElem?_reverse hi
    rw [List.getElem?_map, ← hr] at hg
    cases hn : ns.reverse[i]? with
    | none => rw [hn] at hg; cases hg
    | some n =>
      rw [hn] at hg
      cases hg
      exact hs i n σ' H' hn p) (fun σ' H' p => hd σ' H' (by rw [List.length_map] at p; exact p))⟩
theorem q_forV {a : Addr} {ns : List Int} {j : Nat} (h : Ev tl σ H (.ref a)) (hx : H a = some (.lst (il ns))) (Pv : Nat → L2.St → Hp → Prop) (h0 : ∀ H1, Ex H H1 → Pv 0 σ H1) (hl : ∀ i σ' H', Pv i σ' H' → H' a = some (.lst (il ns)))
    (hs : ∀ (i : Nat) (x : Int) σ' H', ns.reverse[i]? = some x → Pv i σ' H' → tu { D' with nx := Pv (i + 1), ct := Pv (i + 1), bk := tz D' } (σ'.set j (some (.int x))) H') (hd : ∀ σ' H', Pv ns.length σ' H' → tz D' σ' H') : tSeq (tFor (iRev K (tCons tl tNil)) (gName j) tu) tz D' σ H :=
  s_forV (D' := { D' with nx := tz D' }) h hx Pv h0 hl hs hd
end

/-! ### turns as plain functions -/
def iter {α : Type} (f : Nat → α → α) (a : α) : Nat → α
  | 0 => a
  | n + 1 => f n (iter f a n)
theorem iter_succ {α : Type} (f : Nat → α → α) (a : α) (n : Nat) : iter f a (n + 1) = f n (iter f a n) := rfl
theorem fold_succ {α : Type} {f : α → Int → α} {a : α} {l : List Int} {i : Nat} {x : Int} (h : l[i]? = some x) : (l.take (i + 1)).foldl f a = f ((l.take i).foldl f a) x := by
  rw [take_snoc h, List.foldl_append]
  rfl
/-- the first turn that hands something back -/
def first {α : Type} (b : Nat → Option α) : Nat → Option α
  | 0 => none
  | n + 1 => match first b n with
    | some r => some r
    | none => b n
theorem first_none {α : Type} {b : Nat → Option α} {n : Nat} (h : first b n = none) (h' : b n = none) : first b (n + 1) = none := by
  unfold first
  rw [h]
  exact h'
theorem first_some {α : Type} {b : Nat → Option α} {i n : Nat} {r : α} (h : first b i = none) (h' : b i = some r) (hi : i < n) : first b n = some r := by
  induction n with
  | zero => omega
  | succ n ih =>
    by_cases c : i = n
    · subst c
      unfold first
      rw [h]
      exact h'
    · have q := ih (by omega)
      unfold first
      rw [q]
def whl {α : Type} (c : α → Bool) (f : α → α) : Nat → α → α
  | 0, x => x
  | n + 1, x => if c x = true then whl c f n (f x) else x
theorem whl_stop {α : Type} {c : α → Bool} {f : α → α} {x : α} (h : c x = false) : ∀ n, whl c f n x = x
  | 0 => rfl
  | n + 1 => by
    unfold whl
    rw [h]
    rfl
theorem whl_fuel {α : Type} {c : α → Bool} {f : α → α} {I : α → Prop} {mu : α → Nat} (hI : ∀ x, I x → c x = true → I (f x) ∧ mu (f x) < mu x) : ∀ (n m : Nat) (x : α), I x → mu x ≤ n → mu x ≤ m → whl c f n x = whl c f m x := by
  intro n
  induction n with
  | zero =>
    intro m x hx h h2
    cases hc : c x with
    | false => rw [whl_stop hc, whl_stop hc]
    | true =>
      have := (hI x hx hc).2
      omega
  | succ n ih =>
    intro m x hx h h2
    cases hc : c x with
    | false => rw [whl_stop hc, whl_stop hc]
    | true =>
      obtain ⟨i1, i2⟩ := hI x hx hc
      obtain ⟨m', rfl⟩ : ∃ m', m = m' + 1 := ⟨m - 1, by omega⟩
      show (if c x = true then whl c f n (f x) else x) = (if c x = true then whl c f m' (f x) else x)
      rw [if_pos hc, if_pos hc]
      exact ih m' (f x) i1 (by omega) (by omega)
theorem whl_go {α : Type} {c : α → Bool} {f : α → α} {I : α → Prop} {mu : α → Nat} (hI : ∀ x, I x → c x = true → I (f x) ∧ mu (f x) < mu x) {x : α} (hx : I x) (hc : c x = true) : whl c f (mu x) x = whl c f (mu (f x)) (f x) := by
  obtain ⟨i1, i2⟩ := hI x hx hc
  obtain ⟨m, hm⟩ : ∃ m, mu x = m + 1 := ⟨mu x - 1, by omega⟩
  rw [hm]
  show (if c x = true then whl c f m (f x) else x) = _
  rw [if_pos hc]
  exact whl_fuel hI m (mu (f x)) (f x) i1 (by omega) (Nat.le_refl _)
/-- behind the loop the test fails -/
theorem whl_end {α : Type} {c : α → Bool} {f : α → α} {I : α → Prop} {mu : α → Nat} (hI : ∀ x, I x → c x = true → I (f x) ∧ mu (f x) < mu x) : ∀ (n : Nat) (x : α), I x → mu x ≤ n → I (whl c f n x) ∧ c (whl c f n x) = false := by
  intro n
  induction n with
  | zero =>
    intro x hx h
    cases hc : c x with
    | false => exact ⟨hx, hc⟩
    | true =>
      have := (hI x hx hc).2
      omega
  | succ n ih =>
    intro x hx h
    cases hc : c x with
    | false => rw [whl_stop hc]; exact ⟨hx, hc⟩
    | true =>
      obtain ⟨i1, i2⟩ := hI x hx hc
      show I (if c x = true then whl c f n (f x) else x) ∧ c (if c x = true then whl c f n (f x) else x) = false
      rw [if_pos hc]
      exact ih (f x) i1 (by omega)

/-! ### further words -/
theorem paired_cons {α β : Type} {F : α → β → Prop} {l : List α} {y : β} {ys : List β} (h : Paired F l (y :: ys)) : ∃ x xs, l = x :: xs ∧ F x y ∧ Paired F xs ys := by
  cases h with
  | cons a b => exact ⟨_, _, rfl, a, b⟩
theorem paired_nil {α β : Type} {F : α → β → Prop} {l : List α} (h : Paired F l []) : l = [] := by
  cases h
  rfl
theorem list_nodup3 {α : Type} {a b c : α} (h : [a, b, c].Nodup) : a ≠ b ∧ a ≠ c ∧ b ≠ c := by
  simp only [List.nodup_cons, List.mem_cons, List.not_mem_nil, not_or, or_false] at h
  exact ⟨h.1.1, h.1.2, h.2.1⟩
theorem list_nodup4 {α : Type} {a b c d : α} (h : [a, b, c, d].Nodup) : a ≠ b ∧ a ≠ c ∧ a ≠ d ∧ b ≠ c ∧ b ≠ d ∧ c ≠ d := by
  simp only [List.nodup_cons, List.mem_cons, List.not_mem_nil, not_or, or_false] at h
  exact ⟨h.1.1, h.1.2.1, h.1.2.2, h.2.1.1, h.2.1.2, h.2.2.1⟩
theorem cond_t {α : Type} {c : Bool} {a b : α} (h : c = true) : (bif c then a else b) = a := by rw [h]; rfl
theorem cond_f {α : Type} {c : Bool} {a b : α} (h : c = false) : (bif c then a else b) = b := by rw [h]; rfl
theorem elim_n {α β : Type} {o : Option α} {a : β} {f : α → β} (h : o = none) : Option.elim o a f = a := by rw [h]; rfl
theorem elim_s {α β : Type} {o : Option α} {a : β} {f : α → β} {x : α} (h : o = some x) : Option.elim o a f = f x := by rw [h]; rfl
theorem getd_n {α : Type} {o : Option α} {a : α} (h : o = none) : Option.getD o a = a := by rw [h]; rfl
theorem getd_s {α : Type} {o : Option α} {a x : α} (h : o = some x) : Option.getD o a = x := by rw [h]; rfl
theorem getd_at {l : List Int} {i : Nat} {x : Int} (h : l[i]? = some x) : l.getD i 0 = x := by
  rw [List.getD_eq_getElem?_getD, h]
  rfl
theorem lt_of_get {α : Type} {l : List α} {i : Nat} {x : α} (h : l[i]? = some x) : i < l.length := (List.getElem?_eq_some_iff.mp h).1
theorem take_rev (l : List Int) : l.reverse.take l.length = l.reverse := by
  rw [← List.length_reverse, List.take_length]
def dOP : Option (List Int × List Int) → D
  | none => .v .non
  | some q => .p (.l (il q.1)) (.l (il q.2))
def dOL : Option (List Int) → D
  | none => .v .non
  | some q => .l (il q)
section
variable {K : PySem.W.Frag} {σ : L2.St} {H H0 H' : Hp} {ta tb te : TE} {x y : V} {d e : D} {u : V} {D' : Ends} {tz : TS}
theorem ret_eq {d' : D} (h : d = d') (n : d'.new K H0 u H') : d.new K H0 u H' := by
  rw [h]
  exact n
theorem ed_rep (h : Ev te σ H u) (r : d.rep K u H) : EvD K te σ H d := fun H1 e Q q => h H1 e Q fun H2 e2 => q u H2 e2 (D.mono (e.trans e2) r)
theorem ed_p (ha : EvD K ta σ H d) (hb : EvD K tb σ H e) : EvD K (tTup (tCons ta (tCons tb tNil))) σ H (.p d e) := fun H1 e1 _ q =>
  ha H1 e1 _ fun x H2 e2 r => hb H2 (e1.trans e2) _ fun y H3 e3 r' => ⟨(by decide : 2 ≤ sizeLine), fun p n => q _ _ ((e2.trans e3).trans (Ex.new n)) ⟨p, x, y, rfl, upd_same, D.mono (e3.trans (Ex.new n)) r, D.mono (Ex.new n) r'⟩⟩
theorem q_par {i j : Nat} {v w : V} {ta : TA} (h : EvA ta σ H [v, w]) (k : ∀ H1, Ex H H1 → tz D' ((σ.set i (some v)).set j (some w)) H1) : tSeq (tPar i j ta) tz D' σ H := h H (Ex.refl H) _ fun H1 e => ⟨v, w, rfl, k H1 e⟩
theorem s_par {i j : Nat} {v w : V} {ta : TA} (h : EvA ta σ H [v, w]) (k : ∀ H1, Ex H H1 → D'.nx ((σ.set i (some v)).set j (some w)) H1) : tPar i j ta D' σ H := h H (Ex.refl H) _ fun H1 e => ⟨v, w, rfl, k H1 e⟩
end
theorem iter_inv {α : Type} {f : Nat → α → α} {a : α} {P : α → Prop} {n : Nat} (h0 : P a) (hs : ∀ i st, i < n → P st → P (f i st)) : P (iter f a n) := by
  induction n with
  | zero => exact h0
  | succ n ih => exact hs n _ (Nat.lt_succ_self n) (ih fun i st hi => hs i st (Nat.lt_succ_of_lt hi))
theorem fold_inv {α : Type} {f : α → Int → α} {a : α} {P : α → Prop} (l : List Int) (h0 : P a) (hs : ∀ st x, x ∈ l → P st → P (f st x)) : P (l.foldl f a) := by
  induction l generalizing a with
  | nil => exact h0
  | cons x l ih => exact ih (hs a x List.mem_cons_self h0) fun st y hy => hs st y (List.mem_cons_of_mem _ hy)
def Rests (xs : List Int) : Prop := ∀ x ∈ xs, 0 ≤ x ∧ x < 251
theorem rests_gi {xs : List Int} (h : Rests xs) (i : Int) : 0 ≤ gi xs i ∧ gi xs i < 251 := by
  unfold gi
  rw [List.getD_eq_getElem?_getD]
  cases e : xs[i.toNat]? with
  | none => exact ⟨Int.le_refl 0, by decide⟩
  | some x => exact h x (List.mem_of_getElem? e)
theorem rests_gl {xs : List Int} (h : Rests xs) : 0 ≤ gl xs ∧ gl xs < 251 := by
  unfold gl
  rw [List.getLastD_eq_getLast?]
  cases e : xs.getLast? with
  | none => exact ⟨Int.le_refl 0, by decide⟩
  | some x => exact h x (List.mem_of_getLast? e)
theorem rests_nil : Rests [] := fun _ h => nomatch h
theorem rests_cons {x : Int} {xs : List Int} (hx : 0 ≤ x ∧ x < 251) (h : Rests xs) : Rests (x :: xs) := fun y hy => by
  rcases List.mem_cons.mp hy with e | e
  · rw [e]; exact hx
  · exact h y e
theorem rests_app {xs ys : List Int} (h : Rests xs) (h2 : Rests ys) : Rests (xs ++ ys) := fun y hy => (List.mem_append.mp hy).elim (h y) (h2 y)
theorem rests_sub {xs ys : List Int} (h : Rests ys) (hs : ∀ x ∈ xs, x ∈ ys) : Rests xs := fun x hx => h x (hs x hx)
theorem rests_zs (k : Int) : Rests (zs k) := fun x hx => by
  rw [(List.mem_replicate.mp hx).2]
  exact ⟨Int.le_refl 0, by decide⟩
theorem rests_si {xs : List Int} {i v : Int} (h : Rests xs) (hv : 0 ≤ v ∧ v < 251) : Rests (si xs i v) := fun x hx => by
  unfold si at hx
  rcases List.mem_or_eq_of_mem_set hx with e | e
  · exact h x e
  · rw [e]; exact hv
theorem rests_map {α : Type} {l : List α} {g : α → Int} (h : ∀ x ∈ l, 0 ≤ g x ∧ g x < 251) : Rests (l.map g) := fun y hy => by
  obtain ⟨x, hx, rfl⟩ := List.mem_map.mp hy
  exact h x hx
section
variable {K : PySem.W.Frag} {σ : L2.St} {H H0 H' : Hp} {ta tb te : TE} {x y : V} {d e : D} {u : V} {D' : Ends} {tz : TS}
theorem ed_al (h : EvD K te σ H (.al d)) : EvD K te σ H d := h
theorem en_ll2 {xs ys : List Int} (ha : EvN K ta σ H (.l (il xs))) (hb : EvN K tb σ H (.l (il ys))) : EvN K (tLst (tCons ta (tCons tb tNil))) σ H (.ll (([xs, ys] : List (List Int)).map il)) := fun H1 e1 _ q =>
  ha H1 e1 _ fun x H2 e2 ⟨a, hx, na, ra⟩ => hb H2 (e1.trans e2) _ fun y H3 e3 ⟨b, hy, nb, rb⟩ => ⟨Nat.le_of_ble_eq_true rfl, fun p n => by
    have ra3 := e3 _ _ ra
    have n1 : a ≠ b := ne_of_none ra nb
    have n2 : a ≠ p := ne_of_none ra3 n
    have n3 : b ≠ p := ne_of_none rb n
    have exn : Ex H3 (upd H3 p (.lst [x, y])) := Ex.new n
    subst hx
    subst hy
    refine q _ _ ((e2.trans e3).trans exn) ⟨p, [a, b], rfl, fresh_back (e2.trans e3) n, upd_same, ?_, .cons ⟨na, exn _ _ ra3⟩ (.cons ⟨fresh_back e2 nb, exn _ _ rb⟩ .nil)⟩
    simp only [List.nodup_cons, List.mem_cons, List.not_mem_nil, not_or, or_false]
    exact ⟨⟨fun z => n2 z.symm, fun z => n3 z.symm⟩, n1, not_false, List.nodup_nil⟩⟩
theorem en_ll3 {td : TE} {xs ys zs : List Int} (ha : EvN K ta σ H (.l (il xs))) (hb : EvN K tb σ H (.l (il ys))) (hd : EvN K td σ H (.l (il zs))) : EvN K (tLst (tCons ta (tCons tb (tCons td tNil)))) σ H (.ll (([xs, ys, zs] : List (List Int)).map il)) := fun H1 e1 _ q =>
  ha H1 e1 _ fun x H2 e2 ⟨a, hx, na, ra⟩ => hb H2 (e1.trans e2) _ fun y H3 e3 ⟨b, hy, nb, rb⟩ => hd H3 ((e1.trans e2).trans e3) _ fun z H4 e4 ⟨c, hz, nc, rc⟩ => ⟨Nat.le_of_ble_eq_true rfl, fun p n => by
    have ra3 := e3 _ _ ra
    have ra4 := e4 _ _ ra3
    have rb4 := e4 _ _ rb
    have n1 : a ≠ b := ne_of_none ra nb
    have n4 : a ≠ c := ne_of_none ra3 nc
    have n5 : b ≠ c := ne_of_none rb nc
    have n2 : a ≠ p := ne_of_none ra4 n
    have n3 : b ≠ p := ne_of_none rb4 n
    have n6 : c ≠ p := ne_of_none rc n
    have exn : Ex H4 (upd H4 p (.lst [x, y, z])) := Ex.new n
    subst hx
    subst hy
    subst hz
    refine q _ _ (((e2.trans e3).trans e4).trans exn) ⟨p, [a, b, c], rfl, fresh_back ((e2.trans e3).trans e4) n, upd_same, ?_, .cons ⟨na, exn _ _ ra4⟩ (.cons ⟨fresh_back e2 nb, exn _ _ rb4⟩ (.cons ⟨fresh_back (e2.trans e3) nc, exn _ _ rc⟩ .nil))⟩
    simp only [List.nodup_cons, List.mem_cons, List.not_mem_nil, not_or, or_false]
    exact ⟨⟨fun z => n2 z.symm, fun z => n3 z.symm, fun z => n6 z.symm⟩, ⟨n1, n4⟩, n5, not_false, List.nodup_nil⟩⟩
theorem ed_llv {ta : TA} {ps : List Addr} {xss : List (List V)} (h : EvA ta σ H (ps.map V.ref)) (r : Paired (fun q xs => H q = some (.lst xs)) ps xss) (hz : (ps.map V.ref).length ≤ 100000) : EvD K (tLst ta) σ H (.ll xss) := fun H1 e _ q =>
  h H1 e _ fun H2 e2 => ⟨sz_of hz, fun p n => q _ _ (e2.trans (Ex.new n)) ⟨p, ps, rfl, upd_same, paired_imp (fun _ _ z => (Ex.new n) _ _ (e2 _ _ (e _ _ z))) r⟩⟩
theorem paired_at {α β : Type} {F : α → β → Prop} : ∀ {l : List α} {m : List β} {i : Nat} {y : β}, Paired F l m → m[i]? = some y → ∃ x, l[i]? = some x ∧ F x y
  | _, _, 0, _, .cons a _, h => by cases h; exact ⟨_, rfl, a⟩
  | _, _, i + 1, _, .cons _ b, h => paired_at (i := i) b h
  | _, _, _, _, .nil, h => by simp at h
theorem ed_ixLL {xss : List (List Int)} {i : Int} (ha : EvD K ta σ H (.ll (xss.map il))) (hb : Ev tb σ H (.int i)) (h : 0 ≤ i ∧ i < xss.length) : EvD K (tOp (rIxL K) ta tb) σ H (.l (il (xss.getD i.toNat []))) := fun H1 e1 Q q =>
  ha H1 e1 _ fun u H2 e2 ⟨a, ps, hu, hx, hp⟩ => hb H2 (e1.trans e2) _ fun H3 e3 => by
    have hj : i.toNat < xss.length := by omega
    have hg : (xss.map il)[i.toNat]? = some (il (xss.getD i.toNat [])) := by
      rw [List.getElem?_map, List.getD_eq_getElem?_getD, List.getElem?_eq_getElem hj]
      rfl
    obtain ⟨c, hc, hr⟩ := paired_at hp hg
    refine ⟨a, ps.map V.ref, i, .ref c, hu, rfl, sq_of (e3 _ _ hx), at_of (j := i.toNat) (by omega) ?_, q _ H3 (e2.trans e3) ⟨c, rfl, e3 _ _ hr⟩⟩
    rw [List.getElem?_map, hc]
    rfl
theorem ev_eqB {a b : Bool} (ha : Ev ta σ H (.bl a)) (hb : Ev tb σ H (.bl b)) : Ev (tOp rEq ta tb) σ H (.bl (decide (a = b))) := by
  have g := ev_op ha hb (rv_eq (H := H) (x := .bl a) (y := .bl b) rfl)
  have e : decide ((V.bl a) = V.bl b) = decide (a = b) := by simp
  rw [e] at g
  exact g
theorem ev_neB {a b : Bool} (ha : Ev ta σ H (.bl a)) (hb : Ev tb σ H (.bl b)) : Ev (tOp rNe ta tb) σ H (.bl (!decide (a = b))) := by
  have g := ev_op ha hb (rv_ne (H := H) (x := .bl a) (y := .bl b) rfl)
  have e : decide ((V.bl a) = V.bl b) = decide (a = b) := by simp
  rw [e] at g
  exact g
theorem ev_eqT {xs ys : List Int} (ha : EvD K ta σ H (.t (il xs))) (hb : EvD K tb σ H (.t (il ys))) : Ev (tOp (rEqD K) ta tb) σ H (.bl (decide (xs = ys))) := by
  rw [← eqv_tt]
  exact ev_eqD ha hb (fl_il _) (fl_il _) (Nat.le_of_ble_eq_true rfl) (Nat.le_of_ble_eq_true rfl)
theorem ev_neT {xs ys : List Int} (ha : EvD K ta σ H (.t (il xs))) (hb : EvD K tb σ H (.t (il ys))) : Ev (tOp (rNeD K) ta tb) σ H (.bl (!decide (xs = ys))) := by
  rw [← eqv_tt]
  exact ev_neD ha hb (fl_il _) (fl_il _) (Nat.le_of_ble_eq_true rfl) (Nat.le_of_ble_eq_true rfl)
theorem dec_pair {α β : Type} [DecidableEq α] [DecidableEq β] (a c : α) (b d : β) : (decide (a = c) && decide (b = d)) = decide ((a, b) = (c, d)) := by
  by_cases h : a = c <;> by_cases h' : b = d <;> simp [h, h']
theorem ev_neIT {p q : Int × List Int} (ha : EvD K ta σ H (.p (.v (.int p.1)) (.t (il p.2)))) (hb : EvD K tb σ H (.p (.v (.int q.1)) (.t (il q.2)))) : Ev (tOp (rNeD K) ta tb) σ H (.bl (!decide (p = q))) := by
  have g := ev_neD ha hb (by simp only [D.fl, flI, fl_il, Bool.and_self]) (by simp only [D.fl, flI, fl_il, Bool.and_self]) (Nat.le_of_ble_eq_true rfl) (Nat.le_of_ble_eq_true rfl)
  rw [eqv_pp, eqv_vv, eqv_tt, dec_pair] at g
  exact g
theorem ev_eqIT {p q : Int × List Int} (ha : EvD K ta σ H (.p (.v (.int p.1)) (.t (il p.2)))) (hb : EvD K tb σ H (.p (.v (.int q.1)) (.t (il q.2)))) : Ev (tOp (rEqD K) ta tb) σ H (.bl (decide (p = q))) := by
  have g := ev_eqD ha hb (by simp only [D.fl, flI, fl_il, Bool.and_self]) (by simp only [D.fl, flI, fl_il, Bool.and_self]) (Nat.le_of_ble_eq_true rfl) (Nat.le_of_ble_eq_true rfl)
  rw [eqv_pp, eqv_vv, eqv_tt, dec_pair] at g
  exact g
theorem fl_lss (xss : List (List Int)) : (xss.map il).all (fun xs => xs.all flI) = true := by
  rw [List.all_map]
  exact List.all_eq_true.mpr fun x _ => fl_il x
theorem ev_neLL {xss yss : List (List Int)} (ha : EvD K ta σ H (.ll (xss.map il))) (hb : EvD K tb σ H (.ll (yss.map il))) : Ev (tOp (rNeD K) ta tb) σ H (.bl (!decide (xss = yss))) := by
  rw [← eqv_llll]
  exact ev_neD ha hb (fl_lss _) (fl_lss _) (Nat.le_of_ble_eq_true rfl) (Nat.le_of_ble_eq_true rfl)
theorem fl_op : ∀ o, (dOP o).fl = true
  | none => rfl
  | some q => by simp only [dOP, D.fl, fl_il, Bool.and_self]
theorem dsz_op : ∀ o, (dOP o).dsz ≤ 64
  | none => Nat.le_of_ble_eq_true rfl
  | some q => Nat.le_of_ble_eq_true rfl
theorem eqv_op : ∀ o o' : Option (List Int × List Int), PyData.eqv (dOP o).py (dOP o').py = decide (o = o')
  | none, none => by simp [dOP, D.py, vpy, PyData.eqv]
  | none, some _ => by simp [dOP, D.py, vpy, PyData.eqv]
  | some _, none => by simp [dOP, D.py, vpy, PyData.eqv]
  | some p, some q => by
    show PyData.eqv (D.p (.l (il p.1)) (.l (il p.2))).py (D.p (.l (il q.1)) (.l (il q.2))).py = decide (some p = some q)
    rw [eqv_pp, eqv_ll, eqv_ll]
    obtain ⟨p1, p2⟩ := p
    obtain ⟨q1, q2⟩ := q
    by_cases h : p1 = q1 <;> by_cases h' : p2 = q2 <;> simp [h, h']
theorem ev_neOP {o o' : Option (List Int × List Int)} (ha : EvD K ta σ H (dOP o)) (hb : EvD K tb σ H (dOP o')) : Ev (tOp (rNeD K) ta tb) σ H (.bl (!decide (o = o'))) := by
  rw [← eqv_op]
  exact ev_neD ha hb (fl_op _) (fl_op _) (dsz_op _) (dsz_op _)
theorem ev_eqOP {o o' : Option (List Int × List Int)} (ha : EvD K ta σ H (dOP o)) (hb : EvD K tb σ H (dOP o')) : Ev (tOp (rEqD K) ta tb) σ H (.bl (decide (o = o'))) := by
  rw [← eqv_op]
  exact ev_eqD ha hb (fl_op _) (fl_op _) (dsz_op _) (dsz_op _)
theorem ed_opN (h : EvD K te σ H (.v .non)) : EvD K te σ H (dOP none) := h
theorem ed_opS {q : List Int × List Int} (h : EvD K te σ H (.p (.l (il q.1)) (.l (il q.2)))) : EvD K te σ H (dOP (some q)) := h
end
theorem iter_snoc_len {f : Nat → List Int → List Int} {a : List Int} (h : ∀ i st, ∃ x, f i st = st ++ [x]) : ∀ n, (iter f a n).length = a.length + n
  | 0 => rfl
  | n + 1 => by
    obtain ⟨x, hx⟩ := h n (iter f a n)
    rw [iter_succ, hx, List.length_append, iter_snoc_len h n]
    rfl
theorem iter_len {f : Nat → List Int → List Int} {a : List Int} (h : ∀ i st, (f i st).length = st.length) : ∀ n, (iter f a n).length = a.length
  | 0 => rfl
  | n + 1 => by rw [iter_succ, h, iter_len h n]
theorem dropLast_lt {x : List Int} (h : ¬ x = []) : x.dropLast.length < x.length := by
  rw [List.length_dropLast]
  have : x.length ≠ 0 := fun z => h (List.length_eq_zero_iff.mp z)
  omega
section
variable {K : PySem.W.Frag} {σ : L2.St} {H H0 H' : Hp} {ta tb te tl ty td tv : TE} {x y : V} {d e : D} {u : V} {D' : Ends} {tz tu : TS}
theorem s_forTI {a : Addr} {ns : List Int} {j : Nat} (h : Ev tl σ H (.ref a)) (hx : H a = some (.tup (il ns))) (Pv : Nat → L2.St → Hp → Prop) (h0 : ∀ H1, Ex H H1 → Pv 0 σ H1) (hl : ∀ i σ' H', Pv i σ' H' → H' a = some (.tup (il ns)))
    (hs : ∀ (i : Nat) (x : Int) σ' H', ns[i]? = some x → Pv i σ' H' → tu { D' with nx := Pv (i + 1), ct := Pv (i + 1), bk := D'.nx } (σ'.set j (some (.int x))) H') (hd : ∀ σ' H', Pv ns.length σ' H' → D'.nx σ' H') : tFor (iTup K tl) (gName j) tu D' σ H :=
  s_forT h (st_of hx) Pv h0 (fun i σ' H' _ p => st_of (hl i σ' H' p)) (fun i x σ' H' hi p => by
    rw [List.getElem?_map] at hi
    cases hn : ns[i]? with
    | none => rw [hn] at hi; cases hi
    | some n =>
      rw [hn] at hi
      cases hi
      exact hs i n σ' H' hn p) (fun σ' H' p => hd σ' H' (by rw [List.length_map] at p; exact p))
theorem q_forTI {a : Addr} {ns : List Int} {j : Nat} (h : Ev tl σ H (.ref a)) (hx : H a = some (.tup (il ns))) (Pv : Nat → L2.St → Hp → Prop) (h0 : ∀ H1, Ex H H1 → Pv 0 σ H1) (hl : ∀ i σ' H', Pv i σ' H' → H' a = some (.tup (il ns)))
    (hs : ∀ (i : Nat) (x : Int) σ' H', ns[i]? = some x → Pv i σ' H' → tu { D' with nx := Pv (i + 1), ct := Pv (i + 1), bk := tz D' } (σ'.set j (some (.int x))) H') (hd : ∀ σ' H', Pv ns.length σ' H' → tz D' σ' H') : tSeq (tFor (iTup K tl) (gName j) tu) tz D' σ H :=
  s_forTI (D' := { D' with nx := tz D' }) h hx Pv h0 hl hs hd
/-! a dict whose keys are the numbers met -/
def dct (l : List Int) : List (Key × V) := l.map fun n => (Sum.inl n, V.bl true)
theorem dct_val (n : Int) : ∀ l : List Int, (valV (dct l) (Sum.inl n)).isSome = decide (n ∈ l)
  | [] => rfl
  | m :: l => by
    have ih := dct_val n l
    show (valV ((Sum.inl m, V.bl true) :: dct l) (Sum.inl n)).isSome = _
    by_cases h : m = n
    · rw [valV_pos (congrArg Sum.inl h)]
      simp [h]
    · have h' : ¬ n = m := fun q => h q.symm
      rw [valV_neg (fun q => h (Sum.inl.inj q)), ih]
      simp [h']
theorem dct_put {n : Int} {l : List Int} (h : ¬ n ∈ l) : putK (dct l) (Sum.inl n) (V.bl true) = dct (l ++ [n]) := by
  have hv : valV (dct l) (Sum.inl n) = none := by
    have e := dct_val n l
    rw [decide_eq_false h] at e
    cases q : valV (dct l) (Sum.inl n) with
    | none => rfl
    | some v => rw [q] at e; cases e
  rw [putK_new _ hv]
  unfold dct
  rw [List.map_append]
  rfl
theorem q_asgDict {i : Nat} (k : ∀ p H1, H p = none → Ex H H1 → H1 p = some (.dK (dct [])) → tz D' (σ.set i (some (.ref p))) H1) : tSeq (tAsg tDNewK (gName i)) tz D' σ H := fun p hp => k p _ hp (Ex.new hp) upd_same
theorem ev_din {n : Int} {p : Addr} {l : List Int} (hy : Ev ty σ H (.int n)) (hd : Ev td σ H (.ref p)) (h : H p = some (.dK (dct l))) : Ev (tDIn ty td) σ H (.bl (decide (n ∈ l))) := fun H1 e Q q =>
  hy H1 e _ fun H2 e2 => hd H2 (e.trans e2) _ fun H3 e3 => ⟨p, _, rfl, DGet.k (k := Sum.inl n) (e3 _ _ (e2 _ _ (e _ _ h))), by
    rw [dct_val]
    exact q H3 (e2.trans e3)⟩
theorem s_dput {n : Int} {p : Addr} {l : List Int} (hv : Ev tv σ H (.bl true)) (hd : Ev td σ H (.ref p)) (hy : Ev ty σ H (.int n)) (h : H p = some (.dK (dct l))) (hn : ¬ n ∈ l) (hz : l.length < 100000) (k : ∀ H1, But p H H1 → H1 p = some (.dK (dct (l ++ [n]))) → D'.nx σ H1) : sDPut td ty tv D' σ H :=
  hv H (Ex.refl H) _ fun H1 e1 => hd H1 e1 _ fun H2 e2 => hy H2 (e1.trans e2) _ fun H3 e3 => ⟨p, _, rfl, DPut.k (k := Sum.inl n) (e3 _ _ (e2 _ _ (e1 _ _ h))) (sz_lt (by
    unfold dct
    rw [List.length_map]
    exact hz)), k _ (but_upd ((e1.trans e2).trans e3)) (by rw [upd_same, dct_put hn])⟩
end
/-- a row: different numbers from 1 to 250 -/
def RowOk (xs : List Int) : Prop := xs.Nodup ∧ (∀ x ∈ xs, 1 ≤ x ∧ x ≤ 250) ∧ xs.length ≤ 1000
end Kx

namespace Kx
/-! ### plain lists of numbers: trimming, places -/
theorem iter_invI {α : Type} {f : Nat → α → α} {a : α} {P : Nat → α → Prop} {n : Nat} (h0 : P 0 a) (hs : ∀ i st, i < n → P i st → P (i + 1) (f i st)) : P n (iter f a n) := by
  induction n with
  | zero => exact h0
  | succ n ih => exact hs n _ (Nat.lt_succ_self n) (ih fun i st hi => hs i st (Nat.lt_succ_of_lt hi))
theorem iter_snoc {f : Nat → List Int → List Int} {g : Nat → Int} (h : ∀ i st, f i st = st ++ [g i]) : ∀ n, iter f [] n = (List.range n).map g
  | 0 => rfl
  | n + 1 => by rw [iter_succ, h, iter_snoc h n, List.range_succ, List.map_append]; rfl
/-- the number at a place, 0 beyond -/
def co (xs : List Int) (n : Nat) : Int := xs.getD n 0
theorem gi_co (xs : List Int) (i : Int) : gi xs i = co xs i.toNat := rfl
theorem gi_nat (xs : List Int) (i : Nat) : gi xs (i : Int) = co xs i := by rw [gi_co, Int.toNat_natCast]
theorem co_nil (n : Nat) : co [] n = 0 := by simp [co]
theorem co_ge {xs : List Int} {n : Nat} (h : xs.length ≤ n) : co xs n = 0 := by
  unfold co
  rw [List.getD_eq_getElem?_getD, List.getElem?_eq_none h]
  rfl
theorem co_lt {xs : List Int} {n : Nat} (h : n < xs.length) : xs[n]? = some (co xs n) := by
  unfold co
  rw [List.getD_eq_getElem?_getD, List.getElem?_eq_getElem h]
  rfl
theorem co_zero {x : Int} {xs : List Int} : co (x :: xs) 0 = x := rfl
theorem co_succ {x : Int} {xs : List Int} {n : Nat} : co (x :: xs) (n + 1) = co xs n := by simp [co]
theorem co_app (xs ys : List Int) (n : Nat) : co (xs ++ ys) n = if n < xs.length then co xs n else co ys (n - xs.length) := by
  unfold co
  rw [List.getD_eq_getElem?_getD, List.getD_eq_getElem?_getD, List.getD_eq_getElem?_getD]
  split
  · rw [List.getElem?_append_left (by assumption)]
  · rw [List.getElem?_append_right (by omega)]
theorem co_take (xs : List Int) (k n : Nat) : co (xs.take k) n = if n < k then co xs n else 0 := by
  unfold co
  rw [List.getD_eq_getElem?_getD, List.getD_eq_getElem?_getD, List.getElem?_take]
  split <;> rfl
theorem co_map {g : Nat → Int} {m n : Nat} : co ((List.range m).map g) n = if n < m then g n else 0 := by
  unfold co
  rw [List.getD_eq_getElem?_getD, List.getElem?_map]
  split
  · rw [List.getElem?_range (by assumption)]
    rfl
  · rw [List.getElem?_eq_none (by rw [List.length_range]; omega)]
    rfl
theorem co_si (xs : List Int) (i v : Int) (n : Nat) : co (si xs i v) n = if n = i.toNat ∧ n < xs.length then v else co xs n := by
  unfold co si
  rw [List.getD_eq_getElem?_getD, List.getD_eq_getElem?_getD, List.getElem?_set]
  by_cases h : i.toNat = n
  · subst h
    by_cases h2 : i.toNat < xs.length
    · rw [if_pos rfl, if_pos h2, if_pos ⟨rfl, h2⟩]
      rfl
    · rw [if_pos rfl, if_neg h2, if_neg (fun z => h2 z.2), List.getElem?_eq_none (by omega)]
  · rw [if_neg h, if_neg (fun z => h z.1.symm)]
theorem co_zs (k : Int) (n : Nat) : co (zs k) n = 0 := by
  unfold co zs
  rw [List.getD_eq_getElem?_getD, List.getElem?_replicate]
  split <;> rfl
theorem co_rests {xs : List Int} (h : Rests xs) (n : Nat) : 0 ≤ co xs n ∧ co xs n < 251 := by
  have := rests_gi h n
  rw [gi_nat] at this
  exact this
theorem list_ext_co {xs ys : List Int} (hl : xs.length = ys.length) (h : ∀ n, n < xs.length → co xs n = co ys n) : xs = ys := by
  apply List.ext_getElem?
  intro n
  by_cases c : n < xs.length
  · rw [co_lt c, co_lt (hl ▸ c), h n c]
  · rw [List.getElem?_eq_none (by omega), List.getElem?_eq_none (by omega)]
/-- no nought at the end -/
def Tr (xs : List Int) : Prop := xs = [] ∨ co xs (xs.length - 1) ≠ 0
theorem tr_ext {xs ys : List Int} (hx : Tr xs) (hy : Tr ys) (h : ∀ n, co xs n = co ys n) : xs = ys := by
  have hl : xs.length = ys.length := by
    rcases Nat.lt_trichotomy xs.length ys.length with c | c | c
    · rcases hy with e | e
      · rw [e] at c; simp at c
      · exact absurd ((h _).symm.trans (co_ge (by omega))) e
    · exact c
    · rcases hx with e | e
      · rw [e] at c; simp at c
      · exact absurd ((h _).trans (co_ge (by omega))) e
  exact list_ext_co hl fun n _ => h n
theorem gl_co {xs : List Int} (h : xs ≠ []) : gl xs = co xs (xs.length - 1) := by
  unfold gl co
  rw [List.getLastD_eq_getLast?, List.getLast?_eq_getElem?, List.getD_eq_getElem?_getD]
theorem tr_gl {xs : List Int} (h : xs = [] ∨ gl xs ≠ 0) : Tr xs := by
  rcases h with h | h
  · exact .inl h
  · by_cases c : xs = []
    · exact .inl c
    · exact .inr (by rw [← gl_co c]; exact h)
/-- without the noughts at the end -/
def trim (xs : List Int) : List Int := xs.take (whl (fun n => decide (0 < n) && decide (co xs (n - 1) = 0)) (fun n => n - 1) xs.length xs.length)
theorem trim_step {xs : List Int} : ∀ m, m ≤ xs.length → (∀ k, m ≤ k → co xs k = 0) → (xs.take (whl (fun n => decide (0 < n) && decide (co xs (n - 1) = 0)) (fun n => n - 1) m m)).length ≤ m ∧ Tr (xs.take (whl (fun n => decide (0 < n) && decide (co xs (n - 1) = 0)) (fun n => n - 1) m m)) ∧ ∀ n, co (xs.take (whl (fun n => decide (0 < n) && decide (co xs (n - 1) = 0)) (fun n => n - 1) m m)) n = co xs n
  | 0, _, h => by
    refine ⟨?_, .inl ?_, fun n => ?_⟩
    · show (xs.take 0).length ≤ 0
      simp
    · show xs.take 0 = []
      simp
    · show co (xs.take 0) n = co xs n
      rw [h n (Nat.zero_le n)]
      simp [co_nil]
  | m + 1, hm, h => by
    by_cases c : co xs m = 0
    · have e : whl (fun n => decide (0 < n) && decide (co xs (n - 1) = 0)) (fun n => n - 1) (m + 1) (m + 1) = whl (fun n => decide (0 < n) && decide (co xs (n - 1) = 0)) (fun n => n - 1) m m := by
        show (if (decide (0 < m + 1) && decide (co xs (m + 1 - 1) = 0)) = true then _ else _) = _
        rw [if_pos (by rw [decide_eq_true (Nat.succ_pos m), decide_eq_true (show co xs (m + 1 - 1) = 0 from c)]; rfl)]
        rfl
      rw [e]
      obtain ⟨h1, h2, h3⟩ := trim_step (xs := xs) m (by omega) (fun k hk => by
        by_cases q : k = m
        · rw [q]; exact c
        · exact h k (by omega))
      exact ⟨Nat.le_succ_of_le h1, h2, h3⟩
    · have e : whl (fun n => decide (0 < n) && decide (co xs (n - 1) = 0)) (fun n => n - 1) (m + 1) (m + 1) = m + 1 := by
        show (if (decide (0 < m + 1) && decide (co xs (m + 1 - 1) = 0)) = true then _ else _) = _
        rw [if_neg (by rw [decide_eq_false (show ¬ co xs (m + 1 - 1) = 0 from c), Bool.and_false]; decide)]
      rw [e]
      have hl : (xs.take (m + 1)).length = m + 1 := by rw [List.length_take]; omega
      refine ⟨Nat.le_of_eq hl, .inr ?_, fun n => ?_⟩
      · rw [hl, co_take, if_pos (by omega)]
        exact c
      · rw [co_take]
        split
        · rfl
        · exact (h n (by omega)).symm
theorem trim_tr (xs : List Int) : Tr (trim xs) := (trim_step xs.length (Nat.le_refl _) (fun _ hk => co_ge hk)).2.1
theorem trim_co (xs : List Int) (n : Nat) : co (trim xs) n = co xs n := (trim_step xs.length (Nat.le_refl _) (fun _ hk => co_ge hk)).2.2 n
theorem trim_len (xs : List Int) : (trim xs).length ≤ xs.length := (trim_step xs.length (Nat.le_refl _) (fun _ hk => co_ge hk)).1
theorem trim_id {xs : List Int} (h : Tr xs) : trim xs = xs := tr_ext (trim_tr xs) h (trim_co xs)
theorem trim_eq {xs ys : List Int} (h : Tr ys) (hc : ∀ n, co ys n = co xs n) : ys = trim xs := tr_ext h (trim_tr xs) fun n => (hc n).trans (trim_co xs n).symm
theorem trim_rests {xs : List Int} (h : Rests xs) : Rests (trim xs) := rests_sub h fun _ hx => List.mem_of_mem_take hx
/-- the law's own way: the last one is dropped while it is 0 -/
theorem drop_end {c : List Int → Bool} {f : List Int → List Int} (hc : ∀ x, c x = ((!decide (x = [])) && decide (gl x = 0))) (hf : ∀ x, f x = x.dropLast) : ∀ (n : Nat) (xs : List Int), xs.length ≤ n → whl c f n xs = trim xs
  | 0, xs, h => by
    have e : xs = [] := List.length_eq_zero_iff.mp (by omega)
    rw [e]
    rfl
  | n + 1, xs, h => by
    show (if c xs = true then whl c f n (f xs) else xs) = trim xs
    by_cases e : xs = []
    · rw [if_neg (by rw [hc, decide_eq_true e]; simp), e]
      rfl
    · by_cases g : gl xs = 0
      · rw [if_pos (by rw [hc, decide_eq_false e, decide_eq_true g]; rfl), hf, drop_end hc hf n xs.dropLast (by have := dropLast_lt e; omega)]
        refine tr_ext (trim_tr _) (trim_tr _) fun k => ?_
        rw [trim_co, trim_co, List.dropLast_eq_take, co_take]
        split
        · rfl
        · by_cases q : k = xs.length - 1
          · rw [q, ← gl_co e]; exact g.symm
          · exact (co_ge (by omega)).symm
      · rw [if_neg (by rw [hc, decide_eq_false g, Bool.and_false]; decide)]
        exact (trim_id (tr_gl (.inr g))).symm
end Kx

namespace Pf
open PySem PySem.Spec PyProof.Rows L2 Evl Kx
local macro_rules | `(tactic| walk_at "kside") => `(tactic| first | assumption | omega | (constructor <;> first | assumption | omega) | (simp only [List.length_cons, List.length_nil, List.length_append, List.length_map, zs_len, si_len, rng_len] at *; omega) | exact Nat.le_trans (List.length_filter_le _ _) (by simp only [rng_len]; omega))
local macro_rules | `(tactic| walk_at "kmul") => `(tactic| first | exact .inr ⟨by omega, by omega⟩ | exact .inl ⟨by omega, by omega⟩)
def topS (i : Nat) : Stmt := PySem.Challenge.pw_sumsync_k08_series.main.body.getD i (.Pass ⟨0, 0, 0, 0⟩)
abbrev s__law_cell_at : Stmt := topS 8
abbrev s__law_row : Stmt := topS 10
abbrev s__law_sums : Stmt := topS 11
abbrev s_power : Stmt := topS 2
abbrev s_inverse : Stmt := topS 3
abbrev s_series : Stmt := topS 5
abbrev s__law_whole : Stmt := topS 7
abbrev s__law_rests : Stmt := topS 9
abbrev s__law_times : Stmt := topS 12
abbrev s_law : Stmt := topS 13
theorem sc__law_cell_at : FnScope ["_law_script", "_law_k"] ["_law_script", "_law_k"] (defScope s__law_cell_at) := ⟨rfl, rfl, rfl, by decide +kernel, rfl, by decide +kernel, by decide +kernel⟩
theorem sc__law_row : FnScope ["_law_script", "_law_at", "_law_most", "_law_cell", "_law_step", "_law_begin", "_law_found", "_law_k", "_law_number"] ["_law_script", "_law_at", "_law_most"] (defScope s__law_row) := ⟨rfl, rfl, rfl, by decide +kernel, rfl, by decide +kernel, by decide +kernel⟩
theorem sc__law_sums : FnScope ["_law_row_here", "_law_many", "_law_found", "_law_k", "_law_number", "_law_factor"] ["_law_row_here", "_law_many"] (defScope s__law_sums) := ⟨rfl, rfl, rfl, by decide +kernel, rfl, by decide +kernel, by decide +kernel⟩
theorem sc_power : FnScope ["rest", "many", "found", "turn"] ["rest", "many"] (defScope s_power) := ⟨rfl, rfl, rfl, by decide +kernel, rfl, by decide +kernel, by decide +kernel⟩
theorem sc_inverse : FnScope ["rest"] ["rest"] (defScope s_inverse) := ⟨rfl, rfl, rfl, by decide +kernel, rfl, by decide +kernel, by decide +kernel⟩
theorem sc_series : FnScope ["sums", "found", "k", "total", "i"] ["sums"] (defScope s_series) := ⟨rfl, rfl, rfl, by decide +kernel, rfl, by decide +kernel, by decide +kernel⟩
theorem sc__law_whole : FnScope ["_law_found"] ["_law_found"] (defScope s__law_whole) := ⟨rfl, rfl, rfl, by decide +kernel, rfl, by decide +kernel, by decide +kernel⟩
theorem sc__law_rests : FnScope ["_law_found", "_law_due", "_law_k"] ["_law_found", "_law_due"] (defScope s__law_rests) := ⟨rfl, rfl, rfl, by decide +kernel, rfl, by decide +kernel, by decide +kernel⟩
theorem sc__law_times : FnScope ["_law_one", "_law_other", "_law_found", "_law_k", "_law_m"] ["_law_one", "_law_other"] (defScope s__law_times) := ⟨rfl, rfl, rfl, by decide +kernel, rfl, by decide +kernel, by decide +kernel⟩
theorem sc_law : FnScope ["_law_script", "_law_many", "_law_row_here", "_law_sums_here", "_law_is_free", "_law_handed", "_law_found", "_law_k", "_law_total", "_law_due", "_law_number", "_law_i"] ["_law_script"] (defScope s_law) := ⟨rfl, rfl, rfl, by decide +kernel, rfl, by decide +kernel, by decide +kernel⟩
structure Txt (K : PySem.W.Frag) (mg : Str → Option Value) (fa : Nat → Addr) (fd : Nat → FuncData) : Prop where
  F__law_cell_at : Fun K "_law_cell_at" "_law_cell_at" s__law_cell_at (fa 0) (fd 0)
  b__law_cell_at : Binds K (fd 0) ["_law_script", "_law_k"] []
  g__law_cell_at : mg "_law_cell_at" = some (.ref (fa 0))
  F__law_row : Fun K "_law_row" "_law_row" s__law_row (fa 1) (fd 1)
  b__law_row : Binds K (fd 1) ["_law_script", "_law_at", "_law_most"] []
  g__law_row : mg "_law_row" = some (.ref (fa 1))
  F__law_sums : Fun K "_law_sums" "_law_sums" s__law_sums (fa 2) (fd 2)
  b__law_sums : Binds K (fd 2) ["_law_row_here", "_law_many"] []
  g__law_sums : mg "_law_sums" = some (.ref (fa 2))
  F_power : Fun K "power" "power" s_power (fa 3) (fd 3)
  b_power : Binds K (fd 3) ["rest", "many"] []
  g_power : mg "power" = some (.ref (fa 3))
  F_inverse : Fun K "inverse" "inverse" s_inverse (fa 4) (fd 4)
  b_inverse : Binds K (fd 4) ["rest"] []
  g_inverse : mg "inverse" = some (.ref (fa 4))
  F_series : Fun K "series" "series" s_series (fa 5) (fd 5)
  b_series : Binds K (fd 5) ["sums"] []
  g_series : mg "series" = some (.ref (fa 5))
  F__law_whole : Fun K "_law_whole" "_law_whole" s__law_whole (fa 6) (fd 6)
  b__law_whole : Binds K (fd 6) ["_law_found"] []
  g__law_whole : mg "_law_whole" = some (.ref (fa 6))
  F__law_rests : Fun K "_law_rests" "_law_rests" s__law_rests (fa 7) (fd 7)
  b__law_rests : Binds K (fd 7) ["_law_found", "_law_due"] []
  g__law_rests : mg "_law_rests" = some (.ref (fa 7))
  F__law_times : Fun K "_law_times" "_law_times" s__law_times (fa 8) (fd 8)
  b__law_times : Binds K (fd 8) ["_law_one", "_law_other"] []
  g__law_times : mg "_law_times" = some (.ref (fa 8))
  F_law : Fun K "law" "law" s_law (fa 9) (fd 9)
  b_law : Binds K (fd 9) ["_law_script"] []
  g_law : mg "law" = some (.ref (fa 9))
  n_bool : mg "bool" = none
  n_int : mg "int" = none
  n_isinstance : mg "isinstance" = none
  n_len : mg "len" = none
  n_list : mg "list" = none
  n_range : mg "range" = none
  n_sum : mg "sum" = none
  v_PRIME : ∃ t, mg "PRIME" = some (.int 251 t)
def m_law_cell_at (v_script : List Int) (v_k : Int) : Int := (bif decide (v_k < (v_script.length : Int)) then gi v_script v_k else 0)
def m_law_row_J1 (v_begin_9 : Int) (i13 : Nat) (v_number_18 : Int) : Int := (bif decide (v_begin_9 % 3 = 1) then (let v_number_25 : Int := 1 + ((((v_begin_9 / 3 + (((i13 : Int) * (i13 : Int)) * 7919) + ((i13 : Int) * 48271)) * 69621) % 1000003) % 250); v_number_25) else v_number_18)
def m_law_row_J2 (v_script : List Int) (v_at : Int) (v_begin_9 : Int) (i13 : Nat) (v_number_19 : Int) : Int := (bif decide (v_begin_9 % 3 = 2) then (let v_number_35 : Int := 1 + ((m_law_cell_at v_script (8 + (20 * v_at) + (i13 : Int))) % 250); v_number_35) else v_number_19)
def m_law_row_L1s (v_script : List Int) (v_at : Int) (v_step_6 : Int) (v_begin_9 : Int) (i13 : Nat) (v_found_14 : List Int) : (List Int) := (let v_number_18 : Int := 1 + ((v_begin_9 + (v_step_6 * (i13 : Int))) % 250); (let v_number_19 : Int := m_law_row_J1 v_begin_9 i13 v_number_18; (let v_number_29 : Int := m_law_row_J2 v_script v_at v_begin_9 i13 v_number_19; (bif !decide (v_number_29 ∈ v_found_14) then v_found_14 ++ [v_number_29] else v_found_14))))
def m_law_row_L1 (v_script : List Int) (v_at : Int) (v_most : Int) (v_cell_3 : Int) (v_step_6 : Int) (v_begin_9 : Int) : (List Int) := iter (m_law_row_L1s v_script v_at v_step_6 v_begin_9) [] ((v_cell_3 % (v_most + 1) : Int).toNat)
def m_law_row (v_script : List Int) (v_at : Int) (v_most : Int) : List Int := (let v_cell_3 : Int := m_law_cell_at v_script v_at; (let v_step_6 : Int := gi [1, 3, 7, 9, 11, 13, 37, 121, 249, 97] ((v_cell_3 / (v_most + 1)) % 10); (let v_begin_9 : Int := (v_cell_3 / (v_most + 1)) / 10; (let v_found_51 : List Int := (m_law_row_L1 v_script v_at v_most v_cell_3 v_step_6 v_begin_9); v_found_51))))
theorem law_row_inv (s : List Int) (a b c : Int) (n : Nat) : (iter (m_law_row_L1s s a b c) [] n).Nodup ∧ (∀ x ∈ iter (m_law_row_L1s s a b c) [] n, 1 ≤ x ∧ x ≤ 250) ∧ (iter (m_law_row_L1s s a b c) [] n).length ≤ n := by
  refine iter_invI (P := fun n (st : List Int) => st.Nodup ∧ (∀ x ∈ st, 1 ≤ x ∧ x ≤ 250) ∧ st.length ≤ n) ⟨List.nodup_nil, fun _ h => (nomatch h), Nat.le_refl _⟩ (fun i st _ h => ?_)
  unfold m_law_row_L1s
  dsimp only
  generalize hx : m_law_row_J2 s a c i (m_law_row_J1 c i (1 + (c + b * (i : Int)) % 250)) = x
  have hb : 1 ≤ x ∧ x ≤ 250 := by
    rw [← hx]
    unfold m_law_row_J2
    cases decide (c % 3 = 2)
    · simp only [cond_false]
      unfold m_law_row_J1
      cases decide (c % 3 = 1)
      · simp only [cond_false]; omega
      · simp only [cond_true]; omega
    · simp only [cond_true]; omega
  cases hd : (!decide (x ∈ st)) with
  | false =>
    simp only [cond_false]
    exact ⟨h.1, h.2.1, by have := h.2.2; omega⟩
  | true =>
    simp only [cond_true]
    have hn : ¬ x ∈ st := by simpa using hd
    refine ⟨?_, fun y hy => ?_, ?_⟩
    · rw [List.nodup_append]
      exact ⟨h.1, by simp, fun y hy z hz => by
        rw [List.mem_singleton.mp hz]
        exact fun q => hn (q ▸ hy)⟩
    · rcases List.mem_append.mp hy with q | q
      · exact h.2.1 y q
      · rw [List.mem_singleton.mp q]; exact hb
    · rw [List.length_append]
      have := h.2.2
      simp only [List.length_cons, List.length_nil]
      omega
theorem law_row_ok (s : List Int) (a m : Int) (h : 0 ≤ m ∧ m ≤ 250) : RowOk (m_law_row s a m) ∧ (m_law_row s a m).length ≤ m := by
  have h2 := law_row_inv s a (gi [1, 3, 7, 9, 11, 13, 37, 121, 249, 97] (m_law_cell_at s a / (m + 1) % 10)) (m_law_cell_at s a / (m + 1) / 10) (m_law_cell_at s a % (m + 1)).toNat
  have h3 := Int.emod_lt_of_pos (m_law_cell_at s a) (show 0 < m + 1 by omega)
  have h4 := Int.emod_nonneg (m_law_cell_at s a) (show m + 1 ≠ 0 by omega)
  exact ⟨⟨h2.1, h2.2.1, by
    have := h2.2.2
    show (iter (m_law_row_L1s s a (gi [1, 3, 7, 9, 11, 13, 37, 121, 249, 97] (m_law_cell_at s a / (m + 1) % 10)) (m_law_cell_at s a / (m + 1) / 10)) [] (m_law_cell_at s a % (m + 1)).toNat).length ≤ 1000
    omega⟩, by
    have := h2.2.2
    show ((iter (m_law_row_L1s s a (gi [1, 3, 7, 9, 11, 13, 37, 121, 249, 97] (m_law_cell_at s a / (m + 1) % 10)) (m_law_cell_at s a / (m + 1) / 10)) [] (m_law_cell_at s a % (m + 1)).toNat).length : Int) ≤ m
    omega⟩
def m_law_sums_L1s  (i4 : Nat) (v_found_5 : List Int) : (List Int) := v_found_5 ++ [0]
def m_law_sums_L1 (v_many : Int) : (List Int) := iter m_law_sums_L1s [] ((v_many : Int).toNat)
def m_law_sums_L3s (v_number_18 : Int) (i21 : Nat) (st25 : Int × (List Int)) : Int × (List Int) := (let v_factor_27 : Int := (st25.1 * v_number_18) % 251; (v_factor_27, si st25.2 (i21 : Int) ((gi st25.2 (i21 : Int) + v_factor_27) % 251)))
def m_law_sums_L3 (v_many : Int) (v_found_17 : List Int) (v_number_18 : Int) : Int × (List Int) := iter (m_law_sums_L3s v_number_18) (1, v_found_17) ((v_many : Int).toNat)
def m_law_sums_L2s (v_many : Int) (v_found_17 : List Int) (v_number_18 : Int) : (List Int) := (let v_factor_36 : Int := (m_law_sums_L3 v_many v_found_17 v_number_18).1; (let v_found_37 : List Int := (m_law_sums_L3 v_many v_found_17 v_number_18).2; v_found_37))
def m_law_sums_L2 (v_row_here : List Int) (v_many : Int) (v_found_15 : List Int) : (List Int) := v_row_here.foldl (m_law_sums_L2s v_many) v_found_15
def m_law_sums (v_row_here : List Int) (v_many : Int) : List Int := (let v_found_15 : List Int := (m_law_sums_L1 v_many); (let v_found_44 : List Int := (m_law_sums_L2 v_row_here v_many v_found_15); v_found_44))
theorem law_sums_len3 (n : Int) (f : List Int) (i : Nat) : (iter (m_law_sums_L3s n) ((1, f) : Int × List Int) i).2.length = f.length :=
  iter_inv (P := fun (st : Int × List Int) => st.2.length = f.length) rfl (fun i st _ h => (si_len _ _ _).trans h)
theorem law_sums_len4 {n : Int} {f b : List Int} {i : Nat} {c : Int} (h : iter (m_law_sums_L3s n) ((1, f) : Int × List Int) i = (c, b)) : b.length = f.length := by
  have := law_sums_len3 n f i
  rw [h] at this
  exact this
theorem law_sums_len2 (many : Int) (f l : List Int) : (l.foldl (m_law_sums_L2s many) f).length = f.length :=
  fold_inv (P := fun (st : List Int) => st.length = f.length) l rfl (fun st x _ h => (law_sums_len3 x st many.toNat).trans h)
theorem law_sums_rests (row : List Int) (many : Int) : Rests (m_law_sums row many) := by
  show Rests (row.foldl (m_law_sums_L2s many) (iter m_law_sums_L1s [] many.toNat))
  refine fold_inv (P := Rests) row ?_ (fun st x _ h => ?_)
  · exact iter_inv (P := Rests) rests_nil (fun i st _ h => rests_app h (rests_cons (by decide) rests_nil))
  · show Rests (iter (m_law_sums_L3s x) ((1, st) : Int × List Int) many.toNat).2
    exact iter_inv (P := fun (q : Int × List Int) => Rests q.2) h (fun i q _ h2 => rests_si h2 (by omega))
theorem law_sums_length (row : List Int) (many : Int) : (m_law_sums row many).length = many.toNat :=
  (law_sums_len2 many (m_law_sums_L1 many) row).trans ((iter_snoc_len (f := m_law_sums_L1s) (fun i st => ⟨_, rfl⟩) _).trans (Nat.zero_add _))
def m_power_L1s (v_rest : Int) (i3 : Nat) (v_found_4 : Int) : Int := (let v_found_8 : Int := (v_found_4 * v_rest) % 251; v_found_8)
def m_power_L1 (v_rest : Int) (v_many : Int) : Int := iter (m_power_L1s v_rest) 1 ((v_many : Int).toNat)
def m_power (v_rest : Int) (v_many : Int) : Int := (let v_found_15 : Int := (m_power_L1 v_rest v_many); v_found_15)
theorem power_ok (v_rest v_many : Int) : 0 ≤ m_power v_rest v_many ∧ m_power v_rest v_many < 251 := by
  show 0 ≤ iter (m_power_L1s v_rest) 1 v_many.toNat ∧ iter (m_power_L1s v_rest) 1 v_many.toNat < 251
  refine iter_inv (P := fun z => 0 ≤ z ∧ z < 251) (by omega) (fun i st _ h => ?_)
  unfold m_power_L1s
  dsimp only
  omega
def m_inverse (v_rest : Int) : Int := m_power v_rest (251 - 2)
theorem inverse_ok (v_rest : Int) : 0 ≤ m_inverse v_rest ∧ m_inverse v_rest < 251 := power_ok _ _
def m_series_L1s (v_sums : List Int) (i4 : Nat) (v_found_5 : List Int) : (List Int) := (let v_total_11 : Int := ((rng 1 ((1 + (i4 : Int)) + 1)).map fun v_i_c7 => (gi v_sums (v_i_c7 - 1)) * (gi v_found_5 ((1 + (i4 : Int)) - v_i_c7))).sum; v_found_5 ++ [((0 - v_total_11) * (m_inverse (1 + (i4 : Int)))) % 251])
def m_series_L1 (v_sums : List Int) : (List Int) := iter (m_series_L1s v_sums) [1] (((v_sums.length : Int) + 1 - 1 : Int).toNat)
def m_series (v_sums : List Int) : List Int := (let v_found_20 : List Int := (m_series_L1 v_sums); v_found_20)
theorem series_len (s : List Int) : (m_series s).length = 1 + s.length := by
  have := iter_snoc_len (f := m_series_L1s s) (a := [1]) (fun i st => ⟨_, rfl⟩) ((s.length : Int) + 1 - 1).toNat
  rw [show ((s.length : Int) + 1 - 1).toNat = s.length by omega] at this
  show (iter (m_series_L1s s) [1] ((s.length : Int) + 1 - 1).toNat).length = _
  rw [show ((s.length : Int) + 1 - 1).toNat = s.length by omega]
  exact this
theorem series_rests (s : List Int) : Rests (m_series s) := by
  show Rests (iter (m_series_L1s s) [1] ((s.length : Int) + 1 - 1).toNat)
  refine iter_inv (P := Rests) (rests_cons (by decide) rests_nil) (fun i st _ h => ?_)
  refine rests_app h (rests_cons ?_ rests_nil)
  exact ⟨Int.emod_nonneg _ (by decide), Int.emod_lt_of_pos _ (by decide)⟩
def m_law_whole (v_found : Int) : Bool := true
def m_law_rests_L1b (v_found : List Int) (v_due : List Int) (i9 : Nat) : Option Bool := (bif (!(m_law_whole (gi v_found (i9 : Int)))) || (!decide (gi v_found (i9 : Int) = gi v_due (i9 : Int))) then some false else none)
def m_law_rests (v_found : List Int) (v_due : List Int) : Bool := (bif !decide ((v_found.length : Int) = (v_due.length : Int)) then false else (Option.getD (first (m_law_rests_L1b v_found v_due) (((v_due.length : Int) : Int).toNat)) true))
def m_law_times_L1s (v_one : List Int) (v_other : List Int) (i12 : Nat) (v_found_13 : List Int) : (List Int) := v_found_13 ++ [((((rng 0 (v_one.length : Int)).filter fun v_m_c15 => decide (0 ≤ (i12 : Int) - v_m_c15) && decide ((i12 : Int) - v_m_c15 < (v_other.length : Int))).map fun v_m_c15 => (gi v_one v_m_c15) * (gi v_other ((i12 : Int) - v_m_c15))).sum) % 251]
def m_law_times_L1 (v_one : List Int) (v_other : List Int) : (List Int) := iter (m_law_times_L1s v_one v_other) [] (((v_one.length : Int) + (v_other.length : Int) - 1 : Int).toNat)
def m_law_times (v_one : List Int) (v_other : List Int) : List Int := (bif (decide (v_one = [])) || (decide (v_other = [])) then [] else (let v_found_26 : List Int := (m_law_times_L1 v_one v_other); v_found_26))
def lcv (xs ys : List Int) (k : Nat) : Int := ((((rng 0 (xs.length : Int)).filter fun m => decide (0 ≤ (k : Int) - m) && decide ((k : Int) - m < (ys.length : Int))).map fun m => gi xs m * gi ys ((k : Int) - m)).sum) % 251
theorem law_times_eq (xs ys : List Int) : m_law_times xs ys = if xs = [] ∨ ys = [] then [] else (List.range (xs.length + ys.length - 1)).map (lcv xs ys) := by
  by_cases h : xs = [] ∨ ys = []
  · rw [if_pos h]
    exact cond_t (by simpa using h)
  · rw [if_neg h]
    have hf : ((decide (xs = [])) || (decide (ys = []))) = false := by simpa using h
    refine (cond_f hf).trans ?_
    show iter (m_law_times_L1s xs ys) [] ((xs.length : Int) + (ys.length : Int) - 1).toNat = _
    rw [show ((xs.length : Int) + (ys.length : Int) - 1).toNat = xs.length + ys.length - 1 by omega]
    exact iter_snoc (f := m_law_times_L1s xs ys) (fun _ _ => rfl) _
theorem law_times_rests (xs ys : List Int) : Rests (m_law_times xs ys) := by
  rw [law_times_eq]
  split
  · exact rests_nil
  · exact rests_map fun k _ => by unfold lcv; omega
theorem law_times_len (xs ys : List Int) : (m_law_times xs ys).length ≤ xs.length + ys.length - 1 := by
  rw [law_times_eq]
  split
  · simp
  · rw [List.length_map, List.length_range]; exact Nat.le_refl _
def m_law_J1 (v_script : List Int) (v_many_3 : Int) (v_sums_here_11 : List Int) (v_is_free_14 : Bool) : (List Int) := (bif v_is_free_14 then (let v_sums_here_24 : List Int := (rng 0 v_many_3).map fun v_k_c19 => (((m_law_cell_at v_script 2 + (7919 * v_k_c19)) * 48271) % 1000003) % 251; v_sums_here_24) else v_sums_here_11)
def m_law_L1b (v_sums_here_15 : List Int) (v_found_34 : List Int) (i44 : Nat) : Option Bool := (bif (!(m_law_whole (gi v_found_34 (i44 : Int)))) || (!(decide (0 ≤ gi v_found_34 (i44 : Int)) && decide (gi v_found_34 (i44 : Int) ≤ 250))) then some false else (let v_total_58 : Int := ((rng 0 (i44 : Int)).map fun v_i_c54 => (gi v_sums_here_15 v_i_c54) * (gi v_found_34 ((i44 : Int) - 1 - v_i_c54))).sum; (bif !decide (((i44 : Int) * (gi v_found_34 (i44 : Int)) + v_total_58) % 251 = 0) then some false else none)))
def m_law_L2s  (v_due_86 : List Int) (v_number_87 : Int) : (List Int) := (let v_due_91 : List Int := m_law_times v_due_86 [1, 251 - v_number_87]; v_due_91)
def m_law_L2 (v_row_here_7 : List Int) : (List Int) := v_row_here_7.foldl m_law_L2s [1]
def m_law (v_script : List Int) : Bool := (let v_many_3 : Int := 1 + ((m_law_cell_at v_script 0) % 12); (let v_row_here_7 : List Int := m_law_row v_script 1 14; (let v_sums_here_11 : List Int := m_law_sums v_row_here_7 v_many_3; (let v_is_free_14 : Bool := decide (((m_law_cell_at v_script 0) / 12) % 3 = 1); (let v_sums_here_15 : List Int := m_law_J1 v_script v_many_3 v_sums_here_11 v_is_free_14; (let v_found_34 : List Int := m_series v_sums_here_15; (bif (!decide ((v_found_34.length : Int) = v_many_3 + 1)) || (!(m_law_rests v_sums_here_15 v_sums_here_15)) then false else (Option.getD (first (m_law_L1b v_sums_here_15 v_found_34) ((v_many_3 + 1 : Int).toNat)) (bif v_is_free_14 then decide (gi v_found_34 0 = 1) else (let v_due_98 : List Int := (m_law_L2 v_row_here_7); m_law_rests v_found_34 ((v_due_98 ++ (zs v_many_3)).take (v_many_3 + 1).toNat)))))))))))
theorem law_J1_ok (s : List Int) (m : Int) (f : List Int) (b : Bool) (hf : Rests f) (hl : f.length = m.toNat) : Rests (m_law_J1 s m f b) ∧ (m_law_J1 s m f b).length = m.toNat := by
  unfold m_law_J1
  cases b
  · exact ⟨hf, hl⟩
  · refine ⟨rests_map fun k _ => by omega, ?_⟩
    show ((rng 0 m).map _).length = _
    rw [List.length_map, rng_len]
    omega
theorem law_due_inv (l : List Int) : Rests (l.foldl m_law_L2s [1]) ∧ (l.foldl m_law_L2s [1]).length ≤ 1 + l.length := by
  suffices h : ∀ (l : List Int) (st : List Int), Rests st → Rests (l.foldl m_law_L2s st) ∧ (l.foldl m_law_L2s st).length ≤ st.length + l.length by
    have := h l [1] (rests_cons (by decide) rests_nil)
    exact this
  intro l
  induction l with
  | nil => exact fun st h => ⟨h, Nat.le_refl _⟩
  | cons x l ih =>
    intro st h
    rw [List.foldl_cons]
    have h2 := ih (m_law_L2s st x) (law_times_rests _ _)
    have h3 : (m_law_L2s st x).length ≤ st.length + 2 - 1 := law_times_len st [1, 251 - x]
    rw [List.length_cons]
    exact ⟨h2.1, by omega⟩
section
variable {P : Program} {w : World} {K : PySem.W.Frag} {mg : Str → Option Value} {base : Heap} {fa : Nat → Addr} {fd : Nat → FuncData}
def sp__law_cell_at (K : PySem.W.Frag) : Sp := spG K (fun (a : (List Int) × Int) => [.s (il a.1), .v (.int a.2)]) (fun a => (0 ≤ a.2)) (fun a => .v (.int (m_law_cell_at a.1 a.2)))
theorem cl__law_cell_at {K : PySem.W.Frag} {σ : L2.St} {H : Hp} {ta : TA} {E : XK} (v_script : List Int) (v_k : Int) (h : EvAs K ta σ H [.s (il v_script), .v (.int v_k)]) (hp : (0 ≤ v_k)) : Ev (tCall (sp__law_cell_at K) [] E ta) σ H (.int (m_law_cell_at v_script v_k)) := ev_ofN (en_call (a := (v_script, v_k)) h hp)
theorem ok__law_cell_at (T : Txt K mg fa fd) : FnOk P w K mg base CX0 1 (fa 0) (fd 0) ["_law_script", "_law_k"] (sp__law_cell_at K) := by
  refine T.F__law_cell_at.ok sc__law_cell_at (fun vs H Q E h => ?_) (fun cdv A outer s H0 vs Q E hr h => ?_)
  · obtain ⟨a, r, _⟩ := h
    exact r.length
  · obtain ⟨⟨v_script, v_k⟩, r, hpre, k⟩ := h
    replace r : Paired (fun u d => D.rep K d u H0) vs [.s (il v_script), .v (.int v_k)] := r
    obtain ⟨u_v_script, tl_v_script, hvs0, r_v_script, r0⟩ := paired_cons r
    clear r
    subst hvs0
    obtain ⟨a_v_script, rfl, h_a_v_script0⟩ := r_v_script
    obtain ⟨u_v_k, tl_v_k, hvs1, r_v_k, r1⟩ := paired_cons r0
    clear r0
    subst hvs1
    obtain rfl : u_v_k = .int v_k := r_v_k
    obtain rfl := paired_nil r1
    have hp0 := hpre
    replace hp0 : 0 ≤ v_k := hp0
    have ex : Ex H0 H0 := Ex.refl H0
    refine ⟨_, (pss_cons (ps_if (pt_cmpR op_lt (pv 1) (pe_callB (r := rLenS K) call_len_seq (by rfl) T.n_len PySem.boot_len (pa_cons (pv 0) pa_nil)) (nomark _)) (pss_one (ps_ret (pe_ix (r := rIxL K) ix_list (pv 0) (pv 1) (fun _ _ => rfl)))) pss_nil)
      (pss_one (ps_ret pe_int))), ?_⟩
    refine q_when (b := decide (v_k < (v_script.length : Int))) (et_test (ev_op (ev_var rfl) (ev_lenS (ed_var rfl ⟨_, rfl, ex_l ex h_a_v_script0⟩)) rv_I0)) (fun hb3 H1 e2 => ?_) (fun hb3 H1 e2 => ?_)
    ·
      have hq3 := hb3
      (try simp only [Bool.and_eq_true, Bool.or_eq_true, Bool.not_eq_true', Bool.not_eq_false', Bool.and_eq_false_iff, Bool.or_eq_false_iff, decide_eq_true_eq, decide_eq_false_iff_not] at hq3)
      have ex := ex.trans e2
      refine s_ret (ev_ixS (ed_var rfl ⟨_, rfl, ex_l ex h_a_v_script0⟩) (ev_var rfl) (by walk_at "kside")) (fun H4 e5 => ?_)
      exact k _ _ (ex.trans e5) (ret_eq (congrArg (fun z : Int => (.v (.int z) : D)) (show m_law_cell_at v_script v_k = (gi v_script v_k) from (Eq.trans (cond_t hb3) rfl))) rfl)
    ·
      have hq3 := hb3
      (try simp only [Bool.and_eq_true, Bool.or_eq_true, Bool.not_eq_true', Bool.not_eq_false', Bool.and_eq_false_iff, Bool.or_eq_false_iff, decide_eq_true_eq, decide_eq_false_iff_not] at hq3)
      have ex := ex.trans e2
      refine s_ret ev_c (fun H8 e9 => ?_)
      exact k _ _ (ex.trans e9) (ret_eq (congrArg (fun z : Int => (.v (.int z) : D)) (show m_law_cell_at v_script v_k = 0 from (Eq.trans (cond_f hb3) rfl))) rfl)
def sp__law_row (K : PySem.W.Frag) : Sp := spG K (fun (a : (List Int) × Int × Int) => [.s (il a.1), .v (.int a.2.1), .v (.int a.2.2)]) (fun a => (0 ≤ a.2.1 ∧ a.2.1 ≤ 10) ∧ (0 ≤ a.2.2 ∧ a.2.2 ≤ 250)) (fun a => .l (il (m_law_row a.1 a.2.1 a.2.2)))
theorem cl__law_row {K : PySem.W.Frag} {σ : L2.St} {H : Hp} {ta : TA} {E : XK} (v_script : List Int) (v_at : Int) (v_most : Int) (h : EvAs K ta σ H [.s (il v_script), .v (.int v_at), .v (.int v_most)]) (hp : (0 ≤ v_at ∧ v_at ≤ 10) ∧ (0 ≤ v_most ∧ v_most ≤ 250)) : EvN K (tCall (sp__law_row K) [] E ta) σ H (.l (il (m_law_row v_script v_at v_most))) := en_call (a := (v_script, v_at, v_most)) h hp
theorem ok__law_row (T : Txt K mg fa fd) : FnOk P w K mg base CX0 2 (fa 1) (fd 1) ["_law_script", "_law_at", "_law_most"] (sp__law_row K) := by
  have G__law_cell_at := ok__law_cell_at (P := P) (w := w) (base := base) T
  refine T.F__law_row.ok sc__law_row (fun vs H Q E h => ?_) (fun cdv A outer s H0 vs Q E hr h => ?_)
  · obtain ⟨a, r, _⟩ := h
    exact r.length
  · obtain ⟨⟨v_script, v_at, v_most⟩, r, hpre, k⟩ := h
    replace r : Paired (fun u d => D.rep K d u H0) vs [.s (il v_script), .v (.int v_at), .v (.int v_most)] := r
    obtain ⟨u_v_script, tl_v_script, hvs0, r_v_script, r0⟩ := paired_cons r
    clear r
    subst hvs0
    obtain ⟨a_v_script, rfl, h_a_v_script0⟩ := r_v_script
    obtain ⟨u_v_at, tl_v_at, hvs1, r_v_at, r1⟩ := paired_cons r0
    clear r0
    subst hvs1
    obtain rfl : u_v_at = .int v_at := r_v_at
    obtain ⟨u_v_most, tl_v_most, hvs2, r_v_most, r2⟩ := paired_cons r1
    clear r1
    subst hvs2
    obtain rfl : u_v_most = .int v_most := r_v_most
    obtain rfl := paired_nil r2
    obtain ⟨hp0, hp1⟩ := hpre
    replace hp0 : 0 ≤ v_at ∧ v_at ≤ 10 := hp0
    replace hp1 : 0 ≤ v_most ∧ v_most ≤ 250 := hp1
    have ex : Ex H0 H0 := Ex.refl H0
    refine ⟨_, (pss_cons (ps_set (i := 3) sc__law_row.nd rfl (.inl rfl) (pe_call G__law_cell_at (hr.mono (by decide)) (by rfl) T.g__law_cell_at T.F__law_cell_at.kp T.b__law_cell_at .nil pass0 (pa_cons (pv 0) (pa_cons (pv 1) pa_nil))))
      (pss_cons (ps_set (i := 4) sc__law_row.nd rfl (.inl rfl) (pe_ix (r := rIxL K) ix_list (pe_lst (pa_cons pe_int (pa_cons pe_int (pa_cons pe_int (pa_cons pe_int (pa_cons pe_int (pa_cons pe_int (pa_cons pe_int (pa_cons pe_int (pa_cons pe_int (pa_cons pe_int pa_nil))))))))))) (pe_op op_mod (pe_op op_fdiv (pv 3) (pe_op op_add (pv 2) pe_int)) pe_int) (fun _ _ => rfl)))
      (pss_cons (ps_set (i := 5) sc__law_row.nd rfl (.inl rfl) (pe_op op_fdiv (pe_op op_fdiv (pv 3) (pe_op op_add (pv 2) pe_int)) pe_int))
      (pss_cons (ps_set (i := 6) sc__law_row.nd rfl (.inl rfl) (pe_lst pa_nil))
      (pss_cons (ps_for PassesOwn.never rfl (pi_range1 (by rfl) T.n_range (pa_cons (pe_op op_mod (pv 3) (pe_op op_add (pv 2) pe_int)) pa_nil)) (pg_name (i := 7) sc__law_row.nd rfl (.inl rfl)) (pss_cons (ps_set (i := 8) sc__law_row.nd rfl (.inl rfl) (pe_op op_add pe_int (pe_op op_mod (pe_op op_add (pv 5) (pe_op op_mul (pv 4) (pv 7))) pe_int)))
      (pss_cut (ps_if (pt_cmpR op_eq (pe_op op_mod (pv 5) pe_int) pe_int (nomark _)) (pss_one (ps_set (i := 8) sc__law_row.nd rfl (.inl rfl) (pe_op op_add pe_int (pe_op op_mod (pe_op op_mod (pe_op op_mul (pe_op op_add (pe_op op_add (pe_op op_fdiv (pv 5) pe_int) (pe_op op_mul (pe_op op_mul (pv 7) (pv 7)) pe_int)) (pe_op op_mul (pv 7) pe_int)) pe_int) pe_int) pe_int)))) pss_nil)
      (pss_cut (ps_if (pt_cmpR op_eq (pe_op op_mod (pv 5) pe_int) pe_int (nomark _)) (pss_one (ps_set (i := 8) sc__law_row.nd rfl (.inl rfl) (pe_op op_add pe_int (pe_op op_mod (pe_call G__law_cell_at (hr.mono (by decide)) (by rfl) T.g__law_cell_at T.F__law_cell_at.kp T.b__law_cell_at .nil pass0 (pa_cons (pv 0) (pa_cons (pe_op op_add (pe_op op_add pe_int (pe_op op_mul pe_int (pv 1))) (pv 7)) pa_nil))) pe_int)))) pss_nil)
      (pss_one (ps_if (pt_cmpR (r := rIn K true) op_notIn_seq (pv 8) (pv 6) (by rfl)) (pss_one (ps_expr (pe_bm PySem.F.plainAttrs_list PySem.F.slot_list_append PySem.F.type_list_append mt_append (pv 6) (pa_cons (pv 8) pa_nil)))) pss_nil))))))
      (pss_one (ps_ret (pv 6)))))))), ?_⟩
    obtain ⟨v_cell_3, e_v_cell_3⟩ : ∃ z : Int, z = (m_law_cell_at v_script v_at) := ⟨_, rfl⟩
    refine q_asg (v := .int v_cell_3) (ev_is (cl__law_cell_at v_script v_at (eas_cons (ed_var rfl ⟨_, rfl, ex_l ex h_a_v_script0⟩) (eas_cons (ed_v (ev_var rfl)) eas_nil)) (by walk_at "kside")) (congrArg V.int e_v_cell_3.symm)) (fun H1 e2 => ?_)
    have ex := ex.trans e2
    obtain ⟨v_step_6, e_v_step_6⟩ : ∃ z : Int, z = (gi [1, 3, 7, 9, 11, 13, 37, 121, 249, 97] ((v_cell_3 / (v_most + 1)) % 10)) := ⟨_, rfl⟩
    refine q_asg (v := .int v_step_6) (ev_is (ev_ix (EvN.toD (en_ls (vs := il ([1, 3, 7, 9, 11, 13, 37, 121, 249, 97] : List Int)) (ea_cons ev_c (ea_cons ev_c (ea_cons ev_c (ea_cons ev_c (ea_cons ev_c (ea_cons ev_c (ea_cons ev_c (ea_cons ev_c (ea_cons ev_c (ea_cons ev_c ea_nil)))))))))) (Nat.le_of_ble_eq_true rfl))) (ev_op (ev_op (ev_var rfl) (ev_op (ev_var rfl) ev_c rv_I0) (rv_I ⟨by walk_at "kside", by walk_at "kside"⟩)) ev_c (rv_I (by walk_at "kside"))) (by walk_at "kside")) (congrArg V.int e_v_step_6.symm)) (fun H4 e5 => ?_)
    have ex := ex.trans e5
    obtain ⟨v_begin_9, e_v_begin_9⟩ : ∃ z : Int, z = ((v_cell_3 / (v_most + 1)) / 10) := ⟨_, rfl⟩
    refine q_asg (v := .int v_begin_9) (ev_is (ev_op (ev_op (ev_var rfl) (ev_op (ev_var rfl) ev_c rv_I0) (rv_I ⟨by walk_at "kside", by walk_at "kside"⟩)) ev_c (rv_I ⟨by walk_at "kside", by walk_at "kside"⟩)) (congrArg V.int e_v_begin_9.symm)) (fun H7 e8 => ?_)
    have ex := ex.trans e8
    refine q_asgNl (K := K) (xs := il []) en_l0 (fun a_12 H10 np_a_12 e11 h_a_12 => ?_)
    have n_a_12 := fresh_back ex np_a_12
    have ex := ex.trans e11
    have hmo : 0 ≤ v_cell_3 % (v_most + 1) ∧ v_cell_3 % (v_most + 1) < v_most + 1 := ⟨Int.emod_nonneg _ (by omega), Int.emod_lt_of_pos _ (by omega)⟩
    refine q_forR1 (n := v_cell_3 % (v_most + 1)) (ea_cons (ev_op (ev_var rfl) (ev_op (ev_var rfl) ev_c rv_I0) (rv_I (by walk_at "kside"))) ea_nil) (by walk_at "kside") (fun (i : Nat) σ' H' => ∃ (y_v_k_1 : Option V) (y_v_number_1 : Option V) (v_found_14 : List Int), iter (m_law_row_L1s v_script v_at v_step_6 v_begin_9) [] i = v_found_14 ∧ σ' = [some (.ref a_v_script), some (.int v_at), some (.int v_most), some (.int v_cell_3), some (.int v_step_6), some (.int v_begin_9), some (.ref a_12), y_v_k_1, y_v_number_1] ∧ Ex H0 H' ∧ H' a_12 = some (.lst (il v_found_14))) (fun H17 e18 => ⟨_, _, _, rfl, rfl, ex.trans e18, e18 _ _ h_a_12⟩) ?_ ?_
    ·
      rintro i13 σ' H19 hi_i13 ⟨y_v_k_1, y_v_number_1, v_found_14, hst1, rfl, ex, h_a_12⟩
      have hl : v_found_14.length ≤ i13 := by rw [← hst1]; exact (law_row_inv _ _ _ _ i13).2.2
      obtain ⟨v_number_22, e_v_number_22⟩ : ∃ z : Int, z = (1 + ((v_begin_9 + (v_step_6 * (i13 : Int))) % 250)) := ⟨_, rfl⟩
      refine q_asg (v := .int v_number_22) (ev_is (ev_op ev_c (ev_op (ev_op (ev_var rfl) (ev_op (ev_var rfl) (ev_var rfl) (rv_I (by walk_at "kmul"))) rv_I0) ev_c (rv_I (by walk_at "kside"))) rv_I0) (congrArg V.int e_v_number_22.symm)) (fun H20 e21 => ?_)
      have ex := ex.trans e21
      have h_a_12 := e21 _ _ h_a_12
      refine q_cut (M := fun σ' H' => ∃ (v_number_23 : Int), m_law_row_J1 v_begin_9 i13 v_number_22 = v_number_23 ∧ σ' = [some (.ref a_v_script), some (.int v_at), some (.int v_most), some (.int v_cell_3), some (.int v_step_6), some (.int v_begin_9), some (.ref a_12), some (.int (i13 : Int)), some (.int v_number_23)] ∧ Ex H0 H' ∧ H' a_12 = some (.lst (il v_found_14))) ?_ ?_
      ·
        refine s_when (b := decide (v_begin_9 % 3 = 1)) (et_test (ev_eqI (ev_op (ev_var rfl) ev_c (rv_I (by walk_at "kside"))) ev_c)) (fun hb26 H24 e25 => ?_) (fun hb26 H24 e25 => ?_)
        ·
          have hq26 := hb26
          (try simp only [Bool.and_eq_true, Bool.or_eq_true, Bool.not_eq_true', Bool.not_eq_false', Bool.and_eq_false_iff, Bool.or_eq_false_iff, decide_eq_true_eq, decide_eq_false_iff_not] at hq26)
          have ex := ex.trans e25
          have h_a_12 := e25 _ _ h_a_12
          obtain ⟨v_number_29, e_v_number_29⟩ : ∃ z : Int, z = (1 + ((((v_begin_9 / 3 + (((i13 : Int) * (i13 : Int)) * 7919) + ((i13 : Int) * 48271)) * 69621) % 1000003) % 250)) := ⟨_, rfl⟩
          refine s_asg (v := .int v_number_29) (ev_is (ev_op ev_c (ev_op (ev_op (ev_op (ev_op (ev_op (ev_op (ev_var rfl) ev_c (rv_I ⟨by walk_at "kside", by walk_at "kside"⟩)) (ev_op (ev_op (ev_var rfl) (ev_var rfl) (rv_I (by walk_at "kmul"))) ev_c (rv_I (by walk_at "kmul"))) rv_I0) (ev_op (ev_var rfl) ev_c (rv_I (by walk_at "kmul"))) rv_I0) ev_c (rv_I (by walk_at "kmul"))) ev_c (rv_I (by walk_at "kside"))) ev_c (rv_I (by walk_at "kside"))) rv_I0) (congrArg V.int e_v_number_29.symm)) (fun H27 e28 => ?_)
          have ex := ex.trans e28
          have h_a_12 := e28 _ _ h_a_12
          subst e_v_number_29
          have hs30 : m_law_row_J1 v_begin_9 i13 v_number_22 = (1 + ((((v_begin_9 / 3 + (((i13 : Int) * (i13 : Int)) * 7919) + ((i13 : Int) * 48271)) * 69621) % 1000003) % 250)) := (Eq.trans (cond_t hb26) rfl)
          exact ⟨_, hs30, rfl, ex, h_a_12⟩
        ·
          have hq26 := hb26
          (try simp only [Bool.and_eq_true, Bool.or_eq_true, Bool.not_eq_true', Bool.not_eq_false', Bool.and_eq_false_iff, Bool.or_eq_false_iff, decide_eq_true_eq, decide_eq_false_iff_not] at hq26)
          have ex := ex.trans e25
          have h_a_12 := e25 _ _ h_a_12
          have hs31 : m_law_row_J1 v_begin_9 i13 v_number_22 = v_number_22 := (Eq.trans (cond_f hb26) rfl)
          exact ⟨_, hs31, rfl, ex, h_a_12⟩
      ·
        rintro σ' H32 ⟨v_number_23, hj1, rfl, ex, h_a_12⟩
        have e_v_number_23 : v_number_23 = m_law_row_J1 v_begin_9 i13 v_number_22 := hj1.symm
        clear hj1
        refine q_cut (M := fun σ' H' => ∃ (v_number_33 : Int), m_law_row_J2 v_script v_at v_begin_9 i13 v_number_23 = v_number_33 ∧ σ' = [some (.ref a_v_script), some (.int v_at), some (.int v_most), some (.int v_cell_3), some (.int v_step_6), some (.int v_begin_9), some (.ref a_12), some (.int (i13 : Int)), some (.int v_number_33)] ∧ Ex H0 H' ∧ H' a_12 = some (.lst (il v_found_14))) ?_ ?_
        ·
          refine s_when (b := decide (v_begin_9 % 3 = 2)) (et_test (ev_eqI (ev_op (ev_var rfl) ev_c (rv_I (by walk_at "kside"))) ev_c)) (fun hb36 H34 e35 => ?_) (fun hb36 H34 e35 => ?_)
          ·
            have hq36 := hb36
            (try simp only [Bool.and_eq_true, Bool.or_eq_true, Bool.not_eq_true', Bool.not_eq_false', Bool.and_eq_false_iff, Bool.or_eq_false_iff, decide_eq_true_eq, decide_eq_false_iff_not] at hq36)
            have ex := ex.trans e35
            have h_a_12 := e35 _ _ h_a_12
            obtain ⟨v_number_39, e_v_number_39⟩ : ∃ z : Int, z = (1 + ((m_law_cell_at v_script (8 + (20 * v_at) + (i13 : Int))) % 250)) := ⟨_, rfl⟩
            refine s_asg (v := .int v_number_39) (ev_is (ev_op ev_c (ev_op (cl__law_cell_at v_script (8 + (20 * v_at) + (i13 : Int)) (eas_cons (ed_var rfl ⟨_, rfl, ex_l ex h_a_v_script0⟩) (eas_cons (ed_v (ev_op (ev_op ev_c (ev_op ev_c (ev_var rfl) (rv_I (by walk_at "kmul"))) rv_I0) (ev_var rfl) rv_I0)) eas_nil)) (by walk_at "kside")) ev_c (rv_I (by walk_at "kside"))) rv_I0) (congrArg V.int e_v_number_39.symm)) (fun H37 e38 => ?_)
            have ex := ex.trans e38
            have h_a_12 := e38 _ _ h_a_12
            subst e_v_number_39
            have hs40 : m_law_row_J2 v_script v_at v_begin_9 i13 v_number_23 = (1 + ((m_law_cell_at v_script (8 + (20 * v_at) + (i13 : Int))) % 250)) := (Eq.trans (cond_t hb36) rfl)
            exact ⟨_, hs40, rfl, ex, h_a_12⟩
          ·
            have hq36 := hb36
            (try simp only [Bool.and_eq_true, Bool.or_eq_true, Bool.not_eq_true', Bool.not_eq_false', Bool.and_eq_false_iff, Bool.or_eq_false_iff, decide_eq_true_eq, decide_eq_false_iff_not] at hq36)
            have ex := ex.trans e35
            have h_a_12 := e35 _ _ h_a_12
            have hs41 : m_law_row_J2 v_script v_at v_begin_9 i13 v_number_23 = v_number_23 := (Eq.trans (cond_f hb36) rfl)
            exact ⟨_, hs41, rfl, ex, h_a_12⟩
        ·
          rintro σ' H42 ⟨v_number_33, hj2, rfl, ex, h_a_12⟩
          have e_v_number_33 : v_number_33 = m_law_row_J2 v_script v_at v_begin_9 i13 v_number_23 := hj2.symm
          clear hj2
          refine s_when (b := !decide (v_number_33 ∈ v_found_14)) (et_test (ev_ni (ev_var rfl) (ed_rep (d := .l (il v_found_14)) (ev_var (v := .ref a_12) rfl) ⟨_, rfl, h_a_12⟩))) (fun hb45 H43 e44 => ?_) (fun hb45 H43 e44 => ?_)
          ·
            have hq45 := hb45
            (try simp only [Bool.and_eq_true, Bool.or_eq_true, Bool.not_eq_true', Bool.not_eq_false', Bool.and_eq_false_iff, Bool.or_eq_false_iff, decide_eq_true_eq, decide_eq_false_iff_not] at hq45)
            have ex := ex.trans e44
            have h_a_12 := e44 _ _ h_a_12
            refine s_appI h_a_12 (ev_var (v := .ref a_12) rfl) (ev_var rfl) (by walk_at "kside") (fun H46 b47 h_a_12' => ?_)
            have ex := But.ex ex n_a_12 b47
            have h_a_12 := h_a_12'
            subst e_v_number_33
            subst e_v_number_23
            subst e_v_number_22
            have hs48 : iter (m_law_row_L1s v_script v_at v_step_6 v_begin_9) [] (i13 + 1) = (v_found_14 ++ [(m_law_row_J2 v_script v_at v_begin_9 i13 (m_law_row_J1 v_begin_9 i13 (1 + ((v_begin_9 + (v_step_6 * (i13 : Int))) % 250))))]) := (congrArg ((m_law_row_L1s v_script v_at v_step_6 v_begin_9) i13) hst1).trans (Eq.trans (cond_t hb45) rfl)
            exact ⟨_, _, _, hs48, rfl, ex, h_a_12⟩
          ·
            have hq45 := hb45
            (try simp only [Bool.and_eq_true, Bool.or_eq_true, Bool.not_eq_true', Bool.not_eq_false', Bool.and_eq_false_iff, Bool.or_eq_false_iff, decide_eq_true_eq, decide_eq_false_iff_not] at hq45)
            have ex := ex.trans e44
            have h_a_12 := e44 _ _ h_a_12
            subst e_v_number_33
            subst e_v_number_23
            subst e_v_number_22
            have hs49 : iter (m_law_row_L1s v_script v_at v_step_6 v_begin_9) [] (i13 + 1) = v_found_14 := (congrArg ((m_law_row_L1s v_script v_at v_step_6 v_begin_9) i13) hst1).trans (Eq.trans (cond_f hb45) rfl)
            exact ⟨_, _, _, hs49, rfl, ex, h_a_12⟩
    ·
      rintro σ' H50 ⟨y_v_k_1, y_v_number_1, v_found_14, hst1, rfl, ex, h_a_12⟩
      obtain rfl : v_found_14 = (m_law_row_L1 v_script v_at v_most v_cell_3 v_step_6 v_begin_9) := hst1.symm
      obtain ⟨v_found_51, e_v_found_51⟩ : ∃ z : List Int, z = (m_law_row_L1 v_script v_at v_most v_cell_3 v_step_6 v_begin_9) := ⟨_, rfl⟩
      rw [← e_v_found_51] at h_a_12
      refine s_ret (ev_var (v := .ref a_12) rfl) (fun H52 e53 => ?_)
      have ex := ex.trans e53
      have h_a_12 := e53 _ _ h_a_12
      subst e_v_found_51
      subst e_v_begin_9
      subst e_v_step_6
      subst e_v_cell_3
      exact k _ _ ex (ret_eq (congrArg (fun z : List Int => (.l (il z) : D)) (show m_law_row v_script v_at v_most = (m_law_row_L1 v_script v_at v_most (m_law_cell_at v_script v_at) (gi [1, 3, 7, 9, 11, 13, 37, 121, 249, 97] (((m_law_cell_at v_script v_at) / (v_most + 1)) % 10)) (((m_law_cell_at v_script v_at) / (v_most + 1)) / 10)) from rfl)) ⟨_, rfl, n_a_12, h_a_12⟩)
def sp__law_sums (K : PySem.W.Frag) : Sp := spG K (fun (a : (List Int) × Int) => [.l (il a.1), .v (.int a.2)]) (fun a => (∀ x ∈ a.1, 1 ≤ x ∧ x ≤ 250) ∧ (0 ≤ a.2 ∧ a.2 ≤ 1000)) (fun a => .l (il (m_law_sums a.1 a.2)))
theorem cl__law_sums {K : PySem.W.Frag} {σ : L2.St} {H : Hp} {ta : TA} {E : XK} (v_row_here : List Int) (v_many : Int) (h : EvAs K ta σ H [.l (il v_row_here), .v (.int v_many)]) (hp : (∀ x ∈ v_row_here, 1 ≤ x ∧ x ≤ 250) ∧ (0 ≤ v_many ∧ v_many ≤ 1000)) : EvN K (tCall (sp__law_sums K) [] E ta) σ H (.l (il (m_law_sums v_row_here v_many))) := en_call (a := (v_row_here, v_many)) h hp
theorem ok__law_sums (T : Txt K mg fa fd) : FnOk P w K mg base CX0 1 (fa 2) (fd 2) ["_law_row_here", "_law_many"] (sp__law_sums K) := by
  refine T.F__law_sums.ok sc__law_sums (fun vs H Q E h => ?_) (fun cdv A outer s H0 vs Q E hr h => ?_)
  · obtain ⟨a, r, _⟩ := h
    exact r.length
  · obtain ⟨⟨v_row_here, v_many⟩, r, hpre, k⟩ := h
    replace r : Paired (fun u d => D.rep K d u H0) vs [.l (il v_row_here), .v (.int v_many)] := r
    obtain ⟨u_v_row_here, tl_v_row_here, hvs0, r_v_row_here, r0⟩ := paired_cons r
    clear r
    subst hvs0
    obtain ⟨a_v_row_here, rfl, h_a_v_row_here0⟩ := r_v_row_here
    obtain ⟨u_v_many, tl_v_many, hvs1, r_v_many, r1⟩ := paired_cons r0
    clear r0
    subst hvs1
    obtain rfl : u_v_many = .int v_many := r_v_many
    obtain rfl := paired_nil r1
    obtain ⟨hp0, hp1⟩ := hpre
    replace hp0 : ∀ x ∈ v_row_here, 1 ≤ x ∧ x ≤ 250 := hp0
    replace hp1 : 0 ≤ v_many ∧ v_many ≤ 1000 := hp1
    have ex : Ex H0 H0 := Ex.refl H0
    refine ⟨_, (pss_cons (ps_set (i := 2) sc__law_sums.nd rfl (.inl rfl) (pe_lst pa_nil))
      (pss_cons (ps_for PassesOwn.never rfl (pi_range1 (by rfl) T.n_range (pa_cons (pv 1) pa_nil)) (pg_name (i := 3) sc__law_sums.nd rfl (.inl rfl)) (pss_one (ps_expr (pe_bm PySem.F.plainAttrs_list PySem.F.slot_list_append PySem.F.type_list_append mt_append (pv 2) (pa_cons pe_int pa_nil)))))
      (pss_cons (ps_for PassesOwn.never rfl (pi_list (pv 0)) (pg_name (i := 4) sc__law_sums.nd rfl (.inl rfl)) (pss_cons (ps_set (i := 5) sc__law_sums.nd rfl (.inl rfl) pe_int)
      (pss_one (ps_for PassesOwn.never rfl (pi_range1 (by rfl) T.n_range (pa_cons (pv 1) pa_nil)) (pg_name (i := 3) sc__law_sums.nd rfl (.inl rfl)) (pss_cons (ps_set (i := 5) sc__law_sums.nd rfl (.inl rfl) (pe_op op_mod (pe_op op_mul (pv 5) (pv 4)) pe_int))
      (pss_one (ps_asg (pe_op op_mod (pe_op op_add (pe_ix (r := rIxL K) ix_list (pv 2) (pv 3) (fun _ _ => rfl)) (pv 5)) pe_int) (pg_sub (pv 2) (pv 3) set_list))))))))
      (pss_one (ps_ret (pv 2)))))), ?_⟩
    refine q_asgNl (K := K) (xs := il []) en_l0 (fun a_3 H1 np_a_3 e2 h_a_3 => ?_)
    have n_a_3 := fresh_back ex np_a_3
    have ne_a_v_row_here_a_3 := ne_of_none (ex _ _ h_a_v_row_here0) np_a_3
    have ex := ex.trans e2
    refine q_forR1 (n := v_many) (ea_cons (ev_var rfl) ea_nil) (by walk_at "kside") (fun (i : Nat) σ' H' => ∃ (y_v_k_1 : Option V) (v_found_5 : List Int), iter m_law_sums_L1s [] i = v_found_5 ∧ σ' = [some (.ref a_v_row_here), some (.int v_many), some (.ref a_3), y_v_k_1, none, none] ∧ Ex H0 H' ∧ H' a_3 = some (.lst (il v_found_5))) (fun H8 e9 => ⟨_, _, rfl, rfl, ex.trans e9, e9 _ _ h_a_3⟩) ?_ ?_
    ·
      rintro i4 σ' H10 hi_i4 ⟨y_v_k_1, v_found_5, hst1, rfl, ex, h_a_3⟩
      have hl : v_found_5.length = 0 + i4 := by rw [← hst1]; exact iter_snoc_len (f := m_law_sums_L1s) (fun i st => ⟨_, rfl⟩) i4
      refine s_appI h_a_3 (ev_var (v := .ref a_3) rfl) ev_c (by walk_at "kside") (fun H11 b12 h_a_3' => ?_)
      have ex := But.ex ex n_a_3 b12
      have h_a_3 := h_a_3'
      have hs13 : iter m_law_sums_L1s [] (i4 + 1) = (v_found_5 ++ [0]) := (congrArg (m_law_sums_L1s i4) hst1).trans rfl
      exact ⟨_, _, hs13, rfl, ex, h_a_3⟩
    ·
      rintro σ' H14 ⟨y_v_k_1, v_found_5, hst1, rfl, ex, h_a_3⟩
      obtain rfl : v_found_5 = (m_law_sums_L1 v_many) := hst1.symm
      obtain ⟨v_found_15, e_v_found_15⟩ : ∃ z : List Int, z = (m_law_sums_L1 v_many) := ⟨_, rfl⟩
      rw [← e_v_found_15] at h_a_3
      have hl0 : v_found_15.length = v_many.toNat := by rw [e_v_found_15]; exact (iter_snoc_len (f := m_law_sums_L1s) (fun i st => ⟨_, rfl⟩) _).trans (Nat.zero_add _)
      refine q_forI (ev_var (v := .ref a_v_row_here) rfl) (ex _ _ h_a_v_row_here0) (fun (i : Nat) σ' H' => ∃ (y_v_number_2 : Option V) (y_v_factor_2 : Option V) (y_v_k_2 : Option V) (v_found_17 : List Int), (v_row_here.take i).foldl (m_law_sums_L2s v_many) v_found_15 = v_found_17 ∧ σ' = [some (.ref a_v_row_here), some (.int v_many), some (.ref a_3), y_v_k_2, y_v_number_2, y_v_factor_2] ∧ Ex H0 H' ∧ H' a_3 = some (.lst (il v_found_17))) (fun H20 e21 => ⟨_, _, _, _, rfl, rfl, ex.trans e21, e21 _ _ h_a_3⟩) (fun i σ' H' hP => by obtain ⟨_, _, _, _, _, _, ex', h'_a_3⟩ := hP; exact ex' _ _ h_a_v_row_here0) ?_ ?_
      ·
        rintro i16 v_number_18 σ' H22 hx_v_number_18 ⟨y_v_number_2, y_v_factor_2, y_v_k_2, v_found_17, hst2, rfl, ex, h_a_3⟩
        have hl : v_found_17.length = v_many.toNat := by rw [← hst2]; exact (law_sums_len2 _ _ _).trans hl0
        have hb := hp0 _ (List.mem_of_getElem? hx_v_number_18)
        refine q_asg (v := .int 1) ev_c (fun H23 e24 => ?_)
        have ex := ex.trans e24
        have h_a_3 := e24 _ _ h_a_3
        refine s_forR1 (n := v_many) (ea_cons (ev_var rfl) ea_nil) (by walk_at "kside") (fun (i : Nat) σ' H' => ∃ (y_v_k_3 : Option V) (v_factor_26 : Int) (v_found_27 : List Int), iter (m_law_sums_L3s v_number_18) (1, v_found_17) i = (v_factor_26, v_found_27) ∧ σ' = [some (.ref a_v_row_here), some (.int v_many), some (.ref a_3), y_v_k_3, some (.int v_number_18), some (.int v_factor_26)] ∧ Ex H0 H' ∧ H' a_3 = some (.lst (il v_found_27))) (fun H30 e31 => ⟨_, _, _, rfl, rfl, ex.trans e31, e31 _ _ h_a_3⟩) ?_ ?_
        ·
          rintro i25 σ' H32 hi_i25 ⟨y_v_k_3, v_factor_26, v_found_27, hst3, rfl, ex, h_a_3⟩
          have hl3 : v_found_27.length = v_many.toNat := (law_sums_len4 hst3).trans hl
          obtain ⟨v_factor_35, e_v_factor_35⟩ : ∃ z : Int, z = ((v_factor_26 * v_number_18) % 251) := ⟨_, rfl⟩
          refine q_asg (v := .int v_factor_35) (ev_is (ev_op (ev_op (ev_var rfl) (ev_var rfl) (rv_I (by walk_at "kmul"))) ev_c (rv_I (by walk_at "kside"))) (congrArg V.int e_v_factor_35.symm)) (fun H33 e34 => ?_)
          have ex := ex.trans e34
          have h_a_3 := e34 _ _ h_a_3
          refine s_setI h_a_3 (ev_op (ev_op (ev_ix (ed_rep (d := .l (il v_found_27)) (ev_var (v := .ref a_3) rfl) ⟨_, rfl, h_a_3⟩) (ev_var rfl) (by walk_at "kside")) (ev_var rfl) rv_I0) ev_c (rv_I (by walk_at "kside"))) (ev_var (v := .ref a_3) rfl) (ev_var rfl) (by walk_at "kside") (fun H36 b37 h_a_3' => ?_)
          have ex := But.ex ex n_a_3 b37
          have h_a_3 := h_a_3'
          subst e_v_factor_35
          have hs38 : iter (m_law_sums_L3s v_number_18) (1, v_found_17) (i25 + 1) = (((v_factor_26 * v_number_18) % 251), si v_found_27 (i25 : Int) ((gi v_found_27 (i25 : Int) + ((v_factor_26 * v_number_18) % 251)) % 251)) := (congrArg ((m_law_sums_L3s v_number_18) i25) hst3).trans rfl
          exact ⟨_, _, _, hs38, rfl, ex, h_a_3⟩
        ·
          rintro σ' H39 ⟨y_v_k_3, v_factor_26, v_found_27, hst3, rfl, ex, h_a_3⟩
          obtain rfl : v_factor_26 = (m_law_sums_L3 v_many v_found_17 v_number_18).1 := (congrArg (fun z => z.1) (show (m_law_sums_L3 v_many v_found_17 v_number_18) = _ from hst3)).symm
          obtain rfl : v_found_27 = (m_law_sums_L3 v_many v_found_17 v_number_18).2 := (congrArg (fun z => z.2) (show (m_law_sums_L3 v_many v_found_17 v_number_18) = _ from hst3)).symm
          obtain ⟨v_factor_40, e_v_factor_40⟩ : ∃ z : Int, z = ((m_law_sums_L3 v_many v_found_17 v_number_18).1) := ⟨_, rfl⟩
          rw [← e_v_factor_40]
          obtain ⟨v_found_41, e_v_found_41⟩ : ∃ z : List Int, z = ((m_law_sums_L3 v_many v_found_17 v_number_18).2) := ⟨_, rfl⟩
          rw [← e_v_found_41] at h_a_3
          subst e_v_found_41
          subst e_v_factor_40
          have hs42 : (v_row_here.take (i16 + 1)).foldl (m_law_sums_L2s v_many) v_found_15 = ((m_law_sums_L3 v_many v_found_17 v_number_18).2) := (fold_succ hx_v_number_18).trans ((congrArg (fun z => (m_law_sums_L2s v_many) z v_number_18) hst2).trans rfl)
          exact ⟨_, _, _, _, hs42, rfl, ex, h_a_3⟩
      ·
        rintro σ' H43 ⟨y_v_number_2, y_v_factor_2, y_v_k_2, v_found_17, hst2, rfl, ex, h_a_3⟩
        rw [List.take_length] at hst2
        obtain rfl : v_found_17 = (m_law_sums_L2 v_row_here v_many v_found_15) := hst2.symm
        obtain ⟨v_found_44, e_v_found_44⟩ : ∃ z : List Int, z = (m_law_sums_L2 v_row_here v_many v_found_15) := ⟨_, rfl⟩
        rw [← e_v_found_44] at h_a_3
        refine s_ret (ev_var (v := .ref a_3) rfl) (fun H45 e46 => ?_)
        have ex := ex.trans e46
        have h_a_3 := e46 _ _ h_a_3
        subst e_v_found_44
        subst e_v_found_15
        exact k _ _ ex (ret_eq (congrArg (fun z : List Int => (.l (il z) : D)) (show m_law_sums v_row_here v_many = (m_law_sums_L2 v_row_here v_many (m_law_sums_L1 v_many)) from rfl)) ⟨_, rfl, n_a_3, h_a_3⟩)
def sp_power (K : PySem.W.Frag) : Sp := spG K (fun (a : Int × Int) => [.v (.int a.1), .v (.int a.2)]) (fun a => (0 ≤ a.1 ∧ a.1 < 251) ∧ (0 ≤ a.2 ∧ a.2 ≤ 100000)) (fun a => .v (.int (m_power a.1 a.2)))
theorem cl_power {K : PySem.W.Frag} {σ : L2.St} {H : Hp} {ta : TA} {E : XK} (v_rest : Int) (v_many : Int) (h : EvAs K ta σ H [.v (.int v_rest), .v (.int v_many)]) (hp : (0 ≤ v_rest ∧ v_rest < 251) ∧ (0 ≤ v_many ∧ v_many ≤ 100000)) : Ev (tCall (sp_power K) [] E ta) σ H (.int (m_power v_rest v_many)) := ev_ofN (en_call (a := (v_rest, v_many)) h hp)
theorem ok_power (T : Txt K mg fa fd) : FnOk P w K mg base CX0 1 (fa 3) (fd 3) ["rest", "many"] (sp_power K) := by
  obtain ⟨tPRIME, vPRIME⟩ := T.v_PRIME
  refine T.F_power.ok sc_power (fun vs H Q E h => ?_) (fun cdv A outer s H0 vs Q E hr h => ?_)
  · obtain ⟨a, r, _⟩ := h
    exact r.length
  · obtain ⟨⟨v_rest, v_many⟩, r, hpre, k⟩ := h
    replace r : Paired (fun u d => D.rep K d u H0) vs [.v (.int v_rest), .v (.int v_many)] := r
    obtain ⟨u_v_rest, tl_v_rest, hvs0, r_v_rest, r0⟩ := paired_cons r
    clear r
    subst hvs0
    obtain rfl : u_v_rest = .int v_rest := r_v_rest
    obtain ⟨u_v_many, tl_v_many, hvs1, r_v_many, r1⟩ := paired_cons r0
    clear r0
    subst hvs1
    obtain rfl : u_v_many = .int v_many := r_v_many
    obtain rfl := paired_nil r1
    obtain ⟨hp0, hp1⟩ := hpre
    replace hp0 : 0 ≤ v_rest ∧ v_rest < 251 := hp0
    replace hp1 : 0 ≤ v_many ∧ v_many ≤ 100000 := hp1
    have ex : Ex H0 H0 := Ex.refl H0
    refine ⟨_, (pss_cons (ps_set (i := 2) sc_power.nd rfl (.inl rfl) pe_int)
      (pss_cons (ps_for PassesOwn.never rfl (pi_range1 (by rfl) T.n_range (pa_cons (pv 1) pa_nil)) (pg_name (i := 3) sc_power.nd rfl (.inl rfl)) (pss_one (ps_set (i := 2) sc_power.nd rfl (.inl rfl) (pe_op op_mod (pe_op op_mul (pv 2) (pv 0)) (pe_glob (v := .int 251) rfl vPRIME ⟨_, rfl⟩)))))
      (pss_one (ps_ret (pv 2))))), ?_⟩
    refine q_asg (v := .int 1) ev_c (fun H1 e2 => ?_)
    have ex := ex.trans e2
    refine q_forR1 (n := v_many) (ea_cons (ev_var rfl) ea_nil) (by walk_at "kside") (fun (i : Nat) σ' H' => ∃ (y_v_turn_1 : Option V) (v_found_4 : Int), iter (m_power_L1s v_rest) 1 i = v_found_4 ∧ σ' = [some (.int v_rest), some (.int v_many), some (.int v_found_4), y_v_turn_1] ∧ Ex H0 H') (fun H7 e8 => ⟨_, _, rfl, rfl, ex.trans e8⟩) ?_ ?_
    ·
      rintro i3 σ' H9 hi_i3 ⟨y_v_turn_1, v_found_4, hst1, rfl, ex⟩
      obtain ⟨v_found_12, e_v_found_12⟩ : ∃ z : Int, z = ((v_found_4 * v_rest) % 251) := ⟨_, rfl⟩
      refine s_asg (v := .int v_found_12) (ev_is (ev_op (ev_op (ev_var rfl) (ev_var rfl) (rv_I (by walk_at "kmul"))) ev_c (rv_I (by walk_at "kside"))) (congrArg V.int e_v_found_12.symm)) (fun H10 e11 => ?_)
      have ex := ex.trans e11
      subst e_v_found_12
      have hs13 : iter (m_power_L1s v_rest) 1 (i3 + 1) = ((v_found_4 * v_rest) % 251) := (congrArg ((m_power_L1s v_rest) i3) hst1).trans rfl
      exact ⟨_, _, hs13, rfl, ex⟩
    ·
      rintro σ' H14 ⟨y_v_turn_1, v_found_4, hst1, rfl, ex⟩
      obtain rfl : v_found_4 = (m_power_L1 v_rest v_many) := hst1.symm
      obtain ⟨v_found_15, e_v_found_15⟩ : ∃ z : Int, z = (m_power_L1 v_rest v_many) := ⟨_, rfl⟩
      rw [← e_v_found_15]
      refine s_ret (ev_var rfl) (fun H16 e17 => ?_)
      subst e_v_found_15
      exact k _ _ (ex.trans e17) (ret_eq (congrArg (fun z : Int => (.v (.int z) : D)) (show m_power v_rest v_many = (m_power_L1 v_rest v_many) from rfl)) rfl)
def sp_inverse (K : PySem.W.Frag) : Sp := spG K (fun (a : Int) => [.v (.int a)]) (fun a => (0 ≤ a ∧ a < 251)) (fun a => .v (.int (m_inverse a)))
theorem cl_inverse {K : PySem.W.Frag} {σ : L2.St} {H : Hp} {ta : TA} {E : XK} (v_rest : Int) (h : EvAs K ta σ H [.v (.int v_rest)]) (hp : (0 ≤ v_rest ∧ v_rest < 251)) : Ev (tCall (sp_inverse K) [] E ta) σ H (.int (m_inverse v_rest)) := ev_ofN (en_call (a := (v_rest)) h hp)
theorem ok_inverse (T : Txt K mg fa fd) : FnOk P w K mg base CX0 2 (fa 4) (fd 4) ["rest"] (sp_inverse K) := by
  have G_power := ok_power (P := P) (w := w) (base := base) T
  obtain ⟨tPRIME, vPRIME⟩ := T.v_PRIME
  refine T.F_inverse.ok sc_inverse (fun vs H Q E h => ?_) (fun cdv A outer s H0 vs Q E hr h => ?_)
  · obtain ⟨a, r, _⟩ := h
    exact r.length
  · obtain ⟨v_rest, r, hpre, k⟩ := h
    replace r : Paired (fun u d => D.rep K d u H0) vs [.v (.int v_rest)] := r
    obtain ⟨u_v_rest, tl_v_rest, hvs0, r_v_rest, r0⟩ := paired_cons r
    clear r
    subst hvs0
    obtain rfl : u_v_rest = .int v_rest := r_v_rest
    obtain rfl := paired_nil r0
    have hp0 := hpre
    replace hp0 : 0 ≤ v_rest ∧ v_rest < 251 := hp0
    have ex : Ex H0 H0 := Ex.refl H0
    refine ⟨_, (pss_one (ps_ret (pe_call G_power (hr.mono (by decide)) (by rfl) T.g_power T.F_power.kp T.b_power .nil pass0 (pa_cons (pv 0) (pa_cons (pe_op op_sub (pe_glob (v := .int 251) rfl vPRIME ⟨_, rfl⟩) pe_int) pa_nil))))), ?_⟩
    refine s_ret (cl_power v_rest (251 - 2) (eas_cons (ed_v (ev_var rfl)) (eas_cons (ed_v (ev_op ev_c ev_c rv_I0)) eas_nil)) ⟨(by walk_at "kside"), (by walk_at "kside")⟩) (fun H1 e2 => ?_)
    exact k _ _ (ex.trans e2) (ret_eq (congrArg (fun z : Int => (.v (.int z) : D)) (show m_inverse v_rest = (m_power v_rest (251 - 2)) from rfl)) rfl)
def sp_series (K : PySem.W.Frag) : Sp := spG K (fun (a : (List Int)) => [.l (il a)]) (fun a => (Rests a) ∧ (1 ≤ a.length ∧ a.length ≤ 12)) (fun a => .l (il (m_series a)))
theorem cl_series {K : PySem.W.Frag} {σ : L2.St} {H : Hp} {ta : TA} {E : XK} (v_sums : List Int) (h : EvAs K ta σ H [.l (il v_sums)]) (hp : (Rests v_sums) ∧ (1 ≤ v_sums.length ∧ v_sums.length ≤ 12)) : EvN K (tCall (sp_series K) [] E ta) σ H (.l (il (m_series v_sums))) := en_call (a := (v_sums)) h hp
theorem ok_series (T : Txt K mg fa fd) : FnOk P w K mg base CX0 3 (fa 5) (fd 5) ["sums"] (sp_series K) := by
  have G_inverse := ok_inverse (P := P) (w := w) (base := base) T
  obtain ⟨tPRIME, vPRIME⟩ := T.v_PRIME
  refine T.F_series.ok sc_series (fun vs H Q E h => ?_) (fun cdv A outer s H0 vs Q E hr h => ?_)
  · obtain ⟨a, r, _⟩ := h
    exact r.length
  · obtain ⟨v_sums, r, hpre, k⟩ := h
    replace r : Paired (fun u d => D.rep K d u H0) vs [.l (il v_sums)] := r
    obtain ⟨u_v_sums, tl_v_sums, hvs0, r_v_sums, r0⟩ := paired_cons r
    clear r
    subst hvs0
    obtain ⟨a_v_sums, rfl, h_a_v_sums0⟩ := r_v_sums
    obtain rfl := paired_nil r0
    obtain ⟨hp0, hp1⟩ := hpre
    replace hp0 : Rests v_sums := hp0
    replace hp1 : 1 ≤ v_sums.length ∧ v_sums.length ≤ 12 := hp1
    have ex : Ex H0 H0 := Ex.refl H0
    refine ⟨_, (pss_cons (ps_set (i := 1) sc_series.nd rfl (.inr rfl) (pe_lst (pa_cons pe_int pa_nil)))
      (pss_cons (ps_for PassesOwn.never rfl (pi_range2 (by rfl) T.n_range (pa_cons pe_int (pa_cons (pe_op op_add (pe_callB (r := rLenS K) call_len_seq (by rfl) T.n_len PySem.boot_len (pa_cons (pv 0) pa_nil)) pe_int) pa_nil))) (pg_name (i := 2) sc_series.nd rfl (.inr rfl)) (pss_cons (ps_set (i := 3) sc_series.nd rfl (.inl rfl) (pe_callB (r := rSum K) (cr_sum rfl) (by rfl) T.n_sum (by decide +kernel) (pa_cons (pe_lc (own := [("i", 4)]) (g := gName 4) (tt := tYes) rfl sc_series.nd (pi_range2 (by rfl) T.n_range (pa_cons pe_int (pa_cons (pe_op op_add (pv 2) pe_int) pa_nil))) (blkOk_by (own := [("i", 4)]) (N := ["sums", "found", "k", "total", "i"]) (sc := defScope s_series) (by decide +kernel)) (fun _ _ _ _ _ => pg_name (i := 4) sc_series.nd rfl (Or.inl rfl)) (fun _ _ _ _ _ => pts_nil) (fun _ _ _ _ _ => (pe_op op_mul (pe_ix (r := rIxL K) ix_list (pv 0) (pe_op op_sub (pv 4) pe_int) (fun _ _ => rfl)) (pe_ix (r := rIxL K) ix_list (pv 1) (pe_op op_sub (pv 2) (pv 4)) (fun _ _ => rfl))))) pa_nil)))
      (pss_one (ps_expr (pe_bm PySem.F.plainAttrs_list PySem.F.slot_list_append PySem.F.type_list_append mt_append (pv 1) (pa_cons (pe_op op_mod (pe_op op_mul (pe_op op_sub pe_int (pv 3)) (pe_call G_inverse (hr.mono (by decide)) (by rfl) T.g_inverse T.F_inverse.kp T.b_inverse .nil pass0 (pa_cons (pv 2) pa_nil))) (pe_glob (v := .int 251) rfl vPRIME ⟨_, rfl⟩)) pa_nil))))))
      (pss_one (ps_ret (pv 1))))), ?_⟩
    refine q_asgNl (K := K) (xs := il [1]) (en_ls (vs := il ([1] : List Int)) (ea_cons ev_c ea_nil) (Nat.le_of_ble_eq_true rfl)) (fun a_3 H1 np_a_3 e2 h_a_3 => ?_)
    have n_a_3 := fresh_back ex np_a_3
    have ne_a_v_sums_a_3 := ne_of_none (ex _ _ h_a_v_sums0) np_a_3
    have ex := ex.trans e2
    refine q_forR2 (lo := 1) (n := (v_sums.length : Int) + 1) (ea_cons ev_c (ea_cons (ev_op (ev_lenI (ed_rep (d := .l (il v_sums)) (ev_var (v := .ref a_v_sums) rfl) ⟨_, rfl, (ex _ _ h_a_v_sums0)⟩)) ev_c rv_I0) ea_nil)) (by walk_at "kside") (fun (i : Nat) σ' H' => ∃ (y_v_k_1 : Option V) (y_v_total_1 : Option V) (v_found_5 : List Int), iter (m_series_L1s v_sums) [1] i = v_found_5 ∧ σ' = [some (.ref a_v_sums), some (.ref a_3), y_v_k_1, y_v_total_1, none] ∧ Ex H0 H' ∧ H' a_3 = some (.lst (il v_found_5))) (fun H8 e9 => ⟨_, _, _, rfl, rfl, ex.trans e9, e9 _ _ h_a_3⟩) ?_ ?_
    ·
      rintro i4 σ' H10 hi_i4 ⟨y_v_k_1, y_v_total_1, v_found_5, hst1, rfl, ex, h_a_3⟩
      have hl : v_found_5.length = 1 + i4 := by rw [← hst1]; exact iter_snoc_len (f := (m_series_L1s v_sums)) (fun i st => ⟨_, rfl⟩) i4
      have hinv := inverse_ok (1 + (i4 : Int))
      obtain ⟨v_total_15, e_v_total_15⟩ : ∃ z : Int, z = (((rng 1 ((1 + (i4 : Int)) + 1)).map fun v_i_c11 => (gi v_sums (v_i_c11 - 1)) * (gi v_found_5 ((1 + (i4 : Int)) - v_i_c11))).sum) := ⟨_, rfl⟩
      refine q_asg (v := .int v_total_15) (ev_is (ev_sum (EvN.toD (en_il (g := fun v_i_c11 => (gi v_sums (v_i_c11 - 1)) * (gi v_found_5 ((1 + (i4 : Int)) - v_i_c11))) (en_lcR2t (g := fun v_i_c11 => V.int ((gi v_sums (v_i_c11 - 1)) * (gi v_found_5 ((1 + (i4 : Int)) - v_i_c11)))) ev_c (ev_op (ev_var rfl) ev_c rv_I0) (by walk_at "kside") (fun v_i_c11 hm12 => (by have hm12' := rng_mem.mp hm12; have hgs := rests_gi hp0 (v_i_c11 - 1); exact (ev_op (ev_ix (ed_rep (d := .l (il v_sums)) (ev_var (v := .ref a_v_sums) rfl) ⟨_, rfl, (ex _ _ h_a_v_sums0)⟩) (ev_op (ev_var rfl) ev_c rv_I0) (by walk_at "kside")) (ev_ix (ed_rep (d := .l (il v_found_5)) (ev_var (v := .ref a_3) rfl) ⟨_, rfl, h_a_3⟩) (ev_op (ev_var rfl) (ev_var rfl) rv_I0) (by walk_at "kside")) (rv_I (by walk_at "kmul"))))))))) (congrArg V.int e_v_total_15.symm)) (fun H13 e14 => ?_)
      have ex := ex.trans e14
      have h_a_3 := e14 _ _ h_a_3
      refine s_appI h_a_3 (ev_var (v := .ref a_3) rfl) (ev_op (ev_op (ev_op ev_c (ev_var rfl) rv_I0) (cl_inverse (1 + (i4 : Int)) (eas_cons (ed_v (ev_var rfl)) eas_nil) (by walk_at "kside")) (rv_I (by walk_at "kmul"))) ev_c (rv_I (by walk_at "kside"))) (by walk_at "kside") (fun H16 b17 h_a_3' => ?_)
      have ex := But.ex ex n_a_3 b17
      have h_a_3 := h_a_3'
      subst e_v_total_15
      have hs18 : iter (m_series_L1s v_sums) [1] (i4 + 1) = (v_found_5 ++ [((0 - (((rng 1 ((1 + (i4 : Int)) + 1)).map fun v_i_c11 => (gi v_sums (v_i_c11 - 1)) * (gi v_found_5 ((1 + (i4 : Int)) - v_i_c11))).sum)) * (m_inverse (1 + (i4 : Int)))) % 251]) := (congrArg ((m_series_L1s v_sums) i4) hst1).trans rfl
      exact ⟨_, _, _, hs18, rfl, ex, h_a_3⟩
    ·
      rintro σ' H19 ⟨y_v_k_1, y_v_total_1, v_found_5, hst1, rfl, ex, h_a_3⟩
      obtain rfl : v_found_5 = (m_series_L1 v_sums) := hst1.symm
      obtain ⟨v_found_20, e_v_found_20⟩ : ∃ z : List Int, z = (m_series_L1 v_sums) := ⟨_, rfl⟩
      rw [← e_v_found_20] at h_a_3
      refine s_ret (ev_var (v := .ref a_3) rfl) (fun H21 e22 => ?_)
      have ex := ex.trans e22
      have h_a_3 := e22 _ _ h_a_3
      subst e_v_found_20
      exact k _ _ ex (ret_eq (congrArg (fun z : List Int => (.l (il z) : D)) (show m_series v_sums = (m_series_L1 v_sums) from rfl)) ⟨_, rfl, n_a_3, h_a_3⟩)
def sp__law_whole (K : PySem.W.Frag) : Sp := spG K (fun (a : Int) => [.v (.int a)]) (fun a => True) (fun a => .v (.bl (m_law_whole a)))
theorem cl__law_whole {K : PySem.W.Frag} {σ : L2.St} {H : Hp} {ta : TA} {E : XK} (v_found : Int) (h : EvAs K ta σ H [.v (.int v_found)]) (hp : True) : Ev (tCall (sp__law_whole K) [] E ta) σ H (.bl (m_law_whole v_found)) := ev_ofN (en_call (a := (v_found)) h hp)
theorem ok__law_whole (T : Txt K mg fa fd) : FnOk P w K mg base CX0 1 (fa 6) (fd 6) ["_law_found"] (sp__law_whole K) := by
  refine T.F__law_whole.ok sc__law_whole (fun vs H Q E h => ?_) (fun cdv A outer s H0 vs Q E hr h => ?_)
  · obtain ⟨a, r, _⟩ := h
    exact r.length
  · obtain ⟨v_found, r, hpre, k⟩ := h
    replace r : Paired (fun u d => D.rep K d u H0) vs [.v (.int v_found)] := r
    obtain ⟨u_v_found, tl_v_found, hvs0, r_v_found, r0⟩ := paired_cons r
    clear r
    subst hvs0
    obtain rfl : u_v_found = .int v_found := r_v_found
    obtain rfl := paired_nil r0
    have ex : Ex H0 H0 := Ex.refl H0
    refine ⟨_, (pss_one (ps_ret (pe_and (pe_callB (r := rIsi K) call_isi (by rfl) T.n_isinstance (by decide +kernel) (pa_cons (pv 0) (pa_cons (pe_bltn (v := .ty "int") (by rfl) T.n_int (by decide +kernel) rfl) pa_nil))) (pe_one (pe_not (pe_callB (r := rIsi K) call_isi (by rfl) T.n_isinstance (by decide +kernel) (pa_cons (pv 0) (pa_cons (pe_bltn (v := .ty "bool") (by rfl) T.n_bool (by decide +kernel) rfl) pa_nil)))))))), ?_⟩
    refine s_ret (ev_andV (a := true) (b := true) (ev_isD (d := .v (.int v_found)) (s := "int") (b := true) (ed_v (ev_var rfl)) ev_c rfl (by decide +kernel)) (fun hg1 => (ev_notV (ev_isD (d := .v (.int v_found)) (s := "int") (b := false) (ed_v (ev_var rfl)) ev_c rfl (by decide +kernel))))) (fun H2 e3 => ?_)
    exact k _ _ (ex.trans e3) (ret_eq (congrArg (fun z : Bool => (.v (.bl z) : D)) (show m_law_whole v_found = true from rfl)) rfl)
def sp__law_rests (K : PySem.W.Frag) : Sp := spG K (fun (a : (List Int) × (List Int)) => [.l (il a.1), .l (il a.2)]) (fun a => (a.2.length ≤ 1000)) (fun a => .v (.bl (m_law_rests a.1 a.2)))
theorem cl__law_rests {K : PySem.W.Frag} {σ : L2.St} {H : Hp} {ta : TA} {E : XK} (v_found : List Int) (v_due : List Int) (h : EvAs K ta σ H [.l (il v_found), .l (il v_due)]) (hp : (v_due.length ≤ 1000)) : Ev (tCall (sp__law_rests K) [] E ta) σ H (.bl (m_law_rests v_found v_due)) := ev_ofN (en_call (a := (v_found, v_due)) h hp)
theorem ok__law_rests (T : Txt K mg fa fd) : FnOk P w K mg base CX0 2 (fa 7) (fd 7) ["_law_found", "_law_due"] (sp__law_rests K) := by
  have G__law_whole := ok__law_whole (P := P) (w := w) (base := base) T
  refine T.F__law_rests.ok sc__law_rests (fun vs H Q E h => ?_) (fun cdv A outer s H0 vs Q E hr h => ?_)
  · obtain ⟨a, r, _⟩ := h
    exact r.length
  · obtain ⟨⟨v_found, v_due⟩, r, hpre, k⟩ := h
    replace r : Paired (fun u d => D.rep K d u H0) vs [.l (il v_found), .l (il v_due)] := r
    obtain ⟨u_v_found, tl_v_found, hvs0, r_v_found, r0⟩ := paired_cons r
    clear r
    subst hvs0
    obtain ⟨a_v_found, rfl, h_a_v_found0⟩ := r_v_found
    obtain ⟨u_v_due, tl_v_due, hvs1, r_v_due, r1⟩ := paired_cons r0
    clear r0
    subst hvs1
    obtain ⟨a_v_due, rfl, h_a_v_due0⟩ := r_v_due
    obtain rfl := paired_nil r1
    have hp0 := hpre
    replace hp0 : v_due.length ≤ 1000 := hp0
    have ex : Ex H0 H0 := Ex.refl H0
    refine ⟨_, (pss_cons (ps_if (PW.pt (pw_or (pt_not (pt_val (pe_callB (r := rIsi K) call_isi (by rfl) T.n_isinstance (by decide +kernel) (pa_cons (pv 0) (pa_cons (pe_bltn (v := .ty "list") (by rfl) T.n_list (by decide +kernel) rfl) pa_nil))))) (pw_or1 (pt_cmpR op_ne (pe_callB (r := rLenS K) call_len_seq (by rfl) T.n_len PySem.boot_len (pa_cons (pv 0) pa_nil)) (pe_callB (r := rLenS K) call_len_seq (by rfl) T.n_len PySem.boot_len (pa_cons (pv 1) pa_nil)) (nomark _))))) (pss_one (ps_ret pe_bl)) pss_nil)
      (pss_cons (ps_for PassesOwn.never rfl (pi_range1 (by rfl) T.n_range (pa_cons (pe_callB (r := rLenS K) call_len_seq (by rfl) T.n_len PySem.boot_len (pa_cons (pv 1) pa_nil)) pa_nil)) (pg_name (i := 2) sc__law_rests.nd rfl (.inl rfl)) (pss_one (ps_if (PW.pt (pw_or (pt_not (pt_val (pe_call G__law_whole (hr.mono (by decide)) (by rfl) T.g__law_whole T.F__law_whole.kp T.b__law_whole .nil pass0 (pa_cons (pe_ix (r := rIxL K) ix_list (pv 0) (pv 2) (fun _ _ => rfl)) pa_nil)))) (pw_or1 (pt_cmpR op_ne (pe_ix (r := rIxL K) ix_list (pv 0) (pv 2) (fun _ _ => rfl)) (pe_ix (r := rIxL K) ix_list (pv 1) (pv 2) (fun _ _ => rfl)) (nomark _))))) (pss_one (ps_ret pe_bl)) pss_nil)))
      (pss_one (ps_ret pe_bl)))), ?_⟩
    refine q_when (b := !decide ((v_found.length : Int) = (v_due.length : Int))) (et_or (a := false) (b := !decide ((v_found.length : Int) = (v_due.length : Int))) (et_not (et_B (ev_isD (d := .l (il v_found)) (s := "list") (b := true) (ed_rep (d := .l (il v_found)) (ev_var (v := .ref a_v_found) rfl) ⟨_, rfl, (ex _ _ h_a_v_found0)⟩) ev_c rfl (by decide +kernel)))) (fun hg1 => (et_test (ev_neI (ev_lenI (ed_rep (d := .l (il v_found)) (ev_var (v := .ref a_v_found) rfl) ⟨_, rfl, (ex _ _ h_a_v_found0)⟩)) (ev_lenI (ed_rep (d := .l (il v_due)) (ev_var (v := .ref a_v_due) rfl) ⟨_, rfl, (ex _ _ h_a_v_due0)⟩)))))) (fun hb4 H2 e3 => ?_) (fun hb4 H2 e3 => ?_)
    ·
      have hq4 := hb4
      (try simp only [Bool.and_eq_true, Bool.or_eq_true, Bool.not_eq_true', Bool.not_eq_false', Bool.and_eq_false_iff, Bool.or_eq_false_iff, decide_eq_true_eq, decide_eq_false_iff_not] at hq4)
      have ex := ex.trans e3
      refine s_ret ev_c (fun H5 e6 => ?_)
      exact k _ _ (ex.trans e6) (ret_eq (congrArg (fun z : Bool => (.v (.bl z) : D)) (show m_law_rests v_found v_due = false from (Eq.trans (cond_t hb4) rfl))) rfl)
    ·
      have hq4 := hb4
      (try simp only [Bool.and_eq_true, Bool.or_eq_true, Bool.not_eq_true', Bool.not_eq_false', Bool.and_eq_false_iff, Bool.or_eq_false_iff, decide_eq_true_eq, decide_eq_false_iff_not] at hq4)
      have ex := ex.trans e3
      refine q_forR1 (n := (v_due.length : Int)) (ea_cons (ev_lenI (ed_rep (d := .l (il v_due)) (ev_var (v := .ref a_v_due) rfl) ⟨_, rfl, (ex _ _ h_a_v_due0)⟩)) ea_nil) (by walk_at "kside") (fun (i : Nat) σ' H' => ∃ (y_v_k_1 : Option V), first (m_law_rests_L1b v_found v_due) i = none ∧ σ' = [some (.ref a_v_found), some (.ref a_v_due), y_v_k_1] ∧ Ex H0 H') (fun H11 e12 => ⟨_, rfl, rfl, ex.trans e12⟩) ?_ ?_
      ·
        rintro i9 σ' H13 hi_i9 ⟨y_v_k_1, hst1, rfl, ex⟩
        refine s_when (b := (!(m_law_whole (gi v_found (i9 : Int)))) || (!decide (gi v_found (i9 : Int) = gi v_due (i9 : Int)))) (et_or (a := !(m_law_whole (gi v_found (i9 : Int)))) (b := !decide (gi v_found (i9 : Int) = gi v_due (i9 : Int))) (et_not (et_B (cl__law_whole (gi v_found (i9 : Int)) (eas_cons (ed_v (ev_ix (ed_rep (d := .l (il v_found)) (ev_var (v := .ref a_v_found) rfl) ⟨_, rfl, (ex _ _ h_a_v_found0)⟩) (ev_var rfl) (by walk_at "kside"))) eas_nil) trivial))) (fun hg14 => (by have hg14' := hg14; (try simp only [Bool.and_eq_true, Bool.or_eq_true, Bool.not_eq_true', Bool.not_eq_false', Bool.and_eq_false_iff, Bool.or_eq_false_iff, decide_eq_true_eq, decide_eq_false_iff_not] at hg14'); exact (et_test (ev_neI (ev_ix (ed_rep (d := .l (il v_found)) (ev_var (v := .ref a_v_found) rfl) ⟨_, rfl, (ex _ _ h_a_v_found0)⟩) (ev_var rfl) (by walk_at "kside")) (ev_ix (ed_rep (d := .l (il v_due)) (ev_var (v := .ref a_v_due) rfl) ⟨_, rfl, (ex _ _ h_a_v_due0)⟩) (ev_var rfl) (by walk_at "kside"))))))) (fun hb17 H15 e16 => ?_) (fun hb17 H15 e16 => ?_)
        ·
          have hq17 := hb17
          (try simp only [Bool.and_eq_true, Bool.or_eq_true, Bool.not_eq_true', Bool.not_eq_false', Bool.and_eq_false_iff, Bool.or_eq_false_iff, decide_eq_true_eq, decide_eq_false_iff_not] at hq17)
          have ex := ex.trans e16
          refine s_ret ev_c (fun H18 e19 => ?_)
          have hs22 : (m_law_rests_L1b v_found v_due) i9 = some false := (Eq.trans (cond_t hb17) rfl)
          have hr23 : first (m_law_rests_L1b v_found v_due) (((v_due.length : Int) : Int).toNat) = some false := first_some hst1 hs22 (by have := hi_i9; omega)
          exact k _ _ (ex.trans e19) (ret_eq (congrArg (fun z : Bool => (.v (.bl z) : D)) (show m_law_rests v_found v_due = false from (Eq.trans (cond_f hb4) (Eq.trans (getd_s hr23) rfl)))) rfl)
        ·
          have hq17 := hb17
          (try simp only [Bool.and_eq_true, Bool.or_eq_true, Bool.not_eq_true', Bool.not_eq_false', Bool.and_eq_false_iff, Bool.or_eq_false_iff, decide_eq_true_eq, decide_eq_false_iff_not] at hq17)
          have ex := ex.trans e16
          have hs24 : (m_law_rests_L1b v_found v_due) i9 = none := (Eq.trans (cond_f hb17) rfl)
          exact ⟨_, first_none hst1 hs24, rfl, ex⟩
      ·
        rintro σ' H25 ⟨y_v_k_1, hst1, rfl, ex⟩
        refine s_ret ev_c (fun H26 e27 => ?_)
        exact k _ _ (ex.trans e27) (ret_eq (congrArg (fun z : Bool => (.v (.bl z) : D)) (show m_law_rests v_found v_due = true from (Eq.trans (cond_f hb4) (Eq.trans (getd_n hst1) rfl)))) rfl)
def sp__law_times (K : PySem.W.Frag) : Sp := spG K (fun (a : (List Int) × (List Int)) => [.l (il a.1), .l (il a.2)]) (fun a => (Rests a.1) ∧ (a.1.length ≤ 1000) ∧ (a.2.length ≤ 1000)) (fun a => .l (il (m_law_times a.1 a.2)))
theorem cl__law_times {K : PySem.W.Frag} {σ : L2.St} {H : Hp} {ta : TA} {E : XK} (v_one : List Int) (v_other : List Int) (h : EvAs K ta σ H [.l (il v_one), .l (il v_other)]) (hp : (Rests v_one) ∧ (v_one.length ≤ 1000) ∧ (v_other.length ≤ 1000)) : EvN K (tCall (sp__law_times K) [] E ta) σ H (.l (il (m_law_times v_one v_other))) := en_call (a := (v_one, v_other)) h hp
theorem ok__law_times (T : Txt K mg fa fd) : FnOk P w K mg base CX0 1 (fa 8) (fd 8) ["_law_one", "_law_other"] (sp__law_times K) := by
  refine T.F__law_times.ok sc__law_times (fun vs H Q E h => ?_) (fun cdv A outer s H0 vs Q E hr h => ?_)
  · obtain ⟨a, r, _⟩ := h
    exact r.length
  · obtain ⟨⟨v_one, v_other⟩, r, hpre, k⟩ := h
    replace r : Paired (fun u d => D.rep K d u H0) vs [.l (il v_one), .l (il v_other)] := r
    obtain ⟨u_v_one, tl_v_one, hvs0, r_v_one, r0⟩ := paired_cons r
    clear r
    subst hvs0
    obtain ⟨a_v_one, rfl, h_a_v_one0⟩ := r_v_one
    obtain ⟨u_v_other, tl_v_other, hvs1, r_v_other, r1⟩ := paired_cons r0
    clear r0
    subst hvs1
    obtain ⟨a_v_other, rfl, h_a_v_other0⟩ := r_v_other
    obtain rfl := paired_nil r1
    obtain ⟨hp0, hp1, hp2⟩ := hpre
    replace hp0 : Rests v_one := hp0
    replace hp1 : v_one.length ≤ 1000 := hp1
    replace hp2 : v_other.length ≤ 1000 := hp2
    have ex : Ex H0 H0 := Ex.refl H0
    refine ⟨_, (pss_cons (ps_if (PW.pt (pw_or (pt_cmpR (r := rEqD K) (op_eqD hr.units) (pv 0) (pe_lst pa_nil) (nomark _)) (pw_or1 (pt_cmpR (r := rEqD K) (op_eqD hr.units) (pv 1) (pe_lst pa_nil) (nomark _))))) (pss_one (ps_ret (pe_lst pa_nil))) pss_nil)
      (pss_cons (ps_set (i := 2) sc__law_times.nd rfl (.inl rfl) (pe_lst pa_nil))
      (pss_cons (ps_for PassesOwn.never rfl (pi_range1 (by rfl) T.n_range (pa_cons (pe_op op_sub (pe_op op_add (pe_callB (r := rLenS K) call_len_seq (by rfl) T.n_len PySem.boot_len (pa_cons (pv 0) pa_nil)) (pe_callB (r := rLenS K) call_len_seq (by rfl) T.n_len PySem.boot_len (pa_cons (pv 1) pa_nil))) pe_int) pa_nil)) (pg_name (i := 3) sc__law_times.nd rfl (.inr rfl)) (pss_one (ps_expr (pe_bm PySem.F.plainAttrs_list PySem.F.slot_list_append PySem.F.type_list_append mt_append (pv 2) (pa_cons (pe_op op_mod (pe_callB (r := rSum K) (cr_sum rfl) (by rfl) T.n_sum (by decide +kernel) (pa_cons (pe_lc (own := [("_law_m", 4)]) (g := gName 4) rfl sc__law_times.nd (pi_range1 (by rfl) T.n_range (pa_cons (pe_callB (r := rLenS K) call_len_seq (by rfl) T.n_len PySem.boot_len (pa_cons (pv 0) pa_nil)) pa_nil)) (blkOk_by (own := [("_law_m", 4)]) (N := ["_law_one", "_law_other", "_law_found", "_law_k", "_law_m"]) (sc := defScope s__law_times) (by decide +kernel)) (fun _ _ _ _ _ => pg_name (i := 4) sc__law_times.nd rfl (Or.inl rfl)) (fun _ _ _ _ _ => pts_one (pt_chain op_le op_lt pe_int (pe_op op_sub (pv 3) (pv 4)) (pe_callB (r := rLenS K) call_len_seq (by rfl) T.n_len PySem.boot_len (pa_cons (pv 1) pa_nil)))) (fun _ _ _ _ _ => (pe_op op_mul (pe_ix (r := rIxL K) ix_list (pv 0) (pv 4) (fun _ _ => rfl)) (pe_ix (r := rIxL K) ix_list (pv 1) (pe_op op_sub (pv 3) (pv 4)) (fun _ _ => rfl))))) pa_nil)) pe_int) pa_nil)))))
      (pss_one (ps_ret (pv 2)))))), ?_⟩
    refine q_when (b := (decide (v_one = [])) || (decide (v_other = []))) (et_or (a := decide (v_one = [])) (b := decide (v_other = [])) (et_test (ev_eqL (ed_rep (d := .l (il v_one)) (ev_var (v := .ref a_v_one) rfl) ⟨_, rfl, (ex _ _ h_a_v_one0)⟩) (EvN.toD en_l0))) (fun hg1 => (et_test (ev_eqL (ed_rep (d := .l (il v_other)) (ev_var (v := .ref a_v_other) rfl) ⟨_, rfl, (ex _ _ h_a_v_other0)⟩) (EvN.toD en_l0))))) (fun hb4 H2 e3 => ?_) (fun hb4 H2 e3 => ?_)
    ·
      have hq4 := hb4
      (try simp only [Bool.and_eq_true, Bool.or_eq_true, Bool.not_eq_true', Bool.not_eq_false', Bool.and_eq_false_iff, Bool.or_eq_false_iff, decide_eq_true_eq, decide_eq_false_iff_not] at hq4)
      have ex := ex.trans e3
      refine s_retN (K := K) en_l0 (fun u7 H5 e6 n8 => ?_)
      exact k _ _ (ex.trans e6) (ret_eq (congrArg (fun z : List Int => (.l (il z) : D)) (show m_law_times v_one v_other = [] from (Eq.trans (cond_t hb4) rfl))) (D.nback ex n8))
    ·
      have hq4 := hb4
      (try simp only [Bool.and_eq_true, Bool.or_eq_true, Bool.not_eq_true', Bool.not_eq_false', Bool.and_eq_false_iff, Bool.or_eq_false_iff, decide_eq_true_eq, decide_eq_false_iff_not] at hq4)
      have ex := ex.trans e3
      have hne1 : v_one.length ≠ 0 := fun z => hq4.1 (List.length_eq_zero_iff.mp z)
      have hne2 : v_other.length ≠ 0 := fun z => hq4.2 (List.length_eq_zero_iff.mp z)
      refine q_asgNl (K := K) (xs := il []) en_l0 (fun a_11 H9 np_a_11 e10 h_a_11 => ?_)
      have n_a_11 := fresh_back ex np_a_11
      have ne_a_v_one_a_11 := ne_of_none (ex _ _ h_a_v_one0) np_a_11
      have ne_a_v_other_a_11 := ne_of_none (ex _ _ h_a_v_other0) np_a_11
      have ex := ex.trans e10
      refine q_forR1 (n := (v_one.length : Int) + (v_other.length : Int) - 1) (ea_cons (ev_op (ev_op (ev_lenI (ed_rep (d := .l (il v_one)) (ev_var (v := .ref a_v_one) rfl) ⟨_, rfl, (ex _ _ h_a_v_one0)⟩)) (ev_lenI (ed_rep (d := .l (il v_other)) (ev_var (v := .ref a_v_other) rfl) ⟨_, rfl, (ex _ _ h_a_v_other0)⟩)) rv_I0) ev_c rv_I0) ea_nil) (by walk_at "kside") (fun (i : Nat) σ' H' => ∃ (y_v_k_1 : Option V) (v_found_13 : List Int), iter (m_law_times_L1s v_one v_other) [] i = v_found_13 ∧ σ' = [some (.ref a_v_one), some (.ref a_v_other), some (.ref a_11), y_v_k_1, none] ∧ Ex H0 H' ∧ H' a_11 = some (.lst (il v_found_13))) (fun H16 e17 => ⟨_, _, rfl, rfl, ex.trans e17, e17 _ _ h_a_11⟩) ?_ ?_
      ·
        rintro i12 σ' H18 hi_i12 ⟨y_v_k_1, v_found_13, hst1, rfl, ex, h_a_11⟩
        have hl : v_found_13.length = 0 + i12 := by rw [← hst1]; exact iter_snoc_len (f := (m_law_times_L1s v_one v_other)) (fun i st => ⟨_, rfl⟩) i12
        refine s_appI h_a_11 (ev_var (v := .ref a_11) rfl) (ev_op (ev_sum (EvN.toD (en_il (g := fun v_m_c19 => (gi v_one v_m_c19) * (gi v_other ((i12 : Int) - v_m_c19))) (en_lcR1 (p := fun v_m_c19 => decide (0 ≤ (i12 : Int) - v_m_c19) && decide ((i12 : Int) - v_m_c19 < (v_other.length : Int))) (g := fun v_m_c19 => V.int ((gi v_one v_m_c19) * (gi v_other ((i12 : Int) - v_m_c19)))) (ev_lenI (ed_rep (d := .l (il v_one)) (ev_var (v := .ref a_v_one) rfl) ⟨_, rfl, (ex _ _ h_a_v_one0)⟩)) (by walk_at "kside") (fun v_m_c19 hm20 => (by have hm20' := rng_mem.mp hm20; have hgm := rests_gi hp0 v_m_c19; exact (et_test (ev_chain ev_c (ev_op (ev_var rfl) (ev_var rfl) rv_I0) (ev_lenI (ed_rep (d := .l (il v_other)) (ev_var (v := .ref a_v_other) rfl) ⟨_, rfl, (ex _ _ h_a_v_other0)⟩)) rv_I0 rv_I0)))) (fun v_m_c19 hm20 hb21 => (by have hm20' := rng_mem.mp hm20; have hgm := rests_gi hp0 v_m_c19; exact (by have hb21' := hb21; (try simp only [Bool.and_eq_true, Bool.or_eq_true, Bool.not_eq_true', Bool.not_eq_false', Bool.and_eq_false_iff, Bool.or_eq_false_iff, decide_eq_true_eq, decide_eq_false_iff_not] at hb21'); exact (ev_op (ev_ix (ed_rep (d := .l (il v_one)) (ev_var (v := .ref a_v_one) rfl) ⟨_, rfl, (ex _ _ h_a_v_one0)⟩) (ev_var rfl) (by walk_at "kside")) (ev_ix (ed_rep (d := .l (il v_other)) (ev_var (v := .ref a_v_other) rfl) ⟨_, rfl, (ex _ _ h_a_v_other0)⟩) (ev_op (ev_var rfl) (ev_var rfl) rv_I0) (by walk_at "kside")) (rv_I (by walk_at "kmul")))))))))) ev_c (rv_I (by walk_at "kside"))) (by walk_at "kside") (fun H22 b23 h_a_11' => ?_)
        have ex := But.ex ex n_a_11 b23
        have h_a_11 := h_a_11'
        have hs24 : iter (m_law_times_L1s v_one v_other) [] (i12 + 1) = (v_found_13 ++ [((((rng 0 (v_one.length : Int)).filter fun v_m_c19 => decide (0 ≤ (i12 : Int) - v_m_c19) && decide ((i12 : Int) - v_m_c19 < (v_other.length : Int))).map fun v_m_c19 => (gi v_one v_m_c19) * (gi v_other ((i12 : Int) - v_m_c19))).sum) % 251]) := (congrArg ((m_law_times_L1s v_one v_other) i12) hst1).trans rfl
        exact ⟨_, _, hs24, rfl, ex, h_a_11⟩
      ·
        rintro σ' H25 ⟨y_v_k_1, v_found_13, hst1, rfl, ex, h_a_11⟩
        obtain rfl : v_found_13 = (m_law_times_L1 v_one v_other) := hst1.symm
        obtain ⟨v_found_26, e_v_found_26⟩ : ∃ z : List Int, z = (m_law_times_L1 v_one v_other) := ⟨_, rfl⟩
        rw [← e_v_found_26] at h_a_11
        refine s_ret (ev_var (v := .ref a_11) rfl) (fun H27 e28 => ?_)
        have ex := ex.trans e28
        have h_a_11 := e28 _ _ h_a_11
        subst e_v_found_26
        exact k _ _ ex (ret_eq (congrArg (fun z : List Int => (.l (il z) : D)) (show m_law_times v_one v_other = (m_law_times_L1 v_one v_other) from (Eq.trans (cond_f hb4) rfl))) ⟨_, rfl, n_a_11, h_a_11⟩)
def sp_law (K : PySem.W.Frag) : Sp := spG K (fun (a : (List Int)) => [.s (il a)]) (fun a => (a.length ≤ 63)) (fun a => .v (.bl (m_law a)))
theorem cl_law {K : PySem.W.Frag} {σ : L2.St} {H : Hp} {ta : TA} {E : XK} (v_script : List Int) (h : EvAs K ta σ H [.s (il v_script)]) (hp : (v_script.length ≤ 63)) : Ev (tCall (sp_law K) [] E ta) σ H (.bl (m_law v_script)) := ev_ofN (en_call (a := (v_script)) h hp)
theorem ok_law (T : Txt K mg fa fd) : FnOk P w K mg base CX0 4 (fa 9) (fd 9) ["_law_script"] (sp_law K) := by
  have G__law_cell_at := ok__law_cell_at (P := P) (w := w) (base := base) T
  have G__law_rests := ok__law_rests (P := P) (w := w) (base := base) T
  have G__law_row := ok__law_row (P := P) (w := w) (base := base) T
  have G__law_sums := ok__law_sums (P := P) (w := w) (base := base) T
  have G__law_times := ok__law_times (P := P) (w := w) (base := base) T
  have G__law_whole := ok__law_whole (P := P) (w := w) (base := base) T
  have G_series := ok_series (P := P) (w := w) (base := base) T
  refine T.F_law.ok sc_law (fun vs H Q E h => ?_) (fun cdv A outer s H0 vs Q E hr h => ?_)
  · obtain ⟨a, r, _⟩ := h
    exact r.length
  · obtain ⟨v_script, r, hpre, k⟩ := h
    replace r : Paired (fun u d => D.rep K d u H0) vs [.s (il v_script)] := r
    obtain ⟨u_v_script, tl_v_script, hvs0, r_v_script, r0⟩ := paired_cons r
    clear r
    subst hvs0
    obtain ⟨a_v_script, rfl, h_a_v_script0⟩ := r_v_script
    obtain rfl := paired_nil r0
    have hp0 := hpre
    replace hp0 : v_script.length ≤ 63 := hp0
    have ex : Ex H0 H0 := Ex.refl H0
    refine ⟨_, (pss_cons (ps_set (i := 1) sc_law.nd rfl (.inl rfl) (pe_op op_add pe_int (pe_op op_mod (pe_call G__law_cell_at (hr.mono (by decide)) (by rfl) T.g__law_cell_at T.F__law_cell_at.kp T.b__law_cell_at .nil pass0 (pa_cons (pv 0) (pa_cons pe_int pa_nil))) pe_int)))
      (pss_cons (ps_set (i := 2) sc_law.nd rfl (.inl rfl) (pe_call G__law_row (hr.mono (by decide)) (by rfl) T.g__law_row T.F__law_row.kp T.b__law_row .nil pass0 (pa_cons (pv 0) (pa_cons pe_int (pa_cons pe_int pa_nil)))))
      (pss_cons (ps_set (i := 3) sc_law.nd rfl (.inr rfl) (pe_call G__law_sums (hr.mono (by decide)) (by rfl) T.g__law_sums T.F__law_sums.kp T.b__law_sums .nil pass0 (pa_cons (pv 2) (pa_cons (pv 1) pa_nil))))
      (pss_cons (ps_set (i := 4) sc_law.nd rfl (.inl rfl) (pe_cmpR op_eq (pe_op op_mod (pe_op op_fdiv (pe_call G__law_cell_at (hr.mono (by decide)) (by rfl) T.g__law_cell_at T.F__law_cell_at.kp T.b__law_cell_at .nil pass0 (pa_cons (pv 0) (pa_cons pe_int pa_nil))) pe_int) pe_int) pe_int (nomark _)))
      (pss_cut (ps_if (pt_val (pv 4)) (pss_one (ps_set (i := 3) sc_law.nd rfl (.inr rfl) (pe_lc (own := [("_law_k", 7)]) (g := gName 7) (tt := tYes) rfl sc_law.nd (pi_range1 (by rfl) T.n_range (pa_cons (pv 1) pa_nil)) (blkOk_by (own := [("_law_k", 7)]) (N := ["_law_script", "_law_many", "_law_row_here", "_law_sums_here", "_law_is_free", "_law_handed", "_law_found", "_law_k", "_law_total", "_law_due", "_law_number", "_law_i"]) (sc := defScope s_law) (by decide +kernel)) (fun _ _ _ _ _ => pg_name (i := 7) sc_law.nd rfl (Or.inl rfl)) (fun _ _ _ _ _ => pts_nil) (fun _ _ _ _ _ => (pe_op op_mod (pe_op op_mod (pe_op op_mul (pe_op op_add (pe_call G__law_cell_at (hr.mono (by decide)) (by rfl) T.g__law_cell_at T.F__law_cell_at.kp T.b__law_cell_at .nil pass0 (pa_cons (pv 0) (pa_cons pe_int pa_nil))) (pe_op op_mul pe_int (pv 7))) pe_int) pe_int) pe_int))))) pss_nil)
      (pss_cons (ps_set (i := 5) sc_law.nd rfl (.inl rfl) (pe_callTy (r := rListS K) call_list_of (by rfl) T.n_list (by decide +kernel) (pa_cons (pv 3) pa_nil)))
      (pss_cons (ps_set (i := 6) sc_law.nd rfl (.inr rfl) (pe_call G_series (hr.mono (by decide)) (by rfl) T.g_series T.F_series.kp T.b_series .nil pass0 (pa_cons (pv 5) pa_nil)))
      (pss_cons (ps_if (PW.pt (pw_or (pt_not (pt_val (pe_callB (r := rIsi K) call_isi (by rfl) T.n_isinstance (by decide +kernel) (pa_cons (pv 6) (pa_cons (pe_bltn (v := .ty "list") (by rfl) T.n_list (by decide +kernel) rfl) pa_nil))))) (pw_or (pt_cmpR op_ne (pe_callB (r := rLenS K) call_len_seq (by rfl) T.n_len PySem.boot_len (pa_cons (pv 6) pa_nil)) (pe_op op_add (pv 1) pe_int) (nomark _)) (pw_or1 (pt_not (pt_val (pe_call G__law_rests (hr.mono (by decide)) (by rfl) T.g__law_rests T.F__law_rests.kp T.b__law_rests .nil pass0 (pa_cons (pv 5) (pa_cons (pv 3) pa_nil))))))))) (pss_one (ps_ret pe_bl)) pss_nil)
      (pss_cons (ps_for PassesOwn.never rfl (pi_range1 (by rfl) T.n_range (pa_cons (pe_op op_add (pv 1) pe_int) pa_nil)) (pg_name (i := 7) sc_law.nd rfl (.inr rfl)) (pss_cons (ps_if (PW.pt (pw_or (pt_not (pt_val (pe_call G__law_whole (hr.mono (by decide)) (by rfl) T.g__law_whole T.F__law_whole.kp T.b__law_whole .nil pass0 (pa_cons (pe_ix (r := rIxL K) ix_list (pv 6) (pv 7) (fun _ _ => rfl)) pa_nil)))) (pw_or1 (pt_not (pt_chain op_le op_le pe_int (pe_ix (r := rIxL K) ix_list (pv 6) (pv 7) (fun _ _ => rfl)) pe_int))))) (pss_one (ps_ret pe_bl)) pss_nil)
      (pss_cons (ps_set (i := 8) sc_law.nd rfl (.inl rfl) (pe_callB (r := rSum K) (cr_sum rfl) (by rfl) T.n_sum (by decide +kernel) (pa_cons (pe_lc (own := [("_law_i", 11)]) (g := gName 11) (tt := tYes) rfl sc_law.nd (pi_range1 (by rfl) T.n_range (pa_cons (pv 7) pa_nil)) (blkOk_by (own := [("_law_i", 11)]) (N := ["_law_script", "_law_many", "_law_row_here", "_law_sums_here", "_law_is_free", "_law_handed", "_law_found", "_law_k", "_law_total", "_law_due", "_law_number", "_law_i"]) (sc := defScope s_law) (by decide +kernel)) (fun _ _ _ _ _ => pg_name (i := 11) sc_law.nd rfl (Or.inl rfl)) (fun _ _ _ _ _ => pts_nil) (fun _ _ _ _ _ => (pe_op op_mul (pe_ix (r := rIxL K) ix_list (pv 3) (pv 11) (fun _ _ => rfl)) (pe_ix (r := rIxL K) ix_list (pv 6) (pe_op op_sub (pe_op op_sub (pv 7) pe_int) (pv 11)) (fun _ _ => rfl))))) pa_nil)))
      (pss_one (ps_if (pt_cmpR op_ne (pe_op op_mod (pe_op op_add (pe_op op_mul (pv 7) (pe_ix (r := rIxL K) ix_list (pv 6) (pv 7) (fun _ _ => rfl))) (pv 8)) pe_int) pe_int (nomark _)) (pss_one (ps_ret pe_bl)) pss_nil)))))
      (pss_cons (ps_if (pt_val (pv 4)) (pss_one (ps_ret (pe_cmpR op_eq (pe_ix (r := rIxL K) ix_list (pv 6) pe_int (fun _ _ => rfl)) pe_int (nomark _)))) pss_nil)
      (pss_cons (ps_set (i := 9) sc_law.nd rfl (.inl rfl) (pe_lst (pa_cons pe_int pa_nil)))
      (pss_cons (ps_for PassesOwn.never rfl (pi_list (pv 2)) (pg_name (i := 10) sc_law.nd rfl (.inl rfl)) (pss_one (ps_set (i := 9) sc_law.nd rfl (.inl rfl) (pe_call G__law_times (hr.mono (by decide)) (by rfl) T.g__law_times T.F__law_times.kp T.b__law_times .nil pass0 (pa_cons (pv 9) (pa_cons (pe_lst (pa_cons pe_int (pa_cons (pe_op op_sub pe_int (pv 10)) pa_nil))) pa_nil))))))
      (pss_one (ps_ret (pe_call G__law_rests (hr.mono (by decide)) (by rfl) T.g__law_rests T.F__law_rests.kp T.b__law_rests .nil pass0 (pa_cons (pv 6) (pa_cons (pe_slice (r := rSlL K) sl_list (pe_op op_cat (pv 9) (pe_op op_rep (pe_lst (pa_cons pe_int pa_nil)) (pv 1))) po_none (po_some (pe_op op_add (pv 1) pe_int))) pa_nil))))))))))))))))), ?_⟩
    obtain ⟨v_many_3, e_v_many_3⟩ : ∃ z : Int, z = (1 + ((m_law_cell_at v_script 0) % 12)) := ⟨_, rfl⟩
    refine q_asg (v := .int v_many_3) (ev_is (ev_op ev_c (ev_op (cl__law_cell_at v_script 0 (eas_cons (ed_var rfl ⟨_, rfl, ex_l ex h_a_v_script0⟩) (eas_cons (ed_v ev_c) eas_nil)) (by walk_at "kside")) ev_c (rv_I (by walk_at "kside"))) rv_I0) (congrArg V.int e_v_many_3.symm)) (fun H1 e2 => ?_)
    have ex := ex.trans e2
    obtain ⟨v_row_here_7, e_v_row_here_7⟩ : ∃ z : List Int, z = (m_law_row v_script 1 14) := ⟨_, rfl⟩
    refine q_asgNl (K := K) (xs := il v_row_here_7) (en_is (cl__law_row v_script 1 14 (eas_cons (ed_var rfl ⟨_, rfl, ex_l ex h_a_v_script0⟩) (eas_cons (ed_v ev_c) (eas_cons (ed_v ev_c) eas_nil))) ⟨(by walk_at "kside"), (by walk_at "kside")⟩) (congrArg (fun z => D.l (il z)) e_v_row_here_7.symm)) (fun a_6 H4 np_a_6 e5 h_a_6 => ?_)
    have n_a_6 := fresh_back ex np_a_6
    have ex := ex.trans e5
    have hrow : RowOk v_row_here_7 ∧ (v_row_here_7.length : Int) ≤ 14 := by rw [e_v_row_here_7]; exact law_row_ok _ _ _ (by decide)
    obtain ⟨hrow, hrl⟩ := hrow
    have hrb := hrow.2.1
    obtain ⟨v_sums_here_11, e_v_sums_here_11⟩ : ∃ z : List Int, z = (m_law_sums v_row_here_7 v_many_3) := ⟨_, rfl⟩
    refine q_asgNl (K := K) (xs := il v_sums_here_11) (en_is (cl__law_sums v_row_here_7 v_many_3 (eas_cons (ed_rep (d := .l (il v_row_here_7)) (ev_var (v := .ref a_6) rfl) ⟨_, rfl, h_a_6⟩) (eas_cons (ed_v (ev_var rfl)) eas_nil)) ⟨(by walk_at "kside"), (by walk_at "kside")⟩) (congrArg (fun z => D.l (il z)) e_v_sums_here_11.symm)) (fun a_10 H8 np_a_10 e9 h_a_10 => ?_)
    have n_a_10 := fresh_back ex np_a_10
    have ne_a_6_a_10 := ne_of_none h_a_6 np_a_10
    have ex := ex.trans e9
    have h_a_6 := e9 _ _ h_a_6
    obtain ⟨v_is_free_14, e_v_is_free_14⟩ : ∃ z : Bool, z = (decide (((m_law_cell_at v_script 0) / 12) % 3 = 1)) := ⟨_, rfl⟩
    refine q_asg (v := .bl v_is_free_14) (ev_is (ev_eqI (ev_op (ev_op (cl__law_cell_at v_script 0 (eas_cons (ed_var rfl ⟨_, rfl, ex_l ex h_a_v_script0⟩) (eas_cons (ed_v ev_c) eas_nil)) (by walk_at "kside")) ev_c (rv_I ⟨by walk_at "kside", by walk_at "kside"⟩)) ev_c (rv_I (by walk_at "kside"))) ev_c) (congrArg V.bl e_v_is_free_14.symm)) (fun H12 e13 => ?_)
    have ex := ex.trans e13
    have h_a_6 := e13 _ _ h_a_6
    have h_a_10 := e13 _ _ h_a_10
    have hs1 : Rests v_sums_here_11 := by rw [e_v_sums_here_11]; exact law_sums_rests _ _
    have hs2 : v_sums_here_11.length = v_many_3.toNat := by rw [e_v_sums_here_11]; exact law_sums_length _ _
    refine q_cut (M := fun σ' H' => ∃ (v_sums_here_15 : List Int) (a_v_sums_here_15 : Addr), m_law_J1 v_script v_many_3 v_sums_here_11 v_is_free_14 = v_sums_here_15 ∧ σ' = [some (.ref a_v_script), some (.int v_many_3), some (.ref a_6), some (.ref a_v_sums_here_15), some (.bl v_is_free_14), none, none, none, none, none, none, none] ∧ Ex H0 H' ∧ H' a_6 = some (.lst (il v_row_here_7)) ∧ H' a_v_sums_here_15 = some (.lst (il v_sums_here_15)) ∧ H0 a_v_sums_here_15 = none) ?_ ?_
    ·
      refine s_when (b := v_is_free_14) (et_B (ev_var rfl)) (fun hb18 H16 e17 => ?_) (fun hb18 H16 e17 => ?_)
      ·
        have hq18 := hb18
        (try simp only [Bool.and_eq_true, Bool.or_eq_true, Bool.not_eq_true', Bool.not_eq_false', Bool.and_eq_false_iff, Bool.or_eq_false_iff, decide_eq_true_eq, decide_eq_false_iff_not] at hq18)
        have ex := ex.trans e17
        have h_a_6 := e17 _ _ h_a_6
        have h_a_10 := e17 _ _ h_a_10
        obtain ⟨v_sums_here_24, e_v_sums_here_24⟩ : ∃ z : List Int, z = ((rng 0 v_many_3).map fun v_k_c19 => (((m_law_cell_at v_script 2 + (7919 * v_k_c19)) * 48271) % 1000003) % 251) := ⟨_, rfl⟩
        refine s_asgNl (K := K) (xs := il v_sums_here_24) (en_is (en_il (g := fun v_k_c19 => (((m_law_cell_at v_script 2 + (7919 * v_k_c19)) * 48271) % 1000003) % 251) (en_lcR1t (g := fun v_k_c19 => V.int ((((m_law_cell_at v_script 2 + (7919 * v_k_c19)) * 48271) % 1000003) % 251)) (ev_var rfl) (by walk_at "kside") (fun v_k_c19 hm20 => (by have hm20' := rng_mem.mp hm20; exact (ev_op (ev_op (ev_op (ev_op (cl__law_cell_at v_script 2 (eas_cons (ed_var rfl ⟨_, rfl, ex_l ex h_a_v_script0⟩) (eas_cons (ed_v ev_c) eas_nil)) (by walk_at "kside")) (ev_op ev_c (ev_var rfl) (rv_I (by walk_at "kmul"))) rv_I0) ev_c (rv_I (by walk_at "kmul"))) ev_c (rv_I (by walk_at "kside"))) ev_c (rv_I (by walk_at "kside"))))))) (congrArg (fun z => D.l (il z)) e_v_sums_here_24.symm)) (fun a_23 H21 np_a_23 e22 h_a_23 => ?_)
        have n_a_23 := fresh_back ex np_a_23
        have ne_a_6_a_23 := ne_of_none h_a_6 np_a_23
        have ne_a_10_a_23 := ne_of_none h_a_10 np_a_23
        have ex := ex.trans e22
        have h_a_6 := e22 _ _ h_a_6
        have h_a_10 := e22 _ _ h_a_10
        subst e_v_sums_here_24
        have hs25 : m_law_J1 v_script v_many_3 v_sums_here_11 v_is_free_14 = ((rng 0 v_many_3).map fun v_k_c19 => (((m_law_cell_at v_script 2 + (7919 * v_k_c19)) * 48271) % 1000003) % 251) := (Eq.trans (cond_t hb18) rfl)
        exact ⟨_, _, hs25, rfl, ex, h_a_6, h_a_23, n_a_23⟩
      ·
        have hq18 := hb18
        (try simp only [Bool.and_eq_true, Bool.or_eq_true, Bool.not_eq_true', Bool.not_eq_false', Bool.and_eq_false_iff, Bool.or_eq_false_iff, decide_eq_true_eq, decide_eq_false_iff_not] at hq18)
        have ex := ex.trans e17
        have h_a_6 := e17 _ _ h_a_6
        have h_a_10 := e17 _ _ h_a_10
        have hs26 : m_law_J1 v_script v_many_3 v_sums_here_11 v_is_free_14 = v_sums_here_11 := (Eq.trans (cond_f hb18) rfl)
        exact ⟨_, _, hs26, rfl, ex, h_a_6, h_a_10, n_a_10⟩
    ·
      rintro σ' H27 ⟨v_sums_here_15, a_v_sums_here_15, hj1, rfl, ex, h_a_6, h_a_v_sums_here_15, n_a_v_sums_here_15⟩
      have e_v_sums_here_15 : v_sums_here_15 = m_law_J1 v_script v_many_3 v_sums_here_11 v_is_free_14 := hj1.symm
      clear hj1
      have hj : Rests v_sums_here_15 ∧ v_sums_here_15.length = v_many_3.toNat := by rw [e_v_sums_here_15]; exact law_J1_ok _ _ _ _ hs1 hs2
      obtain ⟨hj1, hj2⟩ := hj
      refine q_asgNl (K := K) (xs := il v_sums_here_15) (en_list (ed_rep (d := .l (il v_sums_here_15)) (ev_var (v := .ref a_v_sums_here_15) rfl) ⟨_, rfl, h_a_v_sums_here_15⟩)) (fun a_30 H28 np_a_30 e29 h_a_30 => ?_)
      have n_a_30 := fresh_back ex np_a_30
      have ne_a_6_a_30 := ne_of_none h_a_6 np_a_30
      have ne_a_v_sums_here_15_a_30 := ne_of_none h_a_v_sums_here_15 np_a_30
      have ex := ex.trans e29
      have h_a_6 := e29 _ _ h_a_6
      have h_a_v_sums_here_15 := e29 _ _ h_a_v_sums_here_15
      obtain ⟨v_found_34, e_v_found_34⟩ : ∃ z : List Int, z = (m_series v_sums_here_15) := ⟨_, rfl⟩
      refine q_asgNl (K := K) (xs := il v_found_34) (en_is (cl_series v_sums_here_15 (eas_cons (ed_rep (d := .l (il v_sums_here_15)) (ev_var (v := .ref a_30) rfl) ⟨_, rfl, h_a_30⟩) eas_nil) ⟨(by walk_at "kside"), (by walk_at "kside")⟩) (congrArg (fun z => D.l (il z)) e_v_found_34.symm)) (fun a_33 H31 np_a_33 e32 h_a_33 => ?_)
      have n_a_33 := fresh_back ex np_a_33
      have ne_a_6_a_33 := ne_of_none h_a_6 np_a_33
      have ne_a_v_sums_here_15_a_33 := ne_of_none h_a_v_sums_here_15 np_a_33
      have ne_a_30_a_33 := ne_of_none h_a_30 np_a_33
      have ex := ex.trans e32
      have h_a_6 := e32 _ _ h_a_6
      have h_a_v_sums_here_15 := e32 _ _ h_a_v_sums_here_15
      have h_a_30 := e32 _ _ h_a_30
      have hfl : v_found_34.length = 1 + v_many_3.toNat := by rw [e_v_found_34, series_len]; omega
      refine q_when (b := (!decide ((v_found_34.length : Int) = v_many_3 + 1)) || (!(m_law_rests v_sums_here_15 v_sums_here_15))) (et_or (a := false) (b := (!decide ((v_found_34.length : Int) = v_many_3 + 1)) || (!(m_law_rests v_sums_here_15 v_sums_here_15))) (et_not (et_B (ev_isD (d := .l (il v_found_34)) (s := "list") (b := true) (ed_rep (d := .l (il v_found_34)) (ev_var (v := .ref a_33) rfl) ⟨_, rfl, h_a_33⟩) ev_c rfl (by decide +kernel)))) (fun hg36 => (by have hg36' := hg36; (try simp only [Bool.and_eq_true, Bool.or_eq_true, Bool.not_eq_true', Bool.not_eq_false', Bool.and_eq_false_iff, Bool.or_eq_false_iff, decide_eq_true_eq, decide_eq_false_iff_not] at hg36'); exact (et_or (a := !decide ((v_found_34.length : Int) = v_many_3 + 1)) (b := !(m_law_rests v_sums_here_15 v_sums_here_15)) (et_test (ev_neI (ev_lenI (ed_rep (d := .l (il v_found_34)) (ev_var (v := .ref a_33) rfl) ⟨_, rfl, h_a_33⟩)) (ev_op (ev_var rfl) ev_c rv_I0))) (fun hg35 => (by have hg35' := hg35; (try simp only [Bool.and_eq_true, Bool.or_eq_true, Bool.not_eq_true', Bool.not_eq_false', Bool.and_eq_false_iff, Bool.or_eq_false_iff, decide_eq_true_eq, decide_eq_false_iff_not] at hg35'); exact (et_not (et_B (cl__law_rests v_sums_here_15 v_sums_here_15 (eas_cons (ed_rep (d := .l (il v_sums_here_15)) (ev_var (v := .ref a_30) rfl) ⟨_, rfl, h_a_30⟩) (eas_cons (ed_rep (d := .l (il v_sums_here_15)) (ev_var (v := .ref a_v_sums_here_15) rfl) ⟨_, rfl, h_a_v_sums_here_15⟩) eas_nil)) (by walk_at "kside")))))))))) (fun hb39 H37 e38 => ?_) (fun hb39 H37 e38 => ?_)
      ·
        have hq39 := hb39
        (try simp only [Bool.and_eq_true, Bool.or_eq_true, Bool.not_eq_true', Bool.not_eq_false', Bool.and_eq_false_iff, Bool.or_eq_false_iff, decide_eq_true_eq, decide_eq_false_iff_not] at hq39)
        have ex := ex.trans e38
        have h_a_6 := e38 _ _ h_a_6
        have h_a_v_sums_here_15 := e38 _ _ h_a_v_sums_here_15
        have h_a_30 := e38 _ _ h_a_30
        have h_a_33 := e38 _ _ h_a_33
        refine s_ret ev_c (fun H40 e41 => ?_)
        subst e_v_found_34
        subst e_v_sums_here_15
        subst e_v_is_free_14
        subst e_v_sums_here_11
        subst e_v_row_here_7
        subst e_v_many_3
        exact k _ _ (ex.trans e41) (ret_eq (congrArg (fun z : Bool => (.v (.bl z) : D)) (show m_law v_script = false from (Eq.trans (cond_t hb39) rfl))) rfl)
      ·
        have hq39 := hb39
        (try simp only [Bool.and_eq_true, Bool.or_eq_true, Bool.not_eq_true', Bool.not_eq_false', Bool.and_eq_false_iff, Bool.or_eq_false_iff, decide_eq_true_eq, decide_eq_false_iff_not] at hq39)
        have ex := ex.trans e38
        have h_a_6 := e38 _ _ h_a_6
        have h_a_v_sums_here_15 := e38 _ _ h_a_v_sums_here_15
        have h_a_30 := e38 _ _ h_a_30
        have h_a_33 := e38 _ _ h_a_33
        refine q_forR1 (n := v_many_3 + 1) (ea_cons (ev_op (ev_var rfl) ev_c rv_I0) ea_nil) (by walk_at "kside") (fun (i : Nat) σ' H' => ∃ (y_v_k_1 : Option V) (y_v_total_1 : Option V), first (m_law_L1b v_sums_here_15 v_found_34) i = none ∧ σ' = [some (.ref a_v_script), some (.int v_many_3), some (.ref a_6), some (.ref a_v_sums_here_15), some (.bl v_is_free_14), some (.ref a_30), some (.ref a_33), y_v_k_1, y_v_total_1, none, none, none] ∧ Ex H0 H' ∧ H' a_6 = some (.lst (il v_row_here_7)) ∧ H' a_v_sums_here_15 = some (.lst (il v_sums_here_15)) ∧ H' a_30 = some (.lst (il v_sums_here_15)) ∧ H' a_33 = some (.lst (il v_found_34))) (fun H46 e47 => ⟨_, _, rfl, rfl, ex.trans e47, e47 _ _ h_a_6, e47 _ _ h_a_v_sums_here_15, e47 _ _ h_a_30, e47 _ _ h_a_33⟩) ?_ ?_
        ·
          rintro i44 σ' H48 hi_i44 ⟨y_v_k_1, y_v_total_1, hst1, rfl, ex, h_a_6, h_a_v_sums_here_15, h_a_30, h_a_33⟩
          refine q_when (b := (!(m_law_whole (gi v_found_34 (i44 : Int)))) || (!(decide (0 ≤ gi v_found_34 (i44 : Int)) && decide (gi v_found_34 (i44 : Int) ≤ 250)))) (et_or (a := !(m_law_whole (gi v_found_34 (i44 : Int)))) (b := !(decide (0 ≤ gi v_found_34 (i44 : Int)) && decide (gi v_found_34 (i44 : Int) ≤ 250))) (et_not (et_B (cl__law_whole (gi v_found_34 (i44 : Int)) (eas_cons (ed_v (ev_ix (ed_rep (d := .l (il v_found_34)) (ev_var (v := .ref a_33) rfl) ⟨_, rfl, h_a_33⟩) (ev_var rfl) (by walk_at "kside"))) eas_nil) trivial))) (fun hg49 => (by have hg49' := hg49; (try simp only [Bool.and_eq_true, Bool.or_eq_true, Bool.not_eq_true', Bool.not_eq_false', Bool.and_eq_false_iff, Bool.or_eq_false_iff, decide_eq_true_eq, decide_eq_false_iff_not] at hg49'); exact (et_not (et_test (ev_chain ev_c (ev_ix (ed_rep (d := .l (il v_found_34)) (ev_var (v := .ref a_33) rfl) ⟨_, rfl, h_a_33⟩) (ev_var rfl) (by walk_at "kside")) ev_c rv_I0 rv_I0)))))) (fun hb52 H50 e51 => ?_) (fun hb52 H50 e51 => ?_)
          ·
            have hq52 := hb52
            (try simp only [Bool.and_eq_true, Bool.or_eq_true, Bool.not_eq_true', Bool.not_eq_false', Bool.and_eq_false_iff, Bool.or_eq_false_iff, decide_eq_true_eq, decide_eq_false_iff_not] at hq52)
            have ex := ex.trans e51
            have h_a_6 := e51 _ _ h_a_6
            have h_a_v_sums_here_15 := e51 _ _ h_a_v_sums_here_15
            have h_a_30 := e51 _ _ h_a_30
            have h_a_33 := e51 _ _ h_a_33
            refine s_ret ev_c (fun H53 e54 => ?_)
            have hs57 : (m_law_L1b v_sums_here_15 v_found_34) i44 = some false := (Eq.trans (cond_t hb52) rfl)
            have hr58 : first (m_law_L1b v_sums_here_15 v_found_34) ((v_many_3 + 1 : Int).toNat) = some false := first_some hst1 hs57 (by have := hi_i44; omega)
            subst e_v_found_34
            subst e_v_sums_here_15
            subst e_v_is_free_14
            subst e_v_sums_here_11
            subst e_v_row_here_7
            subst e_v_many_3
            exact k _ _ (ex.trans e54) (ret_eq (congrArg (fun z : Bool => (.v (.bl z) : D)) (show m_law v_script = false from (Eq.trans (cond_f hb39) (Eq.trans (getd_s hr58) rfl)))) rfl)
          ·
            have hq52 := hb52
            (try simp only [Bool.and_eq_true, Bool.or_eq_true, Bool.not_eq_true', Bool.not_eq_false', Bool.and_eq_false_iff, Bool.or_eq_false_iff, decide_eq_true_eq, decide_eq_false_iff_not] at hq52)
            have ex := ex.trans e51
            have h_a_6 := e51 _ _ h_a_6
            have h_a_v_sums_here_15 := e51 _ _ h_a_v_sums_here_15
            have h_a_30 := e51 _ _ h_a_30
            have h_a_33 := e51 _ _ h_a_33
            obtain ⟨v_total_63, e_v_total_63⟩ : ∃ z : Int, z = (((rng 0 (i44 : Int)).map fun v_i_c59 => (gi v_sums_here_15 v_i_c59) * (gi v_found_34 ((i44 : Int) - 1 - v_i_c59))).sum) := ⟨_, rfl⟩
            refine q_asg (v := .int v_total_63) (ev_is (ev_sum (EvN.toD (en_il (g := fun v_i_c59 => (gi v_sums_here_15 v_i_c59) * (gi v_found_34 ((i44 : Int) - 1 - v_i_c59))) (en_lcR1t (g := fun v_i_c59 => V.int ((gi v_sums_here_15 v_i_c59) * (gi v_found_34 ((i44 : Int) - 1 - v_i_c59)))) (ev_var rfl) (by walk_at "kside") (fun v_i_c59 hm60 => (by have hm60' := rng_mem.mp hm60; have hgs := rests_gi hj1 v_i_c59; exact (ev_op (ev_ix (ed_rep (d := .l (il v_sums_here_15)) (ev_var (v := .ref a_v_sums_here_15) rfl) ⟨_, rfl, h_a_v_sums_here_15⟩) (ev_var rfl) (by walk_at "kside")) (ev_ix (ed_rep (d := .l (il v_found_34)) (ev_var (v := .ref a_33) rfl) ⟨_, rfl, h_a_33⟩) (ev_op (ev_op (ev_var rfl) ev_c rv_I0) (ev_var rfl) rv_I0) (by walk_at "kside")) (rv_I (by walk_at "kmul"))))))))) (congrArg V.int e_v_total_63.symm)) (fun H61 e62 => ?_)
            have ex := ex.trans e62
            have h_a_6 := e62 _ _ h_a_6
            have h_a_v_sums_here_15 := e62 _ _ h_a_v_sums_here_15
            have h_a_30 := e62 _ _ h_a_30
            have h_a_33 := e62 _ _ h_a_33
            refine s_when (b := !decide (((i44 : Int) * (gi v_found_34 (i44 : Int)) + v_total_63) % 251 = 0)) (et_test (ev_neI (ev_op (ev_op (ev_op (ev_var rfl) (ev_ix (ed_rep (d := .l (il v_found_34)) (ev_var (v := .ref a_33) rfl) ⟨_, rfl, h_a_33⟩) (ev_var rfl) (by walk_at "kside")) (rv_I (by walk_at "kmul"))) (ev_var rfl) rv_I0) ev_c (rv_I (by walk_at "kside"))) ev_c)) (fun hb66 H64 e65 => ?_) (fun hb66 H64 e65 => ?_)
            ·
              have hq66 := hb66
              (try simp only [Bool.and_eq_true, Bool.or_eq_true, Bool.not_eq_true', Bool.not_eq_false', Bool.and_eq_false_iff, Bool.or_eq_false_iff, decide_eq_true_eq, decide_eq_false_iff_not] at hq66)
              have ex := ex.trans e65
              have h_a_6 := e65 _ _ h_a_6
              have h_a_v_sums_here_15 := e65 _ _ h_a_v_sums_here_15
              have h_a_30 := e65 _ _ h_a_30
              have h_a_33 := e65 _ _ h_a_33
              refine s_ret ev_c (fun H67 e68 => ?_)
              subst e_v_total_63
              have hs71 : (m_law_L1b v_sums_here_15 v_found_34) i44 = some false := (Eq.trans (cond_f hb52) (Eq.trans (cond_t hb66) rfl))
              have hr72 : first (m_law_L1b v_sums_here_15 v_found_34) ((v_many_3 + 1 : Int).toNat) = some false := first_some hst1 hs71 (by have := hi_i44; omega)
              subst e_v_found_34
              subst e_v_sums_here_15
              subst e_v_is_free_14
              subst e_v_sums_here_11
              subst e_v_row_here_7
              subst e_v_many_3
              exact k _ _ (ex.trans e68) (ret_eq (congrArg (fun z : Bool => (.v (.bl z) : D)) (show m_law v_script = false from (Eq.trans (cond_f hb39) (Eq.trans (getd_s hr72) rfl)))) rfl)
            ·
              have hq66 := hb66
              (try simp only [Bool.and_eq_true, Bool.or_eq_true, Bool.not_eq_true', Bool.not_eq_false', Bool.and_eq_false_iff, Bool.or_eq_false_iff, decide_eq_true_eq, decide_eq_false_iff_not] at hq66)
              have ex := ex.trans e65
              have h_a_6 := e65 _ _ h_a_6
              have h_a_v_sums_here_15 := e65 _ _ h_a_v_sums_here_15
              have h_a_30 := e65 _ _ h_a_30
              have h_a_33 := e65 _ _ h_a_33
              subst e_v_total_63
              have hs73 : (m_law_L1b v_sums_here_15 v_found_34) i44 = none := (Eq.trans (cond_f hb52) (Eq.trans (cond_f hb66) rfl))
              exact ⟨_, _, first_none hst1 hs73, rfl, ex, h_a_6, h_a_v_sums_here_15, h_a_30, h_a_33⟩
        ·
          rintro σ' H74 ⟨y_v_k_1, y_v_total_1, hst1, rfl, ex, h_a_6, h_a_v_sums_here_15, h_a_30, h_a_33⟩
          refine q_when (b := v_is_free_14) (et_B (ev_var rfl)) (fun hb77 H75 e76 => ?_) (fun hb77 H75 e76 => ?_)
          ·
            have hq77 := hb77
            (try simp only [Bool.and_eq_true, Bool.or_eq_true, Bool.not_eq_true', Bool.not_eq_false', Bool.and_eq_false_iff, Bool.or_eq_false_iff, decide_eq_true_eq, decide_eq_false_iff_not] at hq77)
            have ex := ex.trans e76
            have h_a_6 := e76 _ _ h_a_6
            have h_a_v_sums_here_15 := e76 _ _ h_a_v_sums_here_15
            have h_a_30 := e76 _ _ h_a_30
            have h_a_33 := e76 _ _ h_a_33
            refine s_ret (ev_eqI (ev_ix (ed_rep (d := .l (il v_found_34)) (ev_var (v := .ref a_33) rfl) ⟨_, rfl, h_a_33⟩) ev_c (by walk_at "kside")) ev_c) (fun H78 e79 => ?_)
            subst e_v_found_34
            subst e_v_sums_here_15
            subst e_v_is_free_14
            subst e_v_sums_here_11
            subst e_v_row_here_7
            subst e_v_many_3
            exact k _ _ (ex.trans e79) (ret_eq (congrArg (fun z : Bool => (.v (.bl z) : D)) (show m_law v_script = (decide (gi (m_series (m_law_J1 v_script (1 + ((m_law_cell_at v_script 0) % 12)) (m_law_sums (m_law_row v_script 1 14) (1 + ((m_law_cell_at v_script 0) % 12))) (decide (((m_law_cell_at v_script 0) / 12) % 3 = 1)))) 0 = 1)) from (Eq.trans (cond_f hb39) (Eq.trans (getd_n hst1) (Eq.trans (cond_t hb77) rfl))))) rfl)
          ·
            have hq77 := hb77
            (try simp only [Bool.and_eq_true, Bool.or_eq_true, Bool.not_eq_true', Bool.not_eq_false', Bool.and_eq_false_iff, Bool.or_eq_false_iff, decide_eq_true_eq, decide_eq_false_iff_not] at hq77)
            have ex := ex.trans e76
            have h_a_6 := e76 _ _ h_a_6
            have h_a_v_sums_here_15 := e76 _ _ h_a_v_sums_here_15
            have h_a_30 := e76 _ _ h_a_30
            have h_a_33 := e76 _ _ h_a_33
            refine q_asgNl (K := K) (xs := il [1]) (en_ls (vs := il ([1] : List Int)) (ea_cons ev_c ea_nil) (Nat.le_of_ble_eq_true rfl)) (fun a_84 H82 np_a_84 e83 h_a_84 => ?_)
            have n_a_84 := fresh_back ex np_a_84
            have ne_a_6_a_84 := ne_of_none h_a_6 np_a_84
            have ne_a_v_sums_here_15_a_84 := ne_of_none h_a_v_sums_here_15 np_a_84
            have ne_a_30_a_84 := ne_of_none h_a_30 np_a_84
            have ne_a_33_a_84 := ne_of_none h_a_33 np_a_84
            have ex := ex.trans e83
            have h_a_6 := e83 _ _ h_a_6
            have h_a_v_sums_here_15 := e83 _ _ h_a_v_sums_here_15
            have h_a_30 := e83 _ _ h_a_30
            have h_a_33 := e83 _ _ h_a_33
            refine q_forI (ev_var (v := .ref a_6) rfl) h_a_6 (fun (i : Nat) σ' H' => ∃ (y_v_number_2 : Option V) (v_due_86 : List Int) (a_v_due_86 : Addr), (v_row_here_7.take i).foldl m_law_L2s [1] = v_due_86 ∧ σ' = [some (.ref a_v_script), some (.int v_many_3), some (.ref a_6), some (.ref a_v_sums_here_15), some (.bl v_is_free_14), some (.ref a_30), some (.ref a_33), y_v_k_1, y_v_total_1, some (.ref a_v_due_86), y_v_number_2, none] ∧ Ex H0 H' ∧ H' a_6 = some (.lst (il v_row_here_7)) ∧ H' a_v_sums_here_15 = some (.lst (il v_sums_here_15)) ∧ H' a_30 = some (.lst (il v_sums_here_15)) ∧ H' a_33 = some (.lst (il v_found_34)) ∧ H' a_v_due_86 = some (.lst (il v_due_86)) ∧ H0 a_v_due_86 = none) (fun H89 e90 => ⟨_, _, _, rfl, rfl, ex.trans e90, e90 _ _ h_a_6, e90 _ _ h_a_v_sums_here_15, e90 _ _ h_a_30, e90 _ _ h_a_33, e90 _ _ h_a_84, n_a_84⟩) (fun i σ' H' hP => by obtain ⟨_, _, _, _, _, ex', h'_a_6, h'_a_v_sums_here_15, h'_a_30, h'_a_33, h'_a_v_due_86, _⟩ := hP; exact h'_a_6) ?_ ?_
            ·
              rintro i85 v_number_87 σ' H91 hx_v_number_87 ⟨y_v_number_2, v_due_86, a_v_due_86, hst2, rfl, ex, h_a_6, h_a_v_sums_here_15, h_a_30, h_a_33, h_a_v_due_86, n_a_v_due_86⟩
              have hd := law_due_inv (v_row_here_7.take i85)
              rw [hst2, List.length_take] at hd
              obtain ⟨hd1, hd2⟩ := hd
              obtain ⟨v_due_95, e_v_due_95⟩ : ∃ z : List Int, z = (m_law_times v_due_86 [1, 251 - v_number_87]) := ⟨_, rfl⟩
              refine s_asgNl (K := K) (xs := il v_due_95) (en_is (cl__law_times v_due_86 [1, 251 - v_number_87] (eas_cons (ed_rep (d := .l (il v_due_86)) (ev_var (v := .ref a_v_due_86) rfl) ⟨_, rfl, h_a_v_due_86⟩) (eas_cons (EvN.toD (en_ls (vs := il ([1, 251 - v_number_87] : List Int)) (ea_cons ev_c (ea_cons (ev_op ev_c (ev_var rfl) rv_I0) ea_nil)) (Nat.le_of_ble_eq_true rfl))) eas_nil)) ⟨(by walk_at "kside"), (by walk_at "kside"), (by walk_at "kside")⟩) (congrArg (fun z => D.l (il z)) e_v_due_95.symm)) (fun a_94 H92 np_a_94 e93 h_a_94 => ?_)
              have n_a_94 := fresh_back ex np_a_94
              have ne_a_6_a_94 := ne_of_none h_a_6 np_a_94
              have ne_a_v_sums_here_15_a_94 := ne_of_none h_a_v_sums_here_15 np_a_94
              have ne_a_30_a_94 := ne_of_none h_a_30 np_a_94
              have ne_a_33_a_94 := ne_of_none h_a_33 np_a_94
              have ne_a_v_due_86_a_94 := ne_of_none h_a_v_due_86 np_a_94
              have ex := ex.trans e93
              have h_a_6 := e93 _ _ h_a_6
              have h_a_v_sums_here_15 := e93 _ _ h_a_v_sums_here_15
              have h_a_30 := e93 _ _ h_a_30
              have h_a_33 := e93 _ _ h_a_33
              have h_a_v_due_86 := e93 _ _ h_a_v_due_86
              subst e_v_due_95
              have hs96 : (v_row_here_7.take (i85 + 1)).foldl m_law_L2s [1] = (m_law_times v_due_86 [1, 251 - v_number_87]) := (fold_succ hx_v_number_87).trans ((congrArg (fun z => m_law_L2s z v_number_87) hst2).trans rfl)
              exact ⟨_, _, _, hs96, rfl, ex, h_a_6, h_a_v_sums_here_15, h_a_30, h_a_33, h_a_94, n_a_94⟩
            ·
              rintro σ' H97 ⟨y_v_number_2, v_due_86, a_v_due_86, hst2, rfl, ex, h_a_6, h_a_v_sums_here_15, h_a_30, h_a_33, h_a_v_due_86, n_a_v_due_86⟩
              rw [List.take_length] at hst2
              obtain rfl : v_due_86 = (m_law_L2 v_row_here_7) := hst2.symm
              obtain ⟨v_due_98, e_v_due_98⟩ : ∃ z : List Int, z = (m_law_L2 v_row_here_7) := ⟨_, rfl⟩
              rw [← e_v_due_98] at h_a_v_due_86
              have hd2 : v_due_98.length ≤ 1 + v_row_here_7.length := by rw [e_v_due_98]; exact (law_due_inv _).2
              have hd3 : ((v_due_98 ++ (zs v_many_3)).take (v_many_3 + 1).toNat).length ≤ 1000 := by rw [List.length_take]; omega
              refine s_ret (cl__law_rests v_found_34 ((v_due_98 ++ (zs v_many_3)).take (v_many_3 + 1).toNat) (eas_cons (ed_rep (d := .l (il v_found_34)) (ev_var (v := .ref a_33) rfl) ⟨_, rfl, h_a_33⟩) (eas_cons (EvN.toD (en_take (EvN.toD (en_cat (ed_rep (d := .l (il v_due_98)) (ev_var (v := .ref a_v_due_86) rfl) ⟨_, rfl, h_a_v_due_86⟩) (EvN.toD (en_rep (EvN.toD (en_ls (vs := il ([0] : List Int)) (ea_cons ev_c ea_nil) (Nat.le_of_ble_eq_true rfl))) (ev_var rfl) (by walk_at "kside"))) (by walk_at "kside"))) (ev_op (ev_var rfl) ev_c rv_I0) (by walk_at "kside"))) eas_nil)) (by walk_at "kside")) (fun H99 e100 => ?_)
              subst e_v_due_98
              subst e_v_found_34
              subst e_v_sums_here_15
              subst e_v_is_free_14
              subst e_v_sums_here_11
              subst e_v_row_here_7
              subst e_v_many_3
              exact k _ _ (ex.trans e100) (ret_eq (congrArg (fun z : Bool => (.v (.bl z) : D)) (show m_law v_script = (m_law_rests (m_series (m_law_J1 v_script (1 + ((m_law_cell_at v_script 0) % 12)) (m_law_sums (m_law_row v_script 1 14) (1 + ((m_law_cell_at v_script 0) % 12))) (decide (((m_law_cell_at v_script 0) / 12) % 3 = 1)))) (((m_law_L2 (m_law_row v_script 1 14)) ++ (zs (1 + ((m_law_cell_at v_script 0) % 12)))).take ((1 + ((m_law_cell_at v_script 0) % 12)) + 1).toNat)) from (Eq.trans (cond_f hb39) (Eq.trans (getd_n hst1) (Eq.trans (cond_f hb77) rfl))))) rfl)
end
end Pf
namespace Kx
/-! ### rests of 251 -/
theorem mod_l (a b : Int) : (a % 251 + b) % 251 = (a + b) % 251 := by omega
theorem mod_r (a b : Int) : (a + b % 251) % 251 = (a + b) % 251 := by omega
theorem modm_l (a b : Int) : (a % 251 * b) % 251 = (a * b) % 251 := by
  rw [Int.mul_emod, Int.emod_emod, ← Int.mul_emod]
theorem modm_r (a b : Int) : (a * (b % 251)) % 251 = (a * b) % 251 := by
  rw [Int.mul_emod, Int.emod_emod, ← Int.mul_emod]
theorem mod_id {a : Int} (h : 0 ≤ a ∧ a < 251) : a % 251 = a := Int.emod_eq_of_lt h.1 h.2
/-- all the powers added up -/
def evp (p : List Int) (r : Int) : Int := p.foldr (fun n acc => n + r * acc) 0
end Kx

set_option linter.all false
namespace Kx
/-! ### power series over a commutative ring -/
structure PS (F : Type) where
  c : Nat → F
theorem PS.ext {F : Type} {f g : PS F} (h : ∀ n, f.c n = g.c n) : f = g := by
  cases f with | mk a =>
  cases g with | mk b =>
  exact congrArg PS.mk (funext h)
section
variable {F : Type} [Lean.Grind.CommRing F]
def tl (f : Nat → F) : Nat → F := fun n => f (n + 1)
def conv (f g : Nat → F) : Nat → F
  | 0 => f 0 * g 0
  | n + 1 => f 0 * g (n + 1) + conv (tl f) g n
theorem conv_zero (f g : Nat → F) : conv f g 0 = f 0 * g 0 := rfl
theorem conv_succ (f g : Nat → F) (n : Nat) : conv f g (n + 1) = f 0 * g (n + 1) + conv (tl f) g n := rfl
theorem conv_succ' (g : Nat → F) : ∀ (n : Nat) (f : Nat → F), conv f g (n + 1) = f (n + 1) * g 0 + conv f (tl g) n
  | 0, f => by
    show f 0 * g 1 + f 1 * g 0 = f 1 * g 0 + f 0 * g 1
    grind
  | n + 1, f => by
    rw [conv_succ, conv_succ' g n (tl f), conv_succ f (tl g) n]
    show f 0 * g (n + 2) + (f (n + 2) * g 0 + conv (tl f) (tl g) n) = f (n + 2) * g 0 + (f 0 * g (n + 2) + conv (tl f) (tl g) n)
    grind
theorem conv_comm : ∀ (n : Nat) (f g : Nat → F), conv f g n = conv g f n
  | 0, f, g => by rw [conv_zero, conv_zero]; grind
  | n + 1, f, g => by rw [conv_succ, conv_succ' f n g, conv_comm n (tl f) g]; grind
theorem conv_add (g : Nat → F) : ∀ (n : Nat) (f h : Nat → F), conv (fun k => f k + h k) g n = conv f g n + conv h g n
  | 0, f, h => by
    show (f 0 + h 0) * g 0 = f 0 * g 0 + h 0 * g 0
    grind
  | n + 1, f, h => by
    have e := conv_add g n (tl f) (tl h)
    have e2 : tl (fun k => f k + h k) = fun k => tl f k + tl h k := rfl
    rw [conv_succ, conv_succ, conv_succ, e2, e]
    grind
theorem conv_smul (a : F) (g : Nat → F) : ∀ (n : Nat) (f : Nat → F), conv (fun k => a * f k) g n = a * conv f g n
  | 0, f => by
    show (a * f 0) * g 0 = a * (f 0 * g 0)
    grind
  | n + 1, f => by
    have e := conv_smul a g n (tl f)
    have e2 : tl (fun k => a * f k) = fun k => a * tl f k := rfl
    rw [conv_succ, conv_succ, e2, e]
    grind
theorem conv_assoc (h : Nat → F) : ∀ (n : Nat) (f g : Nat → F), conv (conv f g) h n = conv f (conv g h) n
  | 0, f, g => by
    show (f 0 * g 0) * h 0 = f 0 * (g 0 * h 0)
    grind
  | n + 1, f, g => by
    have e2 : tl (conv f g) = fun k => (fun k => f 0 * tl g k) k + conv (tl f) g k := rfl
    rw [conv_succ, e2, conv_add, conv_smul, conv_assoc h n (tl f) g, conv_succ f (conv g h) n, conv_succ g h n, conv_zero]
    grind
theorem conv_congr : ∀ (n : Nat) {f f' g g' : Nat → F}, (∀ k, k ≤ n → f k = f' k) → (∀ k, k ≤ n → g k = g' k) → conv f g n = conv f' g' n
  | 0, f, f', g, g', h1, h2 => by rw [conv_zero, conv_zero, h1 0 (Nat.le_refl 0), h2 0 (Nat.le_refl 0)]
  | n + 1, f, f', g, g', h1, h2 => by
    rw [conv_succ, conv_succ, h1 0 (Nat.zero_le _), h2 (n + 1) (Nat.le_refl _)]
    rw [conv_congr n (f := tl f) (f' := tl f') (g := g) (g' := g') (fun k hk => h1 (k + 1) (by omega)) (fun k hk => h2 k (by omega))]
theorem conv_zero_l : ∀ (n : Nat) {f g : Nat → F}, (∀ k, k ≤ n → f k = 0) → conv f g n = 0
  | 0, f, g, h => by rw [conv_zero, h 0 (Nat.le_refl 0)]; grind
  | n + 1, f, g, h => by
    rw [conv_succ, h 0 (Nat.zero_le _), conv_zero_l n (f := tl f) (fun k hk => h (k + 1) (by omega))]
    grind
def ncF (k : Nat) : F := (Lean.Grind.Semiring.natCast (α := F)).natCast k
def icF (k : Int) : F := (Lean.Grind.Ring.intCast (α := F)).intCast k
/-- a constant -/
def cst (a : F) : PS F := ⟨fun n => if n = 0 then a else 0⟩
theorem conv_cst (a : F) (g : Nat → F) : ∀ n, conv (cst a).c g n = a * g n
  | 0 => rfl
  | n + 1 => by
    rw [conv_succ, conv_zero_l n (f := tl (cst a).c) (fun k _ => (if_neg (Nat.succ_ne_zero k) : (if k + 1 = 0 then a else 0) = 0))]
    show a * g (n + 1) + 0 = a * g (n + 1)
    grind
instance : Add (PS F) := ⟨fun f g => ⟨fun n => f.c n + g.c n⟩⟩
instance : Mul (PS F) := ⟨fun f g => ⟨conv f.c g.c⟩⟩
instance : Neg (PS F) := ⟨fun f => ⟨fun n => - f.c n⟩⟩
instance : Sub (PS F) := ⟨fun f g => ⟨fun n => f.c n - g.c n⟩⟩
instance instNC : NatCast (PS F) := ⟨fun k => cst (ncF k)⟩
instance instOfN (n : Nat) : OfNat (PS F) n := ⟨cst (OfNat.ofNat n)⟩
instance instIC : IntCast (PS F) := ⟨fun k => cst (icF k)⟩
instance : SMul Nat (PS F) := ⟨fun k f => (k : PS F) * f⟩
instance : SMul Int (PS F) := ⟨fun k f => (k : PS F) * f⟩
def ppow (f : PS F) : Nat → PS F
  | 0 => 1
  | n + 1 => ppow f n * f
instance : HPow (PS F) Nat (PS F) := ⟨ppow⟩
theorem add_c (f g : PS F) (n : Nat) : (f + g).c n = f.c n + g.c n := rfl
theorem sub_c (f g : PS F) (n : Nat) : (f - g).c n = f.c n - g.c n := rfl
theorem neg_c (f : PS F) (n : Nat) : (-f).c n = - f.c n := rfl
theorem mul_c (f g : PS F) (n : Nat) : (f * g).c n = conv f.c g.c n := rfl
theorem zero_c (n : Nat) : (0 : PS F).c n = 0 := by
  show (if n = 0 then (OfNat.ofNat 0 : F) else 0) = 0
  split <;> rfl
theorem one_c (n : Nat) : (1 : PS F).c n = if n = 0 then 1 else 0 := rfl
theorem cst_c (a : F) (n : Nat) : (cst a).c n = if n = 0 then a else 0 := rfl
theorem cst_mul_c (a : F) (g : PS F) (n : Nat) : (cst a * g).c n = a * g.c n := conv_cst a g.c n
theorem ps_mul_comm (f g : PS F) : f * g = g * f := PS.ext fun n => conv_comm n f.c g.c
instance : Lean.Grind.CommRing (PS F) where
  add_zero f := PS.ext fun n => by rw [add_c, zero_c]; grind
  add_comm f g := PS.ext fun n => by rw [add_c, add_c]; grind
  add_assoc f g h := PS.ext fun n => by simp only [add_c]; grind
  mul_assoc f g h := PS.ext fun n => conv_assoc h.c n f.c g.c
  mul_one f := by
    rw [ps_mul_comm]
    refine PS.ext fun n => (conv_cst (OfNat.ofNat 1) f.c n).trans ?_
    exact Lean.Grind.Semiring.one_mul _
  one_mul f := PS.ext fun n => (conv_cst (OfNat.ofNat 1) f.c n).trans (Lean.Grind.Semiring.one_mul _)
  left_distrib f g h := by
    rw [ps_mul_comm, ps_mul_comm f g, ps_mul_comm f h]
    exact PS.ext fun n => conv_add f.c n g.c h.c
  right_distrib f g h := PS.ext fun n => conv_add h.c n f.c g.c
  zero_mul f := PS.ext fun n => by
    rw [zero_c, mul_c]
    exact conv_zero_l n fun k _ => zero_c k
  mul_zero f := by
    rw [ps_mul_comm]
    refine PS.ext fun n => ?_
    rw [zero_c, mul_c]
    exact conv_zero_l n fun k _ => zero_c k
  pow_zero f := rfl
  pow_succ f n := rfl
  ofNat_succ n := PS.ext fun k => by
    show (if k = 0 then (OfNat.ofNat (n + 1) : F) else 0) = (if k = 0 then (OfNat.ofNat n : F) else 0) + (if k = 0 then (OfNat.ofNat 1 : F) else 0)
    split
    · exact Lean.Grind.Semiring.ofNat_succ n
    · grind
  ofNat_eq_natCast n := PS.ext fun k => by
    show (if k = 0 then (OfNat.ofNat n : F) else 0) = (if k = 0 then ncF n else 0)
    rw [Lean.Grind.Semiring.ofNat_eq_natCast n]
    rfl
  nsmul_eq_natCast_mul n f := rfl
  neg_add_cancel f := PS.ext fun n => by rw [add_c, neg_c, zero_c]; grind
  sub_eq_add_neg f g := PS.ext fun n => by rw [sub_c, add_c, neg_c]; grind
  neg_zsmul i f := PS.ext fun n => by
    show (cst (icF (-i) : F) * f).c n = -(cst (icF i : F) * f).c n
    rw [cst_mul_c, cst_mul_c, show (icF (-i) : F) = - icF i from Lean.Grind.Ring.intCast_neg i]
    grind
  zsmul_natCast_eq_nsmul n f := PS.ext fun k => by
    show (cst (icF (n : Int) : F) * f).c k = (cst (ncF n : F) * f).c k
    rw [cst_mul_c, cst_mul_c, show (icF (n : Int) : F) = ncF n from Lean.Grind.Ring.intCast_natCast n]
  intCast_ofNat n := PS.ext fun k => by
    show (if k = 0 then (icF (OfNat.ofNat n) : F) else 0) = (if k = 0 then (OfNat.ofNat n : F) else 0)
    rw [show (icF (OfNat.ofNat n) : F) = OfNat.ofNat n from Lean.Grind.Ring.intCast_ofNat n]
  intCast_neg i := PS.ext fun k => by
    show (if k = 0 then (icF (-i) : F) else 0) = -(if k = 0 then (icF i : F) else 0)
    rw [show (icF (-i) : F) = - icF i from Lean.Grind.Ring.intCast_neg i]
    split <;> grind
  mul_comm := ps_mul_comm
example (a b c : PS F) (h : a * b = c) : c * a = a * a * b := by grind
/-- all places from d on are 0 -/
def Dg (f : PS F) (d : Nat) : Prop := ∀ n, d ≤ n → f.c n = 0
theorem Dg.mono {f : PS F} {a b : Nat} (h : Dg f a) (hab : a ≤ b) : Dg f b := fun n hn => h n (by omega)
theorem dg_add {f g : PS F} {d : Nat} (h : Dg f d) (h2 : Dg g d) : Dg (f + g) d := fun n hn => by rw [add_c, h n hn, h2 n hn]; grind
theorem dg_sub {f g : PS F} {d : Nat} (h : Dg f d) (h2 : Dg g d) : Dg (f - g) d := fun n hn => by rw [sub_c, h n hn, h2 n hn]; grind
theorem dg_neg {f : PS F} {d : Nat} (h : Dg f d) : Dg (-f) d := fun n hn => by rw [neg_c, h n hn]; grind
theorem dg_zero {d : Nat} : Dg (0 : PS F) d := fun n _ => zero_c n
theorem dg_eq {f : PS F} (h : Dg f 0) : f = 0 := PS.ext fun n => by rw [h n (Nat.zero_le n), zero_c]
theorem conv_dg (n : Nat) : ∀ (f g : Nat → F) (a b : Nat), (∀ k, a ≤ k → f k = 0) → (∀ k, b ≤ k → g k = 0) → a + b ≤ n + 1 → conv f g n = 0 := by
  induction n with
  | zero =>
    intro f g a b ha hb h
    rw [conv_zero]
    rcases Nat.eq_zero_or_pos a with c | c
    · rw [ha 0 (by omega)]; grind
    · rw [hb 0 (by omega)]; grind
  | succ n ih =>
    intro f g a b ha hb h
    rcases Nat.eq_zero_or_pos a with c | c
    · exact conv_zero_l _ fun k _ => ha k (by omega)
    · rw [conv_succ, hb (n + 1) (by omega), ih (tl f) g (a - 1) b (fun k hk => ha (k + 1) (by omega)) hb (by omega)]
      grind
theorem dg_mul {f g : PS F} {a b d : Nat} (h : Dg f a) (h2 : Dg g b) (hd : a + b ≤ d + 1) : Dg (f * g) d := fun n hn => conv_dg n f.c g.c a b h h2 (by omega)
/-- the topmost places -/
theorem conv_top (n : Nat) : ∀ (f g : Nat → F) (a b : Nat), (∀ k, a < k → f k = 0) → (∀ k, b < k → g k = 0) → a + b = n → conv f g n = f a * g b := by
  induction n with
  | zero =>
    intro f g a b ha hb h
    rw [conv_zero, show a = 0 by omega, show b = 0 by omega]
  | succ n ih =>
    intro f g a b ha hb h
    rw [conv_succ]
    rcases Nat.eq_zero_or_pos a with c | c
    · rw [show b = n + 1 by omega, c, conv_zero_l n (f := tl f) (fun k _ => ha (k + 1) (by omega))]
      grind
    · rw [hb (n + 1) (by omega), ih (tl f) g (a - 1) b (fun k hk => ha (k + 1) (by omega)) hb (by omega)]
      show f 0 * 0 + f (a - 1 + 1) * g b = f a * g b
      rw [show a - 1 + 1 = a by omega]
      grind
/-- a factor t as often as m -/
def tX (m : Nat) : PS F := ⟨fun n => if n = m then 1 else 0⟩
theorem tX_c (m n : Nat) : (tX m : PS F).c n = if n = m then 1 else 0 := rfl
theorem conv_tX : ∀ (m n : Nat) (g : Nat → F), conv (tX m : PS F).c g n = if m ≤ n then g (n - m) else 0
  | 0, n, g => by
    rw [if_pos (Nat.zero_le n)]
    have e := conv_cst (1 : F) g n
    have e2 : (cst (1 : F)).c = (tX 0 : PS F).c := rfl
    rw [← e2, e, Nat.sub_zero]
    grind
  | m + 1, 0, g => by
    rw [conv_zero, if_neg (by omega)]
    show (if 0 = m + 1 then (1 : F) else 0) * g 0 = 0
    rw [if_neg (by omega)]
    grind
  | m + 1, n + 1, g => by
    rw [conv_succ]
    have e2 : tl (tX (m + 1) : PS F).c = (tX m : PS F).c := funext fun k => by
      show (if k + 1 = m + 1 then (1 : F) else 0) = if k = m then 1 else 0
      by_cases q : k = m
      · rw [if_pos q, if_pos (by omega)]
      · rw [if_neg q, if_neg (by omega)]
    rw [e2, conv_tX m n g]
    show (if 0 = m + 1 then (1 : F) else 0) * g (n + 1) + _ = _
    rw [if_neg (by omega), show n + 1 - (m + 1) = n - m by omega]
    by_cases q : m ≤ n
    · rw [if_pos q, if_pos (by omega)]; grind
    · rw [if_neg q, if_neg (by omega)]; grind
theorem tX_mul_c (m n : Nat) (g : PS F) : (tX m * g).c n = if m ≤ n then g.c (n - m) else 0 := conv_tX m n g.c
theorem tX_cancel {m : Nat} {f g : PS F} (h : tX m * f = tX m * g) : f = g := PS.ext fun n => by
  have e := congrArg (fun z : PS F => z.c (n + m)) h
  simp only [tX_mul_c] at e
  rw [if_pos (by omega), if_pos (by omega), Nat.add_sub_cancel] at e
  exact e
/-- what begins with m noughts is a multiple of t^m -/
theorem tX_div {m : Nat} {f : PS F} (h : ∀ n, n < m → f.c n = 0) : f = tX m * ⟨fun n => f.c (n + m)⟩ := PS.ext fun n => by
  rw [tX_mul_c]
  split
  · rename_i q
    show f.c n = f.c (n - m + m)
    rw [Nat.sub_add_cancel q]
  · rename_i q
    exact h n (by omega)
/-- finite sums -/
def sumN (n : Nat) (f : Nat → F) : F := match n with
  | 0 => 0
  | n + 1 => sumN n f + f n
theorem sumN_zero (f : Nat → F) : sumN 0 f = 0 := rfl
theorem sumN_succ (n : Nat) (f : Nat → F) : sumN (n + 1) f = sumN n f + f n := rfl
theorem sumN_shift : ∀ (n : Nat) (f : Nat → F), sumN (n + 1) f = f 0 + sumN n (tl f)
  | 0, f => by
    rw [sumN_succ, sumN_zero, sumN_zero]
    grind
  | n + 1, f => by
    rw [sumN_succ, sumN_shift n f, sumN_succ]
    show f 0 + sumN n (tl f) + f (n + 1) = f 0 + (sumN n (tl f) + f (n + 1))
    grind
theorem sumN_congr : ∀ (n : Nat) {f g : Nat → F}, (∀ k, k < n → f k = g k) → sumN n f = sumN n g
  | 0, _, _, _ => rfl
  | n + 1, f, g, h => by rw [sumN_succ, sumN_succ, sumN_congr n (fun k hk => h k (by omega)), h n (by omega)]
theorem conv_sum : ∀ (n : Nat) (f g : Nat → F), conv f g n = sumN (n + 1) (fun i => f i * g (n - i))
  | 0, f, g => by
    rw [conv_zero, sumN_succ, sumN_zero]
    show f 0 * g 0 = 0 + f 0 * g (0 - 0)
    grind
  | n + 1, f, g => by
    rw [conv_succ, conv_sum n (tl f) g, sumN_shift (n + 1)]
    show f 0 * g (n + 1) + _ = f 0 * g (n + 1 - 0) + _
    rw [Nat.sub_zero]
    congr 1
    exact sumN_congr _ fun k hk => by
      show f (k + 1) * g (n - k) = f (k + 1) * g (n + 1 - (k + 1))
      rw [show n + 1 - (k + 1) = n - k by omega]
theorem sumN_zero_of {n : Nat} {f : Nat → F} (h : ∀ k, k < n → f k = 0) : sumN n f = 0 := by
  induction n with
  | zero => rfl
  | succ n ih =>
    rw [sumN_succ, ih (fun k hk => h k (by omega)), h n (by omega)]
    grind
/-- the places beyond do not count -/
theorem sumN_cut {m n : Nat} {f : Nat → F} (hmn : m ≤ n) (h : ∀ k, m ≤ k → k < n → f k = 0) : sumN n f = sumN m f := by
  induction n with
  | zero => rw [Nat.le_zero.mp hmn]
  | succ n ih =>
    by_cases q : m = n + 1
    · rw [q]
    · rw [sumN_succ, ih (by omega) (fun k h1 h2 => h k h1 (by omega)), h n (by omega) (by omega)]
      grind
end
end Kx

set_option linter.all false
namespace Kx
/-! ### the rests of 251 as a ring; lists as polynomials -/
def Z : Type := _root_.Fin 251
instance : Lean.Grind.CommRing Z := inferInstanceAs (Lean.Grind.CommRing (_root_.Fin 251))
def z (a : Int) : Z := (⟨(a % 251).toNat, by omega⟩ : _root_.Fin 251)
theorem z_iff {a b : Int} : z a = z b ↔ a % 251 = b % 251 := by
  constructor
  · intro h
    have e : (a % 251).toNat = (b % 251).toNat := congrArg (fun x : _root_.Fin 251 => x.val) h
    omega
  · intro h
    unfold z
    simp only [h]
    rfl
theorem z_mod (a : Int) : z (a % 251) = z a := z_iff.mpr (Int.emod_emod_of_dvd a (by decide))
theorem z_inj {a b : Int} (ha : 0 ≤ a ∧ a < 251) (hb : 0 ≤ b ∧ b < 251) (h : z a = z b) : a = b := by
  have := z_iff.mp h
  omega
theorem z_add (a b : Int) : z (a + b) = z a + z b := by
  refine Fin.ext ?_
  show ((a + b) % 251).toNat = ((a % 251).toNat + (b % 251).toNat) % 251
  omega
theorem z_mul (a b : Int) : z (a * b) = z a * z b := by
  refine Fin.ext ?_
  show ((a * b) % 251).toNat = ((a % 251).toNat * (b % 251).toNat) % 251
  have h1 : ((a % 251).toNat : Int) = a % 251 := by omega
  have h2 : ((b % 251).toNat : Int) = b % 251 := by omega
  have h3 : (((a % 251).toNat * (b % 251).toNat % 251 : Nat) : Int) = (a * b) % 251 := by
    rw [Int.natCast_emod, Int.natCast_mul, h1, h2]
    exact (Int.mul_emod a b 251).symm
  omega
theorem z_zero : z 0 = 0 := rfl
theorem z_one : z 1 = 1 := rfl
theorem z_neg (a : Int) : z (-a) = - z a := by
  have h := z_add (-a) a
  rw [show -a + a = 0 by omega, z_zero] at h
  grind
theorem z_sub (a b : Int) : z (a - b) = z a - z b := by
  rw [Int.sub_eq_add_neg, z_add, z_neg]
  grind
theorem z_eq0 {a : Int} : z a = 0 ↔ a % 251 = 0 := by
  rw [← z_zero, z_iff]
  omega
theorem z_ne0 {a : Int} (h : 1 ≤ a ∧ a < 251) : z a ≠ 0 := fun e => by
  have := z_eq0.mp e
  omega
theorem one_ne0 : (1 : Z) ≠ 0 := fun h => by
  have := (z_eq0 (a := 1)).mp h
  omega
theorem z_surj (x : Z) : ∃ a : Int, 0 ≤ a ∧ a < 251 ∧ z a = x := by
  refine ⟨((show _root_.Fin 251 from x).val : Int), by omega, ?_, Fin.ext ?_⟩
  · have := (show _root_.Fin 251 from x).isLt
    omega
  · show (((show _root_.Fin 251 from x).val : Int) % 251).toNat = (show _root_.Fin 251 from x).val
    have := (show _root_.Fin 251 from x).isLt
    omega
/-- the inverse, as the program makes it -/
def inv251 (a : Int) : Int := iter (fun _ st => st * a % 251) 1 249
theorem inv251_all : ∀ k : _root_.Fin 250, ((k.val : Int) + 1) * inv251 ((k.val : Int) + 1) % 251 = 1 := by decide +kernel
theorem inv251_mul {a : Int} (h : 1 ≤ a ∧ a < 251) : z a * z (inv251 a) = 1 := by
  have h2 := inv251_all ⟨(a - 1).toNat, by omega⟩
  have e : ((a - 1).toNat : Int) + 1 = a := by omega
  simp only [e] at h2
  rw [← z_mul, ← z_one, z_iff, h2]
  rfl
theorem z_field (x : Z) (h : x ≠ 0) : ∃ y : Z, x * y = 1 := by
  obtain ⟨a, h0, h1, rfl⟩ := z_surj x
  exact ⟨_, inv251_mul ⟨by
    rcases Int.lt_or_le 0 a with c | c
    · omega
    · exact absurd (by rw [show a = 0 by omega]; rfl) h, h1⟩⟩
theorem z_nozd {x y : Z} (h : x * y = 0) : x = 0 ∨ y = 0 := by
  by_cases c : x = 0
  · exact .inl c
  · obtain ⟨w, hw⟩ := z_field x c
    refine .inr ?_
    have : y = w * (x * y) := by grind
    rw [this, h]
    grind
/-- a list as a power series -/
def P (xs : List Int) : PS Z := ⟨fun n => z (co xs n)⟩
theorem P_c (xs : List Int) (n : Nat) : (P xs).c n = z (co xs n) := rfl
theorem P_dg (xs : List Int) : Dg (P xs) xs.length := fun n h => by rw [P_c, co_ge h]; rfl
theorem P_nil : P [] = 0 := PS.ext fun n => by rw [P_c, co_nil, zero_c]; rfl
theorem P_one : P [1] = 1 := PS.ext fun n => by
  rw [P_c, one_c]
  cases n with
  | zero => rfl
  | succ n => rw [co_succ, co_nil]; rfl
theorem P_trim (xs : List Int) : P (trim xs) = P xs := PS.ext fun n => by rw [P_c, P_c, trim_co]
theorem P_zs (k : Int) : P (zs k) = 0 := PS.ext fun n => by rw [P_c, co_zs, zero_c]; rfl
theorem P_inj {xs ys : List Int} (hl : xs.length = ys.length) (hx : Rests xs) (hy : Rests ys) (h : P xs = P ys) : xs = ys :=
  list_ext_co hl fun n _ => z_inj (co_rests hx n) (co_rests hy n) (congrArg (fun f : PS Z => f.c n) h)
theorem P_injT {xs ys : List Int} (tx : Tr xs) (ty : Tr ys) (hx : Rests xs) (hy : Rests ys) (h : P xs = P ys) : xs = ys :=
  tr_ext tx ty fun n => z_inj (co_rests hx n) (co_rests hy n) (congrArg (fun f : PS Z => f.c n) h)
theorem P_ne {xs : List Int} (t : Tr xs) (hx : Rests xs) (h : xs ≠ []) : P xs ≠ 0 := fun e => by
  refine h (P_injT t (.inl rfl) hx rests_nil ?_)
  rw [e, P_nil]
theorem cst_mul (a b : Z) : cst (a * b) = cst a * cst b := PS.ext fun n => by
  rw [cst_mul_c, cst_c, cst_c]
  split
  · rfl
  · grind
theorem tX_add (m n : Nat) : (tX (m + n) : PS Z) = tX m * tX n := PS.ext fun k => by
  rw [tX_mul_c, tX_c]
  by_cases h : m ≤ k
  · rw [if_pos h, tX_c]
    by_cases h2 : k = m + n
    · rw [if_pos h2, if_pos (by omega)]
    · rw [if_neg h2, if_neg (by omega)]
  · rw [if_neg h, if_neg (by omega)]
theorem mono_c (a : Z) (m n : Nat) : (cst a * tX m).c n = if n = m then a else 0 := by
  rw [cst_mul_c, tX_c]
  split
  · grind
  · grind
/-- one number is added to at a place -/
theorem P_si {f : List Int} {i : Nat} {v : Int} (h : i < f.length) : P (si f (i : Int) ((gi f (i : Int) + v) % 251)) = P f + cst (z v) * tX i := PS.ext fun n => by
  rw [add_c, mono_c, P_c, P_c, co_si, Int.toNat_natCast, gi_nat]
  by_cases c : n = i
  · subst c
    rw [if_pos ⟨rfl, h⟩, if_pos rfl, z_mod, z_add]
  · rw [if_neg (fun q => c q.1), if_neg c]
    grind
theorem P_take (xs : List Int) (m : Nat) : P (xs.take (m + 1)) = P (xs.take m) + cst (z (co xs m)) * tX m := PS.ext fun n => by
  rw [add_c, mono_c, P_c, P_c, co_take, co_take]
  by_cases c : n = m
  · subst c
    rw [if_pos (by omega), if_neg (by omega), if_pos rfl, z_zero]
    grind
  · rw [if_neg c]
    by_cases q : n < m
    · rw [if_pos (by omega), if_pos q]; grind
    · rw [if_neg (by omega), if_neg q, z_zero]; grind
/-- sums of lists, by rests -/
theorem z_sum_range (g : Nat → Int) : ∀ n, z (((List.range n).map g).sum) = sumN n fun i => z (g i)
  | 0 => rfl
  | n + 1 => by
    rw [List.range_succ, List.map_append, List.sum_append, z_add, z_sum_range g n, sumN_succ]
    simp
theorem z_sum_filter (p : Nat → Bool) (g : Nat → Int) : ∀ n, z ((((List.range n).filter p).map g).sum) = sumN n fun i => if p i = true then z (g i) else 0
  | 0 => rfl
  | n + 1 => by
    rw [List.range_succ, List.filter_append, List.map_append, List.sum_append, z_add, z_sum_filter p g n, sumN_succ]
    congr 1
    rw [List.filter_cons]
    split
    · simp
    · rfl
theorem rng_nat (n : Nat) : rng 0 (n : Int) = (List.range n).map fun (i : Nat) => (i : Int) := by
  unfold rng
  rw [Int.sub_zero, Int.toNat_natCast]
  exact List.map_congr_left fun i _ => Int.zero_add _
theorem z_sum_rng (n : Nat) (g : Int → Int) : z (((rng 0 (n : Int)).map g).sum) = sumN n fun i => z (g (i : Int)) := by
  rw [rng_nat, List.map_map]
  exact z_sum_range _ n
theorem z_sum_rngF (n : Nat) (p : Int → Bool) (g : Int → Int) : z ((((rng 0 (n : Int)).filter p).map g).sum) = sumN n fun i => if p (i : Int) = true then z (g (i : Int)) else 0 := by
  rw [rng_nat, List.filter_map, List.map_map]
  exact z_sum_filter _ _ n
/-- the law's sum for a place of a product -/
theorem z_lcv (xs ys : List Int) (k : Nat) : z ((((rng 0 (xs.length : Int)).filter fun m => decide (0 ≤ (k : Int) - m) && decide ((k : Int) - m < (ys.length : Int))).map fun m => gi xs m * gi ys ((k : Int) - m)).sum) = (P xs * P ys).c k := by
  rw [z_sum_rngF, mul_c, conv_sum]
  have e1 : sumN xs.length (fun i => if (decide (0 ≤ (k : Int) - (i : Int)) && decide ((k : Int) - (i : Int) < (ys.length : Int))) = true then z (gi xs (i : Int) * gi ys ((k : Int) - (i : Int))) else 0) = sumN xs.length (fun i => if i ≤ k then (P xs).c i * (P ys).c (k - i) else 0) := sumN_congr _ fun i hi => by
    by_cases c : i ≤ k
    · by_cases c2 : k - i < ys.length
      · rw [if_pos c, if_pos (by rw [Bool.and_eq_true, decide_eq_true_eq, decide_eq_true_eq]; omega), z_mul, gi_nat, gi_co, show ((k : Int) - (i : Int)).toNat = k - i by omega]
        rfl
      · rw [if_pos c, if_neg (by rw [Bool.and_eq_true, decide_eq_true_eq, decide_eq_true_eq]; omega), P_dg ys (k - i) (by omega)]
        grind
    · rw [if_neg c, if_neg (by rw [Bool.and_eq_true, decide_eq_true_eq, decide_eq_true_eq]; omega)]
  rw [e1]
  have e2 : sumN (k + 1) (fun i => (P xs).c i * (P ys).c (k - i)) = sumN (k + 1) (fun i => if i ≤ k then (P xs).c i * (P ys).c (k - i) else 0) := sumN_congr _ fun i hi => by rw [if_pos (by omega)]
  rw [e2]
  have e3 := sumN_cut (m := xs.length) (n := max xs.length (k + 1)) (f := fun i => if i ≤ k then (P xs).c i * (P ys).c (k - i) else 0) (by omega) (fun i h1 h2 => by
    split
    · rw [P_dg xs i h1]; grind
    · rfl)
  have e4 := sumN_cut (m := k + 1) (n := max xs.length (k + 1)) (f := fun i => if i ≤ k then (P xs).c i * (P ys).c (k - i) else 0) (by omega) (fun i h1 h2 => if_neg (by omega))
  rw [← e3, e4]
end Kx

namespace Pf
open Kx
theorem rests_self (xs : List Int) : m_law_rests xs xs = true := by
  refine (cond_f (by rw [decide_eq_true rfl]; rfl)).trans ?_
  have e : ∀ n, first (m_law_rests_L1b xs xs) n = none := by
    intro n
    induction n with
    | zero => rfl
    | succ n ih =>
      refine first_none ih ?_
      show (bif (!true) || (!decide (gi xs (n : Int) = gi xs (n : Int))) then some false else none) = none
      rw [decide_eq_true rfl]
      rfl
  rw [e]
  rfl
end Pf

namespace Pf
open Kx
theorem law_times_length (xs ys : List Int) (hx : xs ≠ []) (hy : ys ≠ []) : (m_law_times xs ys).length = xs.length + ys.length - 1 := by
  rw [law_times_eq, if_neg (fun h => h.elim hx hy), List.length_map, List.length_range]
theorem P_law_times (xs ys : List Int) : P (m_law_times xs ys) = P xs * P ys := by
  rw [law_times_eq]
  split
  · rename_i h
    rcases h with h | h
    · rw [h, P_nil]; grind
    · rw [h, P_nil]; grind
  · rename_i h
    have h1 : xs.length ≠ 0 := fun q => h (.inl (List.length_eq_zero_iff.mp q))
    have h2 : ys.length ≠ 0 := fun q => h (.inr (List.length_eq_zero_iff.mp q))
    refine PS.ext fun n => ?_
    rw [P_c, co_map]
    split
    · unfold lcv
      rw [z_mod, z_lcv]
    · rename_i q
      exact (dg_mul (P_dg xs) (P_dg ys) (d := xs.length + ys.length - 1) (by omega) n (by omega)).symm
end Pf

namespace Pf
open Kx
/-! ### sums of powers: the law's way and the program's -/
theorem power_succ (x : Int) (i : Nat) : m_power x ((i + 1 : Nat) : Int) = m_power x (i : Int) * x % 251 := rfl
theorem sums_inner (x : Int) (f : List Int) : ∀ i, i ≤ f.length → (iter (m_law_sums_L3s x) ((1, f) : Int × List Int) i).1 = m_power x (i : Int) ∧ ∀ j, co (iter (m_law_sums_L3s x) ((1, f) : Int × List Int) i).2 j = if j < i then (co f j + m_power x ((j + 1 : Nat) : Int)) % 251 else co f j
  | 0, _ => ⟨rfl, fun j => by rw [if_neg (by omega)]; rfl⟩
  | i + 1, hi => by
    obtain ⟨h1, h2⟩ := sums_inner x f i (by omega)
    have hl := law_sums_len3 x f i
    rw [iter_succ]
    generalize hst : iter (m_law_sums_L3s x) ((1, f) : Int × List Int) i = st at h1 h2 hl
    refine ⟨?_, fun j => ?_⟩
    · show st.1 * x % 251 = _
      rw [h1, power_succ]
    · show co (si st.2 (i : Int) ((gi st.2 (i : Int) + st.1 * x % 251) % 251)) j = _
      rw [co_si, Int.toNat_natCast, gi_nat, h1, ← power_succ]
      by_cases c : j = i
      · subst c
        rw [if_pos ⟨rfl, by omega⟩, if_pos (by omega), h2, if_neg (by omega)]
      · rw [if_neg (fun q => c q.1), h2]
        by_cases c2 : j < i
        · rw [if_pos c2, if_pos (by omega)]
        · rw [if_neg c2, if_neg (by omega)]
theorem sums_outer (many : Int) (k : Nat) : ∀ (l f : List Int), f.length = many.toNat → k < many.toNat → (0 ≤ co f k ∧ co f k < 251) → co (l.foldl (m_law_sums_L2s many) f) k = (co f k + (l.map fun x => m_power x ((k + 1 : Nat) : Int)).sum) % 251
  | [], f, _, _, h => by
    show co f k = (co f k + 0) % 251
    rw [Int.add_zero, mod_id h]
  | x :: l, f, hl, hk, h => by
    rw [List.foldl_cons]
    have e : co (m_law_sums_L2s many f x) k = (co f k + m_power x ((k + 1 : Nat) : Int)) % 251 := by
      show co (iter (m_law_sums_L3s x) ((1, f) : Int × List Int) many.toNat).2 k = _
      rw [(sums_inner x f many.toNat (by omega)).2, if_pos hk]
    have hl2 : (m_law_sums_L2s many f x).length = many.toNat := (law_sums_len3 x f many.toNat).trans hl
    rw [sums_outer many k l _ hl2 hk (by rw [e]; omega), e, List.map_cons, List.sum_cons, mod_l, Int.add_assoc]
theorem law_sums_pw (row : List Int) (many : Int) (k : Nat) (hk : k < many.toNat) : co (m_law_sums row many) k = (row.map fun x => m_power x ((k + 1 : Nat) : Int)).sum % 251 := by
  have h0 : iter m_law_sums_L1s [] many.toNat = (List.range many.toNat).map fun _ => (0 : Int) := iter_snoc (f := m_law_sums_L1s) (g := fun _ => 0) (fun _ _ => rfl) _
  show co (row.foldl (m_law_sums_L2s many) (iter m_law_sums_L1s [] many.toNat)) k = _
  have e0 : co (iter m_law_sums_L1s [] many.toNat) k = 0 := by rw [h0, co_map, if_pos hk]
  rw [sums_outer many k row _ (by rw [h0, List.length_map, List.length_range]) hk (by rw [e0]; decide), e0, Int.zero_add]
end Pf

namespace Kx
/-! ### Newton's law for sums of powers, by power series -/
theorem sumN_add {F : Type} [Lean.Grind.CommRing F] : ∀ (n : Nat) (f g : Nat → F), sumN n (fun i => f i + g i) = sumN n f + sumN n g
  | 0, _, _ => by rw [sumN_zero, sumN_zero, sumN_zero]; grind
  | n + 1, f, g => by rw [sumN_succ, sumN_succ, sumN_succ, sumN_add n f g]; grind
theorem sumN_smul {F : Type} [Lean.Grind.CommRing F] (a : F) : ∀ (n : Nat) (f : Nat → F), sumN n (fun i => a * f i) = a * sumN n f
  | 0, _ => by rw [sumN_zero, sumN_zero]; grind
  | n + 1, f => by rw [sumN_succ, sumN_succ, sumN_smul a n f]; grind
/-- every number times its place -/
def theta (f : PS Z) : PS Z := ⟨fun n => z (n : Int) * f.c n⟩
theorem theta_c (f : PS Z) (n : Nat) : (theta f).c n = z (n : Int) * f.c n := rfl
theorem theta_mul (f g : PS Z) : theta (f * g) = theta f * g + f * theta g := PS.ext fun n => by
  rw [theta_c, add_c, mul_c, mul_c, mul_c, conv_sum, conv_sum, conv_sum, ← sumN_smul, ← sumN_add]
  refine sumN_congr _ fun i hi => ?_
  rw [theta_c, theta_c, show (n : Int) = (i : Int) + ((n - i : Nat) : Int) by omega, z_add]
  grind
theorem theta_one : theta 1 = 0 := PS.ext fun n => by
  rw [theta_c, one_c, zero_c]
  split
  · rename_i h
    rw [h]
    show z 0 * 1 = 0
    rw [z_zero]
    grind
  · grind
/-- alike in the first m places -/
def Cg (m : Nat) (f g : PS Z) : Prop := ∀ n, n < m → f.c n = g.c n
theorem Cg.symm {m : Nat} {f g : PS Z} (h : Cg m f g) : Cg m g f := fun n hn => (h n hn).symm
theorem Cg.trans {m : Nat} {f g k : PS Z} (h : Cg m f g) (h2 : Cg m g k) : Cg m f k := fun n hn => (h n hn).trans (h2 n hn)
theorem Cg.mul {m : Nat} {f g f' g' : PS Z} (h : Cg m f f') (h2 : Cg m g g') : Cg m (f * g) (f' * g') := fun n hn => conv_congr n (fun k hk => h k (by omega)) (fun k hk => h2 k (by omega))
theorem Cg.add {m : Nat} {f g f' g' : PS Z} (h : Cg m f f') (h2 : Cg m g g') : Cg m (f + g) (f' + g') := fun n hn => by rw [add_c, add_c, h n hn, h2 n hn]
theorem Cg.refl {m : Nat} (f : PS Z) : Cg m f f := fun _ _ => rfl
theorem Cg.of_eq {m : Nat} {f g : PS Z} (h : f = g) : Cg m f g := h ▸ Cg.refl f
theorem z_unit {n : Nat} (h : n ≠ 0) (h2 : n < 251) {a b : Z} (e : z (n : Int) * a = z (n : Int) * b) : a = b := by
  obtain ⟨y, hy⟩ := z_field (z (n : Int)) (z_ne0 ⟨by omega, by omega⟩)
  have e2 : a = y * (z (n : Int) * a) := by grind
  have e3 : b = y * (z (n : Int) * b) := by grind
  rw [e2, e3, e]
/-- the law of Newton has one answer -/
theorem newton_one {m : Nat} (hm : m ≤ 251) {t E F : PS Z} (ht : t.c 0 = 0) (h0 : E.c 0 = F.c 0) (hE : Cg m (theta E + t * E) 0) (hF : Cg m (theta F + t * F) 0) : Cg m E F := by
  have key : ∀ n, n ≤ m → Cg n E F := by
    intro n
    induction n with
    | zero => exact fun _ _ h => absurd h (Nat.not_lt_zero _)
    | succ n ih =>
      intro hn k hk
      have ih := ih (by omega)
      by_cases c : k = n
      · subst c
        cases k with
        | zero => exact h0
        | succ j =>
          have e1 := hE (j + 1) (by omega)
          have e2 := hF (j + 1) (by omega)
          rw [add_c, theta_c, zero_c, mul_c, conv_succ, ht] at e1 e2
          have e3 : conv (tl t.c) E.c j = conv (tl t.c) F.c j := conv_congr j (fun _ _ => rfl) (fun i hi => ih i (by omega))
          refine z_unit (n := j + 1) (by omega) (by omega) ?_
          rw [e3] at e1
          grind
      · exact ih k (by omega)
  exact key m (Nat.le_refl m)
def pz (a : Z) : Nat → Z
  | 0 => 1
  | n + 1 => pz a n * a
/-- one factor: 1 - x t -/
def fz (a : Z) : PS Z := 1 - cst a * tX 1
def tz1 (a : Z) : PS Z := ⟨fun n => if n = 0 then 0 else pz a n⟩
theorem tz1_fz (a : Z) : tz1 a * fz a = cst a * tX 1 := PS.ext fun n => by
  have e : tz1 a * fz a = tz1 a - cst a * (tX 1 * tz1 a) := by unfold fz; grind
  rw [e, sub_c, cst_mul_c, tX_mul_c, mono_c]
  show (if n = 0 then 0 else pz a n) - a * (if 1 ≤ n then (if n - 1 = 0 then 0 else pz a (n - 1)) else 0) = _
  match n with
  | 0 => grind
  | 1 =>
    show (1 * a) - a * 0 = a
    grind
  | n + 2 =>
    rw [if_neg (by omega), if_pos (by omega), if_neg (by omega), if_neg (by omega), show n + 2 - 1 = n + 1 by omega]
    show pz a (n + 1) * a - a * pz a (n + 1) = 0
    grind
theorem theta_fz (a : Z) : theta (fz a) = - (cst a * tX 1) := PS.ext fun n => by
  rw [theta_c, neg_c, mono_c]
  unfold fz
  rw [sub_c, mono_c, one_c]
  match n with
  | 0 => 
    show z 0 * _ = _
    rw [z_zero]
    grind
  | 1 =>
    show z 1 * (0 - a) = - a
    rw [z_one]
    grind
  | n + 2 =>
    rw [if_neg (by omega), if_neg (by omega)]
    grind
def EL : List Int → PS Z
  | [] => 1
  | x :: l => fz (z x) * EL l
def TL : List Int → PS Z
  | [] => 0
  | x :: l => tz1 (z x) + TL l
theorem newton : ∀ l : List Int, theta (EL l) + TL l * EL l = 0
  | [] => by
    show theta 1 + 0 * 1 = 0
    rw [theta_one]
    grind
  | x :: l => by
    have ih := newton l
    have e := tz1_fz (z x)
    show theta (fz (z x) * EL l) + (tz1 (z x) + TL l) * (fz (z x) * EL l) = 0
    rw [theta_mul, theta_fz]
    have : -(cst (z x) * tX 1) * EL l + fz (z x) * theta (EL l) + (tz1 (z x) + TL l) * (fz (z x) * EL l) = fz (z x) * (theta (EL l) + TL l * EL l) + (tz1 (z x) * fz (z x) - cst (z x) * tX 1) * EL l := by grind
    rw [this, ih, e]
    grind
theorem fz_c0 (a : Z) : (fz a).c 0 = 1 := by
  unfold fz
  rw [sub_c, mono_c, one_c]
  show (1 : Z) - 0 = 1
  grind
theorem EL_c0 : ∀ l : List Int, (EL l).c 0 = 1
  | [] => rfl
  | x :: l => by
    show conv (fz (z x)).c (EL l).c 0 = 1
    rw [conv_zero, fz_c0, EL_c0 l]
    grind
theorem TL_c0 : ∀ l : List Int, (TL l).c 0 = 0
  | [] => zero_c 0
  | x :: l => by
    show (tz1 (z x) + TL l).c 0 = 0
    rw [add_c, TL_c0 l]
    show (0 : Z) + 0 = 0
    grind
theorem TL_c : ∀ (l : List Int) (n : Nat), n ≠ 0 → (TL l).c n = (l.map fun x => pz (z x) n).foldr (fun a b => a + b) 0
  | [], n, _ => zero_c n
  | x :: l, n, h => by
    show (tz1 (z x) + TL l).c n = pz (z x) n + _
    rw [add_c, TL_c l n h]
    show (if n = 0 then 0 else pz (z x) n) + _ = _
    rw [if_neg h]
end Kx

namespace Pf
open Kx
/-! ### the program's series obeys the law of Newton -/
theorem z_power (x : Int) : ∀ n : Nat, z (m_power x (n : Int)) = pz (z x) n
  | 0 => rfl
  | n + 1 => by
    rw [show m_power x ((n + 1 : Nat) : Int) = m_power x (n : Int) * x % 251 from rfl, z_mod, z_mul, z_power x n]
    rfl
theorem z_power_sum (n : Nat) : ∀ l : List Int, z ((l.map fun x => m_power x (n : Int)).sum) = (l.map fun x => pz (z x) n).foldr (fun a b => a + b) 0
  | [] => rfl
  | x :: l => by
    rw [List.map_cons, List.sum_cons, z_add, z_power_sum n l, z_power]
    rfl
theorem z_sum_rng1 (n : Nat) (g : Int → Int) : z (((rng 1 (1 + (n : Int) + 1)).map g).sum) = sumN (n + 1) fun i => z (g (1 + (i : Int))) := by
  unfold rng
  rw [show (1 + (n : Int) + 1 - 1).toNat = n + 1 by omega, List.map_map]
  exact z_sum_range _ _
structure SerInv (s : List Int) (n : Nat) (st : List Int) : Prop where
  len : st.length = n + 1
  c0 : co st 0 = 1
  rr : Rests st
  eq : ∀ k, k < n → z ((k + 1 : Nat) : Int) * (P st).c (k + 1) + (P s * P st).c k = 0
theorem series_inv (s : List Int) : ∀ n, n ≤ 250 → SerInv s n (iter (m_series_L1s s) [1] n)
  | 0, _ => ⟨rfl, rfl, rests_cons (by decide) rests_nil, fun _ h => absurd h (Nat.not_lt_zero _)⟩
  | n + 1, hn => by
    obtain ⟨h1, h2, h3, h4⟩ := series_inv s n (by omega)
    rw [iter_succ]
    generalize iter (m_series_L1s s) [1] n = st at h1 h2 h3 h4
    have ht : z (((rng 1 ((1 + (n : Int)) + 1)).map fun i => (gi s (i - 1)) * (gi st ((1 + (n : Int)) - i))).sum) = (P s * P st).c n := by
      rw [z_sum_rng1, mul_c, conv_sum]
      refine sumN_congr _ fun i hi => ?_
      rw [show 1 + (i : Int) - 1 = (i : Int) by omega, show 1 + (n : Int) - (1 + (i : Int)) = ((n - i : Nat) : Int) by omega, gi_nat, gi_nat, z_mul]
      rfl
    show SerInv s (n + 1) (st ++ [((0 - (((rng 1 ((1 + (n : Int)) + 1)).map fun i => (gi s (i - 1)) * (gi st ((1 + (n : Int)) - i))).sum)) * (m_inverse (1 + (n : Int)))) % 251])
    generalize (((rng 1 ((1 + (n : Int)) + 1)).map fun i => (gi s (i - 1)) * (gi st ((1 + (n : Int)) - i))).sum) = tot at ht
    have hlow : ∀ k, k ≤ n → (P (st ++ [((0 - tot) * (m_inverse (1 + (n : Int)))) % 251])).c k = (P st).c k := fun k hk => by
      rw [P_c, P_c, co_app, if_pos (by omega)]
    refine ⟨by rw [List.length_append, h1]; rfl, ?_, rests_app h3 (rests_cons ⟨Int.emod_nonneg _ (by decide), Int.emod_lt_of_pos _ (by decide)⟩ rests_nil), fun k hk => ?_⟩
    · rw [co_app, if_pos (by omega)]
      exact h2
    · have hc : (P s * P (st ++ [((0 - tot) * (m_inverse (1 + (n : Int)))) % 251])).c k = (P s * P st).c k := conv_congr k (fun _ _ => rfl) (fun i hi => hlow i (by omega))
      rw [hc]
      by_cases c : k = n
      · subst c
        rw [← ht, P_c, co_app, if_neg (by omega), h1, Nat.sub_self, co_zero, z_mod, z_mul, show (0 : Int) - tot = - tot by omega, z_neg]
        have hi := inv251_mul (a := 1 + (k : Int)) (by omega)
        rw [show ((k + 1 : Nat) : Int) = 1 + (k : Int) by omega]
        show z (1 + (k : Int)) * (-z tot * z (inv251 (1 + (k : Int)))) + z tot = 0
        grind
      · rw [hlow (k + 1) (by omega)]
        exact h4 k (by omega)
theorem series_spec (s : List Int) (h : s.length ≤ 250) : SerInv s s.length (m_series s) := by
  have := series_inv s s.length h
  show SerInv s s.length (iter (m_series_L1s s) [1] ((s.length : Int) + 1 - 1).toNat)
  rw [show ((s.length : Int) + 1 - 1).toNat = s.length by omega]
  exact this
theorem series_cg (s : List Int) (h : s.length ≤ 250) : Cg (s.length + 1) (theta (P (m_series s)) + (tX 1 * P s) * P (m_series s)) 0 := fun n hn => by
  have hs := (series_spec s h).eq
  rw [zero_c, add_c, theta_c]
  have e : (tX 1 * P s) * P (m_series s) = tX 1 * (P s * P (m_series s)) := by grind
  rw [e, tX_mul_c]
  match n with
  | 0 =>
    rw [if_neg (by omega)]
    show z 0 * _ + 0 = 0
    rw [z_zero]
    grind
  | n + 1 =>
    rw [if_pos (by omega), Nat.add_sub_cancel]
    exact hs n (by omega)
theorem series_c0 (s : List Int) (h : s.length ≤ 250) : (P (m_series s)).c 0 = 1 := by
  rw [P_c, (series_spec s h).c0]
  rfl
/-- the sums of a row give the row's own product -/
theorem series_unique (s : List Int) (h : s.length ≤ 250) {t E : PS Z} (h0 : E.c 0 = 1) (ht0 : t.c 0 = 0) (ht : ∀ k, k < s.length → t.c (k + 1) = z (co s k)) (hE : Cg (s.length + 1) (theta E + t * E) 0) : Cg (s.length + 1) (P (m_series s)) E := by
  have hT : Cg (s.length + 1) (tX 1 * P s) t := fun n hn => by
    rw [tX_mul_c]
    match n with
    | 0 => rw [if_neg (by omega), ht0]
    | n + 1 => rw [if_pos (by omega), Nat.add_sub_cancel, ht n (by omega)]; rfl
  refine newton_one (t := t) (by omega) ht0 (by rw [series_c0 s h, h0]) ?_ hE
  exact Cg.trans (Cg.add (Cg.refl _) (Cg.mul hT.symm (Cg.refl _))) (series_cg s h)
end Pf

namespace Pf
open Kx
theorem P_factor (x : Int) : P [1, 251 - x] = fz (z x) := PS.ext fun n => by
  unfold fz
  rw [P_c, sub_c, mono_c, one_c]
  match n with
  | 0 =>
    show z 1 = (1 : Z) - 0
    rw [z_one]
    grind
  | 1 =>
    show z (251 - x) = (0 : Z) - z x
    rw [z_sub, show z 251 = 0 from rfl]
  | n + 2 =>
    rw [if_neg (by omega), if_neg (by omega), co_ge (by show 2 ≤ n + 2; omega), z_zero]
    grind
theorem P_due : ∀ (l : List Int) (st : List Int), P (l.foldl m_law_L2s st) = P st * EL l
  | [], st => by
    show P st = P st * 1
    grind
  | x :: l, st => by
    rw [List.foldl_cons, P_due l]
    show P (m_law_times st [1, 251 - x]) * EL l = P st * (fz (z x) * EL l)
    rw [P_law_times, P_factor]
    grind
theorem law_true (ns : List Int) (_ : ns.length ≤ 63) : m_law ns = true := by
  unfold m_law
  dsimp only
  have hm : 1 ≤ 1 + m_law_cell_at ns 0 % 12 ∧ 1 + m_law_cell_at ns 0 % 12 ≤ 12 := by omega
  generalize 1 + m_law_cell_at ns 0 % 12 = many at hm
  generalize decide (m_law_cell_at ns 0 / 12 % 3 = 1) = b
  generalize m_law_row ns 1 14 = row
  have hj := law_J1_ok ns many (m_law_sums row many) b (law_sums_rests _ _) (law_sums_length _ _)
  have hb : b = false → m_law_J1 ns many (m_law_sums row many) b = m_law_sums row many := fun e => by rw [e]; rfl
  generalize m_law_J1 ns many (m_law_sums row many) b = s at hj hb
  obtain ⟨hr, hl⟩ := hj
  have hsp := series_spec s (by omega)
  have hsl := series_len s
  have hloop : first (m_law_L1b s (m_series s)) (many + 1).toNat = none := by
    have key : ∀ n, n ≤ (many + 1).toNat → first (m_law_L1b s (m_series s)) n = none := by
      intro n
      induction n with
      | zero => exact fun _ => rfl
      | succ n ih =>
        intro hn
        refine first_none (ih (by omega)) ?_
        unfold m_law_L1b
        have hbd := co_rests hsp.rr n
        have hcg := series_cg s (by omega) n (by omega)
        have hz : ((n : Int) * gi (m_series s) (n : Int) + ((rng 0 (n : Int)).map fun i => (gi s i) * (gi (m_series s) ((n : Int) - 1 - i))).sum) % 251 = 0 := by
          refine z_eq0.mp ?_
          rw [z_add, z_mul, z_sum_rng, gi_nat]
          match n with
          | 0 =>
            show z 0 * _ + 0 = 0
            rw [z_zero]
            grind
          | n + 1 =>
            have e := hsp.eq n (by omega)
            rw [mul_c, conv_sum] at e
            have e2 : sumN (n + 1) (fun i => z (gi s (i : Int) * gi (m_series s) (((n + 1 : Nat) : Int) - 1 - (i : Int)))) = sumN (n + 1) (fun i => (P s).c i * (P (m_series s)).c (n - i)) := sumN_congr _ fun i hi => by
              rw [show ((n + 1 : Nat) : Int) - 1 - (i : Int) = ((n - i : Nat) : Int) by omega, gi_nat, gi_nat, z_mul]
              rfl
            rw [e2]
            exact e
        rw [gi_nat] at hz ⊢
        dsimp only
        rw [decide_eq_true hbd.1, decide_eq_true (show co (m_series s) n ≤ 250 by omega), decide_eq_true hz]
        rfl
    exact key _ (Nat.le_refl _)
  rw [rests_self, decide_eq_true (show ((m_series s).length : Int) = many + 1 by omega), hloop]
  show (bif b then decide (gi (m_series s) 0 = 1) else _) = true
  cases b with
  | true =>
    show decide (gi (m_series s) 0 = 1) = true
    refine decide_eq_true ?_
    rw [show (0 : Int) = ((0 : Nat) : Int) from rfl, gi_nat]
    exact hsp.c0
  | false =>
    show m_law_rests (m_series s) ((m_law_L2 row ++ zs many).take (many + 1).toNat) = true
    have hs := hb rfl
    have hP : P (m_law_L2 row) = EL row := by
      have := P_due row [1]
      rw [P_one] at this
      refine Eq.trans this ?_
      grind
    have hd : 1 ≤ (m_law_L2 row).length := by
      rcases Nat.eq_zero_or_pos (m_law_L2 row).length with c | c
      · exfalso
        rw [List.length_eq_zero_iff.mp c, P_nil] at hP
        have := EL_c0 row
        rw [← hP, zero_c] at this
        exact one_ne0 this.symm
      · exact c
    have hcg := series_unique s (by omega) (t := TL row) (E := EL row) (EL_c0 row) (TL_c0 row) (fun k hk => by
      rw [TL_c row (k + 1) (by omega), hs, law_sums_pw row many k (by omega), z_mod, z_power_sum]) (Cg.of_eq (newton row))
    have e : m_series s = (m_law_L2 row ++ zs many).take (many + 1).toNat := by
      refine list_ext_co (by rw [List.length_take, List.length_append, zs_len]; omega) fun n hn => ?_
      have h1 := hcg n (by omega)
      rw [← hP, P_c, P_c] at h1
      have h2 := z_inj (co_rests hsp.rr n) (co_rests (law_due_inv row).1 n) h1
      rw [h2, co_take, if_pos (by omega), co_app, co_zs]
      split
      · rfl
      · exact co_ge (by show (m_law_L2 row).length ≤ n; omega)
    rw [← e]
    exact rests_self _
end Pf

namespace Pf
open PySem PySem.Spec PyProof.Rows L2 Evl Kx
theorem all_mk {l : PySem.W.OpenLaw} {w : World} {K : PySem.W.Frag} {h : Heap} {mg : Str → Option Value} {fl f0 f1 f2 f3 f4 f5 f6 f7 f8 f9 : Addr} (X : K.In h) (G : h.Ns mainGlobals mg) (hfa : mg "law" = some (.ref fl))
    {od0 an0 : Option Addr} {sl0 : Array (Option Value)} {oc0 kV0 dc0 pm0 cd0 ct0 : Value}
    {od1 an1 : Option Addr} {sl1 : Array (Option Value)} {oc1 kV1 dc1 pm1 cd1 ct1 : Value}
    {od2 an2 : Option Addr} {sl2 : Array (Option Value)} {oc2 kV2 dc2 pm2 cd2 ct2 : Value}
    {od3 an3 : Option Addr} {sl3 : Array (Option Value)} {oc3 kV3 dc3 pm3 cd3 ct3 : Value}
    {od4 an4 : Option Addr} {sl4 : Array (Option Value)} {oc4 kV4 dc4 pm4 cd4 ct4 : Value}
    {od5 an5 : Option Addr} {sl5 : Array (Option Value)} {oc5 kV5 dc5 pm5 cd5 ct5 : Value}
    {od6 an6 : Option Addr} {sl6 : Array (Option Value)} {oc6 kV6 dc6 pm6 cd6 ct6 : Value}
    {od7 an7 : Option Addr} {sl7 : Array (Option Value)} {oc7 kV7 dc7 pm7 cd7 ct7 : Value}
    {od8 an8 : Option Addr} {sl8 : Array (Option Value)} {oc8 kV8 dc8 pm8 cd8 ct8 : Value}
    {od9 an9 : Option Addr} {sl9 : Array (Option Value)} {oc9 kV9 dc9 pm9 cd9 ct9 : Value}
    (a0 : PySem.W.nsIn K mainGlobals "_law_cell_at" = some (some (.ref f0)))
    (l0 : K.lookup f0 = some ⟨oc0, od0, .func (PySem.W.fnOf "_law_cell_at" "_law_cell_at" (defArgs s__law_cell_at) (defBody s__law_cell_at) (defScope s__law_cell_at) .none kV0 dc0 pm0 an0 cd0 ct0), sl0⟩)
    (c0 : PySem.W.codeIn K cd0 "_law_cell_at" = true) (k0 : PySem.W.keepIn K (.ref f0) = true)
    (a1 : PySem.W.nsIn K mainGlobals "_law_row" = some (some (.ref f1)))
    (l1 : K.lookup f1 = some ⟨oc1, od1, .func (PySem.W.fnOf "_law_row" "_law_row" (defArgs s__law_row) (defBody s__law_row) (defScope s__law_row) .none kV1 dc1 pm1 an1 cd1 ct1), sl1⟩)
    (c1 : PySem.W.codeIn K cd1 "_law_row" = true) (k1 : PySem.W.keepIn K (.ref f1) = true)
    (a2 : PySem.W.nsIn K mainGlobals "_law_sums" = some (some (.ref f2)))
    (l2 : K.lookup f2 = some ⟨oc2, od2, .func (PySem.W.fnOf "_law_sums" "_law_sums" (defArgs s__law_sums) (defBody s__law_sums) (defScope s__law_sums) .none kV2 dc2 pm2 an2 cd2 ct2), sl2⟩)
    (c2 : PySem.W.codeIn K cd2 "_law_sums" = true) (k2 : PySem.W.keepIn K (.ref f2) = true)
    (a3 : PySem.W.nsIn K mainGlobals "power" = some (some (.ref f3)))
    (l3 : K.lookup f3 = some ⟨oc3, od3, .func (PySem.W.fnOf "power" "power" (defArgs s_power) (defBody s_power) (defScope s_power) .none kV3 dc3 pm3 an3 cd3 ct3), sl3⟩)
    (c3 : PySem.W.codeIn K cd3 "power" = true) (k3 : PySem.W.keepIn K (.ref f3) = true)
    (a4 : PySem.W.nsIn K mainGlobals "inverse" = some (some (.ref f4)))
    (l4 : K.lookup f4 = some ⟨oc4, od4, .func (PySem.W.fnOf "inverse" "inverse" (defArgs s_inverse) (defBody s_inverse) (defScope s_inverse) .none kV4 dc4 pm4 an4 cd4 ct4), sl4⟩)
    (c4 : PySem.W.codeIn K cd4 "inverse" = true) (k4 : PySem.W.keepIn K (.ref f4) = true)
    (a5 : PySem.W.nsIn K mainGlobals "series" = some (some (.ref f5)))
    (l5 : K.lookup f5 = some ⟨oc5, od5, .func (PySem.W.fnOf "series" "series" (defArgs s_series) (defBody s_series) (defScope s_series) .none kV5 dc5 pm5 an5 cd5 ct5), sl5⟩)
    (c5 : PySem.W.codeIn K cd5 "series" = true) (k5 : PySem.W.keepIn K (.ref f5) = true)
    (a6 : PySem.W.nsIn K mainGlobals "_law_whole" = some (some (.ref f6)))
    (l6 : K.lookup f6 = some ⟨oc6, od6, .func (PySem.W.fnOf "_law_whole" "_law_whole" (defArgs s__law_whole) (defBody s__law_whole) (defScope s__law_whole) .none kV6 dc6 pm6 an6 cd6 ct6), sl6⟩)
    (c6 : PySem.W.codeIn K cd6 "_law_whole" = true) (k6 : PySem.W.keepIn K (.ref f6) = true)
    (a7 : PySem.W.nsIn K mainGlobals "_law_rests" = some (some (.ref f7)))
    (l7 : K.lookup f7 = some ⟨oc7, od7, .func (PySem.W.fnOf "_law_rests" "_law_rests" (defArgs s__law_rests) (defBody s__law_rests) (defScope s__law_rests) .none kV7 dc7 pm7 an7 cd7 ct7), sl7⟩)
    (c7 : PySem.W.codeIn K cd7 "_law_rests" = true) (k7 : PySem.W.keepIn K (.ref f7) = true)
    (a8 : PySem.W.nsIn K mainGlobals "_law_times" = some (some (.ref f8)))
    (l8 : K.lookup f8 = some ⟨oc8, od8, .func (PySem.W.fnOf "_law_times" "_law_times" (defArgs s__law_times) (defBody s__law_times) (defScope s__law_times) .none kV8 dc8 pm8 an8 cd8 ct8), sl8⟩)
    (c8 : PySem.W.codeIn K cd8 "_law_times" = true) (k8 : PySem.W.keepIn K (.ref f8) = true)
    (a9 : PySem.W.nsIn K mainGlobals "law" = some (some (.ref f9)))
    (l9 : K.lookup f9 = some ⟨oc9, od9, .func (PySem.W.fnOf "law" "law" (defArgs s_law) (defBody s_law) (defScope s_law) .none kV9 dc9 pm9 an9 cd9 ct9), sl9⟩)
    (c9 : PySem.W.codeIn K cd9 "law" = true) (k9 : PySem.W.keepIn K (.ref f9) = true)
    (z_bool : PySem.W.nsIn K mainGlobals "bool" = some none)
    (z_int : PySem.W.nsIn K mainGlobals "int" = some none)
    (z_isinstance : PySem.W.nsIn K mainGlobals "isinstance" = some none)
    (z_len : PySem.W.nsIn K mainGlobals "len" = some none)
    (z_list : PySem.W.nsIn K mainGlobals "list" = some none)
    (z_range : PySem.W.nsIn K mainGlobals "range" = some none)
    (z_sum : PySem.W.nsIn K mainGlobals "sum" = some none)
    {tPRIME : Tok} (v_PRIME : PySem.W.nsIn K mainGlobals "PRIME" = some (some (.int 251 tPRIME))) :
    ∃ fd : FuncData, (∀ (s : Shared) (v : Value), BindsTo s fd ⟨[v], []⟩ [("_law_script", v)]) ∧ ∀ base : Heap, K.In base → base.Ns mainGlobals mg → FnOk l.prog w K mg base CX0 4 fl fd ["_law_script"] (sp_law K) := by
  have e := hfa.symm.trans (PySem.W.mg_of X G a9)
  cases e
  have F0 := fun_mk (st := s__law_cell_at) l0 c0 k0
  have b0 := F0.binds (ps := ["_law_script", "_law_k"]) fun _ _ _ _ _ _ us hl => match us, hl with | [_, _], _ => rfl
  have F1 := fun_mk (st := s__law_row) l1 c1 k1
  have b1 := F1.binds (ps := ["_law_script", "_law_at", "_law_most"]) fun _ _ _ _ _ _ us hl => match us, hl with | [_, _, _], _ => rfl
  have F2 := fun_mk (st := s__law_sums) l2 c2 k2
  have b2 := F2.binds (ps := ["_law_row_here", "_law_many"]) fun _ _ _ _ _ _ us hl => match us, hl with | [_, _], _ => rfl
  have F3 := fun_mk (st := s_power) l3 c3 k3
  have b3 := F3.binds (ps := ["rest", "many"]) fun _ _ _ _ _ _ us hl => match us, hl with | [_, _], _ => rfl
  have F4 := fun_mk (st := s_inverse) l4 c4 k4
  have b4 := F4.binds (ps := ["rest"]) fun _ _ _ _ _ _ us hl => match us, hl with | [_], _ => rfl
  have F5 := fun_mk (st := s_series) l5 c5 k5
  have b5 := F5.binds (ps := ["sums"]) fun _ _ _ _ _ _ us hl => match us, hl with | [_], _ => rfl
  have F6 := fun_mk (st := s__law_whole) l6 c6 k6
  have b6 := F6.binds (ps := ["_law_found"]) fun _ _ _ _ _ _ us hl => match us, hl with | [_], _ => rfl
  have F7 := fun_mk (st := s__law_rests) l7 c7 k7
  have b7 := F7.binds (ps := ["_law_found", "_law_due"]) fun _ _ _ _ _ _ us hl => match us, hl with | [_, _], _ => rfl
  have F8 := fun_mk (st := s__law_times) l8 c8 k8
  have b8 := F8.binds (ps := ["_law_one", "_law_other"]) fun _ _ _ _ _ _ us hl => match us, hl with | [_, _], _ => rfl
  have F9 := fun_mk (st := s_law) l9 c9 k9
  have b9 := F9.binds (ps := ["_law_script"]) fun _ _ _ _ _ _ us hl => match us, hl with | [_], _ => rfl
  have T : Txt K mg (fun i => [f0, f1, f2, f3, f4, f5, f6, f7, f8, fl].getD i f0) (fun i => [(PySem.W.fnOf "_law_cell_at" "_law_cell_at" (defArgs s__law_cell_at) (defBody s__law_cell_at) (defScope s__law_cell_at) .none kV0 dc0 pm0 an0 cd0 ct0),
      (PySem.W.fnOf "_law_row" "_law_row" (defArgs s__law_row) (defBody s__law_row) (defScope s__law_row) .none kV1 dc1 pm1 an1 cd1 ct1),
      (PySem.W.fnOf "_law_sums" "_law_sums" (defArgs s__law_sums) (defBody s__law_sums) (defScope s__law_sums) .none kV2 dc2 pm2 an2 cd2 ct2),
      (PySem.W.fnOf "power" "power" (defArgs s_power) (defBody s_power) (defScope s_power) .none kV3 dc3 pm3 an3 cd3 ct3),
      (PySem.W.fnOf "inverse" "inverse" (defArgs s_inverse) (defBody s_inverse) (defScope s_inverse) .none kV4 dc4 pm4 an4 cd4 ct4),
      (PySem.W.fnOf "series" "series" (defArgs s_series) (defBody s_series) (defScope s_series) .none kV5 dc5 pm5 an5 cd5 ct5),
      (PySem.W.fnOf "_law_whole" "_law_whole" (defArgs s__law_whole) (defBody s__law_whole) (defScope s__law_whole) .none kV6 dc6 pm6 an6 cd6 ct6),
      (PySem.W.fnOf "_law_rests" "_law_rests" (defArgs s__law_rests) (defBody s__law_rests) (defScope s__law_rests) .none kV7 dc7 pm7 an7 cd7 ct7),
      (PySem.W.fnOf "_law_times" "_law_times" (defArgs s__law_times) (defBody s__law_times) (defScope s__law_times) .none kV8 dc8 pm8 an8 cd8 ct8),
      (PySem.W.fnOf "law" "law" (defArgs s_law) (defBody s_law) (defScope s_law) .none kV9 dc9 pm9 an9 cd9 ct9)].getD i (PySem.W.fnOf "_law_cell_at" "_law_cell_at" (defArgs s__law_cell_at) (defBody s__law_cell_at) (defScope s__law_cell_at) .none kV0 dc0 pm0 an0 cd0 ct0)) :=
    ⟨F0, b0, PySem.W.mg_of X G a0, F1, b1, PySem.W.mg_of X G a1, F2, b2, PySem.W.mg_of X G a2, F3, b3, PySem.W.mg_of X G a3, F4, b4, PySem.W.mg_of X G a4, F5, b5, PySem.W.mg_of X G a5, F6, b6, PySem.W.mg_of X G a6, F7, b7, PySem.W.mg_of X G a7, F8, b8, PySem.W.mg_of X G a8, F9, b9, PySem.W.mg_of X G a9, PySem.W.mg_none_of X G z_bool, PySem.W.mg_none_of X G z_int, PySem.W.mg_none_of X G z_isinstance, PySem.W.mg_none_of X G z_len, PySem.W.mg_none_of X G z_list, PySem.W.mg_none_of X G z_range, PySem.W.mg_none_of X G z_sum, ⟨_, PySem.W.mg_of X G v_PRIME⟩⟩
  exact ⟨(PySem.W.fnOf "law" "law" (defArgs s_law) (defBody s_law) (defScope s_law) .none kV9 dc9 pm9 an9 cd9 ct9), fun s v => .of_eq rfl, fun base _ _ => ok_law (P := l.prog) (w := w) (base := base) T⟩
end Pf
open PySem PySem.W PyProof.Rows
set_option maxHeartbeats 0 in
theorem PySem.Challenge.cw_sumsync_k08_series_holds : PySem.Challenge.rw_sumsync_k08_series.Holds := by
  w_on; o_law; k_head; (case hw => w_witness2)
  k_fill
  refine L2.walk_of (l := PySem.Challenge.rw_sumsync_k08_series) (n := 63) (k := 4) (x := "_law_script") (CX := fun _ => L2.CX0) (sp := fun w => Pf.sp_law _) rfl (by decide) rfl ⟨rfl, by decide, by decide⟩ (fun w h Y => PySem.W.kIn_of Y) ?F (fun _ _ a ns hl _ hS => ⟨ns, .cons ⟨a, rfl, hS⟩ .nil, hl, fun u H' _ hn => (show u = _ from hn).trans (congrArg L2.V.bl (Pf.law_true ns hl))⟩) (fun _ _ _ _ _ h => h)
  case F =>
    intro w mg fa h KX G hmg
    refine' Pf.all_mk KX G hmg ?a0 ?l0 ?c0 ?k0 ?a1 ?l1 ?c1 ?k1 ?a2 ?l2 ?c2 ?k2 ?a3 ?l3 ?c3 ?k3 ?a4 ?l4 ?c4 ?k4 ?a5 ?l5 ?c5 ?k5 ?a6 ?l6 ?c6 ?k6 ?a7 ?l7 ?c7 ?k7 ?a8 ?l8 ?c8 ?k8 ?a9 ?l9 ?c9 ?k9 ?z_bool ?z_int ?z_isinstance ?z_len ?z_list ?z_range ?z_sum ?v_PRIME
    (case a0 => k_is); (case l0 => k_is); (case c0 => k_is); (case k0 => k_is); (case a1 => k_is); (case l1 => k_is)
    (case c1 => k_is); (case k1 => k_is); (case a2 => k_is); (case l2 => k_is); (case c2 => k_is); (case k2 => k_is)
    (case a3 => k_is); (case l3 => k_is); (case c3 => k_is); (case k3 => k_is); (case a4 => k_is); (case l4 => k_is)
    (case c4 => k_is); (case k4 => k_is); (case a5 => k_is); (case l5 => k_is); (case c5 => k_is); (case k5 => k_is)
    (case a6 => k_is); (case l6 => k_is); (case c6 => k_is); (case k6 => k_is); (case a7 => k_is); (case l7 => k_is)
    (case c7 => k_is); (case k7 => k_is); (case a8 => k_is); (case l8 => k_is); (case c8 => k_is); (case k8 => k_is)
    (case a9 => k_is); (case l9 => k_is); (case c9 => k_is); (case k9 => k_is); (case z_bool => k_is); (case z_int => k_is)
    (case z_isinstance => k_is); (case z_len => k_is); (case z_list => k_is); (case z_range => k_is); (case z_sum => k_is); (case v_PRIME => k_is)
