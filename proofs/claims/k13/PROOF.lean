import PyProof.Rows.All
import Wide.All
import OpenK.AllK
import Wide.FinOn
import HandS.ForMost
import HandS.Evl
import HandS.IsInst
import HandS.SortInts
import HandS.Style
import HandS.Rev
import KE.KSortedM
import PySem.Challenge.RW_sumsync_k13_sound
set_option Elab.async false
set_option linter.all false
set_option maxRecDepth 100000
set_option maxHeartbeats 4000000
/-! Own layer over the readings: data, calls, lists of whole numbers. -/
namespace Kx
open PySem PySem.Spec PyProof.Rows L2 Evl

/-- what a value stands for -/
inductive D where
  | v (x : V)
  | l (xs : List V)
  | t (xs : List V)
  | p (a b : D)
  | ll (xss : List (List V))
  | s (xs : List V)
  | al (a : D)

def D.rep (K : PySem.W.Frag) : D → V → Hp → Prop
  | .v x, u, _ => u = x
  | .l xs, u, H => ∃ a, u = .ref a ∧ H a = some (.lst xs)
  | .t xs, u, H => ∃ a, u = .ref a ∧ H a = some (.tup xs)
  | .p d e, u, H => ∃ a x y, u = .ref a ∧ H a = some (.tup [x, y]) ∧ d.rep K x H ∧ e.rep K y H
  | .ll xss, u, H => ∃ a ps, u = .ref a ∧ H a = some (.lst (ps.map V.ref)) ∧ Paired (fun q xs => H q = some (.lst xs)) ps xss
  | .s xs, u, H => ∃ a, u = .ref a ∧ SqL K H a xs
  | .al d, u, H => d.rep K u H

/-- .. made anew behind H0 -/
def D.new (K : PySem.W.Frag) (H0 : Hp) : D → V → Hp → Prop
  | .v x, u, _ => u = x
  | .l xs, u, H => ∃ a, u = .ref a ∧ H0 a = none ∧ H a = some (.lst xs)
  | .t xs, u, H => ∃ a, u = .ref a ∧ H a = some (.tup xs)
  | .p d e, u, H => ∃ a x y, u = .ref a ∧ H a = some (.tup [x, y]) ∧ d.new K H0 x H ∧ e.new K H0 y H ∧ (∀ b, x = .ref b → y ≠ .ref b)
  | .ll xss, u, H => ∃ a ps, u = .ref a ∧ H0 a = none ∧ H a = some (.lst (ps.map V.ref)) ∧ (a :: ps).Nodup ∧ Paired (fun q xs => H0 q = none ∧ H q = some (.lst xs)) ps xss
  | .s xs, u, H => ∃ a, u = .ref a ∧ SqL K H a xs
  | .al d, u, H => d.rep K u H

theorem paired_imp {α β : Type} {F G : α → β → Prop} (h : ∀ a b, F a b → G a b) : ∀ {l : List α} {m : List β}, Paired F l m → Paired G l m
  | _, _, .nil => .nil
  | _, _, .cons a b => .cons (h _ _ a) (paired_imp h b)

section
variable {K : PySem.W.Frag} {H0 H H' H1 H2 : Hp}
theorem D.mono (e : Ex H H') : ∀ {d : D} {u : V}, d.rep K u H → d.rep K u H'
  | .v _, _, h => h
  | .l _, _, ⟨a, h1, h2⟩ => ⟨a, h1, e _ _ h2⟩
  | .t _, _, ⟨a, h1, h2⟩ => ⟨a, h1, e _ _ h2⟩
  | .p _ _, _, ⟨a, x, y, h1, h2, h3, h4⟩ => ⟨a, x, y, h1, e _ _ h2, D.mono e h3, D.mono e h4⟩
  | .ll _, _, ⟨a, ps, h1, h2, h3⟩ => ⟨a, ps, h1, e _ _ h2, paired_imp (fun _ _ q => e _ _ q) h3⟩
  | .s _, _, ⟨a, h1, h2⟩ => ⟨a, h1, ex_l e h2⟩
  | .al d, _, h => D.mono (d := d) e h
theorem D.nrep : ∀ {d : D} {u : V}, d.new K H0 u H → d.rep K u H
  | .v _, _, h => h
  | .l _, _, ⟨a, h1, _, h2⟩ => ⟨a, h1, h2⟩
  | .t _, _, ⟨a, h1, h2⟩ => ⟨a, h1, h2⟩
  | .p _ _, _, ⟨a, x, y, h1, h2, h3, h4, _⟩ => ⟨a, x, y, h1, h2, D.nrep h3, D.nrep h4⟩
  | .ll _, _, ⟨a, ps, h1, _, h2, _, h3⟩ => ⟨a, ps, h1, h2, paired_imp (fun _ _ q => q.2) h3⟩
  | .s _, _, ⟨a, h1, h2⟩ => ⟨a, h1, h2⟩
  | .al _, _, h => h
theorem D.nmono (e : Ex H H') : ∀ {d : D} {u : V}, d.new K H0 u H → d.new K H0 u H'
  | .v _, _, h => h
  | .l _, _, ⟨a, h1, n, h2⟩ => ⟨a, h1, n, e _ _ h2⟩
  | .t _, _, ⟨a, h1, h2⟩ => ⟨a, h1, e _ _ h2⟩
  | .p _ _, _, ⟨a, x, y, h1, h2, h3, h4, n⟩ => ⟨a, x, y, h1, e _ _ h2, D.nmono e h3, D.nmono e h4, n⟩
  | .ll _, _, ⟨a, ps, h1, n, h2, m, h3⟩ => ⟨a, ps, h1, n, e _ _ h2, m, paired_imp (fun _ _ q => ⟨q.1, e _ _ q.2⟩) h3⟩
  | .s _, _, ⟨a, h1, h2⟩ => ⟨a, h1, ex_l e h2⟩
  | .al d, _, h => D.mono (d := d) e h
theorem D.nback (e : Ex H0 H1) : ∀ {d : D} {u : V}, d.new K H1 u H → d.new K H0 u H
  | .v _, _, h => h
  | .l _, _, ⟨a, h1, n, h2⟩ => ⟨a, h1, fresh_back e n, h2⟩
  | .t _, _, ⟨a, h1, h2⟩ => ⟨a, h1, h2⟩
  | .p _ _, _, ⟨a, x, y, h1, h2, h3, h4, n⟩ => ⟨a, x, y, h1, h2, D.nback e h3, D.nback e h4, n⟩
  | .ll _, _, ⟨a, ps, h1, n, h2, m, h3⟩ => ⟨a, ps, h1, fresh_back e n, h2, m, paired_imp (fun _ _ q => ⟨fresh_back e q.1, q.2⟩) h3⟩
  | .s _, _, ⟨a, h1, h2⟩ => ⟨a, h1, h2⟩
  | .al _, _, h => h
end

/-- te gives something that stands for d | .. made anew -/
def EvD (K : PySem.W.Frag) (te : TE) (σ : L2.St) (H : Hp) (d : D) : Prop := ∀ H1, Ex H H1 → ∀ Q : VK, (∀ u H2, Ex H1 H2 → d.rep K u H2 → Q u H2) → te σ H1 Q
def EvN (K : PySem.W.Frag) (te : TE) (σ : L2.St) (H : Hp) (d : D) : Prop := ∀ H1, Ex H H1 → ∀ Q : VK, (∀ u H2, Ex H1 H2 → d.new K H1 u H2 → Q u H2) → te σ H1 Q
def Reps (K : PySem.W.Frag) (H : Hp) : List V → List D → Prop := Paired fun u d => d.rep K u H
def EvAs (K : PySem.W.Frag) (ta : TA) (σ : L2.St) (H : Hp) (ds : List D) : Prop := ∀ H1, Ex H H1 → ∀ Q : List V → Hp → Prop, (∀ us H2, Ex H1 H2 → Reps K H2 us ds → Q us H2) → ta σ H1 Q

section
variable {K : PySem.W.Frag} {σ : L2.St} {H H' : Hp} {ta tb te tx : TE} {t u : TT} {x y z : V} {d e : D} {D' : Ends} {tz tu : TS}
theorem EvN.toD (h : EvN K te σ H d) : EvD K te σ H d := fun H1 e Q q => h H1 e Q fun u H2 e2 r => q u H2 e2 (D.nrep r)
theorem EvD.mono (e : Ex H H') (h : EvD K te σ H d) : EvD K te σ H' d := fun H1 a Q q => h H1 (e.trans a) Q q
theorem EvN.mono (e : Ex H H') (h : EvN K te σ H d) : EvN K te σ H' d := fun H1 a Q q => h H1 (e.trans a) Q q
theorem ed_v (h : Ev te σ H x) : EvD K te σ H (.v x) := fun H1 e Q q => h H1 e Q fun H2 e2 => q x H2 e2 rfl
theorem en_v (h : Ev te σ H x) : EvN K te σ H (.v x) := fun H1 e Q q => h H1 e Q fun H2 e2 => q x H2 e2 rfl
theorem ev_of (h : EvD K te σ H (.v x)) : Ev te σ H x := fun H1 e Q q => h H1 e Q fun u H2 e2 r => by
  have r' : u = x := r
  rw [r']
  exact q H2 e2
theorem ev_ofN (h : EvN K te σ H (.v x)) : Ev te σ H x := ev_of h.toD
theorem ed_var {i : Nat} (h : σ[i]? = some (some x)) (r : d.rep K x H) : EvD K (tVar i) σ H d := fun H1 e _ q => ⟨x, h, q x H1 (Ex.refl H1) (D.mono e r)⟩
theorem ed_ref {a : Addr} {xs : List V} (h : Ev te σ H (.ref a)) (r : H a = some (.lst xs)) : EvD K te σ H (.l xs) := fun H1 e _ q => h H1 e _ fun H2 e2 => q _ H2 e2 ⟨a, rfl, e2 _ _ (e _ _ r)⟩
theorem eas_nil : EvAs K tNil σ H [] := fun H1 _ _ q => q [] H1 (Ex.refl H1) .nil
theorem eas_cons {tr : TA} {ds : List D} (h : EvD K te σ H d) (hr : EvAs K tr σ H ds) : EvAs K (tCons te tr) σ H (d :: ds) := fun H1 e _ q =>
  h H1 e _ fun u H2 e2 r => hr H2 (e.trans e2) _ fun us H3 e3 rs => q (u :: us) H3 (e2.trans e3) (.cons (D.mono e3 r) rs)
theorem ea_of (h : Ev te σ H x) : EvA (tCons te tNil) σ H [x] := ea_cons h ea_nil

/-- the promises' shape -/
def spG (K : PySem.W.Frag) {α : Type} (args : α → List D) (pre : α → Prop) (res : α → D) : Sp := fun vs H Q _ => ∃ a : α, Reps K H vs (args a) ∧ pre a ∧ ∀ u H', Ex H H' → (res a).new K H u H' → Q u H'
theorem en_call {α : Type} {args : α → List D} {pre : α → Prop} {res : α → D} {ta : TA} {E : XK} (a : α) (h : EvAs K ta σ H (args a)) (hp : pre a) : EvN K (tCall (spG K args pre res) [] E ta) σ H (res a) := fun H1 e Q q =>
  h H1 e _ fun us H2 e2 r => ⟨a, by rw [List.append_nil]; exact r, hp, fun u H3 e3 n => q u H3 (e2.trans e3) (D.nback e2 n)⟩

/-! ### lists -/
abbrev il (xs : List Int) : List V := xs.map V.int
/-- the number at a place -/
def gi (xs : List Int) (i : Int) : Int := xs.getD i.toNat 0
theorem gi_at {xs : List Int} {i : Int} (h0 : 0 ≤ i) (h1 : i < xs.length) : atI (il xs) i = some (.int (gi xs i)) := by
  have hj : i.toNat < xs.length := by omega
  refine at_of (j := i.toNat) (by omega) ?_
  rw [List.getElem?_map, List.getElem?_eq_getElem hj]
  show some (V.int xs[i.toNat]) = some (V.int (xs.getD i.toNat 0))
  rw [List.getD_eq_getElem?_getD, List.getElem?_eq_getElem hj]
  rfl
theorem gi_get {xs : List Int} {i : Nat} {v : Int} (h : xs[i]? = some v) : gi xs (i : Int) = v := by
  unfold gi
  rw [Int.toNat_natCast, List.getD_eq_getElem?_getD, h]
  rfl
theorem ev_len (h : EvD K te σ H (.l xs)) : Ev (tCB (rLenS K) (tCons te tNil)) σ H (.int (xs.length : Int)) := fun H1 e Q q =>
  h H1 e _ fun u H2 e2 ⟨a, hu, ha⟩ => ⟨a, xs, by rw [hu], .inl (sq_of ha), q H2 e2⟩
theorem ev_lenI {ns : List Int} (h : EvD K te σ H (.l (il ns))) : Ev (tCB (rLenS K) (tCons te tNil)) σ H (.int (ns.length : Int)) := by
  have g := ev_len h
  rw [List.length_map] at g
  exact g
theorem ev_lenT (h : EvD K te σ H (.t xs)) : Ev (tCB (rLenS K) (tCons te tNil)) σ H (.int (xs.length : Int)) := fun H1 e Q q =>
  h H1 e _ fun u H2 e2 ⟨a, hu, ha⟩ => ⟨a, xs, by rw [hu], .inr (st_of ha), q H2 e2⟩
theorem ev_lenTI {ns : List Int} (h : EvD K te σ H (.t (il ns))) : Ev (tCB (rLenS K) (tCons te tNil)) σ H (.int (ns.length : Int)) := by
  have g := ev_lenT h
  rw [List.length_map] at g
  exact g
theorem ev_lenP {d e : D} (h : EvD K te σ H (.p d e)) : Ev (tCB (rLenS K) (tCons te tNil)) σ H (.int 2) := fun H1 e Q q =>
  h H1 e _ fun u H2 e2 ⟨a, x, y, hu, ha, _⟩ => ⟨a, [x, y], by rw [hu], .inr (st_of ha), q H2 e2⟩
theorem ev_lenS {ns : List Int} (h : EvD K te σ H (.s (il ns))) : Ev (tCB (rLenS K) (tCons te tNil)) σ H (.int (ns.length : Int)) := fun H1 e Q q =>
  h H1 e _ fun u H2 e2 ⟨a, hu, ha⟩ => ⟨a, il ns, by rw [hu], .inl ha, by
    rw [List.length_map]
    exact q H2 e2⟩
theorem ev_sum {ns : List Int} (h : EvD K te σ H (.l (il ns))) : Ev (tCB (rSum K) (tCons te tNil)) σ H (.int ns.sum) := fun H1 e Q q =>
  h H1 e _ fun u H2 e2 ⟨a, hu, ha⟩ => ⟨a, ns, by rw [hu], sq_of ha, q H2 e2⟩
theorem ev_all {bs : List Bool} (h : EvD K te σ H (.l (bs.map V.bl))) : Ev (tCB (rAll K) (tCons te tNil)) σ H (.bl (bs.all id)) := fun H1 e Q q =>
  h H1 e _ fun u H2 e2 ⟨a, hu, ha⟩ => ⟨a, bs, by rw [hu], sq_of ha, q H2 e2⟩
theorem ev_any {bs : List Bool} (h : EvD K te σ H (.l (bs.map V.bl))) : Ev (tCB (rAny K) (tCons te tNil)) σ H (.bl (bs.any id)) := fun H1 e Q q =>
  h H1 e _ fun u H2 e2 ⟨a, hu, ha⟩ => ⟨a, bs, by rw [hu], sq_of ha, q H2 e2⟩
def rMin2 : List V → Hp → VK → Prop := fun xs H Q => ∃ i j, xs = [.int i, .int j] ∧ Q (.int (if j < i then j else i)) H
theorem max_if (i j : Int) : (if j > i then j else i) = max i j := by
  split <;> omega
theorem min_if (i j : Int) : (if j < i then j else i) = min i j := by
  split <;> omega
theorem ev_maxI {i j : Int} (ha : Ev ta σ H (.int i)) (hb : Ev tb σ H (.int j)) : Ev (tCB rMax2 (tCons ta (tCons tb tNil))) σ H (.int (max i j)) := by
  rw [← max_if]
  exact ev_max2 ha hb
theorem ev_minI {i j : Int} (ha : Ev ta σ H (.int i)) (hb : Ev tb σ H (.int j)) : Ev (tCB rMin2 (tCons ta (tCons tb tNil))) σ H (.int (min i j)) := by
  rw [← min_if]
  exact fun H1 e Q q => ha H1 e _ fun H2 e2 => hb H2 (e.trans e2) _ fun H3 e3 => ⟨i, j, rfl, q H3 (e2.trans e3)⟩
/-- a list in order -/
def srt (ns : List Int) : List Int := ns.mergeSort (fun a b => decide (a ≤ b))
theorem srt_perm (ns : List Int) : (srt ns).Perm ns := List.mergeSort_perm ns _
theorem srt_le (ns : List Int) : (srt ns).Pairwise (· ≤ ·) := by
  have h := List.pairwise_mergeSort (le := fun a b : Int => decide (a ≤ b)) (fun a b c h1 h2 => by
    simp only [decide_eq_true_eq] at *
    omega) (fun a b => by
    simp only [Bool.or_eq_true, decide_eq_true_eq]
    omega) ns
  exact h.imp fun q => of_decide_eq_true q
theorem srt_eq {ns ms : List Int} (h : ms.Perm ns) (p : ms.Pairwise (· ≤ ·)) : ms = srt ns := PySem.W.ksm_same (h.trans (srt_perm ns).symm) p (srt_le ns)
theorem en_sorted {ns : List Int} (h : EvD K te σ H (.l (il ns))) : EvN K (tCB (rSortedI K) (tCons te tNil)) σ H (.l (il (srt ns))) := fun H1 e Q q =>
  h H1 e _ fun u H2 e2 ⟨a, hu, ha⟩ => ⟨a, ns, by rw [hu], sq_of ha, fun ms p hp hs n => by
    rw [srt_eq hp hs]
    exact q _ _ (e2.trans (Ex.new n)) ⟨p, rfl, fresh_back e2 n, upd_same⟩⟩
def rTupOf (K : PySem.W.Frag) : List V → Hp → VK → Prop := fun xs H Q => ∃ p ys, xs = [.ref p] ∧ ((SqL K H p ys ∧ ∀ l, H l = none → Q (.ref l) (upd H l (.tup ys))) ∨ (SqT K H p ys ∧ Q (.ref p) H))
theorem en_tuple (h : EvD K te σ H (.l xs)) : EvN K (tCB (rTupOf K) (tCons te tNil)) σ H (.t xs) := fun H1 e Q q =>
  h H1 e _ fun u H2 e2 ⟨a, hu, ha⟩ => ⟨a, xs, by rw [hu], .inl ⟨sq_of ha, fun l n => q _ _ (e2.trans (Ex.new n)) ⟨l, rfl, upd_same⟩⟩⟩
theorem en_list (h : EvD K te σ H (.l xs)) : EvN K (tCB (rListS K) (tCons te tNil)) σ H (.l xs) := fun H1 e Q q =>
  h H1 e _ fun u H2 e2 ⟨a, hu, ha⟩ => ⟨a, xs, by rw [hu], .inl (sq_of ha), fun l n => q _ _ (e2.trans (Ex.new n)) ⟨l, rfl, fresh_back e2 n, upd_same⟩⟩
theorem en_listT (h : EvD K te σ H (.t xs)) : EvN K (tCB (rListS K) (tCons te tNil)) σ H (.l xs) := fun H1 e Q q =>
  h H1 e _ fun u H2 e2 ⟨a, hu, ha⟩ => ⟨a, xs, by rw [hu], .inr (st_of ha), fun l n => q _ _ (e2.trans (Ex.new n)) ⟨l, rfl, fresh_back e2 n, upd_same⟩⟩
theorem ev_ix {ns : List Int} {i : Int} (ha : EvD K ta σ H (.l (il ns))) (hb : Ev tb σ H (.int i)) (h : 0 ≤ i ∧ i < ns.length) : Ev (tOp (rIxL K) ta tb) σ H (.int (gi ns i)) := fun H1 e Q q =>
  ha H1 e _ fun u H2 e2 ⟨a, hu, hx⟩ => hb H2 (e.trans e2) _ fun H3 e3 => ⟨a, il ns, i, _, hu, rfl, sq_of (e3 _ _ hx), gi_at h.1 h.2, q H3 (e2.trans e3)⟩
theorem ev_ixS {ns : List Int} {i : Int} (ha : EvD K ta σ H (.s (il ns))) (hb : Ev tb σ H (.int i)) (h : 0 ≤ i ∧ i < ns.length) : Ev (tOp (rIxL K) ta tb) σ H (.int (gi ns i)) := fun H1 e Q q =>
  ha H1 e _ fun u H2 e2 ⟨a, hu, hx⟩ => hb H2 (e.trans e2) _ fun H3 e3 => ⟨a, il ns, i, _, hu, rfl, ex_l e3 hx, gi_at h.1 h.2, q H3 (e2.trans e3)⟩
theorem ev_ixT {ns : List Int} {i : Int} (ha : EvD K ta σ H (.t (il ns))) (hb : Ev tb σ H (.int i)) (h : 0 ≤ i ∧ i < ns.length) : Ev (tOp (rIxT K) ta tb) σ H (.int (gi ns i)) := fun H1 e Q q =>
  ha H1 e _ fun u H2 e2 ⟨a, hu, hx⟩ => hb H2 (e.trans e2) _ fun H3 e3 => ⟨a, il ns, i, _, hu, rfl, st_of (e3 _ _ hx), gi_at h.1 h.2, q H3 (e2.trans e3)⟩
theorem ed_ixP0 (ha : EvD K ta σ H (.p d e)) (hb : Ev tb σ H (.int 0)) : EvD K (tOp (rIxT K) ta tb) σ H d := fun H1 e Q q =>
  ha H1 e _ fun u H2 e2 ⟨a, x, y, hu, hx, r1, r2⟩ => hb H2 (e.trans e2) _ fun H3 e3 => ⟨a, [x, y], 0, x, hu, rfl, st_of (e3 _ _ hx), rfl, q _ H3 (e2.trans e3) (D.mono e3 r1)⟩
theorem ed_ixP1 (ha : EvD K ta σ H (.p d e)) (hb : Ev tb σ H (.int 1)) : EvD K (tOp (rIxT K) ta tb) σ H e := fun H1 e Q q =>
  ha H1 e _ fun u H2 e2 ⟨a, x, y, hu, hx, r1, r2⟩ => hb H2 (e.trans e2) _ fun H3 e3 => ⟨a, [x, y], 1, y, hu, rfl, st_of (e3 _ _ hx), rfl, q _ H3 (e2.trans e3) (D.mono e3 r2)⟩
/-- the last number -/
def gl (xs : List Int) : Int := xs.getLastD 0
theorem gl_at {xs : List Int} (h : xs ≠ []) : atI (il xs) (-1) = some (.int (gl xs)) := by
  have e : il xs = il xs.dropLast ++ [.int (xs.getLast h)] := by
    conv => lhs; rw [← List.dropLast_concat_getLast h]
    rw [il, List.map_append]
    rfl
  have e2 : gl xs = xs.getLast h := by
    unfold gl
    rw [List.getLastD_eq_getLast?, List.getLast?_eq_getLast h]
    rfl
  rw [e, e2]
  exact atI_last _ _
theorem ev_last {ns : List Int} (ha : EvD K ta σ H (.l (il ns))) (hb : Ev tb σ H (.int (-1))) (h : ns ≠ []) : Ev (tOp (rIxL K) ta tb) σ H (.int (gl ns)) := fun H1 e Q q =>
  ha H1 e _ fun u H2 e2 ⟨a, hu, hx⟩ => hb H2 (e.trans e2) _ fun H3 e3 => ⟨a, il ns, -1, _, hu, rfl, sq_of (e3 _ _ hx), gl_at h, q H3 (e2.trans e3)⟩
theorem en_cut {xs : List V} {tl th : TO} {lo hi : Option Int} (h : EvD K te σ H (.l xs)) (h1 : EvO tl σ H lo) (h2 : EvO th σ H hi) : EvN K (tSl (rSlL K) te tl th) σ H (.l (cutV xs lo hi)) := fun H1 e Q q =>
  h H1 e _ fun u H2 e2 ⟨a, hu, ha⟩ => h1 H2 (e.trans e2) _ fun H3 e3 => h2 H3 ((e.trans e2).trans e3) _ fun H4 e4 =>
    ⟨a, xs, hu, sq_of (e4 _ _ (e3 _ _ ha)), fun p n => q _ _ (((e2.trans e3).trans e4).trans (Ex.new n)) ⟨p, rfl, fresh_back ((e2.trans e3).trans e4) n, upd_same⟩⟩
theorem six_pos (n d : Nat) {i : Int} (h : 0 ≤ i) : HT.sIx n d (some i) = min i.toNat n := by
  show (if i < 0 then (i + (n : Int)).toNat else min i.toNat n) = min i.toNat n
  rw [if_neg (by omega)]
theorem cut_take {xs : List Int} {n : Int} (h : 0 ≤ n) : cutV (il xs) none (some n) = il (xs.take n.toNat) := by
  unfold cutV
  rw [HT.sIx_none, six_pos _ _ h, List.drop_zero, Nat.sub_zero]
  by_cases c : n.toNat ≤ xs.length
  · rw [show min n.toNat (il xs).length = n.toNat by rw [List.length_map]; omega]
    exact (List.map_take).symm
  · rw [List.take_of_length_le (by rw [List.length_map]; omega), List.take_of_length_le (by omega)]
theorem cut_drop {xs : List Int} {n : Int} (h : 0 ≤ n) : cutV (il xs) (some n) none = il (xs.drop n.toNat) := by
  unfold cutV
  rw [HT.sIx_none, six_pos _ _ h]
  by_cases c : n.toNat ≤ xs.length
  · rw [show min n.toNat (il xs).length = n.toNat by rw [List.length_map]; omega, List.take_of_length_le (by rw [List.length_drop]; exact Nat.le_refl _)]
    exact (List.map_drop).symm
  · rw [List.drop_of_length_le (by rw [List.length_map]; omega), List.drop_of_length_le (by omega), List.take_nil]
    rfl
theorem cut_mid {xs : List Int} {m n : Int} (h : 0 ≤ m) (h2 : 0 ≤ n) : cutV (il xs) (some m) (some n) = il ((xs.take n.toNat).drop m.toNat) := by
  unfold cutV
  rw [six_pos _ _ h, six_pos _ _ h2]
  apply List.ext_getElem?
  intro k
  rw [List.length_map, List.getElem?_take, List.getElem?_drop, List.getElem?_map, List.getElem?_map, List.getElem?_drop, List.getElem?_take]
  by_cases c : m.toNat + k < n.toNat
  · by_cases c2 : m.toNat + k < xs.length
    · rw [if_pos (by omega), if_pos c, show min m.toNat xs.length = m.toNat by omega]
    · rw [if_pos c, List.getElem?_eq_none (by omega : xs.length ≤ m.toNat + k)]
      split
      · rw [List.getElem?_eq_none (by omega)]
      · rfl
  · rw [if_neg c]
    split
    · rw [List.getElem?_eq_none (by omega)]
    · rfl
theorem cut_init {xs : List Int} : cutV (il xs) none (some (-1)) = il xs.dropLast := by
  unfold cutV
  rw [HT.sIx_none]
  show List.take ((if (-1 : Int) < 0 then ((-1 : Int) + ((il xs).length : Int)).toNat else min (-1 : Int).toNat (il xs).length) - 0) (List.drop 0 (il xs)) = _
  rw [if_pos (by decide), List.drop_zero, Nat.sub_zero, List.length_map, List.dropLast_eq_take, show ((-1 : Int) + (xs.length : Int)).toNat = xs.length - 1 by omega]
  exact (List.map_take).symm
theorem en_is {d' : D} (h : EvN K te σ H d) (e : d = d') : EvN K te σ H d' := by
  rw [← e]
  exact h
theorem ed_is {d' : D} (h : EvD K te σ H d) (e : d = d') : EvD K te σ H d' := by
  rw [← e]
  exact h
theorem en_take {ns : List Int} {th : TE} {n : Int} (h : EvD K te σ H (.l (il ns))) (h2 : Ev th σ H (.int n)) (h0 : 0 ≤ n) : EvN K (tSl (rSlL K) te tNoPart (tPart th)) σ H (.l (il (ns.take n.toNat))) := en_is (en_cut h eo_none (eo_some h2)) (congrArg D.l (cut_take h0))
theorem en_init {ns : List Int} {th : TE} (h : EvD K te σ H (.l (il ns))) (h2 : Ev th σ H (.int (-1))) : EvN K (tSl (rSlL K) te tNoPart (tPart th)) σ H (.l (il ns.dropLast)) := en_is (en_cut h eo_none (eo_some h2)) (congrArg D.l cut_init)
theorem en_drop {ns : List Int} {th : TE} {n : Int} (h : EvD K te σ H (.l (il ns))) (h2 : Ev th σ H (.int n)) (h0 : 0 ≤ n) : EvN K (tSl (rSlL K) te (tPart th) tNoPart) σ H (.l (il (ns.drop n.toNat))) := en_is (en_cut h (eo_some h2) eo_none) (congrArg D.l (cut_drop h0))
theorem en_mid {ns : List Int} {tl th : TE} {m n : Int} (h : EvD K te σ H (.l (il ns))) (h1 : Ev tl σ H (.int m)) (h2 : Ev th σ H (.int n)) (hm : 0 ≤ m) (h0 : 0 ≤ n) : EvN K (tSl (rSlL K) te (tPart tl) (tPart th)) σ H (.l (il ((ns.take n.toNat).drop m.toNat))) := en_is (en_cut h (eo_some h1) (eo_some h2)) (congrArg D.l (cut_mid hm h0))
theorem en_rev {ns : List Int} (h : EvD K te σ H (.l (il ns))) : EvN K (tRevL K te) σ H (.l (il ns.reverse)) := fun H1 e Q q =>
  h H1 e _ fun u H2 e2 ⟨a, hu, ha⟩ => ⟨a, il ns, hu, sq_of ha, fun p n => by
    rw [← List.map_reverse]
    exact q _ _ (e2.trans (Ex.new n)) ⟨p, rfl, fresh_back e2 n, upd_same⟩⟩
theorem en_cat {ns ms : List Int} (ha : EvD K ta σ H (.l (il ns))) (hb : EvD K tb σ H (.l (il ms))) (hz : ns.length + ms.length ≤ 100000) : EvN K (tOp rCat ta tb) σ H (.l (il (ns ++ ms))) := fun H1 e Q q =>
  ha H1 e _ fun u H2 e2 ⟨a, hu, hx⟩ => hb H2 (e.trans e2) _ fun w H3 e3 ⟨b, hw, hy⟩ => ⟨a, b, il ns, il ms, hu, hw, e3 _ _ hx, hy, by
    rw [List.length_map, List.length_map]
    exact sz_of hz, fun p n => by
    rw [← List.map_append]
    exact q _ _ ((e2.trans e3).trans (Ex.new n)) ⟨p, rfl, fresh_back (e2.trans e3) n, upd_same⟩⟩
/-- so many noughts -/
def zs (k : Int) : List Int := List.replicate k.toNat 0
theorem zs_len (k : Int) : (zs k).length = k.toNat := List.length_replicate
theorem flat_one (k : Nat) (x : V) : (List.replicate k [x]).flatten = List.replicate k x := by
  induction k with
  | zero => rfl
  | succ k ih => rw [List.replicate_succ, List.flatten_cons, ih, List.replicate_succ]; rfl
theorem en_rep {k : Int} (ha : EvD K ta σ H (.l (il [0]))) (hb : Ev tb σ H (.int k)) (hz : -100000 ≤ k ∧ k ≤ 100000) : EvN K (tOp rRep ta tb) σ H (.l (il (zs k))) := fun H1 e Q q =>
  ha H1 e _ fun u H2 e2 ⟨a, hu, hx⟩ => hb H2 (e.trans e2) _ fun H3 e3 => ⟨a, k, il [0], hu, rfl, e3 _ _ hx, by omega, by omega, by
    show 1 * k.toNat ≤ sizeLine
    rw [Nat.one_mul]
    exact sz_of (by omega), fun p n => by
    refine q _ _ ((e2.trans e3).trans (Ex.new n)) ⟨p, rfl, fresh_back (e2.trans e3) n, ?_⟩
    rw [upd_same]
    show some (HO.lst (List.replicate k.toNat [V.int 0]).flatten) = some (HO.lst (il (zs k)))
    rw [flat_one]
    unfold zs il
    rw [List.map_replicate]⟩
end

/-! ### comparisons -/
def vpy : V → PyData
  | .non => .none
  | .bl b => .bool b
  | .int i => .int i
  | _ => .none
def flI : V → Bool
  | .non => true
  | .bl _ => true
  | .int _ => true
  | _ => false
def D.py : D → PyData
  | .v x => vpy x
  | .l xs => .list (xs.map vpy)
  | .t xs => .tuple (xs.map vpy)
  | .p d e => .tuple [d.py, e.py]
  | .ll xss => .list (xss.map fun xs => .list (xs.map vpy))
  | .s xs => .list (xs.map vpy)
  | .al d => d.py
def D.fl : D → Bool
  | .v x => flI x
  | .l xs => xs.all flI
  | .t xs => xs.all flI
  | .p d e => d.fl && e.fl
  | .ll xss => xss.all fun xs => xs.all flI
  | .s xs => xs.all flI
  | .al d => d.fl
def D.dsz : D → Nat
  | .v _ => 0
  | .l _ => 1
  | .t _ => 1
  | .p d e => max d.dsz e.dsz + 1
  | .ll _ => 2
  | .s _ => 1
  | .al d => d.dsz
theorem fl_il (ns : List Int) : (il ns).all flI = true := by
  rw [List.all_map]
  exact List.all_eq_true.mpr fun _ _ => rfl
theorem vpy_lay : ∀ {x : V}, flI x = true → PyData.canLay0 (vpy x) = true ∧ PyData.depth (vpy x) = 0
  | .non, _ => ⟨rfl, by simp [vpy, PyData.depth]⟩
  | .bl _, _ => ⟨by simp [vpy, PyData.canLay0], by simp [vpy, PyData.depth]⟩
  | .int _, _ => ⟨by simp [vpy, PyData.canLay0], by simp [vpy, PyData.depth]⟩
  | .str _, h => nomatch h
  | .byt _, h => nomatch h
  | .flt _, h => nomatch h
  | .ref _, h => nomatch h
  | .ty _, h => nomatch h
theorem vpys_lay : ∀ {xs : List V}, xs.all flI = true → PyData.canLayAll0 (xs.map vpy) = true ∧ PyData.depthAll (xs.map vpy) = 0
  | [], _ => ⟨by simp [PyData.canLayAll0], by simp [PyData.depthAll]⟩
  | x :: xs, h => by
    rw [List.all_cons, Bool.and_eq_true] at h
    have a := vpy_lay h.1
    have b := vpys_lay h.2
    simp only [List.map_cons, PyData.canLayAll0, PyData.depthAll, a.1, a.2, b.1, b.2]
    exact ⟨rfl, rfl⟩
theorem vpyss_lay : ∀ {xss : List (List V)}, (xss.all fun xs => xs.all flI) = true → PyData.canLayAll0 (xss.map fun xs => .list (xs.map vpy)) = true ∧ PyData.depthAll (xss.map fun xs => .list (xs.map vpy)) ≤ 1
  | [], _ => ⟨by simp [PyData.canLayAll0], by simp [PyData.depthAll]⟩
  | xs :: xss, h => by
    rw [List.all_cons, Bool.and_eq_true] at h
    have a := vpys_lay h.1
    have b := vpyss_lay h.2
    simp only [List.map_cons, PyData.canLayAll0, PyData.depthAll, PyData.canLay0, PyData.depth, a.1, a.2, b.1]
    exact ⟨rfl, by have := b.2; omega⟩
theorem py_lay : ∀ {d : D}, d.fl = true → PyData.canLay0 d.py = true ∧ PyData.depth d.py ≤ d.dsz
  | .al d, h => py_lay (d := d) h
  | .v x, h => by
    have a := vpy_lay h
    exact ⟨a.1, Nat.le_of_eq a.2⟩
  | .l xs, h => by
    have a := vpys_lay h
    simp only [D.py, PyData.canLay0, PyData.depth, a.1, a.2, D.dsz]
    exact ⟨trivial, Nat.le_refl _⟩
  | .t xs, h => by
    have a := vpys_lay h
    simp only [D.py, PyData.canLay0, PyData.depth, a.1, a.2, D.dsz]
    exact ⟨trivial, Nat.le_refl _⟩
  | .s xs, h => by
    have a := vpys_lay h
    simp only [D.py, PyData.canLay0, PyData.depth, a.1, a.2, D.dsz]
    exact ⟨trivial, Nat.le_refl _⟩
  | .ll xss, h => by
    have a := vpyss_lay h
    simp only [D.py, PyData.canLay0, PyData.depth, a.1, D.dsz]
    exact ⟨trivial, by have := a.2; omega⟩
  | .p d e, h => by
    have h' : (d.fl && e.fl) = true := h
    rw [Bool.and_eq_true] at h'
    have a := py_lay h'.1
    have b := py_lay h'.2
    simp only [D.py, PyData.canLay0, PyData.depth, PyData.canLayAll0, PyData.depthAll, a.1, b.1, D.dsz]
    exact ⟨rfl, by have := a.2; have := b.2; omega⟩
theorem py_shaped {d : D} (h : d.fl = true) (hz : d.dsz ≤ 64) : SeqAt.shaped d.py = true := by
  have a := py_lay h
  show (PyData.canLay0 d.py && decide (PyData.depth d.py ≤ 64)) = true
  rw [Bool.and_eq_true]
  exact ⟨a.1, decide_eq_true (Nat.le_trans a.2 hz)⟩
section
variable {K : PySem.W.Frag} {H : Hp}
theorem vpy_dp : ∀ {x : V}, flI x = true → Dp K H x (vpy x)
  | .non, _ => .non
  | .bl _, _ => .bl _
  | .int _, _ => .int _
  | .str _, h => nomatch h
  | .byt _, h => nomatch h
  | .flt _, h => nomatch h
  | .ref _, h => nomatch h
  | .ty _, h => nomatch h
theorem vpys_dp : ∀ {xs : List V}, xs.all flI = true → DpAll K H xs (xs.map vpy)
  | [], _ => .nil
  | x :: xs, h => by
    rw [List.all_cons, Bool.and_eq_true] at h
    exact .cons (vpy_dp h.1) (vpys_dp h.2)
theorem pss_dp : ∀ {ps : List Addr} {xss : List (List V)}, (xss.all fun xs => xs.all flI) = true → Paired (fun q xs => H q = some (.lst xs)) ps xss → DpAll K H (ps.map V.ref) (xss.map fun xs => .list (xs.map vpy))
  | _, _, _, .nil => .nil
  | q :: ps, xs :: xss, h, .cons a b => by
    rw [List.all_cons, Bool.and_eq_true] at h
    exact .cons (.lst (sq_of a) (vpys_dp h.1)) (pss_dp h.2 b)
theorem py_dp : ∀ {d : D} {u : V}, d.fl = true → d.rep K u H → Dp K H u d.py
  | .al d, _, h, r => py_dp (d := d) h r
  | .v x, u, h, r => by
    have r' : u = x := r
    rw [r']
    exact vpy_dp h
  | .l xs, _, h, ⟨a, hu, ha⟩ => by
    rw [hu]
    exact .lst (sq_of ha) (vpys_dp h)
  | .t xs, _, h, ⟨a, hu, ha⟩ => by
    rw [hu]
    exact .tup (st_of ha) (vpys_dp h)
  | .s xs, _, h, ⟨a, hu, ha⟩ => by
    rw [hu]
    exact .lst ha (vpys_dp h)
  | .ll xss, _, h, ⟨a, ps, hu, ha, hp⟩ => by
    rw [hu]
    exact .lst (sq_of ha) (pss_dp h hp)
  | .p d e, _, h, ⟨a, x, y, hu, ha, r1, r2⟩ => by
    have h' : (d.fl && e.fl) = true := h
    rw [Bool.and_eq_true] at h'
    rw [hu]
    exact .tup (st_of ha) (.cons (py_dp h'.1 r1) (.cons (py_dp h'.2 r2) .nil))
end
theorem eqv_il : ∀ xs ys : List Int, PyData.eqvAll ((il xs).map vpy) ((il ys).map vpy) = decide (xs = ys)
  | [], [] => by simp [PyData.eqvAll]
  | [], _ :: _ => by simp [PyData.eqvAll]
  | _ :: _, [] => by simp [PyData.eqvAll]
  | x :: xs, y :: ys => by
    have ih := eqv_il xs ys
    simp only [List.map_cons, PyData.eqvAll, vpy, PyData.eqv, ih]
    by_cases h : x = y <;> by_cases h' : xs = ys <;> simp [h, h']
theorem eqv_ll (xs ys : List Int) : PyData.eqv (D.l (il xs)).py (D.l (il ys)).py = decide (xs = ys) := by
  simp only [D.py, PyData.eqv]
  exact eqv_il xs ys
theorem eqv_tt (xs ys : List Int) : PyData.eqv (D.t (il xs)).py (D.t (il ys)).py = decide (xs = ys) := by
  simp only [D.py, PyData.eqv]
  exact eqv_il xs ys
theorem eqv_vv (i j : Int) : PyData.eqv (D.v (.int i)).py (D.v (.int j)).py = decide (i = j) := by
  simp only [D.py, vpy, PyData.eqv]
  by_cases h : i = j <;> simp [h]
theorem eqv_pp {a b c d : D} : PyData.eqv (D.p a b).py (D.p c d).py = (PyData.eqv a.py c.py && PyData.eqv b.py d.py) := by
  simp only [D.py, PyData.eqv, PyData.eqvAll, Bool.and_true]
theorem eqv_lss : ∀ xss yss : List (List Int), PyData.eqvAll ((xss.map il).map fun xs => .list (xs.map vpy)) ((yss.map il).map fun xs => .list (xs.map vpy)) = decide (xss = yss)
  | [], [] => by simp [PyData.eqvAll]
  | [], _ :: _ => by simp [PyData.eqvAll]
  | _ :: _, [] => by simp [PyData.eqvAll]
  | x :: xs, y :: ys => by
    have ih := eqv_lss xs ys
    simp only [List.map_cons, PyData.eqvAll, PyData.eqv, ih, eqv_il]
    by_cases h : x = y <;> by_cases h' : xs = ys <;> simp [h, h']
theorem eqv_llll (xss yss : List (List Int)) : PyData.eqv (D.ll (xss.map il)).py (D.ll (yss.map il)).py = decide (xss = yss) := by
  simp only [D.py, PyData.eqv]
  exact eqv_lss xss yss
section
variable {K : PySem.W.Frag} {σ : L2.St} {H H' : Hp} {ta tb te tx tl : TE} {t u : TT} {x y z : V} {d e : D} {D' : Ends} {tz tu : TS}
theorem ev_eqD (ha : EvD K ta σ H d) (hb : EvD K tb σ H e) (h1 : d.fl = true) (h2 : e.fl = true) (z1 : d.dsz ≤ 64) (z2 : e.dsz ≤ 64) : Ev (tOp (rEqD K) ta tb) σ H (.bl (PyData.eqv d.py e.py)) := fun H1 a Q q =>
  ha H1 a _ fun u H2 e2 r => hb H2 (a.trans e2) _ fun w H3 e3 r' => ⟨d.py, e.py, py_dp h1 (D.mono e3 r), py_dp h2 r', py_shaped h1 z1, py_shaped h2 z2, q H3 (e2.trans e3)⟩
theorem ev_neD (ha : EvD K ta σ H d) (hb : EvD K tb σ H e) (h1 : d.fl = true) (h2 : e.fl = true) (z1 : d.dsz ≤ 64) (z2 : e.dsz ≤ 64) : Ev (tOp (rNeD K) ta tb) σ H (.bl (!PyData.eqv d.py e.py)) := fun H1 a Q q =>
  ha H1 a _ fun u H2 e2 r => hb H2 (a.trans e2) _ fun w H3 e3 r' => ⟨d.py, e.py, py_dp h1 (D.mono e3 r), py_dp h2 r', py_shaped h1 z1, py_shaped h2 z2, q H3 (e2.trans e3)⟩
theorem ev_eqL {xs ys : List Int} (ha : EvD K ta σ H (.l (il xs))) (hb : EvD K tb σ H (.l (il ys))) : Ev (tOp (rEqD K) ta tb) σ H (.bl (decide (xs = ys))) := by
  rw [← eqv_ll]
  exact ev_eqD ha hb (fl_il _) (fl_il _) (Nat.le_of_ble_eq_true rfl) (Nat.le_of_ble_eq_true rfl)
theorem ev_neL {xs ys : List Int} (ha : EvD K ta σ H (.l (il xs))) (hb : EvD K tb σ H (.l (il ys))) : Ev (tOp (rNeD K) ta tb) σ H (.bl (!decide (xs = ys))) := by
  rw [← eqv_ll]
  exact ev_neD ha hb (fl_il _) (fl_il _) (Nat.le_of_ble_eq_true rfl) (Nat.le_of_ble_eq_true rfl)
theorem ev_eqI {i j : Int} (ha : Ev ta σ H (.int i)) (hb : Ev tb σ H (.int j)) : Ev (tOp rEq ta tb) σ H (.bl (decide (i = j))) := by
  have g := ev_op ha hb (rv_eq (H := H) (x := .int i) (y := .int j) rfl)
  have e : decide ((V.int i) = V.int j) = decide (i = j) := by simp
  rw [e] at g
  exact g
theorem ev_neI {i j : Int} (ha : Ev ta σ H (.int i)) (hb : Ev tb σ H (.int j)) : Ev (tOp rNe ta tb) σ H (.bl (!decide (i = j))) := by
  have g := ev_op ha hb (rv_ne (H := H) (x := .int i) (y := .int j) rfl)
  have e : decide ((V.int i) = V.int j) = decide (i = j) := by simp
  rw [e] at g
  exact g
theorem ev_isN (ha : Ev ta σ H x) : Ev (tIsN ta) σ H (.bl (decide (x = .non))) := fun H1 e Q q => ha H1 e _ fun H2 e2 => q H2 e2
theorem ev_notN (ha : Ev ta σ H x) : Ev (tNotN ta) σ H (.bl (!decide (x = .non))) := fun H1 e Q q => ha H1 e _ fun H2 e2 => q H2 e2
theorem inV_il (i : Int) (ns : List Int) : inV (.int i) (il ns) = decide (i ∈ ns) := by
  unfold inV
  rw [List.any_map]
  induction ns with
  | nil => rfl
  | cons n ns ih =>
    rw [List.any_cons, ih]
    have e : ((fun y => eqV y (V.int i)) ∘ V.int) n = (n == i) := rfl
    rw [e]
    by_cases h : n = i
    · subst h; simp
    · have h' : ¬ i = n := fun z => h z.symm
      by_cases h2 : i ∈ ns <;> simp [h, h', h2]
theorem flat_il (ns : List Int) : (il ns).all flatV = true := by
  rw [List.all_map]
  exact List.all_eq_true.mpr fun _ _ => rfl
theorem ev_in {i : Int} {ns : List Int} (ha : Ev ta σ H (.int i)) (hb : EvD K tb σ H (.l (il ns))) : Ev (tOp (rIn K false) ta tb) σ H (.bl (decide (i ∈ ns))) := fun H1 e Q q =>
  ha H1 e _ fun H2 e2 => hb H2 (e.trans e2) _ fun u H3 e3 ⟨a, hu, hx⟩ => ⟨a, il ns, hu, .inl (sq_of hx), rfl, flat_il ns, by
    show Q (.bl (inV (.int i) (il ns))) H3
    rw [inV_il]
    exact q H3 (e2.trans e3)⟩
theorem ev_ni {i : Int} {ns : List Int} (ha : Ev ta σ H (.int i)) (hb : EvD K tb σ H (.l (il ns))) : Ev (tOp (rIn K true) ta tb) σ H (.bl (!decide (i ∈ ns))) := fun H1 e Q q =>
  ha H1 e _ fun H2 e2 => hb H2 (e.trans e2) _ fun u H3 e3 ⟨a, hu, hx⟩ => ⟨a, il ns, hu, .inl (sq_of hx), rfl, flat_il ns, by
    show Q (.bl (!inV (.int i) (il ns))) H3
    rw [inV_il]
    exact q H3 (e2.trans e3)⟩
/-- a < b < c -/
theorem ev_chain {r r' : R2} {a b c : Int} {k1 k2 : Bool} (ha : Ev ta σ H (.int a)) (hb : Ev tb σ H (.int b)) (hc : Ev te σ H (.int c)) (h1 : RV r (.int a) (.int b) H (.bl k1)) (h2 : RV r' (.int b) (.int c) H (.bl k2)) :
    Ev (tChain r r' ta tb te) σ H (.bl (k1 && k2)) := fun H1 e Q q => ha H1 e _ fun H2 e2 => hb H2 (e.trans e2) _ fun H3 e3 => h1 H3 ((e.trans e2).trans e3) _ fun H4 e4 => ⟨k1, rfl, by
  cases k1 with
  | true =>
    rw [if_pos rfl]
    exact hc H4 (((e.trans e2).trans e3).trans e4) _ fun H5 e5 => h2 H5 ((((e.trans e2).trans e3).trans e4).trans e5) Q fun H6 e6 => q H6 ((((e2.trans e3).trans e4).trans e5).trans e6)
  | false =>
    rw [if_neg Bool.false_ne_true]
    exact q H4 ((e2.trans e3).trans e4)⟩
/-- isinstance -/
theorem ev_isi {x : V} {c : V} {u t : Value} {b : Bool} (ha : Ev ta σ H x) (hb : Ev tb σ H c) (hc : ClsV c u) (ht : ∀ H1, Ex H H1 → TyX K H1 x t) (hk : PySem.W.kitOne K t u = some b) : Ev (tCB (rIsi K) (tCons ta (tCons tb tNil))) σ H (.bl b) := fun H1 e Q q =>
  ha H1 e _ fun H2 e2 => hb H2 (e.trans e2) _ fun H3 e3 => ⟨x, c, t, u, b, rfl, hc, ht H3 ((e.trans e2).trans e3), hk, q H3 (e2.trans e3)⟩
def tyD : D → Option String
  | .v .non => some "NoneType"
  | .v (.bl _) => some "bool"
  | .v (.int _) => some "int"
  | .v (.str _) => some "str"
  | .l _ => some "list"
  | .t _ => some "tuple"
  | .p _ _ => some "tuple"
  | .ll _ => some "list"
  | _ => none
theorem tyD_ok : ∀ {d : D} {u : V} {s : String}, tyD d = some s → d.rep K u H → TyX K H u (.type s)
  | .v .non, _, _, h, r => by cases h; cases r; exact .base .non
  | .v (.bl _), _, _, h, r => by cases h; cases r; exact .base (.bl _)
  | .v (.int _), _, _, h, r => by cases h; cases r; exact .base (.int _)
  | .v (.str _), _, _, h, r => by cases h; cases r; exact .base (.str _)
  | .l _, _, _, h, ⟨a, hu, ha⟩ => by cases h; rw [hu]; exact .base (.lst ha)
  | .t _, _, _, h, ⟨a, hu, ha⟩ => by cases h; rw [hu]; exact .base (.tup ha)
  | .p _ _, _, _, h, ⟨a, x, y, hu, ha, _⟩ => by cases h; rw [hu]; exact .base (.tup ha)
  | .ll _, _, _, h, ⟨a, ps, hu, ha, _⟩ => by cases h; rw [hu]; exact .base (.lst ha)
  | .v (.byt _), _, _, h, _ => nomatch h
  | .v (.flt _), _, _, h, _ => nomatch h
  | .v (.ref _), _, _, h, _ => nomatch h
  | .v (.ty _), _, _, h, _ => nomatch h
  | .s _, _, _, h, _ => nomatch h
  | .al _, _, _, h, _ => nomatch h
theorem ev_isD {d : D} {s c : String} {b : Bool} (ha : EvD K ta σ H d) (hb : Ev tb σ H (.ty c)) (hs : tyD d = some s) (hk : kitB s c = some b) : Ev (tCB (rIsi K) (tCons ta (tCons tb tNil))) σ H (.bl b) := fun H1 e Q q =>
  ha H1 e _ fun u H2 e2 r => hb H2 (e.trans e2) _ fun H3 e3 => ⟨u, .ty c, .type s, .type c, b, rfl, .ty c, tyD_ok hs (D.mono e3 r), kit_ty hk, q H3 (e2.trans e3)⟩

/-! ### comprehensions -/
theorem wipe1 (σ : L2.St) (j : Nat) (y : Option V) : (wipe σ [j]).set j y = σ.set j y := by
  show (σ.set j none).set j y = σ.set j y
  rw [List.set_set]
theorem wipe2 (σ : L2.St) (j : Nat) (y : Option V) : wipe (σ.set j y) [j] = wipe σ [j] := by
  show (σ.set j y).set j none = σ.set j none
  rw [List.set_set]
theorem et_yes : EvT tYes σ H true := fun H1 _ _ q => q H1 (Ex.refl H1)
def CwI (H : Hp) (ns : List Int) (p : Int → Bool) (g : Int → V) (Dl : Addr) (i : Nat) (H' : Hp) : Prop := H Dl = none ∧ Ex H H' ∧ H' Dl = some (.lst (((ns.take i).filter p).map g))
theorem take_snoc {α : Type} {l : List α} {i : Nat} {x : α} (h : l[i]? = some x) : l.take (i + 1) = l.take i ++ [x] := by
  rw [List.take_add_one, h]
  rfl
theorem cwI_turn {ns : List Int} {p : Int → Bool} {g : Int → V} {Dl : Addr} {i : Nat} {x : Int} {σ2 : L2.St} (hx : ns[i]? = some x) (hz : ns.length ≤ 40000) (c : CwI H ns p g Dl i H') (ht : EvT t σ2 H (p x)) (he : p x = true → Ev te σ2 H (g x)) :
    t σ2 H' fun b H3 => if b = true then te σ2 H3 fun y H4 => ∃ acc, H4 Dl = some (.lst acc) ∧ acc.length < sizeLine ∧ CwI H ns p g Dl (i + 1) (upd H4 Dl (.lst (acc ++ [y]))) else CwI H ns p g Dl (i + 1) H3 := by
  obtain ⟨p1, p2, p3⟩ := c
  refine ht H' p2 _ fun H3 e3 => ?_
  have es : ns.take (i + 1) = ns.take i ++ [x] := take_snoc hx
  cases hf : p x with
  | true =>
    show te σ2 H3 fun y H4 => ∃ acc, H4 Dl = some (.lst acc) ∧ acc.length < sizeLine ∧ CwI H ns p g Dl (i + 1) (upd H4 Dl (.lst (acc ++ [y])))
    refine he hf H3 (p2.trans e3) _ fun H4 e4 => ⟨_, e4 Dl _ (e3 Dl _ p3), sz_lt ?_, p1, Ex.mut ((p2.trans e3).trans e4) p1, ?_⟩
    · rw [List.length_map]
      have h1 := List.length_filter_le p (ns.take i)
      have h2 := List.length_take_le i ns
      rw [List.length_take] at h1
      omega
    · rw [upd_same, es, List.filter_append, List.map_append, List.filter_cons, if_pos hf]
      rfl
  | false =>
    show CwI H ns p g Dl (i + 1) H3
    refine ⟨p1, p2.trans e3, ?_⟩
    rw [es, List.filter_append, List.filter_cons, if_neg (by rw [hf]; decide)]
    show H3 Dl = some (.lst ((List.filter p (ns.take i) ++ []).map g))
    rw [List.append_nil]
    exact e3 Dl _ p3
theorem en_lcF {j : Nat} {ns : List Int} {p : Int → Bool} {g : Int → V} (h : EvD K tl σ H (.l (il ns))) (hz : ns.length ≤ 40000)
    (ht : ∀ x, x ∈ ns → EvT t (σ.set j (some (.int x))) H (p x)) (he : ∀ x, x ∈ ns → p x = true → Ev te (σ.set j (some (.int x))) H (g x)) : EvN K (tLc (iList K tl) (gName j) t te [j]) σ H (.l ((ns.filter p).map g)) := fun H0 e Q q =>
  h H0 e _ fun u H1 e1 ⟨a, hu, ha⟩ => ⟨a, hu, ⟨_, sq_of ha⟩, fun Dl hD =>
    lc_list (xs := il ns) (CwI H1 ns p g Dl) ⟨hD, Ex.new hD, upd_same⟩ (fun i H' _ c => sq_of (c.2.1 _ _ ha)) (fun i x H' hi c => by
      obtain ⟨n, hn, rfl⟩ : ∃ n, ns[i]? = some n ∧ x = .int n := by
        rw [List.getElem?_map] at hi
        cases hn : ns[i]? with
        | none => rw [hn] at hi; cases hi
        | some n => rw [hn] at hi; exact ⟨n, rfl, (Option.some.inj hi).symm⟩
      have hm : n ∈ ns := List.mem_of_getElem? hn
      show wipe ((wipe σ [j]).set j (some (V.int n))) [j] = wipe σ [j] ∧ t ((wipe σ [j]).set j (some (V.int n))) H' _
      rw [wipe1, wipe2]
      exact ⟨rfl, cwI_turn hn hz c (fun H2 a => ht n hm H2 ((e.trans e1).trans a)) (fun hf H2 a => he n hm hf H2 ((e.trans e1).trans a))⟩)
    (fun H' c => by
      have c3 := c.2.2
      rw [List.length_map, List.take_length] at c3
      exact q _ H' (e1.trans c.2.1) ⟨Dl, rfl, fresh_back e1 c.1, c3⟩)⟩
theorem en_lc {j : Nat} {ns : List Int} {g : Int → V} (h : EvD K tl σ H (.l (il ns))) (hz : ns.length ≤ 40000)
    (he : ∀ x, x ∈ ns → Ev te (σ.set j (some (.int x))) H (g x)) : EvN K (tLc (iList K tl) (gName j) tYes te [j]) σ H (.l (ns.map g)) := by
  have r := en_lcF (p := fun _ => true) (g := g) (t := tYes) (te := te) (j := j) h hz (fun _ _ => et_yes) (fun x hx _ => he x hx)
  rw [List.filter_eq_self.mpr (fun _ _ => rfl)] at r
  exact r
/-- lo, lo + 1, .. below hi -/
def rng (lo hi : Int) : List Int := (List.range (hi - lo).toNat).map fun (i : Nat) => lo + (i : Int)
theorem rng_len (lo hi : Int) : (rng lo hi).length = (hi - lo).toNat := by
  unfold rng
  rw [List.length_map, List.length_range]
theorem rng_get {lo hi : Int} {i : Nat} (h : i < (hi - lo).toNat) : (rng lo hi)[i]? = some (lo + (i : Int)) := by
  unfold rng
  rw [List.getElem?_map, List.getElem?_range h]
  rfl
theorem rng_mem {lo hi x : Int} : x ∈ rng lo hi ↔ lo ≤ x ∧ x < hi := by
  unfold rng
  rw [List.mem_map]
  constructor
  · rintro ⟨i, hi', rfl⟩
    have := List.mem_range.mp hi'
    omega
  · intro h
    exact ⟨(x - lo).toNat, List.mem_range.mpr (by omega), by omega⟩
theorem en_lcR {j : Nat} {ns : List Int} {lo : Int} {n : Nat} {p : Int → Bool} {g : Int → V} {wi : TI} (hns : ns = (List.range n).map fun (i : Nat) => lo + (i : Int)) (hn : n ≤ 40000)
    (hwi : ∀ H1, Ex H H1 → ∀ R : It → Hp → Prop, (∀ H2, Ex H1 H2 → R (Itr lo n) H2) → wi σ H1 R)
    (ht : ∀ x, x ∈ ns → EvT t (σ.set j (some (.int x))) H (p x)) (he : ∀ x, x ∈ ns → p x = true → Ev te (σ.set j (some (.int x))) H (g x)) : EvN K (tLc wi (gName j) t te [j]) σ H (.l ((ns.filter p).map g)) := fun H0 e Q q =>
  hwi H0 e _ fun H1 e1 => fun Dl hD => by
    have hl : ns.length = n := by rw [hns, List.length_map, List.length_range]
    refine lc_range (lo := lo) (n := n) (CwI H1 ns p g Dl) ⟨hD, Ex.new hD, upd_same⟩ (fun i H' hi c => ?_) (fun H' c => ?_)
    · have hg : ns[i]? = some (lo + (i : Int)) := by
        rw [hns, List.getElem?_map, List.getElem?_range hi]
        rfl
      have hm := List.mem_of_getElem? hg
      show wipe ((wipe σ [j]).set j (some (V.int (lo + (i : Int))))) [j] = wipe σ [j] ∧ t ((wipe σ [j]).set j (some (V.int (lo + (i : Int))))) H' _
      rw [wipe1, wipe2]
      exact ⟨rfl, cwI_turn hg (by omega) c (fun H2 a => ht _ hm H2 ((e.trans e1).trans a)) (fun hf H2 a => he _ hm hf H2 ((e.trans e1).trans a))⟩
    · have c3 := c.2.2
      rw [← hl, List.take_length] at c3
      exact q _ H' (e1.trans c.2.1) ⟨Dl, rfl, fresh_back e1 c.1, c3⟩
theorem en_lcR1 {j : Nat} {n : Int} {p : Int → Bool} {g : Int → V} (h : Ev ta σ H (.int n)) (hn : -40000 ≤ n ∧ n ≤ 40000)
    (ht : ∀ x, x ∈ rng 0 n → EvT t (σ.set j (some (.int x))) H (p x)) (he : ∀ x, x ∈ rng 0 n → p x = true → Ev te (σ.set j (some (.int x))) H (g x)) : EvN K (tLc (iRng1 (tCons ta tNil)) (gName j) t te [j]) σ H (.l (((rng 0 n).filter p).map g)) :=
  en_lcR (lo := 0) (n := n.toNat) (by unfold rng; rw [Int.sub_zero]) (by omega) (fun H1 e R r => (ea_of h) H1 e _ fun H2 e2 => ⟨n, rfl, by omega, by omega, r H2 e2⟩) ht he
theorem en_lcR2 {j : Nat} {lo n : Int} {p : Int → Bool} {g : Int → V} (h1 : Ev ta σ H (.int lo)) (h : Ev tb σ H (.int n)) (hn : -40000 ≤ n ∧ n ≤ 20000 ∧ -20000 ≤ lo ∧ lo ≤ 40000)
    (ht : ∀ x, x ∈ rng lo n → EvT t (σ.set j (some (.int x))) H (p x)) (he : ∀ x, x ∈ rng lo n → p x = true → Ev te (σ.set j (some (.int x))) H (g x)) : EvN K (tLc (iRng2 (tCons ta (tCons tb tNil))) (gName j) t te [j]) σ H (.l (((rng lo n).filter p).map g)) :=
  en_lcR (lo := lo) (n := (n - lo).toNat) rfl (by omega) (fun H1 e R r => (ea_cons h1 (ea_cons h ea_nil)) H1 e _ fun H2 e2 => ⟨lo, n, rfl, by omega, r H2 e2⟩) ht he
theorem filt_t (ns : List Int) : ns.filter (fun _ => true) = ns := List.filter_eq_self.mpr (fun _ _ => rfl)
theorem en_lcR1t {j : Nat} {n : Int} {g : Int → V} (h : Ev ta σ H (.int n)) (hn : -40000 ≤ n ∧ n ≤ 40000)
    (he : ∀ x, x ∈ rng 0 n → Ev te (σ.set j (some (.int x))) H (g x)) : EvN K (tLc (iRng1 (tCons ta tNil)) (gName j) tYes te [j]) σ H (.l ((rng 0 n).map g)) := by
  have r := en_lcR1 (K := K) (p := fun _ => true) (g := g) (t := tYes) (te := te) (j := j) h hn (fun _ _ => et_yes) (fun x hx _ => he x hx)
  rw [filt_t] at r
  exact r
theorem en_lcR2t {j : Nat} {lo n : Int} {g : Int → V} (h1 : Ev ta σ H (.int lo)) (h : Ev tb σ H (.int n)) (hn : -40000 ≤ n ∧ n ≤ 20000 ∧ -20000 ≤ lo ∧ lo ≤ 40000)
    (he : ∀ x, x ∈ rng lo n → Ev te (σ.set j (some (.int x))) H (g x)) : EvN K (tLc (iRng2 (tCons ta (tCons tb tNil))) (gName j) tYes te [j]) σ H (.l ((rng lo n).map g)) := by
  have r := en_lcR2 (K := K) (p := fun _ => true) (g := g) (t := tYes) (te := te) (j := j) h1 h hn (fun _ _ => et_yes) (fun x hx _ => he x hx)
  rw [filt_t] at r
  exact r
/-- the made list is one of whole numbers -/
theorem il_map (ns : List Int) (g : Int → Int) : ns.map (fun x => V.int (g x)) = il (ns.map g) := by
  unfold il
  rw [List.map_map]
  rfl
theorem bl_map (ns : List Int) (g : Int → Bool) : ns.map (fun x => V.bl (g x)) = (ns.map g).map V.bl := by
  rw [List.map_map]
  rfl
theorem en_il {ns : List Int} {g : Int → Int} (h : EvN K te σ H (.l (ns.map fun x => V.int (g x)))) : EvN K te σ H (.l (il (ns.map g))) := by
  rw [il_map] at h
  exact h
theorem en_bl {ns : List Int} {g : Int → Bool} (h : EvN K te σ H (.l (ns.map fun x => V.bl (g x)))) : EvN K te σ H (.l ((ns.map g).map V.bl)) := by
  rw [bl_map] at h
  exact h

/-! ### displays -/
theorem en_l0 : EvN K (tLst tNil) σ H (.l (il [])) := fun H1 e Q q => ⟨Nat.zero_le _, fun p n => q _ _ (Ex.new n) ⟨p, rfl, n, upd_same⟩⟩
theorem en_ls {ta : TA} {vs : List V} (h : EvA ta σ H vs) (hl : vs.length ≤ 100000) : EvN K (tLst ta) σ H (.l vs) := fun H1 e _ q =>
  h H1 e _ fun H2 e2 => ⟨sz_of hl, fun p n => q _ _ (e2.trans (Ex.new n)) ⟨p, rfl, fresh_back e2 n, upd_same⟩⟩
/-- (a, b), both made anew -/
theorem en_p (ha : EvN K ta σ H d) (hb : EvN K tb σ H e) (hd : ∀ H1 H2 x y, d.rep K x H1 → e.new K H1 y H2 → ∀ b, x = V.ref b → y ≠ .ref b) : EvN K (tTup (tCons ta (tCons tb tNil))) σ H (.p d e) := fun H1 e1 _ q =>
  ha H1 e1 _ fun x H2 e2 r => hb H2 (e1.trans e2) _ fun y H3 e3 r' => ⟨(by decide : 2 ≤ sizeLine), fun p n => q _ _ ((e2.trans e3).trans (Ex.new n)) ⟨p, x, y, rfl, upd_same, D.nmono (e3.trans (Ex.new n)) r, D.nmono (Ex.new n) (D.nback e2 r'), hd _ _ _ _ (D.nrep r) r'⟩⟩
theorem dis_ll {xs ys : List V} : ∀ H1 H2 x y, (D.l xs).rep K x H1 → (D.l ys).new K H1 y H2 → ∀ b, x = V.ref b → y ≠ .ref b := fun H1 H2 x y ⟨a, hx, ha⟩ ⟨c, hy, hc, _⟩ b e1 e2 => by
  rw [hx] at e1
  rw [hy] at e2
  cases e1
  cases e2
  rw [ha] at hc
  cases hc
theorem dis_v {x0 : V} (h : ∀ b, x0 ≠ .ref b) : ∀ H1 H2 x y, (D.v x0).rep K x H1 → e.new K H1 y H2 → ∀ b, x = V.ref b → y ≠ .ref b := fun H1 H2 x y hx _ b e1 => by
  have hx' : x = x0 := hx
  rw [hx'] at e1
  exact absurd e1 (h b)

/-! ### statements -/
theorem q_asgN {i : Nat} (h : EvN K te σ H d) (k : ∀ u H1, Ex H H1 → d.new K H u H1 → tz D' (σ.set i (some u)) H1) : tSeq (tAsg te (gName i)) tz D' σ H := h H (Ex.refl H) _ fun u H1 e n => k u H1 e n
theorem s_asgN {i : Nat} (h : EvN K te σ H d) (k : ∀ u H1, Ex H H1 → d.new K H u H1 → D'.nx (σ.set i (some u)) H1) : tAsg te (gName i) D' σ H := h H (Ex.refl H) _ fun u H1 e n => k u H1 e n
theorem q_asgD {i : Nat} (h : EvD K te σ H d) (k : ∀ u H1, Ex H H1 → d.rep K u H1 → tz D' (σ.set i (some u)) H1) : tSeq (tAsg te (gName i)) tz D' σ H := h H (Ex.refl H) _ fun u H1 e n => k u H1 e n
theorem s_asgD {i : Nat} (h : EvD K te σ H d) (k : ∀ u H1, Ex H H1 → d.rep K u H1 → D'.nx (σ.set i (some u)) H1) : tAsg te (gName i) D' σ H := h H (Ex.refl H) _ fun u H1 e n => k u H1 e n
theorem q_asgNl {i : Nat} {xs : List V} (h : EvN K te σ H (.l xs)) (k : ∀ p H1, H p = none → Ex H H1 → H1 p = some (.lst xs) → tz D' (σ.set i (some (.ref p))) H1) : tSeq (tAsg te (gName i)) tz D' σ H :=
  q_asgN h fun u H1 e n => by
    obtain ⟨p, rfl, n1, n2⟩ := n
    exact k p H1 n1 e n2
theorem s_asgNl {i : Nat} {xs : List V} (h : EvN K te σ H (.l xs)) (k : ∀ p H1, H p = none → Ex H H1 → H1 p = some (.lst xs) → D'.nx (σ.set i (some (.ref p))) H1) : tAsg te (gName i) D' σ H :=
  s_asgN h fun u H1 e n => by
    obtain ⟨p, rfl, n1, n2⟩ := n
    exact k p H1 n1 e n2
theorem s_retN (h : EvN K te σ H d) (k : ∀ u H1, Ex H H1 → d.new K H u H1 → D'.rt u H1) : tRet te D' σ H := h H (Ex.refl H) _ k
theorem s_retD (h : EvD K te σ H d) (k : ∀ u H1, Ex H H1 → d.rep K u H1 → D'.rt u H1) : tRet te D' σ H := h H (Ex.refl H) _ k
theorem q_dropN (h : EvN K te σ H d) (k : ∀ H1, Ex H H1 → tz D' σ H1) : tSeq (tDrop te) tz D' σ H := h H (Ex.refl H) _ fun _ H1 e _ => k H1 e
theorem s_dropN (h : EvN K te σ H d) (k : ∀ H1, Ex H H1 → D'.nx σ H1) : tDrop te D' σ H := h H (Ex.refl H) _ fun _ H1 e _ => k H1 e
/-- a, b = e -/
theorem q_asgP {i j : Nat} (h : EvN K te σ H (.p d e)) (k : ∀ x y H1, Ex H H1 → d.new K H x H1 → e.new K H y H1 → (∀ b, x = V.ref b → y ≠ .ref b) → tz D' ((σ.set i (some x)).set j (some y)) H1) :
    tSeq (tAsg te (gTup K 2 (gCons (gName i) (gCons (gName j) gNil)))) tz D' σ H := h H (Ex.refl H) _ fun u H1 e1 ⟨a, x, y, hu, ha, r1, r2, nd⟩ =>
  ⟨a, [x, y], hu, st_of ha, rfl, x, [y], rfl, y, [], rfl, rfl, k x y H1 e1 r1 r2 nd⟩
/-- what stands but at l -/
def But (l : Addr) (H H' : Hp) : Prop := ∀ b o, b ≠ l → H b = some o → H' b = some o
theorem But.ex {H0 : Hp} {l : Addr} (e : Ex H0 H) (n : H0 l = none) (b : But l H H') : Ex H0 H' := fun a o h => b a o (ne_of_none h n) (e a o h)
theorem but_upd {l : Addr} {o : HO} (e : Ex H H') : But l H (upd H' l o) := fun b o' hb h => by
  rw [upd_ne hb]
  exact e b o' h
theorem s_appB {l : Addr} {xs : List V} (hl : H l = some (.lst xs)) (ha : Ev ta σ H (.ref l)) (h : Ev te σ H x) (hz : xs.length < 100000) (k : ∀ H1, But l H H1 → H1 l = some (.lst (xs ++ [x])) → D'.nx σ H1) :
    tDrop (tBM K "list" rAppend ta (tCons te tNil)) D' σ H := s_app hl ha h hz fun H1 e1 => k _ (but_upd e1) upd_same
theorem q_appB {l : Addr} {xs : List V} (hl : H l = some (.lst xs)) (ha : Ev ta σ H (.ref l)) (h : Ev te σ H x) (hz : xs.length < 100000) (k : ∀ H1, But l H H1 → H1 l = some (.lst (xs ++ [x])) → tz D' σ H1) :
    tSeq (tDrop (tBM K "list" rAppend ta (tCons te tNil))) tz D' σ H := s_appB (D' := { D' with nx := tz D' }) hl ha h hz k
theorem s_appI {l : Addr} {ns : List Int} {n : Int} (hl : H l = some (.lst (il ns))) (ha : Ev ta σ H (.ref l)) (h : Ev te σ H (.int n)) (hz : ns.length < 100000) (k : ∀ H1, But l H H1 → H1 l = some (.lst (il (ns ++ [n]))) → D'.nx σ H1) :
    tDrop (tBM K "list" rAppend ta (tCons te tNil)) D' σ H := s_appB hl ha h (by rw [List.length_map]; exact hz) fun H1 b e => k H1 b (by rw [e]; unfold il; rw [List.map_append]; rfl)
theorem q_appI {l : Addr} {ns : List Int} {n : Int} (hl : H l = some (.lst (il ns))) (ha : Ev ta σ H (.ref l)) (h : Ev te σ H (.int n)) (hz : ns.length < 100000) (k : ∀ H1, But l H H1 → H1 l = some (.lst (il (ns ++ [n]))) → tz D' σ H1) :
    tSeq (tDrop (tBM K "list" rAppend ta (tCons te tNil))) tz D' σ H := s_appI (D' := { D' with nx := tz D' }) hl ha h hz k
/-- a list with a number changed -/
def si (xs : List Int) (i v : Int) : List Int := xs.set i.toNat v
theorem si_len (xs : List Int) (i v : Int) : (si xs i v).length = xs.length := List.length_set
theorem s_setI {l : Addr} {ns : List Int} {i n : Int} (hl : H l = some (.lst (il ns))) (h : Ev te σ H (.int n)) (ha : Ev ta σ H (.ref l)) (hb : Ev tb σ H (.int i)) (hi : 0 ≤ i ∧ i < ns.length) (k : ∀ H1, But l H H1 → H1 l = some (.lst (il (si ns i n))) → D'.nx σ H1) :
    tAsg te (gSub ta tb rSetL) D' σ H := by
  have e : i = (i.toNat : Int) := by omega
  refine s_setL (j := i.toNat) hl h ha (by rw [← e]; exact hb) (by rw [List.length_map]; omega) fun H1 e1 => k _ (but_upd e1) ?_
  rw [upd_same]
  unfold si il
  rw [List.map_set]
theorem q_setI {l : Addr} {ns : List Int} {i n : Int} (hl : H l = some (.lst (il ns))) (h : Ev te σ H (.int n)) (ha : Ev ta σ H (.ref l)) (hb : Ev tb σ H (.int i)) (hi : 0 ≤ i ∧ i < ns.length) (k : ∀ H1, But l H H1 → H1 l = some (.lst (il (si ns i n))) → tz D' σ H1) :
    tSeq (tAsg te (gSub ta tb rSetL)) tz D' σ H := s_setI (D' := { D' with nx := tz D' }) hl h ha hb hi k

/-! ### loops -/
theorem s_forI {a : Addr} {ns : List Int} {j : Nat} (h : Ev tl σ H (.ref a)) (hx : H a = some (.lst (il ns))) (Pv : Nat → L2.St → Hp → Prop) (h0 : ∀ H1, Ex H H1 → Pv 0 σ H1) (hl : ∀ i σ' H', Pv i σ' H' → H' a = some (.lst (il ns)))
    (hs : ∀ (i : Nat) (x : Int) σ' H', ns[i]? = some x → Pv i σ' H' → tu { D' with nx := Pv (i + 1), ct := Pv (i + 1), bk := D'.nx } (σ'.set j (some (.int x))) H') (hd : ∀ σ' H', Pv ns.length σ' H' → D'.nx σ' H') : tFor (iList K tl) (gName j) tu D' σ H :=
  s_forLn h (sq_of hx) Pv h0 (fun i σ' H' _ p => sq_of (hl i σ' H' p)) (fun i x σ' H' hi p => by
    rw [List.getElem?_map] at hi
    cases hn : ns[i]? with
    | none => rw [hn] at hi; cases hi
    | some n =>
      rw [hn] at hi
      cases hi
      exact hs i n σ' H' hn p) (fun σ' H' p => hd σ' H' (by rw [List.length_map] at p; exact p))
theorem q_forI {a : Addr} {ns : List Int} {j : Nat} (h : Ev tl σ H (.ref a)) (hx : H a = some (.lst (il ns))) (Pv : Nat → L2.St → Hp → Prop) (h0 : ∀ H1, Ex H H1 → Pv 0 σ H1) (hl : ∀ i σ' H', Pv i σ' H' → H' a = some (.lst (il ns)))
    (hs : ∀ (i : Nat) (x : Int) σ' H', ns[i]? = some x → Pv i σ' H' → tu { D' with nx := Pv (i + 1), ct := Pv (i + 1), bk := tz D' } (σ'.set j (some (.int x))) H') (hd : ∀ σ' H', Pv ns.length σ' H' → tz D' σ' H') : tSeq (tFor (iList K tl) (gName j) tu) tz D' σ H :=
  s_forI (D' := { D' with nx := tz D' }) h hx Pv h0 hl hs hd
theorem s_forV {a : Addr} {ns : List Int} {j : Nat} (h : Ev tl σ H (.ref a)) (hx : H a = some (.lst (il ns))) (Pv : Nat → L2.St → Hp → Prop) (h0 : ∀ H1, Ex H H1 → Pv 0 σ H1) (hl : ∀ i σ' H', Pv i σ' H' → H' a = some (.lst (il ns)))
    (hs : ∀ (i : Nat) (x : Int) σ' H', ns.reverse[i]? = some x → Pv i σ' H' → tu { D' with nx := Pv (i + 1), ct := Pv (i + 1), bk := D'.nx } (σ'.set j (some (.int x))) H') (hd : ∀ σ' H', Pv ns.length σ' H' → D'.nx σ' H') : tFor (iRev K (tCons tl tNil)) (gName j) tu D' σ H := by
  unfold tFor iRev
  exact (ea_of h) H (Ex.refl H) _ fun H1 e => ⟨a, il ns, rfl, sq_of (e _ _ hx), RT.for_Itv (K := K) (xs := il ns) Pv (h0 H1 e) (fun i σ' H' p => sq_of (hl i σ' H' p)) (fun i x σ' H' hi hg p => by
    rw [List.length_map] at hi hg
    have hr : ns.reverse[i]? = ns[ns.length - 1 - i]? := List.getElem?_reverse hi
    rw [List.getElem?_map, ← hr] at hg
    cases hn : ns.reverse[i]? with
    | none => rw [hn] at hg; cases hg
    | some n =>
      rw [hn] at hg
      cases hg
      exact hs i n σ' H' hn p) (fun σ' H' p => hd σ' H' (by rw [List.length_map] at p; exact p))⟩
theorem q_forV {a : Addr} {ns : List Int} {j : Nat} (h : Ev tl σ H (.ref a)) (hx : H a = some (.lst (il ns))) (Pv : Nat → L2.St → Hp → Prop) (h0 : ∀ H1, Ex H H1 → Pv 0 σ H1) (hl : ∀ i σ' H', Pv i σ' H' → H' a = some (.lst (il ns)))
    (hs : ∀ (i : Nat) (x : Int) σ' H', ns.reverse[i]? = some x → Pv i σ' H' → tu { D' with nx := Pv (i + 1), ct := Pv (i + 1), bk := tz D' } (σ'.set j (some (.int x))) H') (hd : ∀ σ' H', Pv ns.length σ' H' → tz D' σ' H') : tSeq (tFor (iRev K (tCons tl tNil)) (gName j) tu) tz D' σ H :=
  s_forV (D' := { D' with nx := tz D' }) h hx Pv h0 hl hs hd
end

/-! ### turns as plain functions -/
def iter {α : Type} (f : Nat → α → α) (a : α) : Nat → α
  | 0 => a
  | n + 1 => f n (iter f a n)
theorem iter_succ {α : Type} (f : Nat → α → α) (a : α) (n : Nat) : iter f a (n + 1) = f n (iter f a n) := rfl
theorem fold_succ {α : Type} {f : α → Int → α} {a : α} {l : List Int} {i : Nat} {x : Int} (h : l[i]? = some x) : (l.take (i + 1)).foldl f a = f ((l.take i).foldl f a) x := by
  rw [take_snoc h, List.foldl_append]
  rfl
/-- the first turn that hands something back -/
def first {α : Type} (b : Nat → Option α) : Nat → Option α
  | 0 => none
  | n + 1 => match first b n with
    | some r => some r
    | none => b n
theorem first_none {α : Type} {b : Nat → Option α} {n : Nat} (h : first b n = none) (h' : b n = none) : first b (n + 1) = none := by
  unfold first
  rw [h]
  exact h'
theorem first_some {α : Type} {b : Nat → Option α} {i n : Nat} {r : α} (h : first b i = none) (h' : b i = some r) (hi : i < n) : first b n = some r := by
  induction n with
  | zero => omega
  | succ n ih =>
    by_cases c : i = n
    · subst c
      unfold first
      rw [h]
      exact h'
    · have q := ih (by omega)
      unfold first
      rw [q]
def whl {α : Type} (c : α → Bool) (f : α → α) : Nat → α → α
  | 0, x => x
  | n + 1, x => if c x = true then whl c f n (f x) else x
theorem whl_stop {α : Type} {c : α → Bool} {f : α → α} {x : α} (h : c x = false) : ∀ n, whl c f n x = x
  | 0 => rfl
  | n + 1 => by
    unfold whl
    rw [h]
    rfl
theorem whl_fuel {α : Type} {c : α → Bool} {f : α → α} {I : α → Prop} {mu : α → Nat} (hI : ∀ x, I x → c x = true → I (f x) ∧ mu (f x) < mu x) : ∀ (n m : Nat) (x : α), I x → mu x ≤ n → mu x ≤ m → whl c f n x = whl c f m x := by
  intro n
  induction n with
  | zero =>
    intro m x hx h h2
    cases hc : c x with
    | false => rw [whl_stop hc, whl_stop hc]
    | true =>
      have := (hI x hx hc).2
      omega
  | succ n ih =>
    intro m x hx h h2
    cases hc : c x with
    | false => rw [whl_stop hc, whl_stop hc]
    | true =>
      obtain ⟨i1, i2⟩ := hI x hx hc
      obtain ⟨m', rfl⟩ : ∃ m', m = m' + 1 := ⟨m - 1, by omega⟩
      show (if c x = true then whl c f n (f x) else x) = (if c x = true then whl c f m' (f x) else x)
      rw [if_pos hc, if_pos hc]
      exact ih m' (f x) i1 (by omega) (by omega)
theorem whl_go {α : Type} {c : α → Bool} {f : α → α} {I : α → Prop} {mu : α → Nat} (hI : ∀ x, I x → c x = true → I (f x) ∧ mu (f x) < mu x) {x : α} (hx : I x) (hc : c x = true) : whl c f (mu x) x = whl c f (mu (f x)) (f x) := by
  obtain ⟨i1, i2⟩ := hI x hx hc
  obtain ⟨m, hm⟩ : ∃ m, mu x = m + 1 := ⟨mu x - 1, by omega⟩
  rw [hm]
  show (if c x = true then whl c f m (f x) else x) = _
  rw [if_pos hc]
  exact whl_fuel hI m (mu (f x)) (f x) i1 (by omega) (Nat.le_refl _)
/-- behind the loop the test fails -/
theorem whl_end {α : Type} {c : α → Bool} {f : α → α} {I : α → Prop} {mu : α → Nat} (hI : ∀ x, I x → c x = true → I (f x) ∧ mu (f x) < mu x) : ∀ (n : Nat) (x : α), I x → mu x ≤ n → I (whl c f n x) ∧ c (whl c f n x) = false := by
  intro n
  induction n with
  | zero =>
    intro x hx h
    cases hc : c x with
    | false => exact ⟨hx, hc⟩
    | true =>
      have := (hI x hx hc).2
      omega
  | succ n ih =>
    intro x hx h
    cases hc : c x with
    | false => rw [whl_stop hc]; exact ⟨hx, hc⟩
    | true =>
      obtain ⟨i1, i2⟩ := hI x hx hc
      show I (if c x = true then whl c f n (f x) else x) ∧ c (if c x = true then whl c f n (f x) else x) = false
      rw [if_pos hc]
      exact ih (f x) i1 (by omega)

/-! ### further words -/
theorem paired_cons {α β : Type} {F : α → β → Prop} {l : List α} {y : β} {ys : List β} (h : Paired F l (y :: ys)) : ∃ x xs, l = x :: xs ∧ F x y ∧ Paired F xs ys := by
  cases h with
  | cons a b => exact ⟨_, _, rfl, a, b⟩
theorem paired_nil {α β : Type} {F : α → β → Prop} {l : List α} (h : Paired F l []) : l = [] := by
  cases h
  rfl
theorem list_nodup3 {α : Type} {a b c : α} (h : [a, b, c].Nodup) : a ≠ b ∧ a ≠ c ∧ b ≠ c := by
  simp only [List.nodup_cons, List.mem_cons, List.not_mem_nil, not_or, or_false] at h
  exact ⟨h.1.1, h.1.2, h.2.1⟩
theorem list_nodup4 {α : Type} {a b c d : α} (h : [a, b, c, d].Nodup) : a ≠ b ∧ a ≠ c ∧ a ≠ d ∧ b ≠ c ∧ b ≠ d ∧ c ≠ d := by
  simp only [List.nodup_cons, List.mem_cons, List.not_mem_nil, not_or, or_false] at h
  exact ⟨h.1.1, h.1.2.1, h.1.2.2, h.2.1.1, h.2.1.2, h.2.2.1⟩
theorem cond_t {α : Type} {c : Bool} {a b : α} (h : c = true) : (bif c then a else b) = a := by rw [h]; rfl
theorem cond_f {α : Type} {c : Bool} {a b : α} (h : c = false) : (bif c then a else b) = b := by rw [h]; rfl
theorem elim_n {α β : Type} {o : Option α} {a : β} {f : α → β} (h : o = none) : Option.elim o a f = a := by rw [h]; rfl
theorem elim_s {α β : Type} {o : Option α} {a : β} {f : α → β} {x : α} (h : o = some x) : Option.elim o a f = f x := by rw [h]; rfl
theorem getd_n {α : Type} {o : Option α} {a : α} (h : o = none) : Option.getD o a = a := by rw [h]; rfl
theorem getd_s {α : Type} {o : Option α} {a x : α} (h : o = some x) : Option.getD o a = x := by rw [h]; rfl
theorem getd_at {l : List Int} {i : Nat} {x : Int} (h : l[i]? = some x) : l.getD i 0 = x := by
  rw [List.getD_eq_getElem?_getD, h]
  rfl
theorem lt_of_get {α : Type} {l : List α} {i : Nat} {x : α} (h : l[i]? = some x) : i < l.length := (List.getElem?_eq_some_iff.mp h).1
theorem take_rev (l : List Int) : l.reverse.take l.length = l.reverse := by
  rw [← List.length_reverse, List.take_length]
def dOP : Option (List Int × List Int) → D
  | none => .v .non
  | some q => .p (.l (il q.1)) (.l (il q.2))
def dOL : Option (List Int) → D
  | none => .v .non
  | some q => .l (il q)
section
variable {K : PySem.W.Frag} {σ : L2.St} {H H0 H' : Hp} {ta tb te : TE} {x y : V} {d e : D} {u : V} {D' : Ends} {tz : TS}
theorem ret_eq {d' : D} (h : d = d') (n : d'.new K H0 u H') : d.new K H0 u H' := by
  rw [h]
  exact n
theorem ed_rep (h : Ev te σ H u) (r : d.rep K u H) : EvD K te σ H d := fun H1 e Q q => h H1 e Q fun H2 e2 => q u H2 e2 (D.mono (e.trans e2) r)
theorem ed_p (ha : EvD K ta σ H d) (hb : EvD K tb σ H e) : EvD K (tTup (tCons ta (tCons tb tNil))) σ H (.p d e) := fun H1 e1 _ q =>
  ha H1 e1 _ fun x H2 e2 r => hb H2 (e1.trans e2) _ fun y H3 e3 r' => ⟨(by decide : 2 ≤ sizeLine), fun p n => q _ _ ((e2.trans e3).trans (Ex.new n)) ⟨p, x, y, rfl, upd_same, D.mono (e3.trans (Ex.new n)) r, D.mono (Ex.new n) r'⟩⟩
theorem q_par {i j : Nat} {v w : V} {ta : TA} (h : EvA ta σ H [v, w]) (k : ∀ H1, Ex H H1 → tz D' ((σ.set i (some v)).set j (some w)) H1) : tSeq (tPar i j ta) tz D' σ H := h H (Ex.refl H) _ fun H1 e => ⟨v, w, rfl, k H1 e⟩
theorem s_par {i j : Nat} {v w : V} {ta : TA} (h : EvA ta σ H [v, w]) (k : ∀ H1, Ex H H1 → D'.nx ((σ.set i (some v)).set j (some w)) H1) : tPar i j ta D' σ H := h H (Ex.refl H) _ fun H1 e => ⟨v, w, rfl, k H1 e⟩
end
theorem iter_inv {α : Type} {f : Nat → α → α} {a : α} {P : α → Prop} {n : Nat} (h0 : P a) (hs : ∀ i st, i < n → P st → P (f i st)) : P (iter f a n) := by
  induction n with
  | zero => exact h0
  | succ n ih => exact hs n _ (Nat.lt_succ_self n) (ih fun i st hi => hs i st (Nat.lt_succ_of_lt hi))
theorem fold_inv {α : Type} {f : α → Int → α} {a : α} {P : α → Prop} (l : List Int) (h0 : P a) (hs : ∀ st x, x ∈ l → P st → P (f st x)) : P (l.foldl f a) := by
  induction l generalizing a with
  | nil => exact h0
  | cons x l ih => exact ih (hs a x List.mem_cons_self h0) fun st y hy => hs st y (List.mem_cons_of_mem _ hy)
def Rests (xs : List Int) : Prop := ∀ x ∈ xs, 0 ≤ x ∧ x < 251
theorem rests_gi {xs : List Int} (h : Rests xs) (i : Int) : 0 ≤ gi xs i ∧ gi xs i < 251 := by
  unfold gi
  rw [List.getD_eq_getElem?_getD]
  cases e : xs[i.toNat]? with
  | none => exact ⟨Int.le_refl 0, by decide⟩
  | some x => exact h x (List.mem_of_getElem? e)
theorem rests_gl {xs : List Int} (h : Rests xs) : 0 ≤ gl xs ∧ gl xs < 251 := by
  unfold gl
  rw [List.getLastD_eq_getLast?]
  cases e : xs.getLast? with
  | none => exact ⟨Int.le_refl 0, by decide⟩
  | some x => exact h x (List.mem_of_getLast? e)
theorem rests_nil : Rests [] := fun _ h => nomatch h
theorem rests_cons {x : Int} {xs : List Int} (hx : 0 ≤ x ∧ x < 251) (h : Rests xs) : Rests (x :: xs) := fun y hy => by
  rcases List.mem_cons.mp hy with e | e
  · rw [e]; exact hx
  · exact h y e
theorem rests_app {xs ys : List Int} (h : Rests xs) (h2 : Rests ys) : Rests (xs ++ ys) := fun y hy => (List.mem_append.mp hy).elim (h y) (h2 y)
theorem rests_sub {xs ys : List Int} (h : Rests ys) (hs : ∀ x ∈ xs, x ∈ ys) : Rests xs := fun x hx => h x (hs x hx)
theorem rests_zs (k : Int) : Rests (zs k) := fun x hx => by
  rw [(List.mem_replicate.mp hx).2]
  exact ⟨Int.le_refl 0, by decide⟩
theorem rests_si {xs : List Int} {i v : Int} (h : Rests xs) (hv : 0 ≤ v ∧ v < 251) : Rests (si xs i v) := fun x hx => by
  unfold si at hx
  rcases List.mem_or_eq_of_mem_set hx with e | e
  · exact h x e
  · rw [e]; exact hv
theorem rests_map {α : Type} {l : List α} {g : α → Int} (h : ∀ x ∈ l, 0 ≤ g x ∧ g x < 251) : Rests (l.map g) := fun y hy => by
  obtain ⟨x, hx, rfl⟩ := List.mem_map.mp hy
  exact h x hx
section
variable {K : PySem.W.Frag} {σ : L2.St} {H H0 H' : Hp} {ta tb te : TE} {x y : V} {d e : D} {u : V} {D' : Ends} {tz : TS}
theorem ed_al (h : EvD K te σ H (.al d)) : EvD K te σ H d := h
theorem en_ll2 {xs ys : List Int} (ha : EvN K ta σ H (.l (il xs))) (hb : EvN K tb σ H (.l (il ys))) : EvN K (tLst (tCons ta (tCons tb tNil))) σ H (.ll (([xs, ys] : List (List Int)).map il)) := fun H1 e1 _ q =>
  ha H1 e1 _ fun x H2 e2 ⟨a, hx, na, ra⟩ => hb H2 (e1.trans e2) _ fun y H3 e3 ⟨b, hy, nb, rb⟩ => ⟨Nat.le_of_ble_eq_true rfl, fun p n => by
    have ra3 := e3 _ _ ra
    have n1 : a ≠ b := ne_of_none ra nb
    have n2 : a ≠ p := ne_of_none ra3 n
    have n3 : b ≠ p := ne_of_none rb n
    have exn : Ex H3 (upd H3 p (.lst [x, y])) := Ex.new n
    subst hx
    subst hy
    refine q _ _ ((e2.trans e3).trans exn) ⟨p, [a, b], rfl, fresh_back (e2.trans e3) n, upd_same, ?_, .cons ⟨na, exn _ _ ra3⟩ (.cons ⟨fresh_back e2 nb, exn _ _ rb⟩ .nil)⟩
    simp only [List.nodup_cons, List.mem_cons, List.not_mem_nil, not_or, or_false]
    exact ⟨⟨fun z => n2 z.symm, fun z => n3 z.symm⟩, n1, not_false, List.nodup_nil⟩⟩
theorem en_ll3 {td : TE} {xs ys zs : List Int} (ha : EvN K ta σ H (.l (il xs))) (hb : EvN K tb σ H (.l (il ys))) (hd : EvN K td σ H (.l (il zs))) : EvN K (tLst (tCons ta (tCons tb (tCons td tNil)))) σ H (.ll (([xs, ys, zs] : List (List Int)).map il)) := fun H1 e1 _ q =>
  ha H1 e1 _ fun x H2 e2 ⟨a, hx, na, ra⟩ => hb H2 (e1.trans e2) _ fun y H3 e3 ⟨b, hy, nb, rb⟩ => hd H3 ((e1.trans e2).trans e3) _ fun z H4 e4 ⟨c, hz, nc, rc⟩ => ⟨Nat.le_of_ble_eq_true rfl, fun p n => by
    have ra3 := e3 _ _ ra
    have ra4 := e4 _ _ ra3
    have rb4 := e4 _ _ rb
    have n1 : a ≠ b := ne_of_none ra nb
    have n4 : a ≠ c := ne_of_none ra3 nc
    have n5 : b ≠ c := ne_of_none rb nc
    have n2 : a ≠ p := ne_of_none ra4 n
    have n3 : b ≠ p := ne_of_none rb4 n
    have n6 : c ≠ p := ne_of_none rc n
    have exn : Ex H4 (upd H4 p (.lst [x, y, z])) := Ex.new n
    subst hx
    subst hy
    subst hz
    refine q _ _ (((e2.trans e3).trans e4).trans exn) ⟨p, [a, b, c], rfl, fresh_back ((e2.trans e3).trans e4) n, upd_same, ?_, .cons ⟨na, exn _ _ ra4⟩ (.cons ⟨fresh_back e2 nb, exn _ _ rb4⟩ (.cons ⟨fresh_back (e2.trans e3) nc, exn _ _ rc⟩ .nil))⟩
    simp only [List.nodup_cons, List.mem_cons, List.not_mem_nil, not_or, or_false]
    exact ⟨⟨fun z => n2 z.symm, fun z => n3 z.symm, fun z => n6 z.symm⟩, ⟨n1, n4⟩, n5, not_false, List.nodup_nil⟩⟩
theorem ed_llv {ta : TA} {ps : List Addr} {xss : List (List V)} (h : EvA ta σ H (ps.map V.ref)) (r : Paired (fun q xs => H q = some (.lst xs)) ps xss) (hz : (ps.map V.ref).length ≤ 100000) : EvD K (tLst ta) σ H (.ll xss) := fun H1 e _ q =>
  h H1 e _ fun H2 e2 => ⟨sz_of hz, fun p n => q _ _ (e2.trans (Ex.new n)) ⟨p, ps, rfl, upd_same, paired_imp (fun _ _ z => (Ex.new n) _ _ (e2 _ _ (e _ _ z))) r⟩⟩
theorem paired_at {α β : Type} {F : α → β → Prop} : ∀ {l : List α} {m : List β} {i : Nat} {y : β}, Paired F l m → m[i]? = some y → ∃ x, l[i]? = some x ∧ F x y
  | _, _, 0, _, .cons a _, h => by cases h; exact ⟨_, rfl, a⟩
  | _, _, i + 1, _, .cons _ b, h => paired_at (i := i) b h
  | _, _, _, _, .nil, h => by simp at h
theorem ed_ixLL {xss : List (List Int)} {i : Int} (ha : EvD K ta σ H (.ll (xss.map il))) (hb : Ev tb σ H (.int i)) (h : 0 ≤ i ∧ i < xss.length) : EvD K (tOp (rIxL K) ta tb) σ H (.l (il (xss.getD i.toNat []))) := fun H1 e1 Q q =>
  ha H1 e1 _ fun u H2 e2 ⟨a, ps, hu, hx, hp⟩ => hb H2 (e1.trans e2) _ fun H3 e3 => by
    have hj : i.toNat < xss.length := by omega
    have hg : (xss.map il)[i.toNat]? = some (il (xss.getD i.toNat [])) := by
      rw [List.getElem?_map, List.getD_eq_getElem?_getD, List.getElem?_eq_getElem hj]
      rfl
    obtain ⟨c, hc, hr⟩ := paired_at hp hg
    refine ⟨a, ps.map V.ref, i, .ref c, hu, rfl, sq_of (e3 _ _ hx), at_of (j := i.toNat) (by omega) ?_, q _ H3 (e2.trans e3) ⟨c, rfl, e3 _ _ hr⟩⟩
    rw [List.getElem?_map, hc]
    rfl
theorem ev_eqB {a b : Bool} (ha : Ev ta σ H (.bl a)) (hb : Ev tb σ H (.bl b)) : Ev (tOp rEq ta tb) σ H (.bl (decide (a = b))) := by
  have g := ev_op ha hb (rv_eq (H := H) (x := .bl a) (y := .bl b) rfl)
  have e : decide ((V.bl a) = V.bl b) = decide (a = b) := by simp
  rw [e] at g
  exact g
theorem ev_neB {a b : Bool} (ha : Ev ta σ H (.bl a)) (hb : Ev tb σ H (.bl b)) : Ev (tOp rNe ta tb) σ H (.bl (!decide (a = b))) := by
  have g := ev_op ha hb (rv_ne (H := H) (x := .bl a) (y := .bl b) rfl)
  have e : decide ((V.bl a) = V.bl b) = decide (a = b) := by simp
  rw [e] at g
  exact g
theorem ev_eqT {xs ys : List Int} (ha : EvD K ta σ H (.t (il xs))) (hb : EvD K tb σ H (.t (il ys))) : Ev (tOp (rEqD K) ta tb) σ H (.bl (decide (xs = ys))) := by
  rw [← eqv_tt]
  exact ev_eqD ha hb (fl_il _) (fl_il _) (Nat.le_of_ble_eq_true rfl) (Nat.le_of_ble_eq_true rfl)
theorem ev_neT {xs ys : List Int} (ha : EvD K ta σ H (.t (il xs))) (hb : EvD K tb σ H (.t (il ys))) : Ev (tOp (rNeD K) ta tb) σ H (.bl (!decide (xs = ys))) := by
  rw [← eqv_tt]
  exact ev_neD ha hb (fl_il _) (fl_il _) (Nat.le_of_ble_eq_true rfl) (Nat.le_of_ble_eq_true rfl)
theorem dec_pair {α β : Type} [DecidableEq α] [DecidableEq β] (a c : α) (b d : β) : (decide (a = c) && decide (b = d)) = decide ((a, b) = (c, d)) := by
  by_cases h : a = c <;> by_cases h' : b = d <;> simp [h, h']
theorem ev_neIT {p q : Int × List Int} (ha : EvD K ta σ H (.p (.v (.int p.1)) (.t (il p.2)))) (hb : EvD K tb σ H (.p (.v (.int q.1)) (.t (il q.2)))) : Ev (tOp (rNeD K) ta tb) σ H (.bl (!decide (p = q))) := by
  have g := ev_neD ha hb (by simp only [D.fl, flI, fl_il, Bool.and_self]) (by simp only [D.fl, flI, fl_il, Bool.and_self]) (Nat.le_of_ble_eq_true rfl) (Nat.le_of_ble_eq_true rfl)
  rw [eqv_pp, eqv_vv, eqv_tt, dec_pair] at g
  exact g
theorem ev_eqIT {p q : Int × List Int} (ha : EvD K ta σ H (.p (.v (.int p.1)) (.t (il p.2)))) (hb : EvD K tb σ H (.p (.v (.int q.1)) (.t (il q.2)))) : Ev (tOp (rEqD K) ta tb) σ H (.bl (decide (p = q))) := by
  have g := ev_eqD ha hb (by simp only [D.fl, flI, fl_il, Bool.and_self]) (by simp only [D.fl, flI, fl_il, Bool.and_self]) (Nat.le_of_ble_eq_true rfl) (Nat.le_of_ble_eq_true rfl)
  rw [eqv_pp, eqv_vv, eqv_tt, dec_pair] at g
  exact g
theorem fl_lss (xss : List (List Int)) : (xss.map il).all (fun xs => xs.all flI) = true := by
  rw [List.all_map]
  exact List.all_eq_true.mpr fun x _ => fl_il x
theorem ev_neLL {xss yss : List (List Int)} (ha : EvD K ta σ H (.ll (xss.map il))) (hb : EvD K tb σ H (.ll (yss.map il))) : Ev (tOp (rNeD K) ta tb) σ H (.bl (!decide (xss = yss))) := by
  rw [← eqv_llll]
  exact ev_neD ha hb (fl_lss _) (fl_lss _) (Nat.le_of_ble_eq_true rfl) (Nat.le_of_ble_eq_true rfl)
theorem fl_op : ∀ o, (dOP o).fl = true
  | none => rfl
  | some q => by simp only [dOP, D.fl, fl_il, Bool.and_self]
theorem dsz_op : ∀ o, (dOP o).dsz ≤ 64
  | none => Nat.le_of_ble_eq_true rfl
  | some q => Nat.le_of_ble_eq_true rfl
theorem eqv_op : ∀ o o' : Option (List Int × List Int), PyData.eqv (dOP o).py (dOP o').py = decide (o = o')
  | none, none => by simp [dOP, D.py, vpy, PyData.eqv]
  | none, some _ => by simp [dOP, D.py, vpy, PyData.eqv]
  | some _, none => by simp [dOP, D.py, vpy, PyData.eqv]
  | some p, some q => by
    show PyData.eqv (D.p (.l (il p.1)) (.l (il p.2))).py (D.p (.l (il q.1)) (.l (il q.2))).py = decide (some p = some q)
    rw [eqv_pp, eqv_ll, eqv_ll]
    obtain ⟨p1, p2⟩ := p
    obtain ⟨q1, q2⟩ := q
    by_cases h : p1 = q1 <;> by_cases h' : p2 = q2 <;> simp [h, h']
theorem ev_neOP {o o' : Option (List Int × List Int)} (ha : EvD K ta σ H (dOP o)) (hb : EvD K tb σ H (dOP o')) : Ev (tOp (rNeD K) ta tb) σ H (.bl (!decide (o = o'))) := by
  rw [← eqv_op]
  exact ev_neD ha hb (fl_op _) (fl_op _) (dsz_op _) (dsz_op _)
theorem ev_eqOP {o o' : Option (List Int × List Int)} (ha : EvD K ta σ H (dOP o)) (hb : EvD K tb σ H (dOP o')) : Ev (tOp (rEqD K) ta tb) σ H (.bl (decide (o = o'))) := by
  rw [← eqv_op]
  exact ev_eqD ha hb (fl_op _) (fl_op _) (dsz_op _) (dsz_op _)
theorem ed_opN (h : EvD K te σ H (.v .non)) : EvD K te σ H (dOP none) := h
theorem ed_opS {q : List Int × List Int} (h : EvD K te σ H (.p (.l (il q.1)) (.l (il q.2)))) : EvD K te σ H (dOP (some q)) := h
end
theorem iter_snoc_len {f : Nat → List Int → List Int} {a : List Int} (h : ∀ i st, ∃ x, f i st = st ++ [x]) : ∀ n, (iter f a n).length = a.length + n
  | 0 => rfl
  | n + 1 => by
    obtain ⟨x, hx⟩ := h n (iter f a n)
    rw [iter_succ, hx, List.length_append, iter_snoc_len h n]
    rfl
theorem iter_len {f : Nat → List Int → List Int} {a : List Int} (h : ∀ i st, (f i st).length = st.length) : ∀ n, (iter f a n).length = a.length
  | 0 => rfl
  | n + 1 => by rw [iter_succ, h, iter_len h n]
theorem dropLast_lt {x : List Int} (h : ¬ x = []) : x.dropLast.length < x.length := by
  rw [List.length_dropLast]
  have : x.length ≠ 0 := fun z => h (List.length_eq_zero_iff.mp z)
  omega
section
variable {K : PySem.W.Frag} {σ : L2.St} {H H0 H' : Hp} {ta tb te tl ty td tv : TE} {x y : V} {d e : D} {u : V} {D' : Ends} {tz tu : TS}
theorem s_forTI {a : Addr} {ns : List Int} {j : Nat} (h : Ev tl σ H (.ref a)) (hx : H a = some (.tup (il ns))) (Pv : Nat → L2.St → Hp → Prop) (h0 : ∀ H1, Ex H H1 → Pv 0 σ H1) (hl : ∀ i σ' H', Pv i σ' H' → H' a = some (.tup (il ns)))
    (hs : ∀ (i : Nat) (x : Int) σ' H', ns[i]? = some x → Pv i σ' H' → tu { D' with nx := Pv (i + 1), ct := Pv (i + 1), bk := D'.nx } (σ'.set j (some (.int x))) H') (hd : ∀ σ' H', Pv ns.length σ' H' → D'.nx σ' H') : tFor (iTup K tl) (gName j) tu D' σ H :=
  s_forT h (st_of hx) Pv h0 (fun i σ' H' _ p => st_of (hl i σ' H' p)) (fun i x σ' H' hi p => by
    rw [List.getElem?_map] at hi
    cases hn : ns[i]? with
    | none => rw [hn] at hi; cases hi
    | some n =>
      rw [hn] at hi
      cases hi
      exact hs i n σ' H' hn p) (fun σ' H' p => hd σ' H' (by rw [List.length_map] at p; exact p))
theorem q_forTI {a : Addr} {ns : List Int} {j : Nat} (h : Ev tl σ H (.ref a)) (hx : H a = some (.tup (il ns))) (Pv : Nat → L2.St → Hp → Prop) (h0 : ∀ H1, Ex H H1 → Pv 0 σ H1) (hl : ∀ i σ' H', Pv i σ' H' → H' a = some (.tup (il ns)))
    (hs : ∀ (i : Nat) (x : Int) σ' H', ns[i]? = some x → Pv i σ' H' → tu { D' with nx := Pv (i + 1), ct := Pv (i + 1), bk := tz D' } (σ'.set j (some (.int x))) H') (hd : ∀ σ' H', Pv ns.length σ' H' → tz D' σ' H') : tSeq (tFor (iTup K tl) (gName j) tu) tz D' σ H :=
  s_forTI (D' := { D' with nx := tz D' }) h hx Pv h0 hl hs hd
/-! a dict whose keys are the numbers met -/
def dct (l : List Int) : List (Key × V) := l.map fun n => (Sum.inl n, V.bl true)
theorem dct_val (n : Int) : ∀ l : List Int, (valV (dct l) (Sum.inl n)).isSome = decide (n ∈ l)
  | [] => rfl
  | m :: l => by
    have ih := dct_val n l
    show (valV ((Sum.inl m, V.bl true) :: dct l) (Sum.inl n)).isSome = _
    by_cases h : m = n
    · rw [valV_pos (congrArg Sum.inl h)]
      simp [h]
    · have h' : ¬ n = m := fun q => h q.symm
      rw [valV_neg (fun q => h (Sum.inl.inj q)), ih]
      simp [h']
theorem dct_put {n : Int} {l : List Int} (h : ¬ n ∈ l) : putK (dct l) (Sum.inl n) (V.bl true) = dct (l ++ [n]) := by
  have hv : valV (dct l) (Sum.inl n) = none := by
    have e := dct_val n l
    rw [decide_eq_false h] at e
    cases q : valV (dct l) (Sum.inl n) with
    | none => rfl
    | some v => rw [q] at e; cases e
  rw [putK_new _ hv]
  unfold dct
  rw [List.map_append]
  rfl
theorem q_asgDict {i : Nat} (k : ∀ p H1, H p = none → Ex H H1 → H1 p = some (.dK (dct [])) → tz D' (σ.set i (some (.ref p))) H1) : tSeq (tAsg tDNewK (gName i)) tz D' σ H := fun p hp => k p _ hp (Ex.new hp) upd_same
theorem ev_din {n : Int} {p : Addr} {l : List Int} (hy : Ev ty σ H (.int n)) (hd : Ev td σ H (.ref p)) (h : H p = some (.dK (dct l))) : Ev (tDIn ty td) σ H (.bl (decide (n ∈ l))) := fun H1 e Q q =>
  hy H1 e _ fun H2 e2 => hd H2 (e.trans e2) _ fun H3 e3 => ⟨p, _, rfl, DGet.k (k := Sum.inl n) (e3 _ _ (e2 _ _ (e _ _ h))), by
    rw [dct_val]
    exact q H3 (e2.trans e3)⟩
theorem s_dput {n : Int} {p : Addr} {l : List Int} (hv : Ev tv σ H (.bl true)) (hd : Ev td σ H (.ref p)) (hy : Ev ty σ H (.int n)) (h : H p = some (.dK (dct l))) (hn : ¬ n ∈ l) (hz : l.length < 100000) (k : ∀ H1, But p H H1 → H1 p = some (.dK (dct (l ++ [n]))) → D'.nx σ H1) : sDPut td ty tv D' σ H :=
  hv H (Ex.refl H) _ fun H1 e1 => hd H1 e1 _ fun H2 e2 => hy H2 (e1.trans e2) _ fun H3 e3 => ⟨p, _, rfl, DPut.k (k := Sum.inl n) (e3 _ _ (e2 _ _ (e1 _ _ h))) (sz_lt (by
    unfold dct
    rw [List.length_map]
    exact hz)), k _ (but_upd ((e1.trans e2).trans e3)) (by rw [upd_same, dct_put hn])⟩
end
/-- a row: different numbers from 1 to 250 -/
def RowOk (xs : List Int) : Prop := xs.Nodup ∧ (∀ x ∈ xs, 1 ≤ x ∧ x ≤ 250) ∧ xs.length ≤ 1000
end Kx

namespace Kx
/-! ### plain lists of numbers: trimming, places -/
theorem iter_invI {α : Type} {f : Nat → α → α} {a : α} {P : Nat → α → Prop} {n : Nat} (h0 : P 0 a) (hs : ∀ i st, i < n → P i st → P (i + 1) (f i st)) : P n (iter f a n) := by
  induction n with
  | zero => exact h0
  | succ n ih => exact hs n _ (Nat.lt_succ_self n) (ih fun i st hi => hs i st (Nat.lt_succ_of_lt hi))
theorem iter_snoc {f : Nat → List Int → List Int} {g : Nat → Int} (h : ∀ i st, f i st = st ++ [g i]) : ∀ n, iter f [] n = (List.range n).map g
  | 0 => rfl
  | n + 1 => by rw [iter_succ, h, iter_snoc h n, List.range_succ, List.map_append]; rfl
/-- the number at a place, 0 beyond -/
def co (xs : List Int) (n : Nat) : Int := xs.getD n 0
theorem gi_co (xs : List Int) (i : Int) : gi xs i = co xs i.toNat := rfl
theorem gi_nat (xs : List Int) (i : Nat) : gi xs (i : Int) = co xs i := by rw [gi_co, Int.toNat_natCast]
theorem co_nil (n : Nat) : co [] n = 0 := by simp [co]
theorem co_ge {xs : List Int} {n : Nat} (h : xs.length ≤ n) : co xs n = 0 := by
  unfold co
  rw [List.getD_eq_getElem?_getD, List.getElem?_eq_none h]
  rfl
theorem co_lt {xs : List Int} {n : Nat} (h : n < xs.length) : xs[n]? = some (co xs n) := by
  unfold co
  rw [List.getD_eq_getElem?_getD, List.getElem?_eq_getElem h]
  rfl
theorem co_zero {x : Int} {xs : List Int} : co (x :: xs) 0 = x := rfl
theorem co_succ {x : Int} {xs : List Int} {n : Nat} : co (x :: xs) (n + 1) = co xs n := by simp [co]
theorem co_app (xs ys : List Int) (n : Nat) : co (xs ++ ys) n = if n < xs.length then co xs n else co ys (n - xs.length) := by
  unfold co
  rw [List.getD_eq_getElem?_getD, List.getD_eq_getElem?_getD, List.getD_eq_getElem?_getD]
  split
  · rw [List.getElem?_append_left (by assumption)]
  · rw [List.getElem?_append_right (by omega)]
theorem co_take (xs : List Int) (k n : Nat) : co (xs.take k) n = if n < k then co xs n else 0 := by
  unfold co
  rw [List.getD_eq_getElem?_getD, List.getD_eq_getElem?_getD, List.getElem?_take]
  split <;> rfl
theorem co_map {g : Nat → Int} {m n : Nat} : co ((List.range m).map g) n = if n < m then g n else 0 := by
  unfold co
  rw [List.getD_eq_getElem?_getD, List.getElem?_map]
  split
  · rw [List.getElem?_range (by assumption)]
    rfl
  · rw [List.getElem?_eq_none (by rw [List.length_range]; omega)]
    rfl
theorem co_si (xs : List Int) (i v : Int) (n : Nat) : co (si xs i v) n = if n = i.toNat ∧ n < xs.length then v else co xs n := by
  unfold co si
  rw [List.getD_eq_getElem?_getD, List.getD_eq_getElem?_getD, List.getElem?_set]
  by_cases h : i.toNat = n
  · subst h
    by_cases h2 : i.toNat < xs.length
    · rw [if_pos rfl, if_pos h2, if_pos ⟨rfl, h2⟩]
      rfl
    · rw [if_pos rfl, if_neg h2, if_neg (fun z => h2 z.2), List.getElem?_eq_none (by omega)]
  · rw [if_neg h, if_neg (fun z => h z.1.symm)]
theorem co_zs (k : Int) (n : Nat) : co (zs k) n = 0 := by
  unfold co zs
  rw [List.getD_eq_getElem?_getD, List.getElem?_replicate]
  split <;> rfl
theorem co_rests {xs : List Int} (h : Rests xs) (n : Nat) : 0 ≤ co xs n ∧ co xs n < 251 := by
  have := rests_gi h n
  rw [gi_nat] at this
  exact this
theorem list_ext_co {xs ys : List Int} (hl : xs.length = ys.length) (h : ∀ n, n < xs.length → co xs n = co ys n) : xs = ys := by
  apply List.ext_getElem?
  intro n
  by_cases c : n < xs.length
  · rw [co_lt c, co_lt (hl ▸ c), h n c]
  · rw [List.getElem?_eq_none (by omega), List.getElem?_eq_none (by omega)]
/-- no nought at the end -/
def Tr (xs : List Int) : Prop := xs = [] ∨ co xs (xs.length - 1) ≠ 0
theorem tr_ext {xs ys : List Int} (hx : Tr xs) (hy : Tr ys) (h : ∀ n, co xs n = co ys n) : xs = ys := by
  have hl : xs.length = ys.length := by
    rcases Nat.lt_trichotomy xs.length ys.length with c | c | c
    · rcases hy with e | e
      · rw [e] at c; simp at c
      · exact absurd ((h _).symm.trans (co_ge (by omega))) e
    · exact c
    · rcases hx with e | e
      · rw [e] at c; simp at c
      · exact absurd ((h _).trans (co_ge (by omega))) e
  exact list_ext_co hl fun n _ => h n
theorem gl_co {xs : List Int} (h : xs ≠ []) : gl xs = co xs (xs.length - 1) := by
  unfold gl co
  rw [List.getLastD_eq_getLast?, List.getLast?_eq_getElem?, List.getD_eq_getElem?_getD]
theorem tr_gl {xs : List Int} (h : xs = [] ∨ gl xs ≠ 0) : Tr xs := by
  rcases h with h | h
  · exact .inl h
  · by_cases c : xs = []
    · exact .inl c
    · exact .inr (by rw [← gl_co c]; exact h)
/-- without the noughts at the end -/
def trim (xs : List Int) : List Int := xs.take (whl (fun n => decide (0 < n) && decide (co xs (n - 1) = 0)) (fun n => n - 1) xs.length xs.length)
theorem trim_step {xs : List Int} : ∀ m, m ≤ xs.length → (∀ k, m ≤ k → co xs k = 0) → (xs.take (whl (fun n => decide (0 < n) && decide (co xs (n - 1) = 0)) (fun n => n - 1) m m)).length ≤ m ∧ Tr (xs.take (whl (fun n => decide (0 < n) && decide (co xs (n - 1) = 0)) (fun n => n - 1) m m)) ∧ ∀ n, co (xs.take (whl (fun n => decide (0 < n) && decide (co xs (n - 1) = 0)) (fun n => n - 1) m m)) n = co xs n
  | 0, _, h => by
    refine ⟨?_, .inl ?_, fun n => ?_⟩
    · show (xs.take 0).length ≤ 0
      simp
    · show xs.take 0 = []
      simp
    · show co (xs.take 0) n = co xs n
      rw [h n (Nat.zero_le n)]
      simp [co_nil]
  | m + 1, hm, h => by
    by_cases c : co xs m = 0
    · have e : whl (fun n => decide (0 < n) && decide (co xs (n - 1) = 0)) (fun n => n - 1) (m + 1) (m + 1) = whl (fun n => decide (0 < n) && decide (co xs (n - 1) = 0)) (fun n => n - 1) m m := by
        show (if (decide (0 < m + 1) && decide (co xs (m + 1 - 1) = 0)) = true then _ else _) = _
        rw [if_pos (by rw [decide_eq_true (Nat.succ_pos m), decide_eq_true (show co xs (m + 1 - 1) = 0 from c)]; rfl)]
        rfl
      rw [e]
      obtain ⟨h1, h2, h3⟩ := trim_step (xs := xs) m (by omega) (fun k hk => by
        by_cases q : k = m
        · rw [q]; exact c
        · exact h k (by omega))
      exact ⟨Nat.le_succ_of_le h1, h2, h3⟩
    · have e : whl (fun n => decide (0 < n) && decide (co xs (n - 1) = 0)) (fun n => n - 1) (m + 1) (m + 1) = m + 1 := by
        show (if (decide (0 < m + 1) && decide (co xs (m + 1 - 1) = 0)) = true then _ else _) = _
        rw [if_neg (by rw [decide_eq_false (show ¬ co xs (m + 1 - 1) = 0 from c), Bool.and_false]; decide)]
      rw [e]
      have hl : (xs.take (m + 1)).length = m + 1 := by rw [List.length_take]; omega
      refine ⟨Nat.le_of_eq hl, .inr ?_, fun n => ?_⟩
      · rw [hl, co_take, if_pos (by omega)]
        exact c
      · rw [co_take]
        split
        · rfl
        · exact (h n (by omega)).symm
theorem trim_tr (xs : List Int) : Tr (trim xs) := (trim_step xs.length (Nat.le_refl _) (fun _ hk => co_ge hk)).2.1
theorem trim_co (xs : List Int) (n : Nat) : co (trim xs) n = co xs n := (trim_step xs.length (Nat.le_refl _) (fun _ hk => co_ge hk)).2.2 n
theorem trim_len (xs : List Int) : (trim xs).length ≤ xs.length := (trim_step xs.length (Nat.le_refl _) (fun _ hk => co_ge hk)).1
theorem trim_id {xs : List Int} (h : Tr xs) : trim xs = xs := tr_ext (trim_tr xs) h (trim_co xs)
theorem trim_eq {xs ys : List Int} (h : Tr ys) (hc : ∀ n, co ys n = co xs n) : ys = trim xs := tr_ext h (trim_tr xs) fun n => (hc n).trans (trim_co xs n).symm
theorem trim_rests {xs : List Int} (h : Rests xs) : Rests (trim xs) := rests_sub h fun _ hx => List.mem_of_mem_take hx
/-- the law's own way: the last one is dropped while it is 0 -/
theorem drop_end {c : List Int → Bool} {f : List Int → List Int} (hc : ∀ x, c x = ((!decide (x = [])) && decide (gl x = 0))) (hf : ∀ x, f x = x.dropLast) : ∀ (n : Nat) (xs : List Int), xs.length ≤ n → whl c f n xs = trim xs
  | 0, xs, h => by
    have e : xs = [] := List.length_eq_zero_iff.mp (by omega)
    rw [e]
    rfl
  | n + 1, xs, h => by
    show (if c xs = true then whl c f n (f xs) else xs) = trim xs
    by_cases e : xs = []
    · rw [if_neg (by rw [hc, decide_eq_true e]; simp), e]
      rfl
    · by_cases g : gl xs = 0
      · rw [if_pos (by rw [hc, decide_eq_false e, decide_eq_true g]; rfl), hf, drop_end hc hf n xs.dropLast (by have := dropLast_lt e; omega)]
        refine tr_ext (trim_tr _) (trim_tr _) fun k => ?_
        rw [trim_co, trim_co, List.dropLast_eq_take, co_take]
        split
        · rfl
        · by_cases q : k = xs.length - 1
          · rw [q, ← gl_co e]; exact g.symm
          · exact (co_ge (by omega)).symm
      · rw [if_neg (by rw [hc, decide_eq_false g, Bool.and_false]; decide)]
        exact (trim_id (tr_gl (.inr g))).symm
end Kx

namespace Pf
open PySem PySem.Spec PyProof.Rows L2 Evl Kx
local macro_rules | `(tactic| walk_at "kside") => `(tactic| first | assumption | omega | (constructor <;> first | assumption | omega) | (simp only [List.length_cons, List.length_nil, List.length_append, List.length_map, zs_len, si_len, rng_len] at *; omega) | exact Nat.le_trans (List.length_filter_le _ _) (by simp only [rng_len]; omega))
local macro_rules | `(tactic| walk_at "kmul") => `(tactic| first | exact .inr ⟨by omega, by omega⟩ | exact .inl ⟨by omega, by omega⟩)
def topS (i : Nat) : Stmt := PySem.Challenge.pw_sumsync_k13_sound.main.body.getD i (.Pass ⟨0, 0, 0, 0⟩)
abbrev s__law_cell_at : Stmt := topS 11
abbrev s__law_row : Stmt := topS 13
abbrev s__law_some : Stmt := topS 15
abbrev s_is_number : Stmt := topS 5
abbrev s_need_row : Stmt := topS 6
abbrev s_sound : Stmt := topS 8
abbrev s_law : Stmt := topS 16
theorem sc__law_cell_at : FnScope ["_law_script", "_law_k"] ["_law_script", "_law_k"] (defScope s__law_cell_at) := ⟨rfl, rfl, rfl, by decide +kernel, rfl, by decide +kernel, by decide +kernel⟩
theorem sc__law_row : FnScope ["_law_script", "_law_at", "_law_most", "_law_cell", "_law_step", "_law_begin", "_law_found", "_law_k", "_law_number"] ["_law_script", "_law_at", "_law_most"] (defScope s__law_row) := ⟨rfl, rfl, rfl, by decide +kernel, rfl, by decide +kernel, by decide +kernel⟩
theorem sc__law_some : FnScope ["_law_row_here", "_law_cell", "_law_is_in", "_law_found", "_law_odd", "_law_k", "_law_number"] ["_law_row_here", "_law_cell", "_law_is_in"] (defScope s__law_some) := ⟨rfl, rfl, rfl, by decide +kernel, rfl, by decide +kernel, by decide +kernel⟩
theorem sc_is_number : FnScope ["thing", "least", "most"] ["thing", "least", "most"] (defScope s_is_number) := ⟨rfl, rfl, rfl, by decide +kernel, rfl, by decide +kernel, by decide +kernel⟩
theorem sc_need_row : FnScope ["row", "met", "number"] ["row"] (defScope s_need_row) := ⟨rfl, rfl, rfl, by decide +kernel, rfl, by decide +kernel, by decide +kernel⟩
theorem sc_sound : FnScope ["row", "lacked", "over", "number"] ["row", "lacked", "over"] (defScope s_sound) := ⟨rfl, rfl, rfl, by decide +kernel, rfl, by decide +kernel, by decide +kernel⟩
theorem sc_law : FnScope ["_law_script", "_law_row_here", "_law_lacked", "_law_over", "_law_due", "_law_number", "_law_handed", "_law_turn", "_law_found"] ["_law_script"] (defScope s_law) := ⟨rfl, rfl, rfl, by decide +kernel, rfl, by decide +kernel, by decide +kernel⟩
structure Txt (K : PySem.W.Frag) (mg : Str → Option Value) (fa : Nat → Addr) (fd : Nat → FuncData) : Prop where
  F__law_cell_at : Fun K "_law_cell_at" "_law_cell_at" s__law_cell_at (fa 0) (fd 0)
  b__law_cell_at : Binds K (fd 0) ["_law_script", "_law_k"] []
  g__law_cell_at : mg "_law_cell_at" = some (.ref (fa 0))
  F__law_row : Fun K "_law_row" "_law_row" s__law_row (fa 1) (fd 1)
  b__law_row : Binds K (fd 1) ["_law_script", "_law_at", "_law_most"] []
  g__law_row : mg "_law_row" = some (.ref (fa 1))
  F__law_some : Fun K "_law_some" "_law_some" s__law_some (fa 2) (fd 2)
  b__law_some : Binds K (fd 2) ["_law_row_here", "_law_cell", "_law_is_in"] []
  g__law_some : mg "_law_some" = some (.ref (fa 2))
  F_is_number : Fun K "is_number" "is_number" s_is_number (fa 3) (fd 3)
  b_is_number : Binds K (fd 3) ["thing", "least", "most"] []
  g_is_number : mg "is_number" = some (.ref (fa 3))
  F_need_row : Fun K "need_row" "need_row" s_need_row (fa 4) (fd 4)
  b_need_row : Binds K (fd 4) ["row"] []
  g_need_row : mg "need_row" = some (.ref (fa 4))
  F_sound : Fun K "sound" "sound" s_sound (fa 5) (fd 5)
  b_sound : Binds K (fd 5) ["row", "lacked", "over"] []
  g_sound : mg "sound" = some (.ref (fa 5))
  F_law : Fun K "law" "law" s_law (fa 6) (fd 6)
  b_law : Binds K (fd 6) ["_law_script"] []
  g_law : mg "law" = some (.ref (fa 6))
  n_all : mg "all" = none
  n_any : mg "any" = none
  n_bool : mg "bool" = none
  n_int : mg "int" = none
  n_isinstance : mg "isinstance" = none
  n_len : mg "len" = none
  n_list : mg "list" = none
  n_range : mg "range" = none
  v_PRIME : ∃ t, mg "PRIME" = some (.int 251 t)
def m_law_cell_at (v_script : List Int) (v_k : Int) : Int := (bif decide (v_k < (v_script.length : Int)) then gi v_script v_k else 0)
def m_law_row_J1 (v_begin_9 : Int) (i13 : Nat) (v_number_18 : Int) : Int := (bif decide (v_begin_9 % 3 = 1) then (let v_number_25 : Int := 1 + ((((v_begin_9 / 3 + (((i13 : Int) * (i13 : Int)) * 7919) + ((i13 : Int) * 48271)) * 69621) % 1000003) % 250); v_number_25) else v_number_18)
def m_law_row_J2 (v_script : List Int) (v_at : Int) (v_begin_9 : Int) (i13 : Nat) (v_number_19 : Int) : Int := (bif decide (v_begin_9 % 3 = 2) then (let v_number_35 : Int := 1 + ((m_law_cell_at v_script (8 + (20 * v_at) + (i13 : Int))) % 250); v_number_35) else v_number_19)
def m_law_row_L1s (v_script : List Int) (v_at : Int) (v_step_6 : Int) (v_begin_9 : Int) (i13 : Nat) (v_found_14 : List Int) : (List Int) := (let v_number_18 : Int := 1 + ((v_begin_9 + (v_step_6 * (i13 : Int))) % 250); (let v_number_19 : Int := m_law_row_J1 v_begin_9 i13 v_number_18; (let v_number_29 : Int := m_law_row_J2 v_script v_at v_begin_9 i13 v_number_19; (bif !decide (v_number_29 ∈ v_found_14) then v_found_14 ++ [v_number_29] else v_found_14))))
def m_law_row_L1 (v_script : List Int) (v_at : Int) (v_most : Int) (v_cell_3 : Int) (v_step_6 : Int) (v_begin_9 : Int) : (List Int) := iter (m_law_row_L1s v_script v_at v_step_6 v_begin_9) [] ((v_cell_3 % (v_most + 1) : Int).toNat)
def m_law_row (v_script : List Int) (v_at : Int) (v_most : Int) : List Int := (let v_cell_3 : Int := m_law_cell_at v_script v_at; (let v_step_6 : Int := gi [1, 3, 7, 9, 11, 13, 37, 121, 249, 97] ((v_cell_3 / (v_most + 1)) % 10); (let v_begin_9 : Int := (v_cell_3 / (v_most + 1)) / 10; (let v_found_51 : List Int := (m_law_row_L1 v_script v_at v_most v_cell_3 v_step_6 v_begin_9); v_found_51))))
theorem law_row_inv (s : List Int) (a b c : Int) (n : Nat) : (iter (m_law_row_L1s s a b c) [] n).Nodup ∧ (∀ x ∈ iter (m_law_row_L1s s a b c) [] n, 1 ≤ x ∧ x ≤ 250) ∧ (iter (m_law_row_L1s s a b c) [] n).length ≤ n := by
  refine iter_invI (P := fun n (st : List Int) => st.Nodup ∧ (∀ x ∈ st, 1 ≤ x ∧ x ≤ 250) ∧ st.length ≤ n) ⟨List.nodup_nil, fun _ h => (nomatch h), Nat.le_refl _⟩ (fun i st _ h => ?_)
  unfold m_law_row_L1s
  dsimp only
  generalize hx : m_law_row_J2 s a c i (m_law_row_J1 c i (1 + (c + b * (i : Int)) % 250)) = x
  have hb : 1 ≤ x ∧ x ≤ 250 := by
    rw [← hx]
    unfold m_law_row_J2
    cases decide (c % 3 = 2)
    · simp only [cond_false]
      unfold m_law_row_J1
      cases decide (c % 3 = 1)
      · simp only [cond_false]; omega
      · simp only [cond_true]; omega
    · simp only [cond_true]; omega
  cases hd : (!decide (x ∈ st)) with
  | false =>
    simp only [cond_false]
    exact ⟨h.1, h.2.1, by have := h.2.2; omega⟩
  | true =>
    simp only [cond_true]
    have hn : ¬ x ∈ st := by simpa using hd
    refine ⟨?_, fun y hy => ?_, ?_⟩
    · rw [List.nodup_append]
      exact ⟨h.1, by simp, fun y hy z hz => by
        rw [List.mem_singleton.mp hz]
        exact fun q => hn (q ▸ hy)⟩
    · rcases List.mem_append.mp hy with q | q
      · exact h.2.1 y q
      · rw [List.mem_singleton.mp q]; exact hb
    · rw [List.length_append]
      have := h.2.2
      simp only [List.length_cons, List.length_nil]
      omega
theorem law_row_ok (s : List Int) (a m : Int) (h : 0 ≤ m ∧ m ≤ 250) : RowOk (m_law_row s a m) ∧ (m_law_row s a m).length ≤ m := by
  have h2 := law_row_inv s a (gi [1, 3, 7, 9, 11, 13, 37, 121, 249, 97] (m_law_cell_at s a / (m + 1) % 10)) (m_law_cell_at s a / (m + 1) / 10) (m_law_cell_at s a % (m + 1)).toNat
  have h3 := Int.emod_lt_of_pos (m_law_cell_at s a) (show 0 < m + 1 by omega)
  have h4 := Int.emod_nonneg (m_law_cell_at s a) (show m + 1 ≠ 0 by omega)
  exact ⟨⟨h2.1, h2.2.1, by
    have := h2.2.2
    show (iter (m_law_row_L1s s a (gi [1, 3, 7, 9, 11, 13, 37, 121, 249, 97] (m_law_cell_at s a / (m + 1) % 10)) (m_law_cell_at s a / (m + 1) / 10)) [] (m_law_cell_at s a % (m + 1)).toNat).length ≤ 1000
    omega⟩, by
    have := h2.2.2
    show ((iter (m_law_row_L1s s a (gi [1, 3, 7, 9, 11, 13, 37, 121, 249, 97] (m_law_cell_at s a / (m + 1) % 10)) (m_law_cell_at s a / (m + 1) / 10)) [] (m_law_cell_at s a % (m + 1)).toNat).length : Int) ≤ m
    omega⟩
theorem nodup_sub : ∀ {l m : List Int}, l.Nodup → (∀ x ∈ l, x ∈ m) → l.length ≤ m.length
  | [], _, _, _ => Nat.zero_le _
  | x :: l, m, hn, hs => by
    have hx : x ∈ m := hs x List.mem_cons_self
    have hn' := List.nodup_cons.mp hn
    have ih := nodup_sub (l := l) (m := m.erase x) hn'.2 (fun y hy => (List.mem_erase_of_ne (fun (q : y = x) => hn'.1 (by rw [← q]; exact hy))).mpr (hs y (List.mem_cons_of_mem _ hy)))
    have hl : (m.erase x).length = m.length - 1 := List.length_erase_of_mem hx
    have hp : 0 < m.length := List.length_pos_of_mem hx
    rw [List.length_cons]
    omega
theorem rng_nodup (lo hi : Int) : (rng lo hi).Nodup := by
  unfold rng
  rw [List.nodup_iff_pairwise_ne, List.pairwise_map]
  exact List.nodup_range.imp fun h q => h (by omega)
def ywit (row : List Int) : Int := ((rng 1 251).find? fun y => !decide (y ∈ row)).getD 0
theorem ywit_ok {row : List Int} (h : RowOk row) (hl : row.length < 250) : (1 ≤ ywit row ∧ ywit row ≤ 250) ∧ ¬ ywit row ∈ row := by
  unfold ywit
  cases e : (rng 1 251).find? fun y => !decide (y ∈ row) with
  | none =>
    have h1 := List.find?_eq_none.mp e
    have h2 := nodup_sub (rng_nodup 1 251) (fun x hx => by
      have := h1 x hx
      simpa using this : ∀ x ∈ rng 1 251, x ∈ row)
    rw [rng_len] at h2
    omega
  | some y =>
    have h1 := List.find?_some e
    have h2 := rng_mem.mp (List.mem_of_find?_eq_some e)
    have h3 : ¬ y ∈ row := by simpa using h1
    exact ⟨⟨h2.1, by show y ≤ 250; omega⟩, h3⟩
theorem some_step {row : List Int} (h : RowOk row) (hl : row.length < 250) {x : Int} (hx : 1 ≤ x ∧ x ≤ 250) (hm : x ∈ row) : (1 ≤ 1 + x % 250 ∧ 1 + x % 250 ≤ 250) ∧ ((ywit row - (1 + x % 250)) % 250).toNat < ((ywit row - x) % 250).toNat := by
  obtain ⟨⟨h1, h2⟩, h3⟩ := ywit_ok h hl
  have hne : ywit row ≠ x := fun q => h3 (q ▸ hm)
  omega
def m_law_some_L2c (v_row_here : List Int) (v_number_24 : Int) : Bool := decide (v_number_24 ∈ v_row_here)
def m_law_some_L2s (v_row_here : List Int) (v_number_24 : Int) : Int := (let v_number_27 : Int := 1 + (v_number_24 % 250); v_number_27)
def m_law_some_L2I (v_row_here : List Int) (v_number_24 : Int) : Prop := 1 ≤ v_number_24 ∧ v_number_24 ≤ 250
def m_law_some_L2m (v_row_here : List Int) (v_number_24 : Int) : Nat := ((ywit v_row_here - v_number_24) % 250).toNat
def m_law_some_L2 (v_row_here : List Int) (v_number_12 : Int) : Int := whl (m_law_some_L2c v_row_here) (m_law_some_L2s v_row_here) ((m_law_some_L2m v_row_here) v_number_12) v_number_12
def m_law_some_J1 (v_row_here : List Int) (v_cell : Int) (v_is_in : Bool) (v_odd_6 : Int) (i7 : Nat) (v_number_12 : Int) : Int := (bif (!decide ((decide ((i7 : Int) = v_odd_6)) = v_is_in)) && (!decide (v_row_here = [])) then (let v_number_20 : Int := gi v_row_here ((v_cell / 48 + (31 * (i7 : Int))) % (v_row_here.length : Int)); v_number_20) else (bif decide ((v_row_here.length : Int) < 250) then (let v_number_35 : Int := (m_law_some_L2 v_row_here v_number_12); v_number_35) else v_number_12))
def m_law_some_J2 (v_cell : Int) (v_odd_6 : Int) (i7 : Nat) (v_number_13 : Int) : Int := (bif (decide ((v_cell / 48) % 5 = 1)) && (decide ((i7 : Int) = v_odd_6)) then (let v_number_47 : Int := gi [0, 251, (-1), 250 + v_number_13, 0 - v_number_13, 10 ^ (20 : Int).toNat] ((v_cell / 240) % 6); v_number_47) else v_number_13)
def m_law_some_L1s (v_row_here : List Int) (v_cell : Int) (v_is_in : Bool) (v_odd_6 : Int) (i7 : Nat) (v_found_8 : List Int) : (List Int) := (let v_number_12 : Int := 1 + ((((v_cell / 48 + (7919 * (i7 : Int))) * 48271) % 1000003) % 250); (let v_number_13 : Int := m_law_some_J1 v_row_here v_cell v_is_in v_odd_6 i7 v_number_12; (let v_number_40 : Int := m_law_some_J2 v_cell v_odd_6 i7 v_number_13; v_found_8 ++ [v_number_40])))
def m_law_some_L1 (v_row_here : List Int) (v_cell : Int) (v_is_in : Bool) (v_odd_6 : Int) : (List Int) := iter (m_law_some_L1s v_row_here v_cell v_is_in v_odd_6) [] ((v_cell % 6 : Int).toNat)
def m_law_some (v_row_here : List Int) (v_cell : Int) (v_is_in : Bool) : List Int := (let v_odd_6 : Int := (v_cell / 6) % 8; (let v_found_59 : List Int := (m_law_some_L1 v_row_here v_cell v_is_in v_odd_6); v_found_59))
theorem law_some_len (row : List Int) (c : Int) (b : Bool) : (m_law_some row c b).length ≤ 5 := by
  have e : (m_law_some row c b).length = 0 + (c % 6).toNat := iter_snoc_len (f := m_law_some_L1s row c b (c / 6 % 8)) (fun i st => ⟨_, rfl⟩) (c % 6).toNat
  omega
def m_is_number (v_thing : Int) (v_least : Int) (v_most : Int) : Bool := decide (v_least ≤ v_thing) && decide (v_thing ≤ v_most)
theorem is_number_ok {t l m : Int} (h1 : l ≤ t) (h2 : t ≤ m) : m_is_number t l m = true := by
  show (decide (l ≤ t) && decide (t ≤ m)) = true
  rw [decide_eq_true h1, decide_eq_true h2]
  rfl
def m_need_row (v_row : List Int) : Unit := ()
theorem nodup_take {l : List Int} {i : Nat} {x : Int} (h : l.Nodup) (hx : l[i]? = some x) : ¬ x ∈ l.take i := fun hm => by
  obtain ⟨j, hj⟩ := List.mem_iff_getElem?.mp hm
  rw [List.getElem?_take] at hj
  split at hj
  · rename_i q
    obtain ⟨h1, e1⟩ := List.getElem?_eq_some_iff.mp hj
    obtain ⟨h2, e2⟩ := List.getElem?_eq_some_iff.mp hx
    have := (List.getElem_inj h).mp (e1.trans e2.symm)
    omega
  · cases hj
def m_sound (v_row : List Int) (v_lacked : List Int) (v_over : List Int) : Bool := ((v_lacked.map fun v_number_c3 => decide (v_number_c3 ∈ v_row)).all id) && (!((v_over.map fun v_number_c5 => decide (v_number_c5 ∈ v_row)).any id))
def m_law_J1 (v_script : List Int) (v_row_here_4 : List Int) : (List Int) := (bif decide ((m_law_cell_at v_script 3) % 8 = 1) then (let v_row_here_12 : List Int := m_law_row v_script 0 250; v_row_here_12) else v_row_here_4)
def m_law_L1s (v_row_here_5 : List Int) (v_due_27 : Bool) (v_number_28 : Int) : Bool := (let v_due_32 : Bool := v_due_27 && (decide (v_number_28 ∈ v_row_here_5)); v_due_32)
def m_law_L1 (v_row_here_5 : List Int) (v_lacked_19 : List Int) : Bool := v_lacked_19.foldl (m_law_L1s v_row_here_5) true
def m_law_L2s (v_row_here_5 : List Int) (v_due_41 : Bool) (v_number_42 : Int) : Bool := (let v_due_46 : Bool := v_due_41 && (!decide (v_number_42 ∈ v_row_here_5)); v_due_46)
def m_law_L2 (v_row_here_5 : List Int) (v_over_23 : List Int) (v_due_39 : Bool) : Bool := v_over_23.foldl (m_law_L2s v_row_here_5) v_due_39
def m_law_L3b (v_row_here_5 : List Int) (v_lacked_19 : List Int) (v_over_23 : List Int) (v_due_53 : Bool) (i60 : Nat) : Option Bool := (let v_found_64 : Bool := m_sound v_row_here_5 v_lacked_19 v_over_23; (bif (!decide (v_found_64 = v_due_53)) || (!decide ([v_row_here_5, v_lacked_19, v_over_23] = [v_row_here_5, v_lacked_19, v_over_23])) then some false else none))
def m_law (v_script : List Int) : Bool := (let v_row_here_4 : List Int := m_law_row v_script 0 24; (let v_row_here_5 : List Int := m_law_J1 v_script v_row_here_4; (let v_lacked_19 : List Int := m_law_some v_row_here_5 (m_law_cell_at v_script 1) true; (let v_over_23 : List Int := m_law_some v_row_here_5 (m_law_cell_at v_script 2) false; (let v_due_39 : Bool := (m_law_L1 v_row_here_5 v_lacked_19); (let v_due_53 : Bool := (m_law_L2 v_row_here_5 v_over_23 v_due_39); (Option.getD (first (m_law_L3b v_row_here_5 v_lacked_19 v_over_23 v_due_53) ((2 : Int).toNat)) true)))))))
theorem law_J1_ok (s : List Int) (r : List Int) (h : RowOk r ∧ (r.length : Int) ≤ 24) : RowOk (m_law_J1 s r) ∧ (m_law_J1 s r).length ≤ 250 := by
  unfold m_law_J1
  cases decide (m_law_cell_at s 3 % 8 = 1)
  · exact ⟨h.1, by show r.length ≤ 250; omega⟩
  · have := law_row_ok s 0 250 (by decide)
    exact ⟨this.1, by show (m_law_row s 0 250).length ≤ 250; omega⟩
section
variable {P : Program} {w : World} {K : PySem.W.Frag} {mg : Str → Option Value} {base : Heap} {fa : Nat → Addr} {fd : Nat → FuncData}
def sp__law_cell_at (K : PySem.W.Frag) : Sp := spG K (fun (a : (List Int) × Int) => [.s (il a.1), .v (.int a.2)]) (fun a => (0 ≤ a.2)) (fun a => .v (.int (m_law_cell_at a.1 a.2)))
theorem cl__law_cell_at {K : PySem.W.Frag} {σ : L2.St} {H : Hp} {ta : TA} {E : XK} (v_script : List Int) (v_k : Int) (h : EvAs K ta σ H [.s (il v_script), .v (.int v_k)]) (hp : (0 ≤ v_k)) : Ev (tCall (sp__law_cell_at K) [] E ta) σ H (.int (m_law_cell_at v_script v_k)) := ev_ofN (en_call (a := (v_script, v_k)) h hp)
theorem ok__law_cell_at (T : Txt K mg fa fd) : FnOk P w K mg base CX0 1 (fa 0) (fd 0) ["_law_script", "_law_k"] (sp__law_cell_at K) := by
  refine T.F__law_cell_at.ok sc__law_cell_at (fun vs H Q E h => ?_) (fun cdv A outer s H0 vs Q E hr h => ?_)
  · obtain ⟨a, r, _⟩ := h
    exact r.length
  · obtain ⟨⟨v_script, v_k⟩, r, hpre, k⟩ := h
    replace r : Paired (fun u d => D.rep K d u H0) vs [.s (il v_script), .v (.int v_k)] := r
    obtain ⟨u_v_script, tl_v_script, hvs0, r_v_script, r0⟩ := paired_cons r
    clear r
    subst hvs0
    obtain ⟨a_v_script, rfl, h_a_v_script0⟩ := r_v_script
    obtain ⟨u_v_k, tl_v_k, hvs1, r_v_k, r1⟩ := paired_cons r0
    clear r0
    subst hvs1
    obtain rfl : u_v_k = .int v_k := r_v_k
    obtain rfl := paired_nil r1
    have hp0 := hpre
    replace hp0 : 0 ≤ v_k := hp0
    have ex : Ex H0 H0 := Ex.refl H0
    refine ⟨_, (pss_cons (ps_if (pt_cmpR op_lt (pv 1) (pe_callB (r := rLenS K) call_len_seq (by rfl) T.n_len PySem.boot_len (pa_cons (pv 0) pa_nil)) (nomark _)) (pss_one (ps_ret (pe_ix (r := rIxL K) ix_list (pv 0) (pv 1) (fun _ _ => rfl)))) pss_nil)
      (pss_one (ps_ret pe_int))), ?_⟩
    refine q_when (b := decide (v_k < (v_script.length : Int))) (et_test (ev_op (ev_var rfl) (ev_lenS (ed_var rfl ⟨_, rfl, ex_l ex h_a_v_script0⟩)) rv_I0)) (fun hb3 H1 e2 => ?_) (fun hb3 H1 e2 => ?_)
    ·
      have hq3 := hb3
      (try simp only [Bool.and_eq_true, Bool.or_eq_true, Bool.not_eq_true', Bool.not_eq_false', Bool.and_eq_false_iff, Bool.or_eq_false_iff, decide_eq_true_eq, decide_eq_false_iff_not] at hq3)
      have ex := ex.trans e2
      refine s_ret (ev_ixS (ed_var rfl ⟨_, rfl, ex_l ex h_a_v_script0⟩) (ev_var rfl) (by walk_at "kside")) (fun H4 e5 => ?_)
      exact k _ _ (ex.trans e5) (ret_eq (congrArg (fun z : Int => (.v (.int z) : D)) (show m_law_cell_at v_script v_k = (gi v_script v_k) from (Eq.trans (cond_t hb3) rfl))) rfl)
    ·
      have hq3 := hb3
      (try simp only [Bool.and_eq_true, Bool.or_eq_true, Bool.not_eq_true', Bool.not_eq_false', Bool.and_eq_false_iff, Bool.or_eq_false_iff, decide_eq_true_eq, decide_eq_false_iff_not] at hq3)
      have ex := ex.trans e2
      refine s_ret ev_c (fun H8 e9 => ?_)
      exact k _ _ (ex.trans e9) (ret_eq (congrArg (fun z : Int => (.v (.int z) : D)) (show m_law_cell_at v_script v_k = 0 from (Eq.trans (cond_f hb3) rfl))) rfl)
def sp__law_row (K : PySem.W.Frag) : Sp := spG K (fun (a : (List Int) × Int × Int) => [.s (il a.1), .v (.int a.2.1), .v (.int a.2.2)]) (fun a => (0 ≤ a.2.1 ∧ a.2.1 ≤ 10) ∧ (0 ≤ a.2.2 ∧ a.2.2 ≤ 250)) (fun a => .l (il (m_law_row a.1 a.2.1 a.2.2)))
theorem cl__law_row {K : PySem.W.Frag} {σ : L2.St} {H : Hp} {ta : TA} {E : XK} (v_script : List Int) (v_at : Int) (v_most : Int) (h : EvAs K ta σ H [.s (il v_script), .v (.int v_at), .v (.int v_most)]) (hp : (0 ≤ v_at ∧ v_at ≤ 10) ∧ (0 ≤ v_most ∧ v_most ≤ 250)) : EvN K (tCall (sp__law_row K) [] E ta) σ H (.l (il (m_law_row v_script v_at v_most))) := en_call (a := (v_script, v_at, v_most)) h hp
theorem ok__law_row (T : Txt K mg fa fd) : FnOk P w K mg base CX0 2 (fa 1) (fd 1) ["_law_script", "_law_at", "_law_most"] (sp__law_row K) := by
  have G__law_cell_at := ok__law_cell_at (P := P) (w := w) (base := base) T
  refine T.F__law_row.ok sc__law_row (fun vs H Q E h => ?_) (fun cdv A outer s H0 vs Q E hr h => ?_)
  · obtain ⟨a, r, _⟩ := h
    exact r.length
  · obtain ⟨⟨v_script, v_at, v_most⟩, r, hpre, k⟩ := h
    replace r : Paired (fun u d => D.rep K d u H0) vs [.s (il v_script), .v (.int v_at), .v (.int v_most)] := r
    obtain ⟨u_v_script, tl_v_script, hvs0, r_v_script, r0⟩ := paired_cons r
    clear r
    subst hvs0
    obtain ⟨a_v_script, rfl, h_a_v_script0⟩ := r_v_script
    obtain ⟨u_v_at, tl_v_at, hvs1, r_v_at, r1⟩ := paired_cons r0
    clear r0
    subst hvs1
    obtain rfl : u_v_at = .int v_at := r_v_at
    obtain ⟨u_v_most, tl_v_most, hvs2, r_v_most, r2⟩ := paired_cons r1
    clear r1
    subst hvs2
    obtain rfl : u_v_most = .int v_most := r_v_most
    obtain rfl := paired_nil r2
    obtain ⟨hp0, hp1⟩ := hpre
    replace hp0 : 0 ≤ v_at ∧ v_at ≤ 10 := hp0
    replace hp1 : 0 ≤ v_most ∧ v_most ≤ 250 := hp1
    have ex : Ex H0 H0 := Ex.refl H0
    refine ⟨_, (pss_cons (ps_set (i := 3) sc__law_row.nd rfl (.inl rfl) (pe_call G__law_cell_at (hr.mono (by decide)) (by rfl) T.g__law_cell_at T.F__law_cell_at.kp T.b__law_cell_at .nil pass0 (pa_cons (pv 0) (pa_cons (pv 1) pa_nil))))
      (pss_cons (ps_set (i := 4) sc__law_row.nd rfl (.inl rfl) (pe_ix (r := rIxL K) ix_list (pe_lst (pa_cons pe_int (pa_cons pe_int (pa_cons pe_int (pa_cons pe_int (pa_cons pe_int (pa_cons pe_int (pa_cons pe_int (pa_cons pe_int (pa_cons pe_int (pa_cons pe_int pa_nil))))))))))) (pe_op op_mod (pe_op op_fdiv (pv 3) (pe_op op_add (pv 2) pe_int)) pe_int) (fun _ _ => rfl)))
      (pss_cons (ps_set (i := 5) sc__law_row.nd rfl (.inl rfl) (pe_op op_fdiv (pe_op op_fdiv (pv 3) (pe_op op_add (pv 2) pe_int)) pe_int))
      (pss_cons (ps_set (i := 6) sc__law_row.nd rfl (.inl rfl) (pe_lst pa_nil))
      (pss_cons (ps_for PassesOwn.never rfl (pi_range1 (by rfl) T.n_range (pa_cons (pe_op op_mod (pv 3) (pe_op op_add (pv 2) pe_int)) pa_nil)) (pg_name (i := 7) sc__law_row.nd rfl (.inl rfl)) (pss_cons (ps_set (i := 8) sc__law_row.nd rfl (.inl rfl) (pe_op op_add pe_int (pe_op op_mod (pe_op op_add (pv 5) (pe_op op_mul (pv 4) (pv 7))) pe_int)))
      (pss_cut (ps_if (pt_cmpR op_eq (pe_op op_mod (pv 5) pe_int) pe_int (nomark _)) (pss_one (ps_set (i := 8) sc__law_row.nd rfl (.inl rfl) (pe_op op_add pe_int (pe_op op_mod (pe_op op_mod (pe_op op_mul (pe_op op_add (pe_op op_add (pe_op op_fdiv (pv 5) pe_int) (pe_op op_mul (pe_op op_mul (pv 7) (pv 7)) pe_int)) (pe_op op_mul (pv 7) pe_int)) pe_int) pe_int) pe_int)))) pss_nil)
      (pss_cut (ps_if (pt_cmpR op_eq (pe_op op_mod (pv 5) pe_int) pe_int (nomark _)) (pss_one (ps_set (i := 8) sc__law_row.nd rfl (.inl rfl) (pe_op op_add pe_int (pe_op op_mod (pe_call G__law_cell_at (hr.mono (by decide)) (by rfl) T.g__law_cell_at T.F__law_cell_at.kp T.b__law_cell_at .nil pass0 (pa_cons (pv 0) (pa_cons (pe_op op_add (pe_op op_add pe_int (pe_op op_mul pe_int (pv 1))) (pv 7)) pa_nil))) pe_int)))) pss_nil)
      (pss_one (ps_if (pt_cmpR (r := rIn K true) op_notIn_seq (pv 8) (pv 6) (by rfl)) (pss_one (ps_expr (pe_bm PySem.F.plainAttrs_list PySem.F.slot_list_append PySem.F.type_list_append mt_append (pv 6) (pa_cons (pv 8) pa_nil)))) pss_nil))))))
      (pss_one (ps_ret (pv 6)))))))), ?_⟩
    obtain ⟨v_cell_3, e_v_cell_3⟩ : ∃ z : Int, z = (m_law_cell_at v_script v_at) := ⟨_, rfl⟩
    refine q_asg (v := .int v_cell_3) (ev_is (cl__law_cell_at v_script v_at (eas_cons (ed_var rfl ⟨_, rfl, ex_l ex h_a_v_script0⟩) (eas_cons (ed_v (ev_var rfl)) eas_nil)) (by walk_at "kside")) (congrArg V.int e_v_cell_3.symm)) (fun H1 e2 => ?_)
    have ex := ex.trans e2
    obtain ⟨v_step_6, e_v_step_6⟩ : ∃ z : Int, z = (gi [1, 3, 7, 9, 11, 13, 37, 121, 249, 97] ((v_cell_3 / (v_most + 1)) % 10)) := ⟨_, rfl⟩
    refine q_asg (v := .int v_step_6) (ev_is (ev_ix (EvN.toD (en_ls (vs := il ([1, 3, 7, 9, 11, 13, 37, 121, 249, 97] : List Int)) (ea_cons ev_c (ea_cons ev_c (ea_cons ev_c (ea_cons ev_c (ea_cons ev_c (ea_cons ev_c (ea_cons ev_c (ea_cons ev_c (ea_cons ev_c (ea_cons ev_c ea_nil)))))))))) (Nat.le_of_ble_eq_true rfl))) (ev_op (ev_op (ev_var rfl) (ev_op (ev_var rfl) ev_c rv_I0) (rv_I ⟨by walk_at "kside", by walk_at "kside"⟩)) ev_c (rv_I (by walk_at "kside"))) (by walk_at "kside")) (congrArg V.int e_v_step_6.symm)) (fun H4 e5 => ?_)
    have ex := ex.trans e5
    obtain ⟨v_begin_9, e_v_begin_9⟩ : ∃ z : Int, z = ((v_cell_3 / (v_most + 1)) / 10) := ⟨_, rfl⟩
    refine q_asg (v := .int v_begin_9) (ev_is (ev_op (ev_op (ev_var rfl) (ev_op (ev_var rfl) ev_c rv_I0) (rv_I ⟨by walk_at "kside", by walk_at "kside"⟩)) ev_c (rv_I ⟨by walk_at "kside", by walk_at "kside"⟩)) (congrArg V.int e_v_begin_9.symm)) (fun H7 e8 => ?_)
    have ex := ex.trans e8
    refine q_asgNl (K := K) (xs := il []) en_l0 (fun a_12 H10 np_a_12 e11 h_a_12 => ?_)
    have n_a_12 := fresh_back ex np_a_12
    have ex := ex.trans e11
    have hmo : 0 ≤ v_cell_3 % (v_most + 1) ∧ v_cell_3 % (v_most + 1) < v_most + 1 := ⟨Int.emod_nonneg _ (by omega), Int.emod_lt_of_pos _ (by omega)⟩
    refine q_forR1 (n := v_cell_3 % (v_most + 1)) (ea_cons (ev_op (ev_var rfl) (ev_op (ev_var rfl) ev_c rv_I0) (rv_I (by walk_at "kside"))) ea_nil) (by walk_at "kside") (fun (i : Nat) σ' H' => ∃ (y_v_k_1 : Option V) (y_v_number_1 : Option V) (v_found_14 : List Int), iter (m_law_row_L1s v_script v_at v_step_6 v_begin_9) [] i = v_found_14 ∧ σ' = [some (.ref a_v_script), some (.int v_at), some (.int v_most), some (.int v_cell_3), some (.int v_step_6), some (.int v_begin_9), some (.ref a_12), y_v_k_1, y_v_number_1] ∧ Ex H0 H' ∧ H' a_12 = some (.lst (il v_found_14))) (fun H17 e18 => ⟨_, _, _, rfl, rfl, ex.trans e18, e18 _ _ h_a_12⟩) ?_ ?_
    ·
      rintro i13 σ' H19 hi_i13 ⟨y_v_k_1, y_v_number_1, v_found_14, hst1, rfl, ex, h_a_12⟩
      have hl : v_found_14.length ≤ i13 := by rw [← hst1]; exact (law_row_inv _ _ _ _ i13).2.2
      obtain ⟨v_number_22, e_v_number_22⟩ : ∃ z : Int, z = (1 + ((v_begin_9 + (v_step_6 * (i13 : Int))) % 250)) := ⟨_, rfl⟩
      refine q_asg (v := .int v_number_22) (ev_is (ev_op ev_c (ev_op (ev_op (ev_var rfl) (ev_op (ev_var rfl) (ev_var rfl) (rv_I (by walk_at "kmul"))) rv_I0) ev_c (rv_I (by walk_at "kside"))) rv_I0) (congrArg V.int e_v_number_22.symm)) (fun H20 e21 => ?_)
      have ex := ex.trans e21
      have h_a_12 := e21 _ _ h_a_12
      refine q_cut (M := fun σ' H' => ∃ (v_number_23 : Int), m_law_row_J1 v_begin_9 i13 v_number_22 = v_number_23 ∧ σ' = [some (.ref a_v_script), some (.int v_at), some (.int v_most), some (.int v_cell_3), some (.int v_step_6), some (.int v_begin_9), some (.ref a_12), some (.int (i13 : Int)), some (.int v_number_23)] ∧ Ex H0 H' ∧ H' a_12 = some (.lst (il v_found_14))) ?_ ?_
      ·
        refine s_when (b := decide (v_begin_9 % 3 = 1)) (et_test (ev_eqI (ev_op (ev_var rfl) ev_c (rv_I (by walk_at "kside"))) ev_c)) (fun hb26 H24 e25 => ?_) (fun hb26 H24 e25 => ?_)
        ·
          have hq26 := hb26
          (try simp only [Bool.and_eq_true, Bool.or_eq_true, Bool.not_eq_true', Bool.not_eq_false', Bool.and_eq_false_iff, Bool.or_eq_false_iff, decide_eq_true_eq, decide_eq_false_iff_not] at hq26)
          have ex := ex.trans e25
          have h_a_12 := e25 _ _ h_a_12
          obtain ⟨v_number_29, e_v_number_29⟩ : ∃ z : Int, z = (1 + ((((v_begin_9 / 3 + (((i13 : Int) * (i13 : Int)) * 7919) + ((i13 : Int) * 48271)) * 69621) % 1000003) % 250)) := ⟨_, rfl⟩
          refine s_asg (v := .int v_number_29) (ev_is (ev_op ev_c (ev_op (ev_op (ev_op (ev_op (ev_op (ev_op (ev_var rfl) ev_c (rv_I ⟨by walk_at "kside", by walk_at "kside"⟩)) (ev_op (ev_op (ev_var rfl) (ev_var rfl) (rv_I (by walk_at "kmul"))) ev_c (rv_I (by walk_at "kmul"))) rv_I0) (ev_op (ev_var rfl) ev_c (rv_I (by walk_at "kmul"))) rv_I0) ev_c (rv_I (by walk_at "kmul"))) ev_c (rv_I (by walk_at "kside"))) ev_c (rv_I (by walk_at "kside"))) rv_I0) (congrArg V.int e_v_number_29.symm)) (fun H27 e28 => ?_)
          have ex := ex.trans e28
          have h_a_12 := e28 _ _ h_a_12
          subst e_v_number_29
          have hs30 : m_law_row_J1 v_begin_9 i13 v_number_22 = (1 + ((((v_begin_9 / 3 + (((i13 : Int) * (i13 : Int)) * 7919) + ((i13 : Int) * 48271)) * 69621) % 1000003) % 250)) := (Eq.trans (cond_t hb26) rfl)
          exact ⟨_, hs30, rfl, ex, h_a_12⟩
        ·
          have hq26 := hb26
          (try simp only [Bool.and_eq_true, Bool.or_eq_true, Bool.not_eq_true', Bool.not_eq_false', Bool.and_eq_false_iff, Bool.or_eq_false_iff, decide_eq_true_eq, decide_eq_false_iff_not] at hq26)
          have ex := ex.trans e25
          have h_a_12 := e25 _ _ h_a_12
          have hs31 : m_law_row_J1 v_begin_9 i13 v_number_22 = v_number_22 := (Eq.trans (cond_f hb26) rfl)
          exact ⟨_, hs31, rfl, ex, h_a_12⟩
      ·
        rintro σ' H32 ⟨v_number_23, hj1, rfl, ex, h_a_12⟩
        have e_v_number_23 : v_number_23 = m_law_row_J1 v_begin_9 i13 v_number_22 := hj1.symm
        clear hj1
        refine q_cut (M := fun σ' H' => ∃ (v_number_33 : Int), m_law_row_J2 v_script v_at v_begin_9 i13 v_number_23 = v_number_33 ∧ σ' = [some (.ref a_v_script), some (.int v_at), some (.int v_most), some (.int v_cell_3), some (.int v_step_6), some (.int v_begin_9), some (.ref a_12), some (.int (i13 : Int)), some (.int v_number_33)] ∧ Ex H0 H' ∧ H' a_12 = some (.lst (il v_found_14))) ?_ ?_
        ·
          refine s_when (b := decide (v_begin_9 % 3 = 2)) (et_test (ev_eqI (ev_op (ev_var rfl) ev_c (rv_I (by walk_at "kside"))) ev_c)) (fun hb36 H34 e35 => ?_) (fun hb36 H34 e35 => ?_)
          ·
            have hq36 := hb36
            (try simp only [Bool.and_eq_true, Bool.or_eq_true, Bool.not_eq_true', Bool.not_eq_false', Bool.and_eq_false_iff, Bool.or_eq_false_iff, decide_eq_true_eq, decide_eq_false_iff_not] at hq36)
            have ex := ex.trans e35
            have h_a_12 := e35 _ _ h_a_12
            obtain ⟨v_number_39, e_v_number_39⟩ : ∃ z : Int, z = (1 + ((m_law_cell_at v_script (8 + (20 * v_at) + (i13 : Int))) % 250)) := ⟨_, rfl⟩
            refine s_asg (v := .int v_number_39) (ev_is (ev_op ev_c (ev_op (cl__law_cell_at v_script (8 + (20 * v_at) + (i13 : Int)) (eas_cons (ed_var rfl ⟨_, rfl, ex_l ex h_a_v_script0⟩) (eas_cons (ed_v (ev_op (ev_op ev_c (ev_op ev_c (ev_var rfl) (rv_I (by walk_at "kmul"))) rv_I0) (ev_var rfl) rv_I0)) eas_nil)) (by walk_at "kside")) ev_c (rv_I (by walk_at "kside"))) rv_I0) (congrArg V.int e_v_number_39.symm)) (fun H37 e38 => ?_)
            have ex := ex.trans e38
            have h_a_12 := e38 _ _ h_a_12
            subst e_v_number_39
            have hs40 : m_law_row_J2 v_script v_at v_begin_9 i13 v_number_23 = (1 + ((m_law_cell_at v_script (8 + (20 * v_at) + (i13 : Int))) % 250)) := (Eq.trans (cond_t hb36) rfl)
            exact ⟨_, hs40, rfl, ex, h_a_12⟩
          ·
            have hq36 := hb36
            (try simp only [Bool.and_eq_true, Bool.or_eq_true, Bool.not_eq_true', Bool.not_eq_false', Bool.and_eq_false_iff, Bool.or_eq_false_iff, decide_eq_true_eq, decide_eq_false_iff_not] at hq36)
            have ex := ex.trans e35
            have h_a_12 := e35 _ _ h_a_12
            have hs41 : m_law_row_J2 v_script v_at v_begin_9 i13 v_number_23 = v_number_23 := (Eq.trans (cond_f hb36) rfl)
            exact ⟨_, hs41, rfl, ex, h_a_12⟩
        ·
          rintro σ' H42 ⟨v_number_33, hj2, rfl, ex, h_a_12⟩
          have e_v_number_33 : v_number_33 = m_law_row_J2 v_script v_at v_begin_9 i13 v_number_23 := hj2.symm
          clear hj2
          refine s_when (b := !decide (v_number_33 ∈ v_found_14)) (et_test (ev_ni (ev_var rfl) (ed_rep (d := .l (il v_found_14)) (ev_var (v := .ref a_12) rfl) ⟨_, rfl, h_a_12⟩))) (fun hb45 H43 e44 => ?_) (fun hb45 H43 e44 => ?_)
          ·
            have hq45 := hb45
            (try simp only [Bool.and_eq_true, Bool.or_eq_true, Bool.not_eq_true', Bool.not_eq_false', Bool.and_eq_false_iff, Bool.or_eq_false_iff, decide_eq_true_eq, decide_eq_false_iff_not] at hq45)
            have ex := ex.trans e44
            have h_a_12 := e44 _ _ h_a_12
            refine s_appI h_a_12 (ev_var (v := .ref a_12) rfl) (ev_var rfl) (by walk_at "kside") (fun H46 b47 h_a_12' => ?_)
            have ex := But.ex ex n_a_12 b47
            have h_a_12 := h_a_12'
            subst e_v_number_33
            subst e_v_number_23
            subst e_v_number_22
            have hs48 : iter (m_law_row_L1s v_script v_at v_step_6 v_begin_9) [] (i13 + 1) = (v_found_14 ++ [(m_law_row_J2 v_script v_at v_begin_9 i13 (m_law_row_J1 v_begin_9 i13 (1 + ((v_begin_9 + (v_step_6 * (i13 : Int))) % 250))))]) := (congrArg ((m_law_row_L1s v_script v_at v_step_6 v_begin_9) i13) hst1).trans (Eq.trans (cond_t hb45) rfl)
            exact ⟨_, _, _, hs48, rfl, ex, h_a_12⟩
          ·
            have hq45 := hb45
            (try simp only [Bool.and_eq_true, Bool.or_eq_true, Bool.not_eq_true', Bool.not_eq_false', Bool.and_eq_false_iff, Bool.or_eq_false_iff, decide_eq_true_eq, decide_eq_false_iff_not] at hq45)
            have ex := ex.trans e44
            have h_a_12 := e44 _ _ h_a_12
            subst e_v_number_33
            subst e_v_number_23
            subst e_v_number_22
            have hs49 : iter (m_law_row_L1s v_script v_at v_step_6 v_begin_9) [] (i13 + 1) = v_found_14 := (congrArg ((m_law_row_L1s v_script v_at v_step_6 v_begin_9) i13) hst1).trans (Eq.trans (cond_f hb45) rfl)
            exact ⟨_, _, _, hs49, rfl, ex, h_a_12⟩
    ·
      rintro σ' H50 ⟨y_v_k_1, y_v_number_1, v_found_14, hst1, rfl, ex, h_a_12⟩
      obtain rfl : v_found_14 = (m_law_row_L1 v_script v_at v_most v_cell_3 v_step_6 v_begin_9) := hst1.symm
      obtain ⟨v_found_51, e_v_found_51⟩ : ∃ z : List Int, z = (m_law_row_L1 v_script v_at v_most v_cell_3 v_step_6 v_begin_9) := ⟨_, rfl⟩
      rw [← e_v_found_51] at h_a_12
      refine s_ret (ev_var (v := .ref a_12) rfl) (fun H52 e53 => ?_)
      have ex := ex.trans e53
      have h_a_12 := e53 _ _ h_a_12
      subst e_v_found_51
      subst e_v_begin_9
      subst e_v_step_6
      subst e_v_cell_3
      exact k _ _ ex (ret_eq (congrArg (fun z : List Int => (.l (il z) : D)) (show m_law_row v_script v_at v_most = (m_law_row_L1 v_script v_at v_most (m_law_cell_at v_script v_at) (gi [1, 3, 7, 9, 11, 13, 37, 121, 249, 97] (((m_law_cell_at v_script v_at) / (v_most + 1)) % 10)) (((m_law_cell_at v_script v_at) / (v_most + 1)) / 10)) from rfl)) ⟨_, rfl, n_a_12, h_a_12⟩)
def sp__law_some (K : PySem.W.Frag) : Sp := spG K (fun (a : (List Int) × Int × Bool) => [.l (il a.1), .v (.int a.2.1), .v (.bl a.2.2)]) (fun a => (RowOk a.1)) (fun a => .l (il (m_law_some a.1 a.2.1 a.2.2)))
theorem cl__law_some {K : PySem.W.Frag} {σ : L2.St} {H : Hp} {ta : TA} {E : XK} (v_row_here : List Int) (v_cell : Int) (v_is_in : Bool) (h : EvAs K ta σ H [.l (il v_row_here), .v (.int v_cell), .v (.bl v_is_in)]) (hp : (RowOk v_row_here)) : EvN K (tCall (sp__law_some K) [] E ta) σ H (.l (il (m_law_some v_row_here v_cell v_is_in))) := en_call (a := (v_row_here, v_cell, v_is_in)) h hp
theorem ok__law_some (T : Txt K mg fa fd) : FnOk P w K mg base CX0 1 (fa 2) (fd 2) ["_law_row_here", "_law_cell", "_law_is_in"] (sp__law_some K) := by
  refine T.F__law_some.ok sc__law_some (fun vs H Q E h => ?_) (fun cdv A outer s H0 vs Q E hr h => ?_)
  · obtain ⟨a, r, _⟩ := h
    exact r.length
  · obtain ⟨⟨v_row_here, v_cell, v_is_in⟩, r, hpre, k⟩ := h
    replace r : Paired (fun u d => D.rep K d u H0) vs [.l (il v_row_here), .v (.int v_cell), .v (.bl v_is_in)] := r
    obtain ⟨u_v_row_here, tl_v_row_here, hvs0, r_v_row_here, r0⟩ := paired_cons r
    clear r
    subst hvs0
    obtain ⟨a_v_row_here, rfl, h_a_v_row_here0⟩ := r_v_row_here
    obtain ⟨u_v_cell, tl_v_cell, hvs1, r_v_cell, r1⟩ := paired_cons r0
    clear r0
    subst hvs1
    obtain rfl : u_v_cell = .int v_cell := r_v_cell
    obtain ⟨u_v_is_in, tl_v_is_in, hvs2, r_v_is_in, r2⟩ := paired_cons r1
    clear r1
    subst hvs2
    obtain rfl : u_v_is_in = .bl v_is_in := r_v_is_in
    obtain rfl := paired_nil r2
    have hp0 := hpre
    replace hp0 : RowOk v_row_here := hp0
    have ex : Ex H0 H0 := Ex.refl H0
    refine ⟨_, (pss_cons (ps_set (i := 3) sc__law_some.nd rfl (.inl rfl) (pe_lst pa_nil))
      (pss_cons (ps_set (i := 4) sc__law_some.nd rfl (.inl rfl) (pe_op op_mod (pe_op op_fdiv (pv 1) pe_int) pe_int))
      (pss_cons (ps_for PassesOwn.never rfl (pi_range1 (by rfl) T.n_range (pa_cons (pe_op op_mod (pv 1) pe_int) pa_nil)) (pg_name (i := 5) sc__law_some.nd rfl (.inl rfl)) (pss_cons (ps_set (i := 6) sc__law_some.nd rfl (.inl rfl) (pe_op op_add pe_int (pe_op op_mod (pe_op op_mod (pe_op op_mul (pe_op op_add (pe_op op_fdiv (pv 1) pe_int) (pe_op op_mul pe_int (pv 5))) pe_int) pe_int) pe_int)))
      (pss_cut (ps_if (PW.pt (pw_and (pt_cmpR op_ne (pe_cmpR op_eq (pv 5) (pv 4) (nomark _)) (pv 2) (nomark _)) (pw_and1 (pt_cmpR (r := rNeD K) (op_neD hr.units) (pv 0) (pe_lst pa_nil) (nomark _))))) (pss_one (ps_set (i := 6) sc__law_some.nd rfl (.inl rfl) (pe_ix (r := rIxL K) ix_list (pv 0) (pe_op op_mod (pe_op op_add (pe_op op_fdiv (pv 1) pe_int) (pe_op op_mul pe_int (pv 5))) (pe_callB (r := rLenS K) call_len_seq (by rfl) T.n_len PySem.boot_len (pa_cons (pv 0) pa_nil))) (fun _ _ => rfl)))) (pss_one (ps_if (pt_cmpR op_lt (pe_callB (r := rLenS K) call_len_seq (by rfl) T.n_len PySem.boot_len (pa_cons (pv 0) pa_nil)) pe_int (nomark _)) (pss_one (ps_while PassesOwn.never (pt_cmpR (r := rIn K false) op_in_seq (pv 6) (pv 0) (by rfl)) (pss_one (ps_set (i := 6) sc__law_some.nd rfl (.inl rfl) (pe_op op_add pe_int (pe_op op_mod (pv 6) pe_int)))))) pss_nil)))
      (pss_cut (ps_if (PW.pt (pw_and (pt_cmpR op_eq (pe_op op_mod (pe_op op_fdiv (pv 1) pe_int) pe_int) pe_int (nomark _)) (pw_and1 (pt_cmpR op_eq (pv 5) (pv 4) (nomark _))))) (pss_one (ps_set (i := 6) sc__law_some.nd rfl (.inl rfl) (pe_ix (r := rIxL K) ix_list (pe_lst (pa_cons pe_int (pa_cons pe_int (pa_cons (pe_un un_neg pe_int) (pa_cons (pe_op op_add pe_int (pv 6)) (pa_cons (pe_op op_sub pe_int (pv 6)) (pa_cons (pe_op op_pow pe_int pe_int) pa_nil))))))) (pe_op op_mod (pe_op op_fdiv (pv 1) pe_int) pe_int) (fun _ _ => rfl)))) pss_nil)
      (pss_one (ps_expr (pe_bm PySem.F.plainAttrs_list PySem.F.slot_list_append PySem.F.type_list_append mt_append (pv 3) (pa_cons (pv 6) pa_nil))))))))
      (pss_one (ps_ret (pv 3)))))), ?_⟩
    refine q_asgNl (K := K) (xs := il []) en_l0 (fun a_3 H1 np_a_3 e2 h_a_3 => ?_)
    have n_a_3 := fresh_back ex np_a_3
    have ne_a_v_row_here_a_3 := ne_of_none (ex _ _ h_a_v_row_here0) np_a_3
    have ex := ex.trans e2
    obtain ⟨v_odd_6, e_v_odd_6⟩ : ∃ z : Int, z = ((v_cell / 6) % 8) := ⟨_, rfl⟩
    refine q_asg (v := .int v_odd_6) (ev_is (ev_op (ev_op (ev_var rfl) ev_c (rv_I ⟨by walk_at "kside", by walk_at "kside"⟩)) ev_c (rv_I (by walk_at "kside"))) (congrArg V.int e_v_odd_6.symm)) (fun H4 e5 => ?_)
    have ex := ex.trans e5
    have h_a_3 := e5 _ _ h_a_3
    refine q_forR1 (n := v_cell % 6) (ea_cons (ev_op (ev_var rfl) ev_c (rv_I (by walk_at "kside"))) ea_nil) (by walk_at "kside") (fun (i : Nat) σ' H' => ∃ (y_v_k_1 : Option V) (y_v_number_1 : Option V) (v_found_8 : List Int), iter (m_law_some_L1s v_row_here v_cell v_is_in v_odd_6) [] i = v_found_8 ∧ σ' = [some (.ref a_v_row_here), some (.int v_cell), some (.bl v_is_in), some (.ref a_3), some (.int v_odd_6), y_v_k_1, y_v_number_1] ∧ Ex H0 H' ∧ H' a_3 = some (.lst (il v_found_8))) (fun H11 e12 => ⟨_, _, _, rfl, rfl, ex.trans e12, e12 _ _ h_a_3⟩) ?_ ?_
    ·
      rintro i7 σ' H13 hi_i7 ⟨y_v_k_1, y_v_number_1, v_found_8, hst1, rfl, ex, h_a_3⟩
      have hl : v_found_8.length = 0 + i7 := by rw [← hst1]; exact iter_snoc_len (f := (m_law_some_L1s v_row_here v_cell v_is_in v_odd_6)) (fun i st => ⟨_, rfl⟩) i7
      obtain ⟨v_number_16, e_v_number_16⟩ : ∃ z : Int, z = (1 + ((((v_cell / 48 + (7919 * (i7 : Int))) * 48271) % 1000003) % 250)) := ⟨_, rfl⟩
      refine q_asg (v := .int v_number_16) (ev_is (ev_op ev_c (ev_op (ev_op (ev_op (ev_op (ev_op (ev_var rfl) ev_c (rv_I ⟨by walk_at "kside", by walk_at "kside"⟩)) (ev_op ev_c (ev_var rfl) (rv_I (by walk_at "kmul"))) rv_I0) ev_c (rv_I (by walk_at "kmul"))) ev_c (rv_I (by walk_at "kside"))) ev_c (rv_I (by walk_at "kside"))) rv_I0) (congrArg V.int e_v_number_16.symm)) (fun H14 e15 => ?_)
      have ex := ex.trans e15
      have h_a_3 := e15 _ _ h_a_3
      refine q_cut (M := fun σ' H' => ∃ (v_number_17 : Int), m_law_some_J1 v_row_here v_cell v_is_in v_odd_6 i7 v_number_16 = v_number_17 ∧ σ' = [some (.ref a_v_row_here), some (.int v_cell), some (.bl v_is_in), some (.ref a_3), some (.int v_odd_6), some (.int (i7 : Int)), some (.int v_number_17)] ∧ Ex H0 H' ∧ H' a_3 = some (.lst (il v_found_8))) ?_ ?_
      ·
        refine s_if (b := (!decide ((decide ((i7 : Int) = v_odd_6)) = v_is_in)) && (!decide (v_row_here = []))) (et_and (a := !decide ((decide ((i7 : Int) = v_odd_6)) = v_is_in)) (b := !decide (v_row_here = [])) (et_test (ev_neB (ev_eqI (ev_var rfl) (ev_var rfl)) (ev_var rfl))) (fun hg18 => (et_test (ev_neL (ed_rep (d := .l (il v_row_here)) (ev_var (v := .ref a_v_row_here) rfl) ⟨_, rfl, (ex _ _ h_a_v_row_here0)⟩) (EvN.toD en_l0))))) (fun hb21 H19 e20 => ?_) (fun hb21 H19 e20 => ?_)
        ·
          have hq21 := hb21
          (try simp only [Bool.and_eq_true, Bool.or_eq_true, Bool.not_eq_true', Bool.not_eq_false', Bool.and_eq_false_iff, Bool.or_eq_false_iff, decide_eq_true_eq, decide_eq_false_iff_not] at hq21)
          have ex := ex.trans e20
          have h_a_3 := e20 _ _ h_a_3
          have hne : v_row_here.length ≠ 0 := fun z => hq21.2 (List.length_eq_zero_iff.mp z)
          have hix : 0 ≤ (v_cell / 48 + (31 * (i7 : Int))) % (v_row_here.length : Int) ∧ (v_cell / 48 + (31 * (i7 : Int))) % (v_row_here.length : Int) < (v_row_here.length : Int) := ⟨Int.emod_nonneg _ (by omega), Int.emod_lt_of_pos _ (by omega)⟩
          obtain ⟨v_number_24, e_v_number_24⟩ : ∃ z : Int, z = (gi v_row_here ((v_cell / 48 + (31 * (i7 : Int))) % (v_row_here.length : Int))) := ⟨_, rfl⟩
          refine s_asg (v := .int v_number_24) (ev_is (ev_ix (ed_rep (d := .l (il v_row_here)) (ev_var (v := .ref a_v_row_here) rfl) ⟨_, rfl, (ex _ _ h_a_v_row_here0)⟩) (ev_op (ev_op (ev_op (ev_var rfl) ev_c (rv_I ⟨by walk_at "kside", by walk_at "kside"⟩)) (ev_op ev_c (ev_var rfl) (rv_I (by walk_at "kmul"))) rv_I0) (ev_lenI (ed_rep (d := .l (il v_row_here)) (ev_var (v := .ref a_v_row_here) rfl) ⟨_, rfl, (ex _ _ h_a_v_row_here0)⟩)) (rv_I (by walk_at "kside"))) (by walk_at "kside")) (congrArg V.int e_v_number_24.symm)) (fun H22 e23 => ?_)
          have ex := ex.trans e23
          have h_a_3 := e23 _ _ h_a_3
          subst e_v_number_24
          have hs25 : m_law_some_J1 v_row_here v_cell v_is_in v_odd_6 i7 v_number_16 = (gi v_row_here ((v_cell / 48 + (31 * (i7 : Int))) % (v_row_here.length : Int))) := (Eq.trans (cond_t hb21) rfl)
          exact ⟨_, hs25, rfl, ex, h_a_3⟩
        ·
          have hq21 := hb21
          (try simp only [Bool.and_eq_true, Bool.or_eq_true, Bool.not_eq_true', Bool.not_eq_false', Bool.and_eq_false_iff, Bool.or_eq_false_iff, decide_eq_true_eq, decide_eq_false_iff_not] at hq21)
          have ex := ex.trans e20
          have h_a_3 := e20 _ _ h_a_3
          refine s_when (b := decide ((v_row_here.length : Int) < 250)) (et_test (ev_op (ev_lenI (ed_rep (d := .l (il v_row_here)) (ev_var (v := .ref a_v_row_here) rfl) ⟨_, rfl, (ex _ _ h_a_v_row_here0)⟩)) ev_c rv_I0)) (fun hb28 H26 e27 => ?_) (fun hb28 H26 e27 => ?_)
          ·
            have hq28 := hb28
            (try simp only [Bool.and_eq_true, Bool.or_eq_true, Bool.not_eq_true', Bool.not_eq_false', Bool.and_eq_false_iff, Bool.or_eq_false_iff, decide_eq_true_eq, decide_eq_false_iff_not] at hq28)
            have ex := ex.trans e27
            have h_a_3 := e27 _ _ h_a_3
            obtain ⟨W2, hW2⟩ : ∃ W : Nat → L2.St → Hp → Prop, W = fun m σ' H' => ∃ (v_number_29 : Int), (m_law_some_L2I v_row_here) v_number_29 ∧ m = (m_law_some_L2m v_row_here) v_number_29 ∧ whl (m_law_some_L2c v_row_here) (m_law_some_L2s v_row_here) ((m_law_some_L2m v_row_here) v_number_16) v_number_16 = whl (m_law_some_L2c v_row_here) (m_law_some_L2s v_row_here) m v_number_29 ∧ σ' = [some (.ref a_v_row_here), some (.int v_cell), some (.bl v_is_in), some (.ref a_3), some (.int v_odd_6), some (.int (i7 : Int)), some (.int v_number_29)] ∧ Ex H0 H' ∧ H' a_3 = some (.lst (il v_found_8)) := ⟨_, rfl⟩
            have hI0 : (m_law_some_L2I v_row_here) v_number_16 := by show _ ∧ _; omega
            have hSt : ∀ x, (m_law_some_L2I v_row_here) x → (m_law_some_L2c v_row_here) x = true → (m_law_some_L2I v_row_here) ((m_law_some_L2s v_row_here) x) ∧ (m_law_some_L2m v_row_here) ((m_law_some_L2s v_row_here) x) < (m_law_some_L2m v_row_here) x := fun x hx hc => some_step hp0 (by omega) hx (of_decide_eq_true hc)
            refine s_while W2 ((m_law_some_L2m v_row_here) v_number_16) (by rw [hW2]; exact ⟨_, hI0, rfl, rfl, rfl, ex, h_a_3⟩) ?_
            intro m σ' H31 hw32
            rw [hW2] at hw32
            obtain ⟨v_number_29, hI2, rfl, hst2, rfl, ex, h_a_3⟩ := hw32
            have hq2 : 1 ≤ v_number_29 ∧ v_number_29 ≤ 250 := hI2
            refine ⟨decide (v_number_29 ∈ v_row_here), (et_test (ev_in (ev_var rfl) (ed_rep (d := .l (il v_row_here)) (ev_var (v := .ref a_v_row_here) rfl) ⟨_, rfl, (ex _ _ h_a_v_row_here0)⟩))), fun hb33 H35 e34 => ⟨fun σ2 H2 => ∃ m', m' < (m_law_some_L2m v_row_here) v_number_29 ∧ W2 m' σ2 H2, fun _ _ hN => hN, ?_⟩, fun hb33 H35 e34 => ?_⟩
            ·
              have hq33 := hb33
              (try simp only [Bool.and_eq_true, Bool.or_eq_true, Bool.not_eq_true', Bool.not_eq_false', Bool.and_eq_false_iff, Bool.or_eq_false_iff, decide_eq_true_eq, decide_eq_false_iff_not] at hq33)
              have ex := ex.trans e34
              have h_a_3 := e34 _ _ h_a_3
              obtain ⟨v_number_38, e_v_number_38⟩ : ∃ z : Int, z = (1 + (v_number_29 % 250)) := ⟨_, rfl⟩
              refine s_asg (v := .int v_number_38) (ev_is (ev_op ev_c (ev_op (ev_var rfl) ev_c (rv_I (by walk_at "kside"))) rv_I0) (congrArg V.int e_v_number_38.symm)) (fun H36 e37 => ?_)
              have ex := ex.trans e37
              have h_a_3 := e37 _ _ h_a_3
              subst e_v_number_38
              have hs39 : (m_law_some_L2s v_row_here) v_number_29 = (1 + (v_number_29 % 250)) := rfl
              have hgo := whl_go hSt hI2 hb33
              have hSt' := hSt _ hI2 hb33
              rw [hs39] at hgo hSt'
              exact ⟨_, hSt'.2, by rw [hW2]; exact ⟨_, hSt'.1, rfl, hst2.trans hgo, rfl, ex, h_a_3⟩⟩
            ·
              have ex := ex.trans e34
              have h_a_3 := e34 _ _ h_a_3
              have hfin : m_law_some_L2 v_row_here v_number_16 = v_number_29 := hst2.trans (whl_stop (c := (m_law_some_L2c v_row_here)) (f := (m_law_some_L2s v_row_here)) hb33 _)
              obtain rfl : v_number_29 = (m_law_some_L2 v_row_here v_number_16) := hfin.symm
              obtain ⟨v_number_40, e_v_number_40⟩ : ∃ z : Int, z = (m_law_some_L2 v_row_here v_number_16) := ⟨_, rfl⟩
              rw [← e_v_number_40]
              subst e_v_number_40
              have hs41 : m_law_some_J1 v_row_here v_cell v_is_in v_odd_6 i7 v_number_16 = (m_law_some_L2 v_row_here v_number_16) := (Eq.trans (cond_f hb21) (Eq.trans (cond_t hb28) rfl))
              exact ⟨_, hs41, rfl, ex, h_a_3⟩
          ·
            have hq28 := hb28
            (try simp only [Bool.and_eq_true, Bool.or_eq_true, Bool.not_eq_true', Bool.not_eq_false', Bool.and_eq_false_iff, Bool.or_eq_false_iff, decide_eq_true_eq, decide_eq_false_iff_not] at hq28)
            have ex := ex.trans e27
            have h_a_3 := e27 _ _ h_a_3
            have hs42 : m_law_some_J1 v_row_here v_cell v_is_in v_odd_6 i7 v_number_16 = v_number_16 := (Eq.trans (cond_f hb21) (Eq.trans (cond_f hb28) rfl))
            exact ⟨_, hs42, rfl, ex, h_a_3⟩
      ·
        rintro σ' H43 ⟨v_number_17, hj1, rfl, ex, h_a_3⟩
        have e_v_number_17 : v_number_17 = m_law_some_J1 v_row_here v_cell v_is_in v_odd_6 i7 v_number_16 := hj1.symm
        clear hj1
        refine q_cut (M := fun σ' H' => ∃ (v_number_44 : Int), m_law_some_J2 v_cell v_odd_6 i7 v_number_17 = v_number_44 ∧ σ' = [some (.ref a_v_row_here), some (.int v_cell), some (.bl v_is_in), some (.ref a_3), some (.int v_odd_6), some (.int (i7 : Int)), some (.int v_number_44)] ∧ Ex H0 H' ∧ H' a_3 = some (.lst (il v_found_8))) ?_ ?_
        ·
          refine s_when (b := (decide ((v_cell / 48) % 5 = 1)) && (decide ((i7 : Int) = v_odd_6))) (et_and (a := decide ((v_cell / 48) % 5 = 1)) (b := decide ((i7 : Int) = v_odd_6)) (et_test (ev_eqI (ev_op (ev_op (ev_var rfl) ev_c (rv_I ⟨by walk_at "kside", by walk_at "kside"⟩)) ev_c (rv_I (by walk_at "kside"))) ev_c)) (fun hg45 => (et_test (ev_eqI (ev_var rfl) (ev_var rfl))))) (fun hb48 H46 e47 => ?_) (fun hb48 H46 e47 => ?_)
          ·
            have hq48 := hb48
            (try simp only [Bool.and_eq_true, Bool.or_eq_true, Bool.not_eq_true', Bool.not_eq_false', Bool.and_eq_false_iff, Bool.or_eq_false_iff, decide_eq_true_eq, decide_eq_false_iff_not] at hq48)
            have ex := ex.trans e47
            have h_a_3 := e47 _ _ h_a_3
            obtain ⟨v_number_51, e_v_number_51⟩ : ∃ z : Int, z = (gi [0, 251, (-1), 250 + v_number_17, 0 - v_number_17, 10 ^ (20 : Int).toNat] ((v_cell / 240) % 6)) := ⟨_, rfl⟩
            refine s_asg (v := .int v_number_51) (ev_is (ev_ix (EvN.toD (en_ls (vs := il ([0, 251, (-1), 250 + v_number_17, 0 - v_number_17, 10 ^ (20 : Int).toNat] : List Int)) (ea_cons ev_c (ea_cons ev_c (ea_cons (ev_un ev_c ru_neg) (ea_cons (ev_op ev_c (ev_var rfl) rv_I0) (ea_cons (ev_op ev_c (ev_var rfl) rv_I0) (ea_cons (ev_op ev_c ev_c (rv_I ⟨by decide, by decide, by decide⟩)) ea_nil)))))) (Nat.le_of_ble_eq_true rfl))) (ev_op (ev_op (ev_var rfl) ev_c (rv_I ⟨by walk_at "kside", by walk_at "kside"⟩)) ev_c (rv_I (by walk_at "kside"))) (by walk_at "kside")) (congrArg V.int e_v_number_51.symm)) (fun H49 e50 => ?_)
            have ex := ex.trans e50
            have h_a_3 := e50 _ _ h_a_3
            subst e_v_number_51
            have hs52 : m_law_some_J2 v_cell v_odd_6 i7 v_number_17 = (gi [0, 251, (-1), 250 + v_number_17, 0 - v_number_17, 10 ^ (20 : Int).toNat] ((v_cell / 240) % 6)) := (Eq.trans (cond_t hb48) rfl)
            exact ⟨_, hs52, rfl, ex, h_a_3⟩
          ·
            have hq48 := hb48
            (try simp only [Bool.and_eq_true, Bool.or_eq_true, Bool.not_eq_true', Bool.not_eq_false', Bool.and_eq_false_iff, Bool.or_eq_false_iff, decide_eq_true_eq, decide_eq_false_iff_not] at hq48)
            have ex := ex.trans e47
            have h_a_3 := e47 _ _ h_a_3
            have hs53 : m_law_some_J2 v_cell v_odd_6 i7 v_number_17 = v_number_17 := (Eq.trans (cond_f hb48) rfl)
            exact ⟨_, hs53, rfl, ex, h_a_3⟩
        ·
          rintro σ' H54 ⟨v_number_44, hj2, rfl, ex, h_a_3⟩
          have e_v_number_44 : v_number_44 = m_law_some_J2 v_cell v_odd_6 i7 v_number_17 := hj2.symm
          clear hj2
          refine s_appI h_a_3 (ev_var (v := .ref a_3) rfl) (ev_var rfl) (by walk_at "kside") (fun H55 b56 h_a_3' => ?_)
          have ex := But.ex ex n_a_3 b56
          have h_a_3 := h_a_3'
          subst e_v_number_44
          subst e_v_number_17
          subst e_v_number_16
          have hs57 : iter (m_law_some_L1s v_row_here v_cell v_is_in v_odd_6) [] (i7 + 1) = (v_found_8 ++ [(m_law_some_J2 v_cell v_odd_6 i7 (m_law_some_J1 v_row_here v_cell v_is_in v_odd_6 i7 (1 + ((((v_cell / 48 + (7919 * (i7 : Int))) * 48271) % 1000003) % 250))))]) := (congrArg ((m_law_some_L1s v_row_here v_cell v_is_in v_odd_6) i7) hst1).trans rfl
          exact ⟨_, _, _, hs57, rfl, ex, h_a_3⟩
    ·
      rintro σ' H58 ⟨y_v_k_1, y_v_number_1, v_found_8, hst1, rfl, ex, h_a_3⟩
      obtain rfl : v_found_8 = (m_law_some_L1 v_row_here v_cell v_is_in v_odd_6) := hst1.symm
      obtain ⟨v_found_59, e_v_found_59⟩ : ∃ z : List Int, z = (m_law_some_L1 v_row_here v_cell v_is_in v_odd_6) := ⟨_, rfl⟩
      rw [← e_v_found_59] at h_a_3
      refine s_ret (ev_var (v := .ref a_3) rfl) (fun H60 e61 => ?_)
      have ex := ex.trans e61
      have h_a_3 := e61 _ _ h_a_3
      subst e_v_found_59
      subst e_v_odd_6
      exact k _ _ ex (ret_eq (congrArg (fun z : List Int => (.l (il z) : D)) (show m_law_some v_row_here v_cell v_is_in = (m_law_some_L1 v_row_here v_cell v_is_in ((v_cell / 6) % 8)) from rfl)) ⟨_, rfl, n_a_3, h_a_3⟩)
def sp_is_number (K : PySem.W.Frag) : Sp := spG K (fun (a : Int × Int × Int) => [.v (.int a.1), .v (.int a.2.1), .v (.int a.2.2)]) (fun a => True) (fun a => .v (.bl (m_is_number a.1 a.2.1 a.2.2)))
theorem cl_is_number {K : PySem.W.Frag} {σ : L2.St} {H : Hp} {ta : TA} {E : XK} (v_thing : Int) (v_least : Int) (v_most : Int) (h : EvAs K ta σ H [.v (.int v_thing), .v (.int v_least), .v (.int v_most)]) (hp : True) : Ev (tCall (sp_is_number K) [] E ta) σ H (.bl (m_is_number v_thing v_least v_most)) := ev_ofN (en_call (a := (v_thing, v_least, v_most)) h hp)
theorem ok_is_number (T : Txt K mg fa fd) : FnOk P w K mg base CX0 1 (fa 3) (fd 3) ["thing", "least", "most"] (sp_is_number K) := by
  refine T.F_is_number.ok sc_is_number (fun vs H Q E h => ?_) (fun cdv A outer s H0 vs Q E hr h => ?_)
  · obtain ⟨a, r, _⟩ := h
    exact r.length
  · obtain ⟨⟨v_thing, v_least, v_most⟩, r, hpre, k⟩ := h
    replace r : Paired (fun u d => D.rep K d u H0) vs [.v (.int v_thing), .v (.int v_least), .v (.int v_most)] := r
    obtain ⟨u_v_thing, tl_v_thing, hvs0, r_v_thing, r0⟩ := paired_cons r
    clear r
    subst hvs0
    obtain rfl : u_v_thing = .int v_thing := r_v_thing
    obtain ⟨u_v_least, tl_v_least, hvs1, r_v_least, r1⟩ := paired_cons r0
    clear r0
    subst hvs1
    obtain rfl : u_v_least = .int v_least := r_v_least
    obtain ⟨u_v_most, tl_v_most, hvs2, r_v_most, r2⟩ := paired_cons r1
    clear r1
    subst hvs2
    obtain rfl : u_v_most = .int v_most := r_v_most
    obtain rfl := paired_nil r2
    have ex : Ex H0 H0 := Ex.refl H0
    refine ⟨_, (pss_one (ps_ret (pe_and (pe_callB (r := rIsi K) call_isi (by rfl) T.n_isinstance (by decide +kernel) (pa_cons (pv 0) (pa_cons (pe_bltn (v := .ty "int") (by rfl) T.n_int (by decide +kernel) rfl) pa_nil))) (pe_and (pe_not (pe_callB (r := rIsi K) call_isi (by rfl) T.n_isinstance (by decide +kernel) (pa_cons (pv 0) (pa_cons (pe_bltn (v := .ty "bool") (by rfl) T.n_bool (by decide +kernel) rfl) pa_nil)))) (pe_one (pe_chain op_le op_le (pv 1) (pv 0) (pv 2))))))), ?_⟩
    refine s_ret (ev_andV (a := true) (b := decide (v_least ≤ v_thing) && decide (v_thing ≤ v_most)) (ev_isD (d := .v (.int v_thing)) (s := "int") (b := true) (ed_v (ev_var rfl)) ev_c rfl (by decide +kernel)) (fun hg2 => (ev_andV (a := true) (b := decide (v_least ≤ v_thing) && decide (v_thing ≤ v_most)) (ev_notV (ev_isD (d := .v (.int v_thing)) (s := "int") (b := false) (ed_v (ev_var rfl)) ev_c rfl (by decide +kernel))) (fun hg1 => (ev_chain (ev_var rfl) (ev_var rfl) (ev_var rfl) rv_I0 rv_I0))))) (fun H3 e4 => ?_)
    exact k _ _ (ex.trans e4) (ret_eq (congrArg (fun z : Bool => (.v (.bl z) : D)) (show m_is_number v_thing v_least v_most = (decide (v_least ≤ v_thing) && decide (v_thing ≤ v_most)) from rfl)) rfl)
def sp_need_row (K : PySem.W.Frag) : Sp := spG K (fun (a : List Int) => [.l (il a)]) (fun a => RowOk a) (fun a => .v .non)
theorem cl_need_row {K : PySem.W.Frag} {σ : L2.St} {H : Hp} {ta : TA} {E : XK} (v_row : List Int) (h : EvAs K ta σ H [.l (il v_row)]) (hp : RowOk v_row) : EvN K (tCall (sp_need_row K) [] E ta) σ H (.v .non) := en_call (a := v_row) h hp
theorem ok_need_row (T : Txt K mg fa fd) : FnOk P w K mg base CX0 2 (fa 4) (fd 4) ["row"] (sp_need_row K) := by
  have G_is_number := ok_is_number (P := P) (w := w) (base := base) T
  obtain ⟨tPRIME, vPRIME⟩ := T.v_PRIME
  refine T.F_need_row.ok sc_need_row (fun vs H Q E h => ?_) (fun cdv A outer s H0 vs Q E hr h => ?_)
  · obtain ⟨a, r, _⟩ := h
    exact r.length
  · obtain ⟨v_row, r, hrow, k⟩ := h
    replace r : Paired (fun u d => D.rep K d u H0) vs [.l (il v_row)] := r
    obtain ⟨u_v_row, tl_v_row, hvs0, r_v_row, r0⟩ := paired_cons r
    clear r
    subst hvs0
    obtain ⟨a, rfl, ha0⟩ := r_v_row
    obtain rfl := paired_nil r0
    replace hrow : RowOk v_row := hrow
    refine ⟨_, pss_cons (ps_if (pt_not (pt_val (pe_callB (r := rIsi K) call_isi (by rfl) T.n_isinstance (by decide +kernel) (pa_cons (pv 0) (pa_cons (pe_bltn (v := .ty "list") (by rfl) T.n_list (by decide +kernel) rfl) pa_nil))))) (pss_one ps_never) pss_nil)
      (pss_cons (ps_set (i := 1) sc_need_row.nd rfl (.inl rfl) pe_dnewK)
      (pss_one (ps_for PassesOwn.never rfl (pi_list (pv 0)) (pg_name (i := 2) sc_need_row.nd rfl (.inl rfl))
        (pss_cons (ps_if (PW.pt (pw_or (pt_not (pt_val (pe_call G_is_number (hr.mono (by decide)) (by rfl) T.g_is_number T.F_is_number.kp T.b_is_number .nil pass0 (pa_cons (pv 2) (pa_cons pe_int (pa_cons (pe_op op_sub (pe_glob (v := .int 251) rfl vPRIME ⟨_, rfl⟩) pe_int) pa_nil)))))) (pw_or1 (pt_cmp (pc_din (hu_of hr) (pv 2) (pv 1)))))) (pss_one ps_never) pss_nil)
        (pss_one (ps_dput (hu_of hr) (pv 1) (pv 2) pe_bl rfl)))))), ?_⟩
    refine q_when (b := false) (et_not (et_B (ev_isD (d := .l (il v_row)) (s := "list") (b := true) (ed_rep (ev_var (v := .ref a) rfl) ⟨_, rfl, ha0⟩) ev_c rfl (by decide +kernel)))) (fun hd => by cases hd) (fun _ H1 e1 => ?_)
    refine q_asgDict (fun p H2 np e2 hp => ?_)
    have ex : Ex H0 H2 := e1.trans e2
    have n_p : H0 p = none := fresh_back e1 np
    refine s_forI (ev_var (v := .ref a) rfl) (ex _ _ ha0) (fun (i : Nat) σ' H' => ∃ (y : Option V), σ' = [some (.ref a), some (.ref p), y] ∧ Ex H0 H' ∧ H' p = some (.dK (dct (v_row.take i)))) (fun H3 e3 => ⟨_, rfl, ex.trans e3, e3 _ _ hp⟩) (fun i σ' H' hP => by obtain ⟨_, _, ex', _⟩ := hP; exact ex' _ _ ha0) ?_ ?_
    · rintro i x σ' H3 hx ⟨y, rfl, ex3, hp3⟩
      have hm : x ∈ v_row := List.mem_of_getElem? hx
      have hb := hrow.2.1 x hm
      have hnot : ¬ x ∈ v_row.take i := nodup_take hrow.1 hx
      refine q_when (b := false) (et_is (et_or (a := !(m_is_number x 1 (251 - 1))) (b := decide (x ∈ v_row.take i)) (et_not (et_B (cl_is_number x 1 (251 - 1) (eas_cons (ed_v (ev_var rfl)) (eas_cons (ed_v ev_c) (eas_cons (ed_v (ev_op ev_c ev_c rv_I0)) eas_nil))) trivial))) (fun _ => et_B (ev_din (ev_var rfl) (ev_var rfl) hp3))) (by rw [is_number_ok (by omega) (by omega), decide_eq_false hnot]; rfl)) (fun hd => by cases hd) (fun _ H4 e4 => ?_)
      refine s_dput ev_c (ev_var rfl) (ev_var rfl) (e4 _ _ hp3) hnot (by have := hrow.2.2; rw [List.length_take]; omega) (fun H5 b5 hp5 => ?_)
      exact ⟨_, rfl, But.ex (ex3.trans e4) n_p b5, by rw [take_snoc hx]; exact hp5⟩
    · rintro σ' H3 ⟨y, rfl, ex3, hp3⟩
      exact k _ _ ex3 rfl
def sp_sound (K : PySem.W.Frag) : Sp := spG K (fun (a : (List Int) × (List Int) × (List Int)) => [.l (il a.1), .l (il a.2.1), .l (il a.2.2)]) (fun a => (RowOk a.1) ∧ (a.2.1.length ≤ 1000) ∧ (a.2.2.length ≤ 1000)) (fun a => .v (.bl (m_sound a.1 a.2.1 a.2.2)))
theorem cl_sound {K : PySem.W.Frag} {σ : L2.St} {H : Hp} {ta : TA} {E : XK} (v_row : List Int) (v_lacked : List Int) (v_over : List Int) (h : EvAs K ta σ H [.l (il v_row), .l (il v_lacked), .l (il v_over)]) (hp : (RowOk v_row) ∧ (v_lacked.length ≤ 1000) ∧ (v_over.length ≤ 1000)) : Ev (tCall (sp_sound K) [] E ta) σ H (.bl (m_sound v_row v_lacked v_over)) := ev_ofN (en_call (a := (v_row, v_lacked, v_over)) h hp)
theorem ok_sound (T : Txt K mg fa fd) : FnOk P w K mg base CX0 3 (fa 5) (fd 5) ["row", "lacked", "over"] (sp_sound K) := by
  have G_need_row := ok_need_row (P := P) (w := w) (base := base) T
  refine T.F_sound.ok sc_sound (fun vs H Q E h => ?_) (fun cdv A outer s H0 vs Q E hr h => ?_)
  · obtain ⟨a, r, _⟩ := h
    exact r.length
  · obtain ⟨⟨v_row, v_lacked, v_over⟩, r, hpre, k⟩ := h
    replace r : Paired (fun u d => D.rep K d u H0) vs [.l (il v_row), .l (il v_lacked), .l (il v_over)] := r
    obtain ⟨u_v_row, tl_v_row, hvs0, r_v_row, r0⟩ := paired_cons r
    clear r
    subst hvs0
    obtain ⟨a_v_row, rfl, h_a_v_row0⟩ := r_v_row
    obtain ⟨u_v_lacked, tl_v_lacked, hvs1, r_v_lacked, r1⟩ := paired_cons r0
    clear r0
    subst hvs1
    obtain ⟨a_v_lacked, rfl, h_a_v_lacked0⟩ := r_v_lacked
    obtain ⟨u_v_over, tl_v_over, hvs2, r_v_over, r2⟩ := paired_cons r1
    clear r1
    subst hvs2
    obtain ⟨a_v_over, rfl, h_a_v_over0⟩ := r_v_over
    obtain rfl := paired_nil r2
    obtain ⟨hp0, hp1, hp2⟩ := hpre
    replace hp0 : RowOk v_row := hp0
    replace hp1 : v_lacked.length ≤ 1000 := hp1
    replace hp2 : v_over.length ≤ 1000 := hp2
    have ex : Ex H0 H0 := Ex.refl H0
    refine ⟨_, (pss_cons (ps_expr (pe_call G_need_row (hr.mono (by decide)) (by rfl) T.g_need_row T.F_need_row.kp T.b_need_row .nil pass0 (pa_cons (pv 0) pa_nil)))
      (pss_one (ps_ret (pe_and (pe_callB (r := rAll K) (cr_all rfl) (by rfl) T.n_all (by decide +kernel) (pa_cons (pe_lc (own := [("number", 3)]) (g := gName 3) (tt := tYes) rfl sc_sound.nd (pi_list (pv 1)) (blkOk_by (own := [("number", 3)]) (N := ["row", "lacked", "over", "number"]) (sc := defScope s_sound) (by decide +kernel)) (fun _ _ _ _ _ => pg_name (i := 3) sc_sound.nd rfl (Or.inl rfl)) (fun _ _ _ _ _ => pts_nil) (fun _ _ _ _ _ => (pe_cmpR (r := rIn K false) op_in_seq (pv 3) (pv 0) (by rfl)))) pa_nil)) (pe_one (pe_not (pe_callB (r := rAny K) (cr_any rfl) (by rfl) T.n_any (by decide +kernel) (pa_cons (pe_lc (own := [("number", 3)]) (g := gName 3) (tt := tYes) rfl sc_sound.nd (pi_list (pv 2)) (blkOk_by (own := [("number", 3)]) (N := ["row", "lacked", "over", "number"]) (sc := defScope s_sound) (by decide +kernel)) (fun _ _ _ _ _ => pg_name (i := 3) sc_sound.nd rfl (Or.inl rfl)) (fun _ _ _ _ _ => pts_nil) (fun _ _ _ _ _ => (pe_cmpR (r := rIn K false) op_in_seq (pv 3) (pv 0) (by rfl)))) pa_nil)))))))), ?_⟩
    refine q_dropN (K := K) (cl_need_row v_row (eas_cons (ed_rep (d := .l (il v_row)) (ev_var (v := .ref a_v_row) rfl) ⟨_, rfl, (ex _ _ h_a_v_row0)⟩) eas_nil) (by walk_at "kside")) (fun H1 e2 => ?_)
    have ex := ex.trans e2
    refine s_ret (ev_andV (a := (v_lacked.map fun v_number_c3 => decide (v_number_c3 ∈ v_row)).all id) (b := !((v_over.map fun v_number_c5 => decide (v_number_c5 ∈ v_row)).any id)) (ev_all (EvN.toD (en_bl (g := fun v_number_c3 => decide (v_number_c3 ∈ v_row)) (en_lc (g := fun v_number_c3 => V.bl (decide (v_number_c3 ∈ v_row))) (ed_rep (d := .l (il v_lacked)) (ev_var (v := .ref a_v_lacked) rfl) ⟨_, rfl, (ex _ _ h_a_v_lacked0)⟩) (by walk_at "kside") (fun v_number_c3 hm4 => (ev_in (ev_var rfl) (ed_rep (d := .l (il v_row)) (ev_var (v := .ref a_v_row) rfl) ⟨_, rfl, (ex _ _ h_a_v_row0)⟩))))))) (fun hg7 => (by have hg7' := hg7; (try simp only [Bool.and_eq_true, Bool.or_eq_true, Bool.not_eq_true', Bool.not_eq_false', Bool.and_eq_false_iff, Bool.or_eq_false_iff, decide_eq_true_eq, decide_eq_false_iff_not] at hg7'); exact (ev_notV (ev_any (EvN.toD (en_bl (g := fun v_number_c5 => decide (v_number_c5 ∈ v_row)) (en_lc (g := fun v_number_c5 => V.bl (decide (v_number_c5 ∈ v_row))) (ed_rep (d := .l (il v_over)) (ev_var (v := .ref a_v_over) rfl) ⟨_, rfl, (ex _ _ h_a_v_over0)⟩) (by walk_at "kside") (fun v_number_c5 hm6 => (ev_in (ev_var rfl) (ed_rep (d := .l (il v_row)) (ev_var (v := .ref a_v_row) rfl) ⟨_, rfl, (ex _ _ h_a_v_row0)⟩))))))))))) (fun H8 e9 => ?_)
    exact k _ _ (ex.trans e9) (ret_eq (congrArg (fun z : Bool => (.v (.bl z) : D)) (show m_sound v_row v_lacked v_over = (((v_lacked.map fun v_number_c3 => decide (v_number_c3 ∈ v_row)).all id) && (!((v_over.map fun v_number_c5 => decide (v_number_c5 ∈ v_row)).any id))) from rfl)) rfl)
def sp_law (K : PySem.W.Frag) : Sp := spG K (fun (a : (List Int)) => [.s (il a)]) (fun a => (a.length ≤ 63)) (fun a => .v (.bl (m_law a)))
theorem cl_law {K : PySem.W.Frag} {σ : L2.St} {H : Hp} {ta : TA} {E : XK} (v_script : List Int) (h : EvAs K ta σ H [.s (il v_script)]) (hp : (v_script.length ≤ 63)) : Ev (tCall (sp_law K) [] E ta) σ H (.bl (m_law v_script)) := ev_ofN (en_call (a := (v_script)) h hp)
theorem ok_law (T : Txt K mg fa fd) : FnOk P w K mg base CX0 4 (fa 6) (fd 6) ["_law_script"] (sp_law K) := by
  have G__law_cell_at := ok__law_cell_at (P := P) (w := w) (base := base) T
  have G__law_row := ok__law_row (P := P) (w := w) (base := base) T
  have G__law_some := ok__law_some (P := P) (w := w) (base := base) T
  have G_sound := ok_sound (P := P) (w := w) (base := base) T
  refine T.F_law.ok sc_law (fun vs H Q E h => ?_) (fun cdv A outer s H0 vs Q E hr h => ?_)
  · obtain ⟨a, r, _⟩ := h
    exact r.length
  · obtain ⟨v_script, r, hpre, k⟩ := h
    replace r : Paired (fun u d => D.rep K d u H0) vs [.s (il v_script)] := r
    obtain ⟨u_v_script, tl_v_script, hvs0, r_v_script, r0⟩ := paired_cons r
    clear r
    subst hvs0
    obtain ⟨a_v_script, rfl, h_a_v_script0⟩ := r_v_script
    obtain rfl := paired_nil r0
    have hp0 := hpre
    replace hp0 : v_script.length ≤ 63 := hp0
    have ex : Ex H0 H0 := Ex.refl H0
    refine ⟨_, (pss_cons (ps_set (i := 1) sc_law.nd rfl (.inl rfl) (pe_call G__law_row (hr.mono (by decide)) (by rfl) T.g__law_row T.F__law_row.kp T.b__law_row .nil pass0 (pa_cons (pv 0) (pa_cons pe_int (pa_cons pe_int pa_nil)))))
      (pss_cut (ps_if (pt_cmpR op_eq (pe_op op_mod (pe_call G__law_cell_at (hr.mono (by decide)) (by rfl) T.g__law_cell_at T.F__law_cell_at.kp T.b__law_cell_at .nil pass0 (pa_cons (pv 0) (pa_cons pe_int pa_nil))) pe_int) pe_int (nomark _)) (pss_one (ps_set (i := 1) sc_law.nd rfl (.inl rfl) (pe_call G__law_row (hr.mono (by decide)) (by rfl) T.g__law_row T.F__law_row.kp T.b__law_row .nil pass0 (pa_cons (pv 0) (pa_cons pe_int (pa_cons pe_int pa_nil)))))) pss_nil)
      (pss_cons (ps_set (i := 2) sc_law.nd rfl (.inl rfl) (pe_call G__law_some (hr.mono (by decide)) (by rfl) T.g__law_some T.F__law_some.kp T.b__law_some .nil pass0 (pa_cons (pv 1) (pa_cons (pe_call G__law_cell_at (hr.mono (by decide)) (by rfl) T.g__law_cell_at T.F__law_cell_at.kp T.b__law_cell_at .nil pass0 (pa_cons (pv 0) (pa_cons pe_int pa_nil))) (pa_cons pe_bl pa_nil)))))
      (pss_cons (ps_set (i := 3) sc_law.nd rfl (.inl rfl) (pe_call G__law_some (hr.mono (by decide)) (by rfl) T.g__law_some T.F__law_some.kp T.b__law_some .nil pass0 (pa_cons (pv 1) (pa_cons (pe_call G__law_cell_at (hr.mono (by decide)) (by rfl) T.g__law_cell_at T.F__law_cell_at.kp T.b__law_cell_at .nil pass0 (pa_cons (pv 0) (pa_cons pe_int pa_nil))) (pa_cons pe_bl pa_nil)))))
      (pss_cons (ps_set (i := 4) sc_law.nd rfl (.inl rfl) pe_bl)
      (pss_cons (ps_for PassesOwn.never rfl (pi_list (pv 2)) (pg_name (i := 5) sc_law.nd rfl (.inl rfl)) (pss_one (ps_set (i := 4) sc_law.nd rfl (.inl rfl) (pe_and (pv 4) (pe_one (pe_cmpR (r := rIn K false) op_in_seq (pv 5) (pv 1) (by rfl)))))))
      (pss_cons (ps_for PassesOwn.never rfl (pi_list (pv 3)) (pg_name (i := 5) sc_law.nd rfl (.inl rfl)) (pss_one (ps_set (i := 4) sc_law.nd rfl (.inl rfl) (pe_and (pv 4) (pe_one (pe_cmpR (r := rIn K true) op_notIn_seq (pv 5) (pv 1) (by rfl)))))))
      (pss_cons (ps_set (i := 6) sc_law.nd rfl (.inl rfl) (pe_lst (pa_cons (pe_callTy (r := rListS K) call_list_of (by rfl) T.n_list (by decide +kernel) (pa_cons (pv 1) pa_nil)) (pa_cons (pe_callTy (r := rListS K) call_list_of (by rfl) T.n_list (by decide +kernel) (pa_cons (pv 2) pa_nil)) (pa_cons (pe_callTy (r := rListS K) call_list_of (by rfl) T.n_list (by decide +kernel) (pa_cons (pv 3) pa_nil)) pa_nil)))))
      (pss_cons (ps_for PassesOwn.never rfl (pi_range1 (by rfl) T.n_range (pa_cons pe_int pa_nil)) (pg_name (i := 7) sc_law.nd rfl (.inl rfl)) (pss_cons (ps_set (i := 8) sc_law.nd rfl (.inl rfl) (pe_call G_sound (hr.mono (by decide)) (by rfl) T.g_sound T.F_sound.kp T.b_sound .nil pass0 (pa_cons (pe_ix (r := rIxL K) ix_list (pv 6) pe_int (fun _ _ => rfl)) (pa_cons (pe_ix (r := rIxL K) ix_list (pv 6) pe_int (fun _ _ => rfl)) (pa_cons (pe_ix (r := rIxL K) ix_list (pv 6) pe_int (fun _ _ => rfl)) pa_nil)))))
      (pss_one (ps_if (PW.pt (pw_or (pt_not (pt_val (pe_callB (r := rIsi K) call_isi (by rfl) T.n_isinstance (by decide +kernel) (pa_cons (pv 8) (pa_cons (pe_bltn (v := .ty "bool") (by rfl) T.n_bool (by decide +kernel) rfl) pa_nil))))) (pw_or (pt_cmpR op_ne (pv 8) (pv 4) (nomark _)) (pw_or1 (pt_cmpR (r := rNeD K) (op_neD hr.units) (pv 6) (pe_lst (pa_cons (pv 1) (pa_cons (pv 2) (pa_cons (pv 3) pa_nil)))) (nomark _)))))) (pss_one (ps_ret pe_bl)) pss_nil))))
      (pss_one (ps_ret pe_bl))))))))))), ?_⟩
    obtain ⟨v_row_here_4, e_v_row_here_4⟩ : ∃ z : List Int, z = (m_law_row v_script 0 24) := ⟨_, rfl⟩
    refine q_asgNl (K := K) (xs := il v_row_here_4) (en_is (cl__law_row v_script 0 24 (eas_cons (ed_var rfl ⟨_, rfl, ex_l ex h_a_v_script0⟩) (eas_cons (ed_v ev_c) (eas_cons (ed_v ev_c) eas_nil))) ⟨(by walk_at "kside"), (by walk_at "kside")⟩) (congrArg (fun z => D.l (il z)) e_v_row_here_4.symm)) (fun a_3 H1 np_a_3 e2 h_a_3 => ?_)
    have n_a_3 := fresh_back ex np_a_3
    have ex := ex.trans e2
    have hrow : RowOk v_row_here_4 ∧ (v_row_here_4.length : Int) ≤ 24 := by rw [e_v_row_here_4]; exact law_row_ok _ _ _ (by decide)
    refine q_cut (M := fun σ' H' => ∃ (v_row_here_5 : List Int) (a_v_row_here_5 : Addr), m_law_J1 v_script v_row_here_4 = v_row_here_5 ∧ σ' = [some (.ref a_v_script), some (.ref a_v_row_here_5), none, none, none, none, none, none, none] ∧ Ex H0 H' ∧ H' a_v_row_here_5 = some (.lst (il v_row_here_5)) ∧ H0 a_v_row_here_5 = none) ?_ ?_
    ·
      refine s_when (b := decide ((m_law_cell_at v_script 3) % 8 = 1)) (et_test (ev_eqI (ev_op (cl__law_cell_at v_script 3 (eas_cons (ed_var rfl ⟨_, rfl, ex_l ex h_a_v_script0⟩) (eas_cons (ed_v ev_c) eas_nil)) (by walk_at "kside")) ev_c (rv_I (by walk_at "kside"))) ev_c)) (fun hb8 H6 e7 => ?_) (fun hb8 H6 e7 => ?_)
      ·
        have hq8 := hb8
        (try simp only [Bool.and_eq_true, Bool.or_eq_true, Bool.not_eq_true', Bool.not_eq_false', Bool.and_eq_false_iff, Bool.or_eq_false_iff, decide_eq_true_eq, decide_eq_false_iff_not] at hq8)
        have ex := ex.trans e7
        have h_a_3 := e7 _ _ h_a_3
        obtain ⟨v_row_here_12, e_v_row_here_12⟩ : ∃ z : List Int, z = (m_law_row v_script 0 250) := ⟨_, rfl⟩
        refine s_asgNl (K := K) (xs := il v_row_here_12) (en_is (cl__law_row v_script 0 250 (eas_cons (ed_var rfl ⟨_, rfl, ex_l ex h_a_v_script0⟩) (eas_cons (ed_v ev_c) (eas_cons (ed_v ev_c) eas_nil))) ⟨(by walk_at "kside"), (by walk_at "kside")⟩) (congrArg (fun z => D.l (il z)) e_v_row_here_12.symm)) (fun a_11 H9 np_a_11 e10 h_a_11 => ?_)
        have n_a_11 := fresh_back ex np_a_11
        have ne_a_3_a_11 := ne_of_none h_a_3 np_a_11
        have ex := ex.trans e10
        have h_a_3 := e10 _ _ h_a_3
        subst e_v_row_here_12
        have hs13 : m_law_J1 v_script v_row_here_4 = (m_law_row v_script 0 250) := (Eq.trans (cond_t hb8) rfl)
        exact ⟨_, _, hs13, rfl, ex, h_a_11, n_a_11⟩
      ·
        have hq8 := hb8
        (try simp only [Bool.and_eq_true, Bool.or_eq_true, Bool.not_eq_true', Bool.not_eq_false', Bool.and_eq_false_iff, Bool.or_eq_false_iff, decide_eq_true_eq, decide_eq_false_iff_not] at hq8)
        have ex := ex.trans e7
        have h_a_3 := e7 _ _ h_a_3
        have hs14 : m_law_J1 v_script v_row_here_4 = v_row_here_4 := (Eq.trans (cond_f hb8) rfl)
        exact ⟨_, _, hs14, rfl, ex, h_a_3, n_a_3⟩
    ·
      rintro σ' H15 ⟨v_row_here_5, a_v_row_here_5, hj1, rfl, ex, h_a_v_row_here_5, n_a_v_row_here_5⟩
      have e_v_row_here_5 : v_row_here_5 = m_law_J1 v_script v_row_here_4 := hj1.symm
      clear hj1
      replace hrow : RowOk v_row_here_5 ∧ v_row_here_5.length ≤ 250 := by rw [e_v_row_here_5]; exact law_J1_ok _ _ hrow
      obtain ⟨hrow, hrl⟩ := hrow
      obtain ⟨v_lacked_19, e_v_lacked_19⟩ : ∃ z : List Int, z = (m_law_some v_row_here_5 (m_law_cell_at v_script 1) true) := ⟨_, rfl⟩
      refine q_asgNl (K := K) (xs := il v_lacked_19) (en_is (cl__law_some v_row_here_5 (m_law_cell_at v_script 1) true (eas_cons (ed_rep (d := .l (il v_row_here_5)) (ev_var (v := .ref a_v_row_here_5) rfl) ⟨_, rfl, h_a_v_row_here_5⟩) (eas_cons (ed_v (cl__law_cell_at v_script 1 (eas_cons (ed_var rfl ⟨_, rfl, ex_l ex h_a_v_script0⟩) (eas_cons (ed_v ev_c) eas_nil)) (by walk_at "kside"))) (eas_cons (ed_v ev_c) eas_nil))) (by walk_at "kside")) (congrArg (fun z => D.l (il z)) e_v_lacked_19.symm)) (fun a_18 H16 np_a_18 e17 h_a_18 => ?_)
      have n_a_18 := fresh_back ex np_a_18
      have ne_a_v_row_here_5_a_18 := ne_of_none h_a_v_row_here_5 np_a_18
      have ex := ex.trans e17
      have h_a_v_row_here_5 := e17 _ _ h_a_v_row_here_5
      have hll : v_lacked_19.length ≤ 5 := by rw [e_v_lacked_19]; exact law_some_len _ _ _
      obtain ⟨v_over_23, e_v_over_23⟩ : ∃ z : List Int, z = (m_law_some v_row_here_5 (m_law_cell_at v_script 2) false) := ⟨_, rfl⟩
      refine q_asgNl (K := K) (xs := il v_over_23) (en_is (cl__law_some v_row_here_5 (m_law_cell_at v_script 2) false (eas_cons (ed_rep (d := .l (il v_row_here_5)) (ev_var (v := .ref a_v_row_here_5) rfl) ⟨_, rfl, h_a_v_row_here_5⟩) (eas_cons (ed_v (cl__law_cell_at v_script 2 (eas_cons (ed_var rfl ⟨_, rfl, ex_l ex h_a_v_script0⟩) (eas_cons (ed_v ev_c) eas_nil)) (by walk_at "kside"))) (eas_cons (ed_v ev_c) eas_nil))) (by walk_at "kside")) (congrArg (fun z => D.l (il z)) e_v_over_23.symm)) (fun a_22 H20 np_a_22 e21 h_a_22 => ?_)
      have n_a_22 := fresh_back ex np_a_22
      have ne_a_v_row_here_5_a_22 := ne_of_none h_a_v_row_here_5 np_a_22
      have ne_a_18_a_22 := ne_of_none h_a_18 np_a_22
      have ex := ex.trans e21
      have h_a_v_row_here_5 := e21 _ _ h_a_v_row_here_5
      have h_a_18 := e21 _ _ h_a_18
      have hol : v_over_23.length ≤ 5 := by rw [e_v_over_23]; exact law_some_len _ _ _
      refine q_asg (v := .bl true) ev_c (fun H24 e25 => ?_)
      have ex := ex.trans e25
      have h_a_v_row_here_5 := e25 _ _ h_a_v_row_here_5
      have h_a_18 := e25 _ _ h_a_18
      have h_a_22 := e25 _ _ h_a_22
      refine q_forI (ev_var (v := .ref a_18) rfl) h_a_18 (fun (i : Nat) σ' H' => ∃ (y_v_number_1 : Option V) (v_due_27 : Bool), (v_lacked_19.take i).foldl (m_law_L1s v_row_here_5) true = v_due_27 ∧ σ' = [some (.ref a_v_script), some (.ref a_v_row_here_5), some (.ref a_18), some (.ref a_22), some (.bl v_due_27), y_v_number_1, none, none, none] ∧ Ex H0 H' ∧ H' a_v_row_here_5 = some (.lst (il v_row_here_5)) ∧ H' a_18 = some (.lst (il v_lacked_19)) ∧ H' a_22 = some (.lst (il v_over_23))) (fun H30 e31 => ⟨_, _, rfl, rfl, ex.trans e31, e31 _ _ h_a_v_row_here_5, e31 _ _ h_a_18, e31 _ _ h_a_22⟩) (fun i σ' H' hP => by obtain ⟨_, _, _, _, ex', h'_a_v_row_here_5, h'_a_18, h'_a_22⟩ := hP; exact h'_a_18) ?_ ?_
      ·
        rintro i26 v_number_28 σ' H32 hx_v_number_28 ⟨y_v_number_1, v_due_27, hst1, rfl, ex, h_a_v_row_here_5, h_a_18, h_a_22⟩
        obtain ⟨v_due_36, e_v_due_36⟩ : ∃ z : Bool, z = (v_due_27 && (decide (v_number_28 ∈ v_row_here_5))) := ⟨_, rfl⟩
        refine s_asg (v := .bl v_due_36) (ev_is (ev_andV (a := v_due_27) (b := decide (v_number_28 ∈ v_row_here_5)) (ev_var rfl) (fun hg33 => (ev_in (ev_var rfl) (ed_rep (d := .l (il v_row_here_5)) (ev_var (v := .ref a_v_row_here_5) rfl) ⟨_, rfl, h_a_v_row_here_5⟩)))) (congrArg V.bl e_v_due_36.symm)) (fun H34 e35 => ?_)
        have ex := ex.trans e35
        have h_a_v_row_here_5 := e35 _ _ h_a_v_row_here_5
        have h_a_18 := e35 _ _ h_a_18
        have h_a_22 := e35 _ _ h_a_22
        subst e_v_due_36
        have hs37 : (v_lacked_19.take (i26 + 1)).foldl (m_law_L1s v_row_here_5) true = (v_due_27 && (decide (v_number_28 ∈ v_row_here_5))) := (fold_succ hx_v_number_28).trans ((congrArg (fun z => (m_law_L1s v_row_here_5) z v_number_28) hst1).trans rfl)
        exact ⟨_, _, hs37, rfl, ex, h_a_v_row_here_5, h_a_18, h_a_22⟩
      ·
        rintro σ' H38 ⟨y_v_number_1, v_due_27, hst1, rfl, ex, h_a_v_row_here_5, h_a_18, h_a_22⟩
        rw [List.take_length] at hst1
        obtain rfl : v_due_27 = (m_law_L1 v_row_here_5 v_lacked_19) := hst1.symm
        obtain ⟨v_due_39, e_v_due_39⟩ : ∃ z : Bool, z = (m_law_L1 v_row_here_5 v_lacked_19) := ⟨_, rfl⟩
        rw [← e_v_due_39]
        refine q_forI (ev_var (v := .ref a_22) rfl) h_a_22 (fun (i : Nat) σ' H' => ∃ (y_v_number_2 : Option V) (v_due_41 : Bool), (v_over_23.take i).foldl (m_law_L2s v_row_here_5) v_due_39 = v_due_41 ∧ σ' = [some (.ref a_v_script), some (.ref a_v_row_here_5), some (.ref a_18), some (.ref a_22), some (.bl v_due_41), y_v_number_2, none, none, none] ∧ Ex H0 H' ∧ H' a_v_row_here_5 = some (.lst (il v_row_here_5)) ∧ H' a_18 = some (.lst (il v_lacked_19)) ∧ H' a_22 = some (.lst (il v_over_23))) (fun H44 e45 => ⟨_, _, rfl, rfl, ex.trans e45, e45 _ _ h_a_v_row_here_5, e45 _ _ h_a_18, e45 _ _ h_a_22⟩) (fun i σ' H' hP => by obtain ⟨_, _, _, _, ex', h'_a_v_row_here_5, h'_a_18, h'_a_22⟩ := hP; exact h'_a_22) ?_ ?_
        ·
          rintro i40 v_number_42 σ' H46 hx_v_number_42 ⟨y_v_number_2, v_due_41, hst2, rfl, ex, h_a_v_row_here_5, h_a_18, h_a_22⟩
          obtain ⟨v_due_50, e_v_due_50⟩ : ∃ z : Bool, z = (v_due_41 && (!decide (v_number_42 ∈ v_row_here_5))) := ⟨_, rfl⟩
          refine s_asg (v := .bl v_due_50) (ev_is (ev_andV (a := v_due_41) (b := !decide (v_number_42 ∈ v_row_here_5)) (ev_var rfl) (fun hg47 => (ev_ni (ev_var rfl) (ed_rep (d := .l (il v_row_here_5)) (ev_var (v := .ref a_v_row_here_5) rfl) ⟨_, rfl, h_a_v_row_here_5⟩)))) (congrArg V.bl e_v_due_50.symm)) (fun H48 e49 => ?_)
          have ex := ex.trans e49
          have h_a_v_row_here_5 := e49 _ _ h_a_v_row_here_5
          have h_a_18 := e49 _ _ h_a_18
          have h_a_22 := e49 _ _ h_a_22
          subst e_v_due_50
          have hs51 : (v_over_23.take (i40 + 1)).foldl (m_law_L2s v_row_here_5) v_due_39 = (v_due_41 && (!decide (v_number_42 ∈ v_row_here_5))) := (fold_succ hx_v_number_42).trans ((congrArg (fun z => (m_law_L2s v_row_here_5) z v_number_42) hst2).trans rfl)
          exact ⟨_, _, hs51, rfl, ex, h_a_v_row_here_5, h_a_18, h_a_22⟩
        ·
          rintro σ' H52 ⟨y_v_number_2, v_due_41, hst2, rfl, ex, h_a_v_row_here_5, h_a_18, h_a_22⟩
          rw [List.take_length] at hst2
          obtain rfl : v_due_41 = (m_law_L2 v_row_here_5 v_over_23 v_due_39) := hst2.symm
          obtain ⟨v_due_53, e_v_due_53⟩ : ∃ z : Bool, z = (m_law_L2 v_row_here_5 v_over_23 v_due_39) := ⟨_, rfl⟩
          rw [← e_v_due_53]
          refine q_asgN (K := K) (en_ll3 (en_list (ed_rep (d := .l (il v_row_here_5)) (ev_var (v := .ref a_v_row_here_5) rfl) ⟨_, rfl, h_a_v_row_here_5⟩)) (en_list (ed_rep (d := .l (il v_lacked_19)) (ev_var (v := .ref a_18) rfl) ⟨_, rfl, h_a_18⟩)) (en_list (ed_rep (d := .l (il v_over_23)) (ev_var (v := .ref a_22) rfl) ⟨_, rfl, h_a_22⟩))) (fun u_a_56 H54 e55 r_a_56 => ?_)
          obtain ⟨a_56, ps_a_56, rfl, np_a_56, h_a_56, nd_a_56, pr_a_56⟩ := r_a_56
          obtain ⟨a_57, tl_a_57, rfl, ⟨np_a_57, h_a_57⟩, pr_a_57⟩ := paired_cons pr_a_56
          obtain ⟨a_58, tl_a_58, rfl, ⟨np_a_58, h_a_58⟩, pr_a_58⟩ := paired_cons pr_a_57
          obtain ⟨a_59, tl_a_59, rfl, ⟨np_a_59, h_a_59⟩, pr_a_59⟩ := paired_cons pr_a_58
          obtain rfl := paired_nil pr_a_59
          have nd_a_56 := list_nodup4 nd_a_56
          have n_a_56 := fresh_back ex np_a_56
          have ne_a_v_row_here_5_a_56 := ne_of_none h_a_v_row_here_5 np_a_56
          have ne_a_18_a_56 := ne_of_none h_a_18 np_a_56
          have ne_a_22_a_56 := ne_of_none h_a_22 np_a_56
          have ne_a_v_row_here_5_a_57 := ne_of_none h_a_v_row_here_5 np_a_57
          have ne_a_18_a_57 := ne_of_none h_a_18 np_a_57
          have ne_a_22_a_57 := ne_of_none h_a_22 np_a_57
          have n_a_57 := fresh_back ex np_a_57
          have ne_a_v_row_here_5_a_58 := ne_of_none h_a_v_row_here_5 np_a_58
          have ne_a_18_a_58 := ne_of_none h_a_18 np_a_58
          have ne_a_22_a_58 := ne_of_none h_a_22 np_a_58
          have n_a_58 := fresh_back ex np_a_58
          have ne_a_v_row_here_5_a_59 := ne_of_none h_a_v_row_here_5 np_a_59
          have ne_a_18_a_59 := ne_of_none h_a_18 np_a_59
          have ne_a_22_a_59 := ne_of_none h_a_22 np_a_59
          have n_a_59 := fresh_back ex np_a_59
          have ne_a_56_a_57 : a_56 ≠ a_57 := nd_a_56.1
          have ne_a_56_a_58 : a_56 ≠ a_58 := nd_a_56.2.1
          have ne_a_56_a_59 : a_56 ≠ a_59 := nd_a_56.2.2.1
          have ne_a_57_a_58 : a_57 ≠ a_58 := nd_a_56.2.2.2.1
          have ne_a_57_a_59 : a_57 ≠ a_59 := nd_a_56.2.2.2.2.1
          have ne_a_58_a_59 : a_58 ≠ a_59 := nd_a_56.2.2.2.2.2
          have ex := ex.trans e55
          have h_a_v_row_here_5 := e55 _ _ h_a_v_row_here_5
          have h_a_18 := e55 _ _ h_a_18
          have h_a_22 := e55 _ _ h_a_22
          refine q_forR1 (n := 2) (ea_cons ev_c ea_nil) (by walk_at "kside") (fun (i : Nat) σ' H' => ∃ (y_v_turn_3 : Option V) (y_v_found_3 : Option V), first (m_law_L3b v_row_here_5 v_lacked_19 v_over_23 v_due_53) i = none ∧ σ' = [some (.ref a_v_script), some (.ref a_v_row_here_5), some (.ref a_18), some (.ref a_22), some (.bl v_due_53), y_v_number_2, some (.ref a_56), y_v_turn_3, y_v_found_3] ∧ Ex H0 H' ∧ H' a_v_row_here_5 = some (.lst (il v_row_here_5)) ∧ H' a_18 = some (.lst (il v_lacked_19)) ∧ H' a_22 = some (.lst (il v_over_23)) ∧ H' a_57 = some (.lst (il v_row_here_5)) ∧ H' a_58 = some (.lst (il v_lacked_19)) ∧ H' a_59 = some (.lst (il v_over_23)) ∧ H' a_56 = some (.lst [V.ref a_57, V.ref a_58, V.ref a_59])) (fun H62 e63 => ⟨_, _, rfl, rfl, ex.trans e63, e63 _ _ h_a_v_row_here_5, e63 _ _ h_a_18, e63 _ _ h_a_22, e63 _ _ h_a_57, e63 _ _ h_a_58, e63 _ _ h_a_59, e63 _ _ h_a_56⟩) ?_ ?_
          ·
            rintro i60 σ' H64 hi_i60 ⟨y_v_turn_3, y_v_found_3, hst3, rfl, ex, h_a_v_row_here_5, h_a_18, h_a_22, h_a_57, h_a_58, h_a_59, h_a_56⟩
            obtain ⟨v_found_67, e_v_found_67⟩ : ∃ z : Bool, z = (m_sound v_row_here_5 v_lacked_19 v_over_23) := ⟨_, rfl⟩
            refine q_asg (v := .bl v_found_67) (ev_is (cl_sound v_row_here_5 v_lacked_19 v_over_23 (eas_cons (ed_rep (d := .l (il v_row_here_5)) (ev_op (ev_var (v := .ref a_56) rfl) ev_c (rv_ixL (v := V.ref a_57) (sq_of h_a_56) rfl)) ⟨_, rfl, h_a_57⟩) (eas_cons (ed_rep (d := .l (il v_lacked_19)) (ev_op (ev_var (v := .ref a_56) rfl) ev_c (rv_ixL (v := V.ref a_58) (sq_of h_a_56) rfl)) ⟨_, rfl, h_a_58⟩) (eas_cons (ed_rep (d := .l (il v_over_23)) (ev_op (ev_var (v := .ref a_56) rfl) ev_c (rv_ixL (v := V.ref a_59) (sq_of h_a_56) rfl)) ⟨_, rfl, h_a_59⟩) eas_nil))) ⟨(by walk_at "kside"), (by walk_at "kside"), (by walk_at "kside")⟩) (congrArg V.bl e_v_found_67.symm)) (fun H65 e66 => ?_)
            have ex := ex.trans e66
            have h_a_v_row_here_5 := e66 _ _ h_a_v_row_here_5
            have h_a_18 := e66 _ _ h_a_18
            have h_a_22 := e66 _ _ h_a_22
            have h_a_57 := e66 _ _ h_a_57
            have h_a_58 := e66 _ _ h_a_58
            have h_a_59 := e66 _ _ h_a_59
            have h_a_56 := e66 _ _ h_a_56
            refine s_when (b := (!decide (v_found_67 = v_due_53)) || (!decide ([v_row_here_5, v_lacked_19, v_over_23] = [v_row_here_5, v_lacked_19, v_over_23]))) (et_or (a := false) (b := (!decide (v_found_67 = v_due_53)) || (!decide ([v_row_here_5, v_lacked_19, v_over_23] = [v_row_here_5, v_lacked_19, v_over_23]))) (et_not (et_B (ev_isD (d := .v (.bl v_found_67)) (s := "bool") (b := true) (ed_v (ev_var rfl)) ev_c rfl (by decide +kernel)))) (fun hg69 => (et_or (a := !decide (v_found_67 = v_due_53)) (b := !decide ([v_row_here_5, v_lacked_19, v_over_23] = [v_row_here_5, v_lacked_19, v_over_23])) (et_test (ev_neB (ev_var rfl) (ev_var rfl))) (fun hg68 => (et_test (ev_neLL (ed_rep (d := .ll ([v_row_here_5, v_lacked_19, v_over_23].map il)) (ev_var (v := .ref a_56) rfl) ⟨_, [a_57, a_58, a_59], rfl, h_a_56, .cons h_a_57 (.cons h_a_58 (.cons h_a_59 (.nil)))⟩) (ed_llv (ps := [a_v_row_here_5, a_18, a_22]) (xss := [il v_row_here_5, il v_lacked_19, il v_over_23]) (ea_cons (ev_var (v := .ref a_v_row_here_5) rfl) (ea_cons (ev_var (v := .ref a_18) rfl) (ea_cons (ev_var (v := .ref a_22) rfl) ea_nil))) (.cons h_a_v_row_here_5 (.cons h_a_18 (.cons h_a_22 (.nil)))) (Nat.le_of_ble_eq_true rfl)))))))) (fun hb72 H70 e71 => ?_) (fun hb72 H70 e71 => ?_)
            ·
              have hq72 := hb72
              (try simp only [Bool.and_eq_true, Bool.or_eq_true, Bool.not_eq_true', Bool.not_eq_false', Bool.and_eq_false_iff, Bool.or_eq_false_iff, decide_eq_true_eq, decide_eq_false_iff_not] at hq72)
              have ex := ex.trans e71
              have h_a_v_row_here_5 := e71 _ _ h_a_v_row_here_5
              have h_a_18 := e71 _ _ h_a_18
              have h_a_22 := e71 _ _ h_a_22
              have h_a_57 := e71 _ _ h_a_57
              have h_a_58 := e71 _ _ h_a_58
              have h_a_59 := e71 _ _ h_a_59
              have h_a_56 := e71 _ _ h_a_56
              refine s_ret ev_c (fun H73 e74 => ?_)
              subst e_v_found_67
              have hs77 : (m_law_L3b v_row_here_5 v_lacked_19 v_over_23 v_due_53) i60 = some false := (Eq.trans (cond_t hb72) rfl)
              have hr78 : first (m_law_L3b v_row_here_5 v_lacked_19 v_over_23 v_due_53) ((2 : Int).toNat) = some false := first_some hst3 hs77 (by have := hi_i60; omega)
              subst e_v_due_53
              subst e_v_due_39
              subst e_v_over_23
              subst e_v_lacked_19
              subst e_v_row_here_5
              subst e_v_row_here_4
              exact k _ _ (ex.trans e74) (ret_eq (congrArg (fun z : Bool => (.v (.bl z) : D)) (show m_law v_script = false from (Eq.trans (getd_s hr78) rfl))) rfl)
            ·
              have hq72 := hb72
              (try simp only [Bool.and_eq_true, Bool.or_eq_true, Bool.not_eq_true', Bool.not_eq_false', Bool.and_eq_false_iff, Bool.or_eq_false_iff, decide_eq_true_eq, decide_eq_false_iff_not] at hq72)
              have ex := ex.trans e71
              have h_a_v_row_here_5 := e71 _ _ h_a_v_row_here_5
              have h_a_18 := e71 _ _ h_a_18
              have h_a_22 := e71 _ _ h_a_22
              have h_a_57 := e71 _ _ h_a_57
              have h_a_58 := e71 _ _ h_a_58
              have h_a_59 := e71 _ _ h_a_59
              have h_a_56 := e71 _ _ h_a_56
              subst e_v_found_67
              have hs79 : (m_law_L3b v_row_here_5 v_lacked_19 v_over_23 v_due_53) i60 = none := (Eq.trans (cond_f hb72) rfl)
              exact ⟨_, _, first_none hst3 hs79, rfl, ex, h_a_v_row_here_5, h_a_18, h_a_22, h_a_57, h_a_58, h_a_59, h_a_56⟩
          ·
            rintro σ' H80 ⟨y_v_turn_3, y_v_found_3, hst3, rfl, ex, h_a_v_row_here_5, h_a_18, h_a_22, h_a_57, h_a_58, h_a_59, h_a_56⟩
            refine s_ret ev_c (fun H81 e82 => ?_)
            subst e_v_due_53
            subst e_v_due_39
            subst e_v_over_23
            subst e_v_lacked_19
            subst e_v_row_here_5
            subst e_v_row_here_4
            exact k _ _ (ex.trans e82) (ret_eq (congrArg (fun z : Bool => (.v (.bl z) : D)) (show m_law v_script = true from (Eq.trans (getd_n hst3) rfl))) rfl)
end
end Pf
namespace Pf
open Kx
theorem due_in (row : List Int) : ∀ (l : List Int) (b : Bool), l.foldl (m_law_L1s row) b = (b && (l.map fun n => decide (n ∈ row)).all id)
  | [], b => by simp
  | x :: l, b => by
    rw [List.foldl_cons, due_in row l]
    show ((b && decide (x ∈ row)) && _) = (b && (decide (x ∈ row) && _))
    rw [Bool.and_assoc]
theorem due_out (row : List Int) : ∀ (l : List Int) (b : Bool), l.foldl (m_law_L2s row) b = (b && !(l.map fun n => decide (n ∈ row)).any id)
  | [], b => by simp
  | x :: l, b => by
    rw [List.foldl_cons, due_out row l]
    show ((b && !decide (x ∈ row)) && _) = (b && !(decide (x ∈ row) || _))
    rw [Bool.and_assoc, Bool.not_or]
theorem law_true (ns : List Int) (_ : ns.length ≤ 63) : m_law ns = true := by
  unfold m_law
  dsimp only
  generalize m_law_J1 ns (m_law_row ns 0 24) = row
  generalize m_law_some row (m_law_cell_at ns 1) true = l
  generalize m_law_some row (m_law_cell_at ns 2) false = o
  have e : ∀ i, m_law_L3b row l o (m_law_L2 row o (m_law_L1 row l)) i = none := fun i => by
    have h1 : m_law_L2 row o (m_law_L1 row l) = m_sound row l o := by
      show o.foldl (m_law_L2s row) (l.foldl (m_law_L1s row) true) = _
      rw [due_out, due_in, Bool.true_and]
      rfl
    unfold m_law_L3b
    dsimp only
    rw [h1, decide_eq_true rfl, decide_eq_true rfl]
    rfl
  have e2 : first (m_law_L3b row l o (m_law_L2 row o (m_law_L1 row l))) (2 : Int).toNat = none := by
    show first _ 2 = none
    exact first_none (first_none rfl (e 0)) (e 1)
  rw [e2]
  rfl
end Pf

namespace Pf
open PySem PySem.Spec PyProof.Rows L2 Evl Kx
theorem all_mk {l : PySem.W.OpenLaw} {w : World} {K : PySem.W.Frag} {h : Heap} {mg : Str → Option Value} {fl f0 f1 f2 f3 f4 f5 f6 : Addr} (X : K.In h) (G : h.Ns mainGlobals mg) (hfa : mg "law" = some (.ref fl))
    {od0 an0 : Option Addr} {sl0 : Array (Option Value)} {oc0 kV0 dc0 pm0 cd0 ct0 : Value}
    {od1 an1 : Option Addr} {sl1 : Array (Option Value)} {oc1 kV1 dc1 pm1 cd1 ct1 : Value}
    {od2 an2 : Option Addr} {sl2 : Array (Option Value)} {oc2 kV2 dc2 pm2 cd2 ct2 : Value}
    {od3 an3 : Option Addr} {sl3 : Array (Option Value)} {oc3 kV3 dc3 pm3 cd3 ct3 : Value}
    {od4 an4 : Option Addr} {sl4 : Array (Option Value)} {oc4 kV4 dc4 pm4 cd4 ct4 : Value}
    {od5 an5 : Option Addr} {sl5 : Array (Option Value)} {oc5 kV5 dc5 pm5 cd5 ct5 : Value}
    {od6 an6 : Option Addr} {sl6 : Array (Option Value)} {oc6 kV6 dc6 pm6 cd6 ct6 : Value}
    (a0 : PySem.W.nsIn K mainGlobals "_law_cell_at" = some (some (.ref f0)))
    (l0 : K.lookup f0 = some ⟨oc0, od0, .func (PySem.W.fnOf "_law_cell_at" "_law_cell_at" (defArgs s__law_cell_at) (defBody s__law_cell_at) (defScope s__law_cell_at) .none kV0 dc0 pm0 an0 cd0 ct0), sl0⟩)
    (c0 : PySem.W.codeIn K cd0 "_law_cell_at" = true) (k0 : PySem.W.keepIn K (.ref f0) = true)
    (a1 : PySem.W.nsIn K mainGlobals "_law_row" = some (some (.ref f1)))
    (l1 : K.lookup f1 = some ⟨oc1, od1, .func (PySem.W.fnOf "_law_row" "_law_row" (defArgs s__law_row) (defBody s__law_row) (defScope s__law_row) .none kV1 dc1 pm1 an1 cd1 ct1), sl1⟩)
    (c1 : PySem.W.codeIn K cd1 "_law_row" = true) (k1 : PySem.W.keepIn K (.ref f1) = true)
    (a2 : PySem.W.nsIn K mainGlobals "_law_some" = some (some (.ref f2)))
    (l2 : K.lookup f2 = some ⟨oc2, od2, .func (PySem.W.fnOf "_law_some" "_law_some" (defArgs s__law_some) (defBody s__law_some) (defScope s__law_some) .none kV2 dc2 pm2 an2 cd2 ct2), sl2⟩)
    (c2 : PySem.W.codeIn K cd2 "_law_some" = true) (k2 : PySem.W.keepIn K (.ref f2) = true)
    (a3 : PySem.W.nsIn K mainGlobals "is_number" = some (some (.ref f3)))
    (l3 : K.lookup f3 = some ⟨oc3, od3, .func (PySem.W.fnOf "is_number" "is_number" (defArgs s_is_number) (defBody s_is_number) (defScope s_is_number) .none kV3 dc3 pm3 an3 cd3 ct3), sl3⟩)
    (c3 : PySem.W.codeIn K cd3 "is_number" = true) (k3 : PySem.W.keepIn K (.ref f3) = true)
    (a4 : PySem.W.nsIn K mainGlobals "need_row" = some (some (.ref f4)))
    (l4 : K.lookup f4 = some ⟨oc4, od4, .func (PySem.W.fnOf "need_row" "need_row" (defArgs s_need_row) (defBody s_need_row) (defScope s_need_row) .none kV4 dc4 pm4 an4 cd4 ct4), sl4⟩)
    (c4 : PySem.W.codeIn K cd4 "need_row" = true) (k4 : PySem.W.keepIn K (.ref f4) = true)
    (a5 : PySem.W.nsIn K mainGlobals "sound" = some (some (.ref f5)))
    (l5 : K.lookup f5 = some ⟨oc5, od5, .func (PySem.W.fnOf "sound" "sound" (defArgs s_sound) (defBody s_sound) (defScope s_sound) .none kV5 dc5 pm5 an5 cd5 ct5), sl5⟩)
    (c5 : PySem.W.codeIn K cd5 "sound" = true) (k5 : PySem.W.keepIn K (.ref f5) = true)
    (a6 : PySem.W.nsIn K mainGlobals "law" = some (some (.ref f6)))
    (l6 : K.lookup f6 = some ⟨oc6, od6, .func (PySem.W.fnOf "law" "law" (defArgs s_law) (defBody s_law) (defScope s_law) .none kV6 dc6 pm6 an6 cd6 ct6), sl6⟩)
    (c6 : PySem.W.codeIn K cd6 "law" = true) (k6 : PySem.W.keepIn K (.ref f6) = true)
    (z_all : PySem.W.nsIn K mainGlobals "all" = some none)
    (z_any : PySem.W.nsIn K mainGlobals "any" = some none)
    (z_bool : PySem.W.nsIn K mainGlobals "bool" = some none)
    (z_int : PySem.W.nsIn K mainGlobals "int" = some none)
    (z_isinstance : PySem.W.nsIn K mainGlobals "isinstance" = some none)
    (z_len : PySem.W.nsIn K mainGlobals "len" = some none)
    (z_list : PySem.W.nsIn K mainGlobals "list" = some none)
    (z_range : PySem.W.nsIn K mainGlobals "range" = some none)
    {tPRIME : Tok} (v_PRIME : PySem.W.nsIn K mainGlobals "PRIME" = some (some (.int 251 tPRIME))) :
    ∃ fd : FuncData, (∀ (s : Shared) (v : Value), BindsTo s fd ⟨[v], []⟩ [("_law_script", v)]) ∧ ∀ base : Heap, K.In base → base.Ns mainGlobals mg → FnOk l.prog w K mg base CX0 4 fl fd ["_law_script"] (sp_law K) := by
  have e := hfa.symm.trans (PySem.W.mg_of X G a6)
  cases e
  have F0 := fun_mk (st := s__law_cell_at) l0 c0 k0
  have b0 := F0.binds (ps := ["_law_script", "_law_k"]) fun _ _ _ _ _ _ us hl => match us, hl with | [_, _], _ => rfl
  have F1 := fun_mk (st := s__law_row) l1 c1 k1
  have b1 := F1.binds (ps := ["_law_script", "_law_at", "_law_most"]) fun _ _ _ _ _ _ us hl => match us, hl with | [_, _, _], _ => rfl
  have F2 := fun_mk (st := s__law_some) l2 c2 k2
  have b2 := F2.binds (ps := ["_law_row_here", "_law_cell", "_law_is_in"]) fun _ _ _ _ _ _ us hl => match us, hl with | [_, _, _], _ => rfl
  have F3 := fun_mk (st := s_is_number) l3 c3 k3
  have b3 := F3.binds (ps := ["thing", "least", "most"]) fun _ _ _ _ _ _ us hl => match us, hl with | [_, _, _], _ => rfl
  have F4 := fun_mk (st := s_need_row) l4 c4 k4
  have b4 := F4.binds (ps := ["row"]) fun _ _ _ _ _ _ us hl => match us, hl with | [_], _ => rfl
  have F5 := fun_mk (st := s_sound) l5 c5 k5
  have b5 := F5.binds (ps := ["row", "lacked", "over"]) fun _ _ _ _ _ _ us hl => match us, hl with | [_, _, _], _ => rfl
  have F6 := fun_mk (st := s_law) l6 c6 k6
  have b6 := F6.binds (ps := ["_law_script"]) fun _ _ _ _ _ _ us hl => match us, hl with | [_], _ => rfl
  have T : Txt K mg (fun i => [f0, f1, f2, f3, f4, f5, fl].getD i f0) (fun i => [(PySem.W.fnOf "_law_cell_at" "_law_cell_at" (defArgs s__law_cell_at) (defBody s__law_cell_at) (defScope s__law_cell_at) .none kV0 dc0 pm0 an0 cd0 ct0),
      (PySem.W.fnOf "_law_row" "_law_row" (defArgs s__law_row) (defBody s__law_row) (defScope s__law_row) .none kV1 dc1 pm1 an1 cd1 ct1),
      (PySem.W.fnOf "_law_some" "_law_some" (defArgs s__law_some) (defBody s__law_some) (defScope s__law_some) .none kV2 dc2 pm2 an2 cd2 ct2),
      (PySem.W.fnOf "is_number" "is_number" (defArgs s_is_number) (defBody s_is_number) (defScope s_is_number) .none kV3 dc3 pm3 an3 cd3 ct3),
      (PySem.W.fnOf "need_row" "need_row" (defArgs s_need_row) (defBody s_need_row) (defScope s_need_row) .none kV4 dc4 pm4 an4 cd4 ct4),
      (PySem.W.fnOf "sound" "sound" (defArgs s_sound) (defBody s_sound) (defScope s_sound) .none kV5 dc5 pm5 an5 cd5 ct5),
      (PySem.W.fnOf "law" "law" (defArgs s_law) (defBody s_law) (defScope s_law) .none kV6 dc6 pm6 an6 cd6 ct6)].getD i (PySem.W.fnOf "_law_cell_at" "_law_cell_at" (defArgs s__law_cell_at) (defBody s__law_cell_at) (defScope s__law_cell_at) .none kV0 dc0 pm0 an0 cd0 ct0)) :=
    ⟨F0, b0, PySem.W.mg_of X G a0, F1, b1, PySem.W.mg_of X G a1, F2, b2, PySem.W.mg_of X G a2, F3, b3, PySem.W.mg_of X G a3, F4, b4, PySem.W.mg_of X G a4, F5, b5, PySem.W.mg_of X G a5, F6, b6, PySem.W.mg_of X G a6, PySem.W.mg_none_of X G z_all, PySem.W.mg_none_of X G z_any, PySem.W.mg_none_of X G z_bool, PySem.W.mg_none_of X G z_int, PySem.W.mg_none_of X G z_isinstance, PySem.W.mg_none_of X G z_len, PySem.W.mg_none_of X G z_list, PySem.W.mg_none_of X G z_range, ⟨_, PySem.W.mg_of X G v_PRIME⟩⟩
  exact ⟨(PySem.W.fnOf "law" "law" (defArgs s_law) (defBody s_law) (defScope s_law) .none kV6 dc6 pm6 an6 cd6 ct6), fun s v => .of_eq rfl, fun base _ _ => ok_law (P := l.prog) (w := w) (base := base) T⟩
end Pf
open PySem PySem.W PyProof.Rows
set_option maxHeartbeats 0 in
theorem PySem.Challenge.cw_sumsync_k13_sound_holds : PySem.Challenge.rw_sumsync_k13_sound.Holds := by
  w_on; o_law; k_head; (case hw => w_witness2)
  k_fill
  refine L2.walk_of (l := PySem.Challenge.rw_sumsync_k13_sound) (n := 63) (k := 4) (x := "_law_script") (CX := fun _ => L2.CX0) (sp := fun w => Pf.sp_law _) rfl (by decide) rfl ⟨rfl, by decide, by decide⟩ (fun w h Y => PySem.W.kIn_of Y) ?F (fun _ _ a ns hl _ hS => ⟨ns, .cons ⟨a, rfl, hS⟩ .nil, hl, fun u H' _ hn => (show u = _ from hn).trans (congrArg L2.V.bl (Pf.law_true ns hl))⟩) (fun _ _ _ _ _ h => h)
  case F =>
    intro w mg fa h KX G hmg
    refine' Pf.all_mk KX G hmg ?a0 ?l0 ?c0 ?k0 ?a1 ?l1 ?c1 ?k1 ?a2 ?l2 ?c2 ?k2 ?a3 ?l3 ?c3 ?k3 ?a4 ?l4 ?c4 ?k4 ?a5 ?l5 ?c5 ?k5 ?a6 ?l6 ?c6 ?k6 ?z_all ?z_any ?z_bool ?z_int ?z_isinstance ?z_len ?z_list ?z_range ?v_PRIME
    (case a0 => k_is); (case l0 => k_is); (case c0 => k_is); (case k0 => k_is); (case a1 => k_is); (case l1 => k_is)
    (case c1 => k_is); (case k1 => k_is); (case a2 => k_is); (case l2 => k_is); (case c2 => k_is); (case k2 => k_is)
    (case a3 => k_is); (case l3 => k_is); (case c3 => k_is); (case k3 => k_is); (case a4 => k_is); (case l4 => k_is)
    (case c4 => k_is); (case k4 => k_is); (case a5 => k_is); (case l5 => k_is); (case c5 => k_is); (case k5 => k_is)
    (case a6 => k_is); (case l6 => k_is); (case c6 => k_is); (case k6 => k_is); (case z_all => k_is); (case z_any => k_is)
    (case z_bool => k_is); (case z_int => k_is); (case z_isinstance => k_is); (case z_len => k_is); (case z_list => k_is); (case z_range => k_is)
    (case v_PRIME => k_is)
