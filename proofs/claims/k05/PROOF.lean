import PyProof.Rows.All
import Wide.All
import OpenK.AllK
import Wide.FinOn
import HandS.ForMost
import HandS.Evl
import HandS.IsInst
import HandS.SortInts
import HandS.Style
import HandS.Rev
import KE.KSortedM
import PySem.Challenge.RW_sumsync_k05_letters
set_option Elab.async false
set_option linter.all false
set_option maxRecDepth 100000
set_option maxHeartbeats 4000000
/-! Own layer over the readings: data, calls, lists of whole numbers. -/
namespace Kx
open PySem PySem.Spec PyProof.Rows L2 Evl

/-- what a value stands for -/
inductive D where
  | v (x : V)
  | l (xs : List V)
  | t (xs : List V)
  | p (a b : D)
  | ll (xss : List (List V))
  | s (xs : List V)
  | al (a : D)

def D.rep (K : PySem.W.Frag) : D → V → Hp → Prop
  | .v x, u, _ => u = x
  | .l xs, u, H => ∃ a, u = .ref a ∧ H a = some (.lst xs)
  | .t xs, u, H => ∃ a, u = .ref a ∧ H a = some (.tup xs)
  | .p d e, u, H => ∃ a x y, u = .ref a ∧ H a = some (.tup [x, y]) ∧ d.rep K x H ∧ e.rep K y H
  | .ll xss, u, H => ∃ a ps, u = .ref a ∧ H a = some (.lst (ps.map V.ref)) ∧ Paired (fun q xs => H q = some (.lst xs)) ps xss
  | .s xs, u, H => ∃ a, u = .ref a ∧ SqL K H a xs
  | .al d, u, H => d.rep K u H

/-- .. made anew behind H0 -/
def D.new (K : PySem.W.Frag) (H0 : Hp) : D → V → Hp → Prop
  | .v x, u, _ => u = x
  | .l xs, u, H => ∃ a, u = .ref a ∧ H0 a = none ∧ H a = some (.lst xs)
  | .t xs, u, H => ∃ a, u = .ref a ∧ H a = some (.tup xs)
  | .p d e, u, H => ∃ a x y, u = .ref a ∧ H a = some (.tup [x, y]) ∧ d.new K H0 x H ∧ e.new K H0 y H ∧ (∀ b, x = .ref b → y ≠ .ref b)
  | .ll xss, u, H => ∃ a ps, u = .ref a ∧ H0 a = none ∧ H a = some (.lst (ps.map V.ref)) ∧ (a :: ps).Nodup ∧ Paired (fun q xs => H0 q = none ∧ H q = some (.lst xs)) ps xss
  | .s xs, u, H => ∃ a, u = .ref a ∧ SqL K H a xs
  | .al d, u, H => d.rep K u H

theorem paired_imp {α β : Type} {F G : α → β → Prop} (h : ∀ a b, F a b → G a b) : ∀ {l : List α} {m : List β}, Paired F l m → Paired G l m
  | _, _, .nil => .nil
  | _, _, .cons a b => .cons (h _ _ a) (paired_imp h b)

section
variable {K : PySem.W.Frag} {H0 H H' H1 H2 : Hp}
theorem D.mono (e : Ex H H') : ∀ {d : D} {u : V}, d.rep K u H → d.rep K u H'
  | .v _, _, h => h
  | .l _, _, ⟨a, h1, h2⟩ => ⟨a, h1, e _ _ h2⟩
  | .t _, _, ⟨a, h1, h2⟩ => ⟨a, h1, e _ _ h2⟩
  | .p _ _, _, ⟨a, x, y, h1, h2, h3, h4⟩ => ⟨a, x, y, h1, e _ _ h2, D.mono e h3, D.mono e h4⟩
  | .ll _, _, ⟨a, ps, h1, h2, h3⟩ => ⟨a, ps, h1, e _ _ h2, paired_imp (fun _ _ q => e _ _ q) h3⟩
  | .s _, _, ⟨a, h1, h2⟩ => ⟨a, h1, ex_l e h2⟩
  | .al d, _, h => D.mono (d := d) e h
theorem D.nrep : ∀ {d : D} {u : V}, d.new K H0 u H → d.rep K u H
  | .v _, _, h => h
  | .l _, _, ⟨a, h1, _, h2⟩ => ⟨a, h1, h2⟩
  | .t _, _, ⟨a, h1, h2⟩ => ⟨a, h1, h2⟩
  | .p _ _, _, ⟨a, x, y, h1, h2, h3, h4, _⟩ => ⟨a, x, y, h1, h2, D.nrep h3, D.nrep h4⟩
  | .ll _, _, ⟨a, ps, h1, _, h2, _, h3⟩ => ⟨a, ps, h1, h2, paired_imp (fun _ _ q => q.2) h3⟩
  | .s _, _, ⟨a, h1, h2⟩ => ⟨a, h1, h2⟩
  | .al _, _, h => h
theorem D.nmono (e : Ex H H') : ∀ {d : D} {u : V}, d.new K H0 u H → d.new K H0 u H'
  | .v _, _, h => h
  | .l _, _, ⟨a, h1, n, h2⟩ => ⟨a, h1, n, e _ _ h2⟩
  | .t _, _, ⟨a, h1, h2⟩ => ⟨a, h1, e _ _ h2⟩
  | .p _ _, _, ⟨a, x, y, h1, h2, h3, h4, n⟩ => ⟨a, x, y, h1, e _ _ h2, D.nmono e h3, D.nmono e h4, n⟩
  | .ll _, _, ⟨a, ps, h1, n, h2, m, h3⟩ => ⟨a, ps, h1, n, e _ _ h2, m, paired_imp (fun _ _ q => ⟨q.1, e _ _ q.2⟩) h3⟩
  | .s _, _, ⟨a, h1, h2⟩ => ⟨a, h1, ex_l e h2⟩
  | .al d, _, h => D.mono (d := d) e h
theorem D.nback (e : Ex H0 H1) : ∀ {d : D} {u : V}, d.new K H1 u H → d.new K H0 u H
  | .v _, _, h => h
  | .l _, _, ⟨a, h1, n, h2⟩ => ⟨a, h1, fresh_back e n, h2⟩
  | .t _, _, ⟨a, h1, h2⟩ => ⟨a, h1, h2⟩
  | .p _ _, _, ⟨a, x, y, h1, h2, h3, h4, n⟩ => ⟨a, x, y, h1, h2, D.nback e h3, D.nback e h4, n⟩
  | .ll _, _, ⟨a, ps, h1, n, h2, m, h3⟩ => ⟨a, ps, h1, fresh_back e n, h2, m, paired_imp (fun _ _ q => ⟨fresh_back e q.1, q.2⟩) h3⟩
  | .s _, _, ⟨a, h1, h2⟩ => ⟨a, h1, h2⟩
  | .al _, _, h => h
end

/-- te gives something that stands for d | .. made anew -/
def EvD (K : PySem.W.Frag) (te : TE) (σ : L2.St) (H : Hp) (d : D) : Prop := ∀ H1, Ex H H1 → ∀ Q : VK, (∀ u H2, Ex H1 H2 → d.rep K u H2 → Q u H2) → te σ H1 Q
def EvN (K : PySem.W.Frag) (te : TE) (σ : L2.St) (H : Hp) (d : D) : Prop := ∀ H1, Ex H H1 → ∀ Q : VK, (∀ u H2, Ex H1 H2 → d.new K H1 u H2 → Q u H2) → te σ H1 Q
def Reps (K : PySem.W.Frag) (H : Hp) : List V → List D → Prop := Paired fun u d => d.rep K u H
def EvAs (K : PySem.W.Frag) (ta : TA) (σ : L2.St) (H : Hp) (ds : List D) : Prop := ∀ H1, Ex H H1 → ∀ Q : List V → Hp → Prop, (∀ us H2, Ex H1 H2 → Reps K H2 us ds → Q us H2) → ta σ H1 Q

section
variable {K : PySem.W.Frag} {σ : L2.St} {H H' : Hp} {ta tb te tx : TE} {t u : TT} {x y z : V} {d e : D} {D' : Ends} {tz tu : TS}
theorem EvN.toD (h : EvN K te σ H d) : EvD K te σ H d := fun H1 e Q q => h H1 e Q fun u H2 e2 r => q u H2 e2 (D.nrep r)
theorem EvD.mono (e : Ex H H') (h : EvD K te σ H d) : EvD K te σ H' d := fun H1 a Q q => h H1 (e.trans a) Q q
theorem EvN.mono (e : Ex H H') (h : EvN K te σ H d) : EvN K te σ H' d := fun H1 a Q q => h H1 (e.trans a) Q q
theorem ed_v (h : Ev te σ H x) : EvD K te σ H (.v x) := fun H1 e Q q => h H1 e Q fun H2 e2 => q x H2 e2 rfl
theorem en_v (h : Ev te σ H x) : EvN K te σ H (.v x) := fun H1 e Q q => h H1 e Q fun H2 e2 => q x H2 e2 rfl
theorem ev_of (h : EvD K te σ H (.v x)) : Ev te σ H x := fun H1 e Q q => h H1 e Q fun u H2 e2 r => by
  have r' : u = x := r
  rw [r']
  exact q H2 e2
theorem ev_ofN (h : EvN K te σ H (.v x)) : Ev te σ H x := ev_of h.toD
theorem ed_var {i : Nat} (h : σ[i]? = some (some x)) (r : d.rep K x H) : EvD K (tVar i) σ H d := fun H1 e _ q => ⟨x, h, q x H1 (Ex.refl H1) (D.mono e r)⟩
theorem ed_ref {a : Addr} {xs : List V} (h : Ev te σ H (.ref a)) (r : H a = some (.lst xs)) : EvD K te σ H (.l xs) := fun H1 e _ q => h H1 e _ fun H2 e2 => q _ H2 e2 ⟨a, rfl, e2 _ _ (e _ _ r)⟩
theorem eas_nil : EvAs K tNil σ H [] := fun H1 _ _ q => q [] H1 (Ex.refl H1) .nil
theorem eas_cons {tr : TA} {ds : List D} (h : EvD K te σ H d) (hr : EvAs K tr σ H ds) : EvAs K (tCons te tr) σ H (d :: ds) := fun H1 e _ q =>
  h H1 e _ fun u H2 e2 r => hr H2 (e.trans e2) _ fun us H3 e3 rs => q (u :: us) H3 (e2.trans e3) (.cons (D.mono e3 r) rs)
theorem ea_of (h : Ev te σ H x) : EvA (tCons te tNil) σ H [x] := ea_cons h ea_nil

/-- the promises' shape -/
def spG (K : PySem.W.Frag) {α : Type} (args : α → List D) (pre : α → Prop) (res : α → D) : Sp := fun vs H Q _ => ∃ a : α, Reps K H vs (args a) ∧ pre a ∧ ∀ u H', Ex H H' → (res a).new K H u H' → Q u H'
theorem en_call {α : Type} {args : α → List D} {pre : α → Prop} {res : α → D} {ta : TA} {E : XK} (a : α) (h : EvAs K ta σ H (args a)) (hp : pre a) : EvN K (tCall (spG K args pre res) [] E ta) σ H (res a) := fun H1 e Q q =>
  h H1 e _ fun us H2 e2 r => ⟨a, by rw [List.append_nil]; exact r, hp, fun u H3 e3 n => q u H3 (e2.trans e3) (D.nback e2 n)⟩

/-! ### lists -/
abbrev il (xs : List Int) : List V := xs.map V.int
/-- the number at a place -/
def gi (xs : List Int) (i : Int) : Int := xs.getD i.toNat 0
theorem gi_at {xs : List Int} {i : Int} (h0 : 0 ≤ i) (h1 : i < xs.length) : atI (il xs) i = some (.int (gi xs i)) := by
  have hj : i.toNat < xs.length := by omega
  refine at_of (j := i.toNat) (by omega) ?_
  rw [List.getElem?_map, List.getElem?_eq_getElem hj]
  show some (V.int xs[i.toNat]) = some (V.int (xs.getD i.toNat 0))
  rw [List.getD_eq_getElem?_getD, List.getElem?_eq_getElem hj]
  rfl
theorem gi_get {xs : List Int} {i : Nat} {v : Int} (h : xs[i]? = some v) : gi xs (i : Int) = v := by
  unfold gi
  rw [Int.toNat_natCast, List.getD_eq_getElem?_getD, h]
  rfl
theorem ev_len (h : EvD K te σ H (.l xs)) : Ev (tCB (rLenS K) (tCons te tNil)) σ H (.int (xs.length : Int)) := fun H1 e Q q =>
  h H1 e _ fun u H2 e2 ⟨a, hu, ha⟩ => ⟨a, xs, by rw [hu], .inl (sq_of ha), q H2 e2⟩
theorem ev_lenI {ns : List Int} (h : EvD K te σ H (.l (il ns))) : Ev (tCB (rLenS K) (tCons te tNil)) σ H (.int (ns.length : Int)) := by
  have g := ev_len h
  rw [List.length_map] at g
  exact g
theorem ev_lenT (h : EvD K te σ H (.t xs)) : Ev (tCB (rLenS K) (tCons te tNil)) σ H (.int (xs.length : Int)) := fun H1 e Q q =>
  h H1 e _ fun u H2 e2 ⟨a, hu, ha⟩ => ⟨a, xs, by rw [hu], .inr (st_of ha), q H2 e2⟩
theorem ev_lenTI {ns : List Int} (h : EvD K te σ H (.t (il ns))) : Ev (tCB (rLenS K) (tCons te tNil)) σ H (.int (ns.length : Int)) := by
  have g := ev_lenT h
  rw [List.length_map] at g
  exact g
theorem ev_lenP {d e : D} (h : EvD K te σ H (.p d e)) : Ev (tCB (rLenS K) (tCons te tNil)) σ H (.int 2) := fun H1 e Q q =>
  h H1 e _ fun u H2 e2 ⟨a, x, y, hu, ha, _⟩ => ⟨a, [x, y], by rw [hu], .inr (st_of ha), q H2 e2⟩
theorem ev_lenS {ns : List Int} (h : EvD K te σ H (.s (il ns))) : Ev (tCB (rLenS K) (tCons te tNil)) σ H (.int (ns.length : Int)) := fun H1 e Q q =>
  h H1 e _ fun u H2 e2 ⟨a, hu, ha⟩ => ⟨a, il ns, by rw [hu], .inl ha, by
    rw [List.length_map]
    exact q H2 e2⟩
theorem ev_sum {ns : List Int} (h : EvD K te σ H (.l (il ns))) : Ev (tCB (rSum K) (tCons te tNil)) σ H (.int ns.sum) := fun H1 e Q q =>
  h H1 e _ fun u H2 e2 ⟨a, hu, ha⟩ => ⟨a, ns, by rw [hu], sq_of ha, q H2 e2⟩
theorem ev_all {bs : List Bool} (h : EvD K te σ H (.l (bs.map V.bl))) : Ev (tCB (rAll K) (tCons te tNil)) σ H (.bl (bs.all id)) := fun H1 e Q q =>
  h H1 e _ fun u H2 e2 ⟨a, hu, ha⟩ => ⟨a, bs, by rw [hu], sq_of ha, q H2 e2⟩
theorem ev_any {bs : List Bool} (h : EvD K te σ H (.l (bs.map V.bl))) : Ev (tCB (rAny K) (tCons te tNil)) σ H (.bl (bs.any id)) := fun H1 e Q q =>
  h H1 e _ fun u H2 e2 ⟨a, hu, ha⟩ => ⟨a, bs, by rw [hu], sq_of ha, q H2 e2⟩
def rMin2 : List V → Hp → VK → Prop := fun xs H Q => ∃ i j, xs = [.int i, .int j] ∧ Q (.int (if j < i then j else i)) H
theorem max_if (i j : Int) : (if j > i then j else i) = max i j := by
  split <;> omega
theorem min_if (i j : Int) : (if j < i then j else i) = min i j := by
  split <;> omega
theorem ev_maxI {i j : Int} (ha : Ev ta σ H (.int i)) (hb : Ev tb σ H (.int j)) : Ev (tCB rMax2 (tCons ta (tCons tb tNil))) σ H (.int (max i j)) := by
  rw [← max_if]
  exact ev_max2 ha hb
theorem ev_minI {i j : Int} (ha : Ev ta σ H (.int i)) (hb : Ev tb σ H (.int j)) : Ev (tCB rMin2 (tCons ta (tCons tb tNil))) σ H (.int (min i j)) := by
  rw [← min_if]
  exact fun H1 e Q q => ha H1 e _ fun H2 e2 => hb H2 (e.trans e2) _ fun H3 e3 => ⟨i, j, rfl, q H3 (e2.trans e3)⟩
/-- a list in order -/
def srt (ns : List Int) : List Int := ns.mergeSort (fun a b => decide (a ≤ b))
theorem srt_perm (ns : List Int) : (srt ns).Perm ns := List.mergeSort_perm ns _
theorem srt_le (ns : List Int) : (srt ns).Pairwise (· ≤ ·) := by
  have h := List.pairwise_mergeSort (le := fun a b : Int => decide (a ≤ b)) (fun a b c h1 h2 => by
    simp only [decide_eq_true_eq] at *
    omega) (fun a b => by
    simp only [Bool.or_eq_true, decide_eq_true_eq]
    omega) ns
  exact h.imp fun q => of_decide_eq_true q
theorem srt_eq {ns ms : List Int} (h : ms.Perm ns) (p : ms.Pairwise (· ≤ ·)) : ms = srt ns := PySem.W.ksm_same (h.trans (srt_perm ns).symm) p (srt_le ns)
theorem en_sorted {ns : List Int} (h : EvD K te σ H (.l (il ns))) : EvN K (tCB (rSortedI K) (tCons te tNil)) σ H (.l (il (srt ns))) := fun H1 e Q q =>
  h H1 e _ fun u H2 e2 ⟨a, hu, ha⟩ => ⟨a, ns, by rw [hu], sq_of ha, fun ms p hp hs n => by
    rw [srt_eq hp hs]
    exact q _ _ (e2.trans (Ex.new n)) ⟨p, rfl, fresh_back e2 n, upd_same⟩⟩
def rTupOf (K : PySem.W.Frag) : List V → Hp → VK → Prop := fun xs H Q => ∃ p ys, xs = [.ref p] ∧ ((SqL K H p ys ∧ ∀ l, H l = none → Q (.ref l) (upd H l (.tup ys))) ∨ (SqT K H p ys ∧ Q (.ref p) H))
theorem en_tuple (h : EvD K te σ H (.l xs)) : EvN K (tCB (rTupOf K) (tCons te tNil)) σ H (.t xs) := fun H1 e Q q =>
  h H1 e _ fun u H2 e2 ⟨a, hu, ha⟩ => ⟨a, xs, by rw [hu], .inl ⟨sq_of ha, fun l n => q _ _ (e2.trans (Ex.new n)) ⟨l, rfl, upd_same⟩⟩⟩
theorem en_list (h : EvD K te σ H (.l xs)) : EvN K (tCB (rListS K) (tCons te tNil)) σ H (.l xs) := fun H1 e Q q =>
  h H1 e _ fun u H2 e2 ⟨a, hu, ha⟩ => ⟨a, xs, by rw [hu], .inl (sq_of ha), fun l n => q _ _ (e2.trans (Ex.new n)) ⟨l, rfl, fresh_back e2 n, upd_same⟩⟩
theorem en_listT (h : EvD K te σ H (.t xs)) : EvN K (tCB (rListS K) (tCons te tNil)) σ H (.l xs) := fun H1 e Q q =>
  h H1 e _ fun u H2 e2 ⟨a, hu, ha⟩ => ⟨a, xs, by rw [hu], .inr (st_of ha), fun l n => q _ _ (e2.trans (Ex.new n)) ⟨l, rfl, fresh_back e2 n, upd_same⟩⟩
theorem ev_ix {ns : List Int} {i : Int} (ha : EvD K ta σ H (.l (il ns))) (hb : Ev tb σ H (.int i)) (h : 0 ≤ i ∧ i < ns.length) : Ev (tOp (rIxL K) ta tb) σ H (.int (gi ns i)) := fun H1 e Q q =>
  ha H1 e _ fun u H2 e2 ⟨a, hu, hx⟩ => hb H2 (e.trans e2) _ fun H3 e3 => ⟨a, il ns, i, _, hu, rfl, sq_of (e3 _ _ hx), gi_at h.1 h.2, q H3 (e2.trans e3)⟩
theorem ev_ixS {ns : List Int} {i : Int} (ha : EvD K ta σ H (.s (il ns))) (hb : Ev tb σ H (.int i)) (h : 0 ≤ i ∧ i < ns.length) : Ev (tOp (rIxL K) ta tb) σ H (.int (gi ns i)) := fun H1 e Q q =>
  ha H1 e _ fun u H2 e2 ⟨a, hu, hx⟩ => hb H2 (e.trans e2) _ fun H3 e3 => ⟨a, il ns, i, _, hu, rfl, ex_l e3 hx, gi_at h.1 h.2, q H3 (e2.trans e3)⟩
theorem ev_ixT {ns : List Int} {i : Int} (ha : EvD K ta σ H (.t (il ns))) (hb : Ev tb σ H (.int i)) (h : 0 ≤ i ∧ i < ns.length) : Ev (tOp (rIxT K) ta tb) σ H (.int (gi ns i)) := fun H1 e Q q =>
  ha H1 e _ fun u H2 e2 ⟨a, hu, hx⟩ => hb H2 (e.trans e2) _ fun H3 e3 => ⟨a, il ns, i, _, hu, rfl, st_of (e3 _ _ hx), gi_at h.1 h.2, q H3 (e2.trans e3)⟩
theorem ed_ixP0 (ha : EvD K ta σ H (.p d e)) (hb : Ev tb σ H (.int 0)) : EvD K (tOp (rIxT K) ta tb) σ H d := fun H1 e Q q =>
  ha H1 e _ fun u H2 e2 ⟨a, x, y, hu, hx, r1, r2⟩ => hb H2 (e.trans e2) _ fun H3 e3 => ⟨a, [x, y], 0, x, hu, rfl, st_of (e3 _ _ hx), rfl, q _ H3 (e2.trans e3) (D.mono e3 r1)⟩
theorem ed_ixP1 (ha : EvD K ta σ H (.p d e)) (hb : Ev tb σ H (.int 1)) : EvD K (tOp (rIxT K) ta tb) σ H e := fun H1 e Q q =>
  ha H1 e _ fun u H2 e2 ⟨a, x, y, hu, hx, r1, r2⟩ => hb H2 (e.trans e2) _ fun H3 e3 => ⟨a, [x, y], 1, y, hu, rfl, st_of (e3 _ _ hx), rfl, q _ H3 (e2.trans e3) (D.mono e3 r2)⟩
/-- the last number -/
def gl (xs : List Int) : Int := xs.getLastD 0
theorem gl_at {xs : List Int} (h : xs ≠ []) : atI (il xs) (-1) = some (.int (gl xs)) := by
  have e : il xs = il xs.dropLast ++ [.int (xs.getLast h)] := by
    conv => lhs; rw [← List.dropLast_concat_getLast h]
    rw [il, List.map_append]
    rfl
  have e2 : gl xs = xs.getLast h := by
    unfold gl
    rw [List.getLastD_eq_getLast?, List.getLast?_eq_getLast h]
    rfl
  rw [e, e2]
  exact atI_last _ _
theorem ev_last {ns : List Int} (ha : EvD K ta σ H (.l (il ns))) (hb : Ev tb σ H (.int (-1))) (h : ns ≠ []) : Ev (tOp (rIxL K) ta tb) σ H (.int (gl ns)) := fun H1 e Q q =>
  ha H1 e _ fun u H2 e2 ⟨a, hu, hx⟩ => hb H2 (e.trans e2) _ fun H3 e3 => ⟨a, il ns, -1, _, hu, rfl, sq_of (e3 _ _ hx), gl_at h, q H3 (e2.trans e3)⟩
theorem en_cut {xs : List V} {tl th : TO} {lo hi : Option Int} (h : EvD K te σ H (.l xs)) (h1 : EvO tl σ H lo) (h2 : EvO th σ H hi) : EvN K (tSl (rSlL K) te tl th) σ H (.l (cutV xs lo hi)) := fun H1 e Q q =>
  h H1 e _ fun u H2 e2 ⟨a, hu, ha⟩ => h1 H2 (e.trans e2) _ fun H3 e3 => h2 H3 ((e.trans e2).trans e3) _ fun H4 e4 =>
    ⟨a, xs, hu, sq_of (e4 _ _ (e3 _ _ ha)), fun p n => q _ _ (((e2.trans e3).trans e4).trans (Ex.new n)) ⟨p, rfl, fresh_back ((e2.trans e3).trans e4) n, upd_same⟩⟩
theorem six_pos (n d : Nat) {i : Int} (h : 0 ≤ i) : HT.sIx n d (some i) = min i.toNat n := by
  show (if i < 0 then (i + (n : Int)).toNat else min i.toNat n) = min i.toNat n
  rw [if_neg (by omega)]
theorem cut_take {xs : List Int} {n : Int} (h : 0 ≤ n) : cutV (il xs) none (some n) = il (xs.take n.toNat) := by
  unfold cutV
  rw [HT.sIx_none, six_pos _ _ h, List.drop_zero, Nat.sub_zero]
  by_cases c : n.toNat ≤ xs.length
  · rw [show min n.toNat (il xs).length = n.toNat by rw [List.length_map]; omega]
    exact (List.map_take).symm
  · rw [List.take_of_length_le (by rw [List.length_map]; omega), List.take_of_length_le (by omega)]
theorem cut_drop {xs : List Int} {n : Int} (h : 0 ≤ n) : cutV (il xs) (some n) none = il (xs.drop n.toNat) := by
  unfold cutV
  rw [HT.sIx_none, six_pos _ _ h]
  by_cases c : n.toNat ≤ xs.length
  · rw [show min n.toNat (il xs).length = n.toNat by rw [List.length_map]; omega, List.take_of_length_le (by rw [List.length_drop]; exact Nat.le_refl _)]
    exact (List.map_drop).symm
  · rw [List.drop_of_length_le (by rw [List.length_map]; omega), List.drop_of_length_le (by omega), List.take_nil]
    rfl
theorem cut_mid {xs : List Int} {m n : Int} (h : 0 ≤ m) (h2 : 0 ≤ n) : cutV (il xs) (some m) (some n) = il ((xs.take n.toNat).drop m.toNat) := by
  unfold cutV
  rw [six_pos _ _ h, six_pos _ _ h2]
  apply List.ext_getElem?
  intro k
  rw [List.length_map, List.getElem?_take, List.getElem?_drop, List.getElem?_map, List.getElem?_map, List.getElem?_drop, List.getElem?_take]
  by_cases c : m.toNat + k < n.toNat
  · by_cases c2 : m.toNat + k < xs.length
    · rw [if_pos (by omega), if_pos c, show min m.toNat xs.length = m.toNat by omega]
    · rw [if_pos c, List.getElem?_eq_none (by omega : xs.length ≤ m.toNat + k)]
      split
      · rw [List.getElem?_eq_none (by omega)]
      · rfl
  · rw [if_neg c]
    split
    · rw [List.getElem?_eq_none (by omega)]
    · rfl
theorem cut_init {xs : List Int} : cutV (il xs) none (some (-1)) = il xs.dropLast := by
  unfold cutV
  rw [HT.sIx_none]
  show List.take ((if (-1 : Int) < 0 then ((-1 : Int) + ((il xs).length : Int)).toNat else min (-1 : Int).toNat (il xs).length) - 0) (List.drop 0 (il xs)) = _
  rw [if_pos (by decide), List.drop_zero, Nat.sub_zero, List.length_map, List.dropLast_eq_take, show ((-1 : Int) + (xs.length : Int)).toNat = xs.length - 1 by omega]
  exact (List.map_take).symm
theorem en_is {d' : D} (h : EvN K te σ H d) (e : d = d') : EvN K te σ H d' := by
  rw [← e]
  exact h
theorem ed_is {d' : D} (h : EvD K te σ H d) (e : d = d') : EvD K te σ H d' := by
  rw [← e]
  exact h
theorem en_take {ns : List Int} {th : TE} {n : Int} (h : EvD K te σ H (.l (il ns))) (h2 : Ev th σ H (.int n)) (h0 : 0 ≤ n) : EvN K (tSl (rSlL K) te tNoPart (tPart th)) σ H (.l (il (ns.take n.toNat))) := en_is (en_cut h eo_none (eo_some h2)) (congrArg D.l (cut_take h0))
theorem en_init {ns : List Int} {th : TE} (h : EvD K te σ H (.l (il ns))) (h2 : Ev th σ H (.int (-1))) : EvN K (tSl (rSlL K) te tNoPart (tPart th)) σ H (.l (il ns.dropLast)) := en_is (en_cut h eo_none (eo_some h2)) (congrArg D.l cut_init)
theorem en_drop {ns : List Int} {th : TE} {n : Int} (h : EvD K te σ H (.l (il ns))) (h2 : Ev th σ H (.int n)) (h0 : 0 ≤ n) : EvN K (tSl (rSlL K) te (tPart th) tNoPart) σ H (.l (il (ns.drop n.toNat))) := en_is (en_cut h (eo_some h2) eo_none) (congrArg D.l (cut_drop h0))
theorem en_mid {ns : List Int} {tl th : TE} {m n : Int} (h : EvD K te σ H (.l (il ns))) (h1 : Ev tl σ H (.int m)) (h2 : Ev th σ H (.int n)) (hm : 0 ≤ m) (h0 : 0 ≤ n) : EvN K (tSl (rSlL K) te (tPart tl) (tPart th)) σ H (.l (il ((ns.take n.toNat).drop m.toNat))) := en_is (en_cut h (eo_some h1) (eo_some h2)) (congrArg D.l (cut_mid hm h0))
theorem en_rev {ns : List Int} (h : EvD K te σ H (.l (il ns))) : EvN K (tRevL K te) σ H (.l (il ns.reverse)) := fun H1 e Q q =>
  h H1 e _ fun u H2 e2 ⟨a, hu, ha⟩ => ⟨a, il ns, hu, sq_of ha, fun p n => by
    rw [← List.map_reverse]
    exact q _ _ (e2.trans (Ex.new n)) ⟨p, rfl, fresh_back e2 n, upd_same⟩⟩
theorem en_cat {ns ms : List Int} (ha : EvD K ta σ H (.l (il ns))) (hb : EvD K tb σ H (.l (il ms))) (hz : ns.length + ms.length ≤ 100000) : EvN K (tOp rCat ta tb) σ H (.l (il (ns ++ ms))) := fun H1 e Q q =>
  ha H1 e _ fun u H2 e2 ⟨a, hu, hx⟩ => hb H2 (e.trans e2) _ fun w H3 e3 ⟨b, hw, hy⟩ => ⟨a, b, il ns, il ms, hu, hw, e3 _ _ hx, hy, by
    rw [List.length_map, List.length_map]
    exact sz_of hz, fun p n => by
    rw [← List.map_append]
    exact q _ _ ((e2.trans e3).trans (Ex.new n)) ⟨p, rfl, fresh_back (e2.trans e3) n, upd_same⟩⟩
/-- so many noughts -/
def zs (k : Int) : List Int := List.replicate k.toNat 0
theorem zs_len (k : Int) : (zs k).length = k.toNat := List.length_replicate
theorem flat_one (k : Nat) (x : V) : (List.replicate k [x]).flatten = List.replicate k x := by
  induction k with
  | zero => rfl
  | succ k ih => rw [List.replicate_succ, List.flatten_cons, ih, List.replicate_succ]; rfl
theorem en_rep {k : Int} (ha : EvD K ta σ H (.l (il [0]))) (hb : Ev tb σ H (.int k)) (hz : -100000 ≤ k ∧ k ≤ 100000) : EvN K (tOp rRep ta tb) σ H (.l (il (zs k))) := fun H1 e Q q =>
  ha H1 e _ fun u H2 e2 ⟨a, hu, hx⟩ => hb H2 (e.trans e2) _ fun H3 e3 => ⟨a, k, il [0], hu, rfl, e3 _ _ hx, by omega, by omega, by
    show 1 * k.toNat ≤ sizeLine
    rw [Nat.one_mul]
    exact sz_of (by omega), fun p n => by
    refine q _ _ ((e2.trans e3).trans (Ex.new n)) ⟨p, rfl, fresh_back (e2.trans e3) n, ?_⟩
    rw [upd_same]
    show some (HO.lst (List.replicate k.toNat [V.int 0]).flatten) = some (HO.lst (il (zs k)))
    rw [flat_one]
    unfold zs il
    rw [List.map_replicate]⟩
end

/-! ### comparisons -/
def vpy : V → PyData
  | .non => .none
  | .bl b => .bool b
  | .int i => .int i
  | _ => .none
def flI : V → Bool
  | .non => true
  | .bl _ => true
  | .int _ => true
  | _ => false
def D.py : D → PyData
  | .v x => vpy x
  | .l xs => .list (xs.map vpy)
  | .t xs => .tuple (xs.map vpy)
  | .p d e => .tuple [d.py, e.py]
  | .ll xss => .list (xss.map fun xs => .list (xs.map vpy))
  | .s xs => .list (xs.map vpy)
  | .al d => d.py
def D.fl : D → Bool
  | .v x => flI x
  | .l xs => xs.all flI
  | .t xs => xs.all flI
  | .p d e => d.fl && e.fl
  | .ll xss => xss.all fun xs => xs.all flI
  | .s xs => xs.all flI
  | .al d => d.fl
def D.dsz : D → Nat
  | .v _ => 0
  | .l _ => 1
  | .t _ => 1
  | .p d e => max d.dsz e.dsz + 1
  | .ll _ => 2
  | .s _ => 1
  | .al d => d.dsz
theorem fl_il (ns : List Int) : (il ns).all flI = true := by
  rw [List.all_map]
  exact List.all_eq_true.mpr fun _ _ => rfl
theorem vpy_lay : ∀ {x : V}, flI x = true → PyData.canLay0 (vpy x) = true ∧ PyData.depth (vpy x) = 0
  | .non, _ => ⟨rfl, by simp [vpy, PyData.depth]⟩
  | .bl _, _ => ⟨by simp [vpy, PyData.canLay0], by simp [vpy, PyData.depth]⟩
  | .int _, _ => ⟨by simp [vpy, PyData.canLay0], by simp [vpy, PyData.depth]⟩
  | .str _, h => nomatch h
  | .byt _, h => nomatch h
  | .flt _, h => nomatch h
  | .ref _, h => nomatch h
  | .ty _, h => nomatch h
theorem vpys_lay : ∀ {xs : List V}, xs.all flI = true → PyData.canLayAll0 (xs.map vpy) = true ∧ PyData.depthAll (xs.map vpy) = 0
  | [], _ => ⟨by simp [PyData.canLayAll0], by simp [PyData.depthAll]⟩
  | x :: xs, h => by
    rw [List.all_cons, Bool.and_eq_true] at h
    have a := vpy_lay h.1
    have b := vpys_lay h.2
    simp only [List.map_cons, PyData.canLayAll0, PyData.depthAll, a.1, a.2, b.1, b.2]
    exact ⟨rfl, rfl⟩
theorem vpyss_lay : ∀ {xss : List (List V)}, (xss.all fun xs => xs.all flI) = true → PyData.canLayAll0 (xss.map fun xs => .list (xs.map vpy)) = true ∧ PyData.depthAll (xss.map fun xs => .list (xs.map vpy)) ≤ 1
  | [], _ => ⟨by simp [PyData.canLayAll0], by simp [PyData.depthAll]⟩
  | xs :: xss, h => by
    rw [List.all_cons, Bool.and_eq_true] at h
    have a := vpys_lay h.1
    have b := vpyss_lay h.2
    simp only [List.map_cons, PyData.canLayAll0, PyData.depthAll, PyData.canLay0, PyData.depth, a.1, a.2, b.1]
    exact ⟨rfl, by have := b.2; omega⟩
theorem py_lay : ∀ {d : D}, d.fl = true → PyData.canLay0 d.py = true ∧ PyData.depth d.py ≤ d.dsz
  | .al d, h => py_lay (d := d) h
  | .v x, h => by
    have a := vpy_lay h
    exact ⟨a.1, Nat.le_of_eq a.2⟩
  | .l xs, h => by
    have a := vpys_lay h
    simp only [D.py, PyData.canLay0, PyData.depth, a.1, a.2, D.dsz]
    exact ⟨trivial, Nat.le_refl _⟩
  | .t xs, h => by
    have a := vpys_lay h
    simp only [D.py, PyData.canLay0, PyData.depth, a.1, a.2, D.dsz]
    exact ⟨trivial, Nat.le_refl _⟩
  | .s xs, h => by
    have a := vpys_lay h
    simp only [D.py, PyData.canLay0, PyData.depth, a.1, a.2, D.dsz]
    exact ⟨trivial, Nat.le_refl _⟩
  | .ll xss, h => by
    have a := vpyss_lay h
    simp only [D.py, PyData.canLay0, PyData.depth, a.1, D.dsz]
    exact ⟨trivial, by have := a.2; omega⟩
  | .p d e, h => by
    have h' : (d.fl && e.fl) = true := h
    rw [Bool.and_eq_true] at h'
    have a := py_lay h'.1
    have b := py_lay h'.2
    simp only [D.py, PyData.canLay0, PyData.depth, PyData.canLayAll0, PyData.depthAll, a.1, b.1, D.dsz]
    exact ⟨rfl, by have := a.2; have := b.2; omega⟩
theorem py_shaped {d : D} (h : d.fl = true) (hz : d.dsz ≤ 64) : SeqAt.shaped d.py = true := by
  have a := py_lay h
  show (PyData.canLay0 d.py && decide (PyData.depth d.py ≤ 64)) = true
  rw [Bool.and_eq_true]
  exact ⟨a.1, decide_eq_true (Nat.le_trans a.2 hz)⟩
section
variable {K : PySem.W.Frag} {H : Hp}
theorem vpy_dp : ∀ {x : V}, flI x = true → Dp K H x (vpy x)
  | .non, _ => .non
  | .bl _, _ => .bl _
  | .int _, _ => .int _
  | .str _, h => nomatch h
  | .byt _, h => nomatch h
  | .flt _, h => nomatch h
  | .ref _, h => nomatch h
  | .ty _, h => nomatch h
theorem vpys_dp : ∀ {xs : List V}, xs.all flI = true → DpAll K H xs (xs.map vpy)
  | [], _ => .nil
  | x :: xs, h => by
    rw [List.all_cons, Bool.and_eq_true] at h
    exact .cons (vpy_dp h.1) (vpys_dp h.2)
theorem pss_dp : ∀ {ps : List Addr} {xss : List (List V)}, (xss.all fun xs => xs.all flI) = true → Paired (fun q xs => H q = some (.lst xs)) ps xss → DpAll K H (ps.map V.ref) (xss.map fun xs => .list (xs.map vpy))
  | _, _, _, .nil => .nil
  | q :: ps, xs :: xss, h, .cons a b => by
    rw [List.all_cons, Bool.and_eq_true] at h
    exact .cons (.lst (sq_of a) (vpys_dp h.1)) (pss_dp h.2 b)
theorem py_dp : ∀ {d : D} {u : V}, d.fl = true → d.rep K u H → Dp K H u d.py
  | .al d, _, h, r => py_dp (d := d) h r
  | .v x, u, h, r => by
    have r' : u = x := r
    rw [r']
    exact vpy_dp h
  | .l xs, _, h, ⟨a, hu, ha⟩ => by
    rw [hu]
    exact .lst (sq_of ha) (vpys_dp h)
  | .t xs, _, h, ⟨a, hu, ha⟩ => by
    rw [hu]
    exact .tup (st_of ha) (vpys_dp h)
  | .s xs, _, h, ⟨a, hu, ha⟩ => by
    rw [hu]
    exact .lst ha (vpys_dp h)
  | .ll xss, _, h, ⟨a, ps, hu, ha, hp⟩ => by
    rw [hu]
    exact .lst (sq_of ha) (pss_dp h hp)
  | .p d e, _, h, ⟨a, x, y, hu, ha, r1, r2⟩ => by
    have h' : (d.fl && e.fl) = true := h
    rw [Bool.and_eq_true] at h'
    rw [hu]
    exact .tup (st_of ha) (.cons (py_dp h'.1 r1) (.cons (py_dp h'.2 r2) .nil))
end
theorem eqv_il : ∀ xs ys : List Int, PyData.eqvAll ((il xs).map vpy) ((il ys).map vpy) = decide (xs = ys)
  | [], [] => by simp [PyData.eqvAll]
  | [], _ :: _ => by simp [PyData.eqvAll]
  | _ :: _, [] => by simp [PyData.eqvAll]
  | x :: xs, y :: ys => by
    have ih := eqv_il xs ys
    simp only [List.map_cons, PyData.eqvAll, vpy, PyData.eqv, ih]
    by_cases h : x = y <;> by_cases h' : xs = ys <;> simp [h, h']
theorem eqv_ll (xs ys : List Int) : PyData.eqv (D.l (il xs)).py (D.l (il ys)).py = decide (xs = ys) := by
  simp only [D.py, PyData.eqv]
  exact eqv_il xs ys
theorem eqv_tt (xs ys : List Int) : PyData.eqv (D.t (il xs)).py (D.t (il ys)).py = decide (xs = ys) := by
  simp only [D.py, PyData.eqv]
  exact eqv_il xs ys
theorem eqv_vv (i j : Int) : PyData.eqv (D.v (.int i)).py (D.v (.int j)).py = decide (i = j) := by
  simp only [D.py, vpy, PyData.eqv]
  by_cases h : i = j <;> simp [h]
theorem eqv_pp {a b c d : D} : PyData.eqv (D.p a b).py (D.p c d).py = (PyData.eqv a.py c.py && PyData.eqv b.py d.py) := by
  simp only [D.py, PyData.eqv, PyData.eqvAll, Bool.and_true]
theorem eqv_lss : ∀ xss yss : List (List Int), PyData.eqvAll ((xss.map il).map fun xs => .list (xs.map vpy)) ((yss.map il).map fun xs => .list (xs.map vpy)) = decide (xss = yss)
  | [], [] => by simp [PyData.eqvAll]
  | [], _ :: _ => by simp [PyData.eqvAll]
  | _ :: _, [] => by simp [PyData.eqvAll]
  | x :: xs, y :: ys => by
    have ih := eqv_lss xs ys
    simp only [List.map_cons, PyData.eqvAll, PyData.eqv, ih, eqv_il]
    by_cases h : x = y <;> by_cases h' : xs = ys <;> simp [h, h']
theorem eqv_llll (xss yss : List (List Int)) : PyData.eqv (D.ll (xss.map il)).py (D.ll (yss.map il)).py = decide (xss = yss) := by
  simp only [D.py, PyData.eqv]
  exact eqv_lss xss yss
section
variable {K : PySem.W.Frag} {σ : L2.St} {H H' : Hp} {ta tb te tx tl : TE} {t u : TT} {x y z : V} {d e : D} {D' : Ends} {tz tu : TS}
theorem ev_eqD (ha : EvD K ta σ H d) (hb : EvD K tb σ H e) (h1 : d.fl = true) (h2 : e.fl = true) (z1 : d.dsz ≤ 64) (z2 : e.dsz ≤ 64) : Ev (tOp (rEqD K) ta tb) σ H (.bl (PyData.eqv d.py e.py)) := fun H1 a Q q =>
  ha H1 a _ fun u H2 e2 r => hb H2 (a.trans e2) _ fun w H3 e3 r' => ⟨d.py, e.py, py_dp h1 (D.mono e3 r), py_dp h2 r', py_shaped h1 z1, py_shaped h2 z2, q H3 (e2.trans e3)⟩
theorem ev_neD (ha : EvD K ta σ H d) (hb : EvD K tb σ H e) (h1 : d.fl = true) (h2 : e.fl = true) (z1 : d.dsz ≤ 64) (z2 : e.dsz ≤ 64) : Ev (tOp (rNeD K) ta tb) σ H (.bl (!PyData.eqv d.py e.py)) := fun H1 a Q q =>
  ha H1 a _ fun u H2 e2 r => hb H2 (a.trans e2) _ fun w H3 e3 r' => ⟨d.py, e.py, py_dp h1 (D.mono e3 r), py_dp h2 r', py_shaped h1 z1, py_shaped h2 z2, q H3 (e2.trans e3)⟩
theorem ev_eqL {xs ys : List Int} (ha : EvD K ta σ H (.l (il xs))) (hb : EvD K tb σ H (.l (il ys))) : Ev (tOp (rEqD K) ta tb) σ H (.bl (decide (xs = ys))) := by
  rw [← eqv_ll]
  exact ev_eqD ha hb (fl_il _) (fl_il _) (Nat.le_of_ble_eq_true rfl) (Nat.le_of_ble_eq_true rfl)
theorem ev_neL {xs ys : List Int} (ha : EvD K ta σ H (.l (il xs))) (hb : EvD K tb σ H (.l (il ys))) : Ev (tOp (rNeD K) ta tb) σ H (.bl (!decide (xs = ys))) := by
  rw [← eqv_ll]
  exact ev_neD ha hb (fl_il _) (fl_il _) (Nat.le_of_ble_eq_true rfl) (Nat.le_of_ble_eq_true rfl)
theorem ev_eqI {i j : Int} (ha : Ev ta σ H (.int i)) (hb : Ev tb σ H (.int j)) : Ev (tOp rEq ta tb) σ H (.bl (decide (i = j))) := by
  have g := ev_op ha hb (rv_eq (H := H) (x := .int i) (y := .int j) rfl)
  have e : decide ((V.int i) = V.int j) = decide (i = j) := by simp
  rw [e] at g
  exact g
theorem ev_neI {i j : Int} (ha : Ev ta σ H (.int i)) (hb : Ev tb σ H (.int j)) : Ev (tOp rNe ta tb) σ H (.bl (!decide (i = j))) := by
  have g := ev_op ha hb (rv_ne (H := H) (x := .int i) (y := .int j) rfl)
  have e : decide ((V.int i) = V.int j) = decide (i = j) := by simp
  rw [e] at g
  exact g
theorem ev_isN (ha : Ev ta σ H x) : Ev (tIsN ta) σ H (.bl (decide (x = .non))) := fun H1 e Q q => ha H1 e _ fun H2 e2 => q H2 e2
theorem ev_notN (ha : Ev ta σ H x) : Ev (tNotN ta) σ H (.bl (!decide (x = .non))) := fun H1 e Q q => ha H1 e _ fun H2 e2 => q H2 e2
theorem inV_il (i : Int) (ns : List Int) : inV (.int i) (il ns) = decide (i ∈ ns) := by
  unfold inV
  rw [List.any_map]
  induction ns with
  | nil => rfl
  | cons n ns ih =>
    rw [List.any_cons, ih]
    have e : ((fun y => eqV y (V.int i)) ∘ V.int) n = (n == i) := rfl
    rw [e]
    by_cases h : n = i
    · subst h; simp
    · have h' : ¬ i = n := fun z => h z.symm
      by_cases h2 : i ∈ ns <;> simp [h, h', h2]
theorem flat_il (ns : List Int) : (il ns).all flatV = true := by
  rw [List.all_map]
  exact List.all_eq_true.mpr fun _ _ => rfl
theorem ev_in {i : Int} {ns : List Int} (ha : Ev ta σ H (.int i)) (hb : EvD K tb σ H (.l (il ns))) : Ev (tOp (rIn K false) ta tb) σ H (.bl (decide (i ∈ ns))) := fun H1 e Q q =>
  ha H1 e _ fun H2 e2 => hb H2 (e.trans e2) _ fun u H3 e3 ⟨a, hu, hx⟩ => ⟨a, il ns, hu, .inl (sq_of hx), rfl, flat_il ns, by
    show Q (.bl (inV (.int i) (il ns))) H3
    rw [inV_il]
    exact q H3 (e2.trans e3)⟩
theorem ev_ni {i : Int} {ns : List Int} (ha : Ev ta σ H (.int i)) (hb : EvD K tb σ H (.l (il ns))) : Ev (tOp (rIn K true) ta tb) σ H (.bl (!decide (i ∈ ns))) := fun H1 e Q q =>
  ha H1 e _ fun H2 e2 => hb H2 (e.trans e2) _ fun u H3 e3 ⟨a, hu, hx⟩ => ⟨a, il ns, hu, .inl (sq_of hx), rfl, flat_il ns, by
    show Q (.bl (!inV (.int i) (il ns))) H3
    rw [inV_il]
    exact q H3 (e2.trans e3)⟩
/-- a < b < c -/
theorem ev_chain {r r' : R2} {a b c : Int} {k1 k2 : Bool} (ha : Ev ta σ H (.int a)) (hb : Ev tb σ H (.int b)) (hc : Ev te σ H (.int c)) (h1 : RV r (.int a) (.int b) H (.bl k1)) (h2 : RV r' (.int b) (.int c) H (.bl k2)) :
    Ev (tChain r r' ta tb te) σ H (.bl (k1 && k2)) := fun H1 e Q q => ha H1 e _ fun H2 e2 => hb H2 (e.trans e2) _ fun H3 e3 => h1 H3 ((e.trans e2).trans e3) _ fun H4 e4 => ⟨k1, rfl, by
  cases k1 with
  | true =>
    rw [if_pos rfl]
    exact hc H4 (((e.trans e2).trans e3).trans e4) _ fun H5 e5 => h2 H5 ((((e.trans e2).trans e3).trans e4).trans e5) Q fun H6 e6 => q H6 ((((e2.trans e3).trans e4).trans e5).trans e6)
  | false =>
    rw [if_neg Bool.false_ne_true]
    exact q H4 ((e2.trans e3).trans e4)⟩
/-- isinstance -/
theorem ev_isi {x : V} {c : V} {u t : Value} {b : Bool} (ha : Ev ta σ H x) (hb : Ev tb σ H c) (hc : ClsV c u) (ht : ∀ H1, Ex H H1 → TyX K H1 x t) (hk : PySem.W.kitOne K t u = some b) : Ev (tCB (rIsi K) (tCons ta (tCons tb tNil))) σ H (.bl b) := fun H1 e Q q =>
  ha H1 e _ fun H2 e2 => hb H2 (e.trans e2) _ fun H3 e3 => ⟨x, c, t, u, b, rfl, hc, ht H3 ((e.trans e2).trans e3), hk, q H3 (e2.trans e3)⟩
def tyD : D → Option String
  | .v .non => some "NoneType"
  | .v (.bl _) => some "bool"
  | .v (.int _) => some "int"
  | .v (.str _) => some "str"
  | .l _ => some "list"
  | .t _ => some "tuple"
  | .p _ _ => some "tuple"
  | .ll _ => some "list"
  | _ => none
theorem tyD_ok : ∀ {d : D} {u : V} {s : String}, tyD d = some s → d.rep K u H → TyX K H u (.type s)
  | .v .non, _, _, h, r => by cases h; cases r; exact .base .non
  | .v (.bl _), _, _, h, r => by cases h; cases r; exact .base (.bl _)
  | .v (.int _), _, _, h, r => by cases h; cases r; exact .base (.int _)
  | .v (.str _), _, _, h, r => by cases h; cases r; exact .base (.str _)
  | .l _, _, _, h, ⟨a, hu, ha⟩ => by cases h; rw [hu]; exact .base (.lst ha)
  | .t _, _, _, h, ⟨a, hu, ha⟩ => by cases h; rw [hu]; exact .base (.tup ha)
  | .p _ _, _, _, h, ⟨a, x, y, hu, ha, _⟩ => by cases h; rw [hu]; exact .base (.tup ha)
  | .ll _, _, _, h, ⟨a, ps, hu, ha, _⟩ => by cases h; rw [hu]; exact .base (.lst ha)
  | .v (.byt _), _, _, h, _ => nomatch h
  | .v (.flt _), _, _, h, _ => nomatch h
  | .v (.ref _), _, _, h, _ => nomatch h
  | .v (.ty _), _, _, h, _ => nomatch h
  | .s _, _, _, h, _ => nomatch h
  | .al _, _, _, h, _ => nomatch h
theorem ev_isD {d : D} {s c : String} {b : Bool} (ha : EvD K ta σ H d) (hb : Ev tb σ H (.ty c)) (hs : tyD d = some s) (hk : kitB s c = some b) : Ev (tCB (rIsi K) (tCons ta (tCons tb tNil))) σ H (.bl b) := fun H1 e Q q =>
  ha H1 e _ fun u H2 e2 r => hb H2 (e.trans e2) _ fun H3 e3 => ⟨u, .ty c, .type s, .type c, b, rfl, .ty c, tyD_ok hs (D.mono e3 r), kit_ty hk, q H3 (e2.trans e3)⟩

/-! ### comprehensions -/
theorem wipe1 (σ : L2.St) (j : Nat) (y : Option V) : (wipe σ [j]).set j y = σ.set j y := by
  show (σ.set j none).set j y = σ.set j y
  rw [List.set_set]
theorem wipe2 (σ : L2.St) (j : Nat) (y : Option V) : wipe (σ.set j y) [j] = wipe σ [j] := by
  show (σ.set j y).set j none = σ.set j none
  rw [List.set_set]
theorem et_yes : EvT tYes σ H true := fun H1 _ _ q => q H1 (Ex.refl H1)
def CwI (H : Hp) (ns : List Int) (p : Int → Bool) (g : Int → V) (Dl : Addr) (i : Nat) (H' : Hp) : Prop := H Dl = none ∧ Ex H H' ∧ H' Dl = some (.lst (((ns.take i).filter p).map g))
theorem take_snoc {α : Type} {l : List α} {i : Nat} {x : α} (h : l[i]? = some x) : l.take (i + 1) = l.take i ++ [x] := by
  rw [List.take_add_one, h]
  rfl
theorem cwI_turn {ns : List Int} {p : Int → Bool} {g : Int → V} {Dl : Addr} {i : Nat} {x : Int} {σ2 : L2.St} (hx : ns[i]? = some x) (hz : ns.length ≤ 40000) (c : CwI H ns p g Dl i H') (ht : EvT t σ2 H (p x)) (he : p x = true → Ev te σ2 H (g x)) :
    t σ2 H' fun b H3 => if b = true then te σ2 H3 fun y H4 => ∃ acc, H4 Dl = some (.lst acc) ∧ acc.length < sizeLine ∧ CwI H ns p g Dl (i + 1) (upd H4 Dl (.lst (acc ++ [y]))) else CwI H ns p g Dl (i + 1) H3 := by
  obtain ⟨p1, p2, p3⟩ := c
  refine ht H' p2 _ fun H3 e3 => ?_
  have es : ns.take (i + 1) = ns.take i ++ [x] := take_snoc hx
  cases hf : p x with
  | true =>
    show te σ2 H3 fun y H4 => ∃ acc, H4 Dl = some (.lst acc) ∧ acc.length < sizeLine ∧ CwI H ns p g Dl (i + 1) (upd H4 Dl (.lst (acc ++ [y])))
    refine he hf H3 (p2.trans e3) _ fun H4 e4 => ⟨_, e4 Dl _ (e3 Dl _ p3), sz_lt ?_, p1, Ex.mut ((p2.trans e3).trans e4) p1, ?_⟩
    · rw [List.length_map]
      have h1 := List.length_filter_le p (ns.take i)
      have h2 := List.length_take_le i ns
      rw [List.length_take] at h1
      omega
    · rw [upd_same, es, List.filter_append, List.map_append, List.filter_cons, if_pos hf]
      rfl
  | false =>
    show CwI H ns p g Dl (i + 1) H3
    refine ⟨p1, p2.trans e3, ?_⟩
    rw [es, List.filter_append, List.filter_cons, if_neg (by rw [hf]; decide)]
    show H3 Dl = some (.lst ((List.filter p (ns.take i) ++ []).map g))
    rw [List.append_nil]
    exact e3 Dl _ p3
theorem en_lcF {j : Nat} {ns : List Int} {p : Int → Bool} {g : Int → V} (h : EvD K tl σ H (.l (il ns))) (hz : ns.length ≤ 40000)
    (ht : ∀ x, x ∈ ns → EvT t (σ.set j (some (.int x))) H (p x)) (he : ∀ x, x ∈ ns → p x = true → Ev te (σ.set j (some (.int x))) H (g x)) : EvN K (tLc (iList K tl) (gName j) t te [j]) σ H (.l ((ns.filter p).map g)) := fun H0 e Q q =>
  h H0 e _ fun u H1 e1 ⟨a, hu, ha⟩ => ⟨a, hu, ⟨_, sq_of ha⟩, fun Dl hD =>
    lc_list (xs := il ns) (CwI H1 ns p g Dl) ⟨hD, Ex.new hD, upd_same⟩ (fun i H' _ c => sq_of (c.2.1 _ _ ha)) (fun i x H' hi c => by
      obtain ⟨n, hn, rfl⟩ : ∃ n, ns[i]? = some n ∧ x = .int n := by
        rw [List.getElem?_map] at hi
        cases hn : ns[i]? with
        | none => rw [hn] at hi; cases hi
        | some n => rw [hn] at hi; exact ⟨n, rfl, (Option.some.inj hi).symm⟩
      have hm : n ∈ ns := List.mem_of_getElem? hn
      show wipe ((wipe σ [j]).set j (some (V.int n))) [j] = wipe σ [j] ∧ t ((wipe σ [j]).set j (some (V.int n))) H' _
      rw [wipe1, wipe2]
      exact ⟨rfl, cwI_turn hn hz c (fun H2 a => ht n hm H2 ((e.trans e1).trans a)) (fun hf H2 a => he n hm hf H2 ((e.trans e1).trans a))⟩)
    (fun H' c => by
      have c3 := c.2.2
      rw [List.length_map, List.take_length] at c3
      exact q _ H' (e1.trans c.2.1) ⟨Dl, rfl, fresh_back e1 c.1, c3⟩)⟩
theorem en_lc {j : Nat} {ns : List Int} {g : Int → V} (h : EvD K tl σ H (.l (il ns))) (hz : ns.length ≤ 40000)
    (he : ∀ x, x ∈ ns → Ev te (σ.set j (some (.int x))) H (g x)) : EvN K (tLc (iList K tl) (gName j) tYes te [j]) σ H (.l (ns.map g)) := by
  have r := en_lcF (p := fun _ => true) (g := g) (t := tYes) (te := te) (j := j) h hz (fun _ _ => et_yes) (fun x hx _ => he x hx)
  rw [List.filter_eq_self.mpr (fun _ _ => rfl)] at r
  exact r
/-- lo, lo + 1, .. below hi -/
def rng (lo hi : Int) : List Int := (List.range (hi - lo).toNat).map fun (i : Nat) => lo + (i : Int)
theorem rng_len (lo hi : Int) : (rng lo hi).length = (hi - lo).toNat := by
  unfold rng
  rw [List.length_map, List.length_range]
theorem rng_get {lo hi : Int} {i : Nat} (h : i < (hi - lo).toNat) : (rng lo hi)[i]? = some (lo + (i : Int)) := by
  unfold rng
  rw [List.getElem?_map, List.getElem?_range h]
  rfl
theorem rng_mem {lo hi x : Int} : x ∈ rng lo hi ↔ lo ≤ x ∧ x < hi := by
  unfold rng
  rw [List.mem_map]
  constructor
  · rintro ⟨i, hi', rfl⟩
    have := List.mem_range.mp hi'
    omega
  · intro h
    exact ⟨(x - lo).toNat, List.mem_range.mpr (by omega), by omega⟩
theorem en_lcR {j : Nat} {ns : List Int} {lo : Int} {n : Nat} {p : Int → Bool} {g : Int → V} {wi : TI} (hns : ns = (List.range n).map fun (i : Nat) => lo + (i : Int)) (hn : n ≤ 40000)
    (hwi : ∀ H1, Ex H H1 → ∀ R : It → Hp → Prop, (∀ H2, Ex H1 H2 → R (Itr lo n) H2) → wi σ H1 R)
    (ht : ∀ x, x ∈ ns → EvT t (σ.set j (some (.int x))) H (p x)) (he : ∀ x, x ∈ ns → p x = true → Ev te (σ.set j (some (.int x))) H (g x)) : EvN K (tLc wi (gName j) t te [j]) σ H (.l ((ns.filter p).map g)) := fun H0 e Q q =>
  hwi H0 e _ fun H1 e1 => fun Dl hD => by
    have hl : ns.length = n := by rw [hns, List.length_map, List.length_range]
    refine lc_range (lo := lo) (n := n) (CwI H1 ns p g Dl) ⟨hD, Ex.new hD, upd_same⟩ (fun i H' hi c => ?_) (fun H' c => ?_)
    · have hg : ns[i]? = some (lo + (i : Int)) := by
        rw [hns, List.getElem?_map, List.getElem?_range hi]
        rfl
      have hm := List.mem_of_getElem? hg
      show wipe ((wipe σ [j]).set j (some (V.int (lo + (i : Int))))) [j] = wipe σ [j] ∧ t ((wipe σ [j]).set j (some (V.int (lo + (i : Int))))) H' _
      rw [wipe1, wipe2]
      exact ⟨rfl, cwI_turn hg (by omega) c (fun H2 a => ht _ hm H2 ((e.trans e1).trans a)) (fun hf H2 a => he _ hm hf H2 ((e.trans e1).trans a))⟩
    · have c3 := c.2.2
      rw [← hl, List.take_length] at c3
      exact q _ H' (e1.trans c.2.1) ⟨Dl, rfl, fresh_back e1 c.1, c3⟩
theorem en_lcR1 {j : Nat} {n : Int} {p : Int → Bool} {g : Int → V} (h : Ev ta σ H (.int n)) (hn : -40000 ≤ n ∧ n ≤ 40000)
    (ht : ∀ x, x ∈ rng 0 n → EvT t (σ.set j (some (.int x))) H (p x)) (he : ∀ x, x ∈ rng 0 n → p x = true → Ev te (σ.set j (some (.int x))) H (g x)) : EvN K (tLc (iRng1 (tCons ta tNil)) (gName j) t te [j]) σ H (.l (((rng 0 n).filter p).map g)) :=
  en_lcR (lo := 0) (n := n.toNat) (by unfold rng; rw [Int.sub_zero]) (by omega) (fun H1 e R r => (ea_of h) H1 e _ fun H2 e2 => ⟨n, rfl, by omega, by omega, r H2 e2⟩) ht he
theorem en_lcR2 {j : Nat} {lo n : Int} {p : Int → Bool} {g : Int → V} (h1 : Ev ta σ H (.int lo)) (h : Ev tb σ H (.int n)) (hn : -40000 ≤ n ∧ n ≤ 20000 ∧ -20000 ≤ lo ∧ lo ≤ 40000)
    (ht : ∀ x, x ∈ rng lo n → EvT t (σ.set j (some (.int x))) H (p x)) (he : ∀ x, x ∈ rng lo n → p x = true → Ev te (σ.set j (some (.int x))) H (g x)) : EvN K (tLc (iRng2 (tCons ta (tCons tb tNil))) (gName j) t te [j]) σ H (.l (((rng lo n).filter p).map g)) :=
  en_lcR (lo := lo) (n := (n - lo).toNat) rfl (by omega) (fun H1 e R r => (ea_cons h1 (ea_cons h ea_nil)) H1 e _ fun H2 e2 => ⟨lo, n, rfl, by omega, r H2 e2⟩) ht he
theorem filt_t (ns : List Int) : ns.filter (fun _ => true) = ns := List.filter_eq_self.mpr (fun _ _ => rfl)
theorem en_lcR1t {j : Nat} {n : Int} {g : Int → V} (h : Ev ta σ H (.int n)) (hn : -40000 ≤ n ∧ n ≤ 40000)
    (he : ∀ x, x ∈ rng 0 n → Ev te (σ.set j (some (.int x))) H (g x)) : EvN K (tLc (iRng1 (tCons ta tNil)) (gName j) tYes te [j]) σ H (.l ((rng 0 n).map g)) := by
  have r := en_lcR1 (K := K) (p := fun _ => true) (g := g) (t := tYes) (te := te) (j := j) h hn (fun _ _ => et_yes) (fun x hx _ => he x hx)
  rw [filt_t] at r
  exact r
theorem en_lcR2t {j : Nat} {lo n : Int} {g : Int → V} (h1 : Ev ta σ H (.int lo)) (h : Ev tb σ H (.int n)) (hn : -40000 ≤ n ∧ n ≤ 20000 ∧ -20000 ≤ lo ∧ lo ≤ 40000)
    (he : ∀ x, x ∈ rng lo n → Ev te (σ.set j (some (.int x))) H (g x)) : EvN K (tLc (iRng2 (tCons ta (tCons tb tNil))) (gName j) tYes te [j]) σ H (.l ((rng lo n).map g)) := by
  have r := en_lcR2 (K := K) (p := fun _ => true) (g := g) (t := tYes) (te := te) (j := j) h1 h hn (fun _ _ => et_yes) (fun x hx _ => he x hx)
  rw [filt_t] at r
  exact r
/-- the made list is one of whole numbers -/
theorem il_map (ns : List Int) (g : Int → Int) : ns.map (fun x => V.int (g x)) = il (ns.map g) := by
  unfold il
  rw [List.map_map]
  rfl
theorem bl_map (ns : List Int) (g : Int → Bool) : ns.map (fun x => V.bl (g x)) = (ns.map g).map V.bl := by
  rw [List.map_map]
  rfl
theorem en_il {ns : List Int} {g : Int → Int} (h : EvN K te σ H (.l (ns.map fun x => V.int (g x)))) : EvN K te σ H (.l (il (ns.map g))) := by
  rw [il_map] at h
  exact h
theorem en_bl {ns : List Int} {g : Int → Bool} (h : EvN K te σ H (.l (ns.map fun x => V.bl (g x)))) : EvN K te σ H (.l ((ns.map g).map V.bl)) := by
  rw [bl_map] at h
  exact h

/-! ### displays -/
theorem en_l0 : EvN K (tLst tNil) σ H (.l (il [])) := fun H1 e Q q => ⟨Nat.zero_le _, fun p n => q _ _ (Ex.new n) ⟨p, rfl, n, upd_same⟩⟩
theorem en_ls {ta : TA} {vs : List V} (h : EvA ta σ H vs) (hl : vs.length ≤ 100000) : EvN K (tLst ta) σ H (.l vs) := fun H1 e _ q =>
  h H1 e _ fun H2 e2 => ⟨sz_of hl, fun p n => q _ _ (e2.trans (Ex.new n)) ⟨p, rfl, fresh_back e2 n, upd_same⟩⟩
/-- (a, b), both made anew -/
theorem en_p (ha : EvN K ta σ H d) (hb : EvN K tb σ H e) (hd : ∀ H1 H2 x y, d.rep K x H1 → e.new K H1 y H2 → ∀ b, x = V.ref b → y ≠ .ref b) : EvN K (tTup (tCons ta (tCons tb tNil))) σ H (.p d e) := fun H1 e1 _ q =>
  ha H1 e1 _ fun x H2 e2 r => hb H2 (e1.trans e2) _ fun y H3 e3 r' => ⟨(by decide : 2 ≤ sizeLine), fun p n => q _ _ ((e2.trans e3).trans (Ex.new n)) ⟨p, x, y, rfl, upd_same, D.nmono (e3.trans (Ex.new n)) r, D.nmono (Ex.new n) (D.nback e2 r'), hd _ _ _ _ (D.nrep r) r'⟩⟩
theorem dis_ll {xs ys : List V} : ∀ H1 H2 x y, (D.l xs).rep K x H1 → (D.l ys).new K H1 y H2 → ∀ b, x = V.ref b → y ≠ .ref b := fun H1 H2 x y ⟨a, hx, ha⟩ ⟨c, hy, hc, _⟩ b e1 e2 => by
  rw [hx] at e1
  rw [hy] at e2
  cases e1
  cases e2
  rw [ha] at hc
  cases hc
theorem dis_v {x0 : V} (h : ∀ b, x0 ≠ .ref b) : ∀ H1 H2 x y, (D.v x0).rep K x H1 → e.new K H1 y H2 → ∀ b, x = V.ref b → y ≠ .ref b := fun H1 H2 x y hx _ b e1 => by
  have hx' : x = x0 := hx
  rw [hx'] at e1
  exact absurd e1 (h b)

/-! ### statements -/
theorem q_asgN {i : Nat} (h : EvN K te σ H d) (k : ∀ u H1, Ex H H1 → d.new K H u H1 → tz D' (σ.set i (some u)) H1) : tSeq (tAsg te (gName i)) tz D' σ H := h H (Ex.refl H) _ fun u H1 e n => k u H1 e n
theorem s_asgN {i : Nat} (h : EvN K te σ H d) (k : ∀ u H1, Ex H H1 → d.new K H u H1 → D'.nx (σ.set i (some u)) H1) : tAsg te (gName i) D' σ H := h H (Ex.refl H) _ fun u H1 e n => k u H1 e n
theorem q_asgD {i : Nat} (h : EvD K te σ H d) (k : ∀ u H1, Ex H H1 → d.rep K u H1 → tz D' (σ.set i (some u)) H1) : tSeq (tAsg te (gName i)) tz D' σ H := h H (Ex.refl H) _ fun u H1 e n => k u H1 e n
theorem s_asgD {i : Nat} (h : EvD K te σ H d) (k : ∀ u H1, Ex H H1 → d.rep K u H1 → D'.nx (σ.set i (some u)) H1) : tAsg te (gName i) D' σ H := h H (Ex.refl H) _ fun u H1 e n => k u H1 e n
theorem q_asgNl {i : Nat} {xs : List V} (h : EvN K te σ H (.l xs)) (k : ∀ p H1, H p = none → Ex H H1 → H1 p = some (.lst xs) → tz D' (σ.set i (some (.ref p))) H1) : tSeq (tAsg te (gName i)) tz D' σ H :=
  q_asgN h fun u H1 e n => by
    obtain ⟨p, rfl, n1, n2⟩ := n
    exact k p H1 n1 e n2
theorem s_asgNl {i : Nat} {xs : List V} (h : EvN K te σ H (.l xs)) (k : ∀ p H1, H p = none → Ex H H1 → H1 p = some (.lst xs) → D'.nx (σ.set i (some (.ref p))) H1) : tAsg te (gName i) D' σ H :=
  s_asgN h fun u H1 e n => by
    obtain ⟨p, rfl, n1, n2⟩ := n
    exact k p H1 n1 e n2
theorem s_retN (h : EvN K te σ H d) (k : ∀ u H1, Ex H H1 → d.new K H u H1 → D'.rt u H1) : tRet te D' σ H := h H (Ex.refl H) _ k
theorem s_retD (h : EvD K te σ H d) (k : ∀ u H1, Ex H H1 → d.rep K u H1 → D'.rt u H1) : tRet te D' σ H := h H (Ex.refl H) _ k
theorem q_dropN (h : EvN K te σ H d) (k : ∀ H1, Ex H H1 → tz D' σ H1) : tSeq (tDrop te) tz D' σ H := h H (Ex.refl H) _ fun _ H1 e _ => k H1 e
theorem s_dropN (h : EvN K te σ H d) (k : ∀ H1, Ex H H1 → D'.nx σ H1) : tDrop te D' σ H := h H (Ex.refl H) _ fun _ H1 e _ => k H1 e
/-- a, b = e -/
theorem q_asgP {i j : Nat} (h : EvN K te σ H (.p d e)) (k : ∀ x y H1, Ex H H1 → d.new K H x H1 → e.new K H y H1 → (∀ b, x = V.ref b → y ≠ .ref b) → tz D' ((σ.set i (some x)).set j (some y)) H1) :
    tSeq (tAsg te (gTup K 2 (gCons (gName i) (gCons (gName j) gNil)))) tz D' σ H := h H (Ex.refl H) _ fun u H1 e1 ⟨a, x, y, hu, ha, r1, r2, nd⟩ =>
  ⟨a, [x, y], hu, st_of ha, rfl, x, [y], rfl, y, [], rfl, rfl, k x y H1 e1 r1 r2 nd⟩
theorem q_asgPL {i j : Nat} {xs ys : List V} (h : EvD K te σ H (.p (.l xs) (.l ys))) (k : ∀ a b H1, Ex H H1 → H1 a = some (.lst xs) → H1 b = some (.lst ys) → tz D' ((σ.set i (some (.ref a))).set j (some (.ref b))) H1) :
    tSeq (tAsg te (gTup K 2 (gCons (gName i) (gCons (gName j) gNil)))) tz D' σ H := h H (Ex.refl H) _ fun u H1 e1 ⟨a, x, y, hu, ha, ⟨b, hb, rb⟩, ⟨c, hc, rc⟩⟩ =>
  ⟨a, [x, y], hu, st_of ha, rfl, x, [y], rfl, y, [], rfl, rfl, by rw [hb, hc]; exact k b c H1 e1 rb rc⟩
/-- what stands but at l -/
def But (l : Addr) (H H' : Hp) : Prop := ∀ b o, b ≠ l → H b = some o → H' b = some o
theorem But.ex {H0 : Hp} {l : Addr} (e : Ex H0 H) (n : H0 l = none) (b : But l H H') : Ex H0 H' := fun a o h => b a o (ne_of_none h n) (e a o h)
theorem but_upd {l : Addr} {o : HO} (e : Ex H H') : But l H (upd H' l o) := fun b o' hb h => by
  rw [upd_ne hb]
  exact e b o' h
theorem s_appB {l : Addr} {xs : List V} (hl : H l = some (.lst xs)) (ha : Ev ta σ H (.ref l)) (h : Ev te σ H x) (hz : xs.length < 100000) (k : ∀ H1, But l H H1 → H1 l = some (.lst (xs ++ [x])) → D'.nx σ H1) :
    tDrop (tBM K "list" rAppend ta (tCons te tNil)) D' σ H := s_app hl ha h hz fun H1 e1 => k _ (but_upd e1) upd_same
theorem q_appB {l : Addr} {xs : List V} (hl : H l = some (.lst xs)) (ha : Ev ta σ H (.ref l)) (h : Ev te σ H x) (hz : xs.length < 100000) (k : ∀ H1, But l H H1 → H1 l = some (.lst (xs ++ [x])) → tz D' σ H1) :
    tSeq (tDrop (tBM K "list" rAppend ta (tCons te tNil))) tz D' σ H := s_appB (D' := { D' with nx := tz D' }) hl ha h hz k
theorem s_appI {l : Addr} {ns : List Int} {n : Int} (hl : H l = some (.lst (il ns))) (ha : Ev ta σ H (.ref l)) (h : Ev te σ H (.int n)) (hz : ns.length < 100000) (k : ∀ H1, But l H H1 → H1 l = some (.lst (il (ns ++ [n]))) → D'.nx σ H1) :
    tDrop (tBM K "list" rAppend ta (tCons te tNil)) D' σ H := s_appB hl ha h (by rw [List.length_map]; exact hz) fun H1 b e => k H1 b (by rw [e]; unfold il; rw [List.map_append]; rfl)
theorem q_appI {l : Addr} {ns : List Int} {n : Int} (hl : H l = some (.lst (il ns))) (ha : Ev ta σ H (.ref l)) (h : Ev te σ H (.int n)) (hz : ns.length < 100000) (k : ∀ H1, But l H H1 → H1 l = some (.lst (il (ns ++ [n]))) → tz D' σ H1) :
    tSeq (tDrop (tBM K "list" rAppend ta (tCons te tNil))) tz D' σ H := s_appI (D' := { D' with nx := tz D' }) hl ha h hz k
/-- a list with a number changed -/
def si (xs : List Int) (i v : Int) : List Int := xs.set i.toNat v
theorem si_len (xs : List Int) (i v : Int) : (si xs i v).length = xs.length := List.length_set
theorem s_setI {l : Addr} {ns : List Int} {i n : Int} (hl : H l = some (.lst (il ns))) (h : Ev te σ H (.int n)) (ha : Ev ta σ H (.ref l)) (hb : Ev tb σ H (.int i)) (hi : 0 ≤ i ∧ i < ns.length) (k : ∀ H1, But l H H1 → H1 l = some (.lst (il (si ns i n))) → D'.nx σ H1) :
    tAsg te (gSub ta tb rSetL) D' σ H := by
  have e : i = (i.toNat : Int) := by omega
  refine s_setL (j := i.toNat) hl h ha (by rw [← e]; exact hb) (by rw [List.length_map]; omega) fun H1 e1 => k _ (but_upd e1) ?_
  rw [upd_same]
  unfold si il
  rw [List.map_set]
theorem q_setI {l : Addr} {ns : List Int} {i n : Int} (hl : H l = some (.lst (il ns))) (h : Ev te σ H (.int n)) (ha : Ev ta σ H (.ref l)) (hb : Ev tb σ H (.int i)) (hi : 0 ≤ i ∧ i < ns.length) (k : ∀ H1, But l H H1 → H1 l = some (.lst (il (si ns i n))) → tz D' σ H1) :
    tSeq (tAsg te (gSub ta tb rSetL)) tz D' σ H := s_setI (D' := { D' with nx := tz D' }) hl h ha hb hi k

/-! ### loops -/
theorem s_forI {a : Addr} {ns : List Int} {j : Nat} (h : Ev tl σ H (.ref a)) (hx : H a = some (.lst (il ns))) (Pv : Nat → L2.St → Hp → Prop) (h0 : ∀ H1, Ex H H1 → Pv 0 σ H1) (hl : ∀ i σ' H', Pv i σ' H' → H' a = some (.lst (il ns)))
    (hs : ∀ (i : Nat) (x : Int) σ' H', ns[i]? = some x → Pv i σ' H' → tu { D' with nx := Pv (i + 1), ct := Pv (i + 1), bk := D'.nx } (σ'.set j (some (.int x))) H') (hd : ∀ σ' H', Pv ns.length σ' H' → D'.nx σ' H') : tFor (iList K tl) (gName j) tu D' σ H :=
  s_forLn h (sq_of hx) Pv h0 (fun i σ' H' _ p => sq_of (hl i σ' H' p)) (fun i x σ' H' hi p => by
    rw [List.getElem?_map] at hi
    cases hn : ns[i]? with
    | none => rw [hn] at hi; cases hi
    | some n =>
      rw [hn] at hi
      cases hi
      exact hs i n σ' H' hn p) (fun σ' H' p => hd σ' H' (by rw [List.length_map] at p; exact p))
theorem q_forI {a : Addr} {ns : List Int} {j : Nat} (h : Ev tl σ H (.ref a)) (hx : H a = some (.lst (il ns))) (Pv : Nat → L2.St → Hp → Prop) (h0 : ∀ H1, Ex H H1 → Pv 0 σ H1) (hl : ∀ i σ' H', Pv i σ' H' → H' a = some (.lst (il ns)))
    (hs : ∀ (i : Nat) (x : Int) σ' H', ns[i]? = some x → Pv i σ' H' → tu { D' with nx := Pv (i + 1), ct := Pv (i + 1), bk := tz D' } (σ'.set j (some (.int x))) H') (hd : ∀ σ' H', Pv ns.length σ' H' → tz D' σ' H') : tSeq (tFor (iList K tl) (gName j) tu) tz D' σ H :=
  s_forI (D' := { D' with nx := tz D' }) h hx Pv h0 hl hs hd
theorem s_forV {a : Addr} {ns : List Int} {j : Nat} (h : Ev tl σ H (.ref a)) (hx : H a = some (.lst (il ns))) (Pv : Nat → L2.St → Hp → Prop) (h0 : ∀ H1, Ex H H1 → Pv 0 σ H1) (hl : ∀ i σ' H', Pv i σ' H' → H' a = some (.lst (il ns)))
    (hs : ∀ (i : Nat) (x : Int) σ' H', ns.reverse[i]? = some x → Pv i σ' H' → tu { D' with nx := Pv (i + 1), ct := Pv (i + 1), bk := D'.nx } (σ'.set j (some (.int x))) H') (hd : ∀ σ' H', Pv ns.length σ' H' → D'.nx σ' H') : tFor (iRev K (tCons tl tNil)) (gName j) tu D' σ H := by
  unfold tFor iRev
  exact (ea_of h) H (Ex.refl H) _ fun H1 e => ⟨a, il ns, rfl, sq_of (e _ _ hx), RT.for_Itv (K := K) (xs := il ns) Pv (h0 H1 e) (fun i σ' H' p => sq_of (hl i σ' H' p)) (fun i x σ' H' hi hg p => by
    rw [List.length_map] at hi hg
    have hr : ns.reverse[i]? = ns[ns.length - 1 - i]? := List.getElem?_reverse hi
    rw [List.getElem?_map, ← hr] at hg
    cases hn : ns.reverse[i]? with
    | none => rw [hn] at hg; cases hg
    | some n =>
      rw [hn] at hg
      cases hg
      exact hs i n σ' H' hn p) (fun σ' H' p => hd σ' H' (by rw [List.length_map] at p; exact p))⟩
theorem q_forV {a : Addr} {ns : List Int} {j : Nat} (h : Ev tl σ H (.ref a)) (hx : H a = some (.lst (il ns))) (Pv : Nat → L2.St → Hp → Prop) (h0 : ∀ H1, Ex H H1 → Pv 0 σ H1) (hl : ∀ i σ' H', Pv i σ' H' → H' a = some (.lst (il ns)))
    (hs : ∀ (i : Nat) (x : Int) σ' H', ns.reverse[i]? = some x → Pv i σ' H' → tu { D' with nx := Pv (i + 1), ct := Pv (i + 1), bk := tz D' } (σ'.set j (some (.int x))) H') (hd : ∀ σ' H', Pv ns.length σ' H' → tz D' σ' H') : tSeq (tFor (iRev K (tCons tl tNil)) (gName j) tu) tz D' σ H :=
  s_forV (D' := { D' with nx := tz D' }) h hx Pv h0 hl hs hd
end

/-! ### turns as plain functions -/
def iter {α : Type} (f : Nat → α → α) (a : α) : Nat → α
  | 0 => a
  | n + 1 => f n (iter f a n)
theorem iter_succ {α : Type} (f : Nat → α → α) (a : α) (n : Nat) : iter f a (n + 1) = f n (iter f a n) := rfl
theorem fold_succ {α : Type} {f : α → Int → α} {a : α} {l : List Int} {i : Nat} {x : Int} (h : l[i]? = some x) : (l.take (i + 1)).foldl f a = f ((l.take i).foldl f a) x := by
  rw [take_snoc h, List.foldl_append]
  rfl
/-- the first turn that hands something back -/
def first {α : Type} (b : Nat → Option α) : Nat → Option α
  | 0 => none
  | n + 1 => match first b n with
    | some r => some r
    | none => b n
theorem first_none {α : Type} {b : Nat → Option α} {n : Nat} (h : first b n = none) (h' : b n = none) : first b (n + 1) = none := by
  unfold first
  rw [h]
  exact h'
theorem first_some {α : Type} {b : Nat → Option α} {i n : Nat} {r : α} (h : first b i = none) (h' : b i = some r) (hi : i < n) : first b n = some r := by
  induction n with
  | zero => omega
  | succ n ih =>
    by_cases c : i = n
    · subst c
      unfold first
      rw [h]
      exact h'
    · have q := ih (by omega)
      unfold first
      rw [q]
def whl {α : Type} (c : α → Bool) (f : α → α) : Nat → α → α
  | 0, x => x
  | n + 1, x => if c x = true then whl c f n (f x) else x
theorem whl_stop {α : Type} {c : α → Bool} {f : α → α} {x : α} (h : c x = false) : ∀ n, whl c f n x = x
  | 0 => rfl
  | n + 1 => by
    unfold whl
    rw [h]
    rfl
theorem whl_fuel {α : Type} {c : α → Bool} {f : α → α} {I : α → Prop} {mu : α → Nat} (hI : ∀ x, I x → c x = true → I (f x) ∧ mu (f x) < mu x) : ∀ (n m : Nat) (x : α), I x → mu x ≤ n → mu x ≤ m → whl c f n x = whl c f m x := by
  intro n
  induction n with
  | zero =>
    intro m x hx h h2
    cases hc : c x with
    | false => rw [whl_stop hc, whl_stop hc]
    | true =>
      have := (hI x hx hc).2
      omega
  | succ n ih =>
    intro m x hx h h2
    cases hc : c x with
    | false => rw [whl_stop hc, whl_stop hc]
    | true =>
      obtain ⟨i1, i2⟩ := hI x hx hc
      obtain ⟨m', rfl⟩ : ∃ m', m = m' + 1 := ⟨m - 1, by omega⟩
      show (if c x = true then whl c f n (f x) else x) = (if c x = true then whl c f m' (f x) else x)
      rw [if_pos hc, if_pos hc]
      exact ih m' (f x) i1 (by omega) (by omega)
theorem whl_go {α : Type} {c : α → Bool} {f : α → α} {I : α → Prop} {mu : α → Nat} (hI : ∀ x, I x → c x = true → I (f x) ∧ mu (f x) < mu x) {x : α} (hx : I x) (hc : c x = true) : whl c f (mu x) x = whl c f (mu (f x)) (f x) := by
  obtain ⟨i1, i2⟩ := hI x hx hc
  obtain ⟨m, hm⟩ : ∃ m, mu x = m + 1 := ⟨mu x - 1, by omega⟩
  rw [hm]
  show (if c x = true then whl c f m (f x) else x) = _
  rw [if_pos hc]
  exact whl_fuel hI m (mu (f x)) (f x) i1 (by omega) (Nat.le_refl _)
/-- behind the loop the test fails -/
theorem whl_end {α : Type} {c : α → Bool} {f : α → α} {I : α → Prop} {mu : α → Nat} (hI : ∀ x, I x → c x = true → I (f x) ∧ mu (f x) < mu x) : ∀ (n : Nat) (x : α), I x → mu x ≤ n → I (whl c f n x) ∧ c (whl c f n x) = false := by
  intro n
  induction n with
  | zero =>
    intro x hx h
    cases hc : c x with
    | false => exact ⟨hx, hc⟩
    | true =>
      have := (hI x hx hc).2
      omega
  | succ n ih =>
    intro x hx h
    cases hc : c x with
    | false => rw [whl_stop hc]; exact ⟨hx, hc⟩
    | true =>
      obtain ⟨i1, i2⟩ := hI x hx hc
      show I (if c x = true then whl c f n (f x) else x) ∧ c (if c x = true then whl c f n (f x) else x) = false
      rw [if_pos hc]
      exact ih (f x) i1 (by omega)

/-! ### further words -/
theorem paired_cons {α β : Type} {F : α → β → Prop} {l : List α} {y : β} {ys : List β} (h : Paired F l (y :: ys)) : ∃ x xs, l = x :: xs ∧ F x y ∧ Paired F xs ys := by
  cases h with
  | cons a b => exact ⟨_, _, rfl, a, b⟩
theorem paired_nil {α β : Type} {F : α → β → Prop} {l : List α} (h : Paired F l []) : l = [] := by
  cases h
  rfl
theorem list_nodup3 {α : Type} {a b c : α} (h : [a, b, c].Nodup) : a ≠ b ∧ a ≠ c ∧ b ≠ c := by
  simp only [List.nodup_cons, List.mem_cons, List.not_mem_nil, not_or, or_false] at h
  exact ⟨h.1.1, h.1.2, h.2.1⟩
theorem list_nodup4 {α : Type} {a b c d : α} (h : [a, b, c, d].Nodup) : a ≠ b ∧ a ≠ c ∧ a ≠ d ∧ b ≠ c ∧ b ≠ d ∧ c ≠ d := by
  simp only [List.nodup_cons, List.mem_cons, List.not_mem_nil, not_or, or_false] at h
  exact ⟨h.1.1, h.1.2.1, h.1.2.2, h.2.1.1, h.2.1.2, h.2.2.1⟩
theorem cond_t {α : Type} {c : Bool} {a b : α} (h : c = true) : (bif c then a else b) = a := by rw [h]; rfl
theorem cond_f {α : Type} {c : Bool} {a b : α} (h : c = false) : (bif c then a else b) = b := by rw [h]; rfl
theorem elim_n {α β : Type} {o : Option α} {a : β} {f : α → β} (h : o = none) : Option.elim o a f = a := by rw [h]; rfl
theorem elim_s {α β : Type} {o : Option α} {a : β} {f : α → β} {x : α} (h : o = some x) : Option.elim o a f = f x := by rw [h]; rfl
theorem getd_n {α : Type} {o : Option α} {a : α} (h : o = none) : Option.getD o a = a := by rw [h]; rfl
theorem getd_s {α : Type} {o : Option α} {a x : α} (h : o = some x) : Option.getD o a = x := by rw [h]; rfl
theorem getd_at {l : List Int} {i : Nat} {x : Int} (h : l[i]? = some x) : l.getD i 0 = x := by
  rw [List.getD_eq_getElem?_getD, h]
  rfl
theorem lt_of_get {α : Type} {l : List α} {i : Nat} {x : α} (h : l[i]? = some x) : i < l.length := (List.getElem?_eq_some_iff.mp h).1
theorem take_rev (l : List Int) : l.reverse.take l.length = l.reverse := by
  rw [← List.length_reverse, List.take_length]
def dOP : Option (List Int × List Int) → D
  | none => .v .non
  | some q => .p (.l (il q.1)) (.l (il q.2))
def dOL : Option (List Int) → D
  | none => .v .non
  | some q => .l (il q)
section
variable {K : PySem.W.Frag} {σ : L2.St} {H H0 H' : Hp} {ta tb te : TE} {x y : V} {d e : D} {u : V} {D' : Ends} {tz : TS}
theorem ret_eq {d' : D} (h : d = d') (n : d'.new K H0 u H') : d.new K H0 u H' := by
  rw [h]
  exact n
theorem ed_rep (h : Ev te σ H u) (r : d.rep K u H) : EvD K te σ H d := fun H1 e Q q => h H1 e Q fun H2 e2 => q u H2 e2 (D.mono (e.trans e2) r)
theorem ed_p (ha : EvD K ta σ H d) (hb : EvD K tb σ H e) : EvD K (tTup (tCons ta (tCons tb tNil))) σ H (.p d e) := fun H1 e1 _ q =>
  ha H1 e1 _ fun x H2 e2 r => hb H2 (e1.trans e2) _ fun y H3 e3 r' => ⟨(by decide : 2 ≤ sizeLine), fun p n => q _ _ ((e2.trans e3).trans (Ex.new n)) ⟨p, x, y, rfl, upd_same, D.mono (e3.trans (Ex.new n)) r, D.mono (Ex.new n) r'⟩⟩
theorem q_par {i j : Nat} {v w : V} {ta : TA} (h : EvA ta σ H [v, w]) (k : ∀ H1, Ex H H1 → tz D' ((σ.set i (some v)).set j (some w)) H1) : tSeq (tPar i j ta) tz D' σ H := h H (Ex.refl H) _ fun H1 e => ⟨v, w, rfl, k H1 e⟩
theorem s_par {i j : Nat} {v w : V} {ta : TA} (h : EvA ta σ H [v, w]) (k : ∀ H1, Ex H H1 → D'.nx ((σ.set i (some v)).set j (some w)) H1) : tPar i j ta D' σ H := h H (Ex.refl H) _ fun H1 e => ⟨v, w, rfl, k H1 e⟩
end
theorem iter_inv {α : Type} {f : Nat → α → α} {a : α} {P : α → Prop} {n : Nat} (h0 : P a) (hs : ∀ i st, i < n → P st → P (f i st)) : P (iter f a n) := by
  induction n with
  | zero => exact h0
  | succ n ih => exact hs n _ (Nat.lt_succ_self n) (ih fun i st hi => hs i st (Nat.lt_succ_of_lt hi))
theorem fold_inv {α : Type} {f : α → Int → α} {a : α} {P : α → Prop} (l : List Int) (h0 : P a) (hs : ∀ st x, x ∈ l → P st → P (f st x)) : P (l.foldl f a) := by
  induction l generalizing a with
  | nil => exact h0
  | cons x l ih => exact ih (hs a x List.mem_cons_self h0) fun st y hy => hs st y (List.mem_cons_of_mem _ hy)
def Rests (xs : List Int) : Prop := ∀ x ∈ xs, 0 ≤ x ∧ x < 251
theorem rests_gi {xs : List Int} (h : Rests xs) (i : Int) : 0 ≤ gi xs i ∧ gi xs i < 251 := by
  unfold gi
  rw [List.getD_eq_getElem?_getD]
  cases e : xs[i.toNat]? with
  | none => exact ⟨Int.le_refl 0, by decide⟩
  | some x => exact h x (List.mem_of_getElem? e)
theorem rests_gl {xs : List Int} (h : Rests xs) : 0 ≤ gl xs ∧ gl xs < 251 := by
  unfold gl
  rw [List.getLastD_eq_getLast?]
  cases e : xs.getLast? with
  | none => exact ⟨Int.le_refl 0, by decide⟩
  | some x => exact h x (List.mem_of_getLast? e)
theorem rests_nil : Rests [] := fun _ h => nomatch h
theorem rests_cons {x : Int} {xs : List Int} (hx : 0 ≤ x ∧ x < 251) (h : Rests xs) : Rests (x :: xs) := fun y hy => by
  rcases List.mem_cons.mp hy with e | e
  · rw [e]; exact hx
  · exact h y e
theorem rests_app {xs ys : List Int} (h : Rests xs) (h2 : Rests ys) : Rests (xs ++ ys) := fun y hy => (List.mem_append.mp hy).elim (h y) (h2 y)
theorem rests_sub {xs ys : List Int} (h : Rests ys) (hs : ∀ x ∈ xs, x ∈ ys) : Rests xs := fun x hx => h x (hs x hx)
theorem rests_zs (k : Int) : Rests (zs k) := fun x hx => by
  rw [(List.mem_replicate.mp hx).2]
  exact ⟨Int.le_refl 0, by decide⟩
theorem rests_si {xs : List Int} {i v : Int} (h : Rests xs) (hv : 0 ≤ v ∧ v < 251) : Rests (si xs i v) := fun x hx => by
  unfold si at hx
  rcases List.mem_or_eq_of_mem_set hx with e | e
  · exact h x e
  · rw [e]; exact hv
theorem rests_map {α : Type} {l : List α} {g : α → Int} (h : ∀ x ∈ l, 0 ≤ g x ∧ g x < 251) : Rests (l.map g) := fun y hy => by
  obtain ⟨x, hx, rfl⟩ := List.mem_map.mp hy
  exact h x hx
section
variable {K : PySem.W.Frag} {σ : L2.St} {H H0 H' : Hp} {ta tb te : TE} {x y : V} {d e : D} {u : V} {D' : Ends} {tz : TS}
theorem ed_al (h : EvD K te σ H (.al d)) : EvD K te σ H d := h
theorem en_ll2 {xs ys : List Int} (ha : EvN K ta σ H (.l (il xs))) (hb : EvN K tb σ H (.l (il ys))) : EvN K (tLst (tCons ta (tCons tb tNil))) σ H (.ll (([xs, ys] : List (List Int)).map il)) := fun H1 e1 _ q =>
  ha H1 e1 _ fun x H2 e2 ⟨a, hx, na, ra⟩ => hb H2 (e1.trans e2) _ fun y H3 e3 ⟨b, hy, nb, rb⟩ => ⟨Nat.le_of_ble_eq_true rfl, fun p n => by
    have ra3 := e3 _ _ ra
    have n1 : a ≠ b := ne_of_none ra nb
    have n2 : a ≠ p := ne_of_none ra3 n
    have n3 : b ≠ p := ne_of_none rb n
    have exn : Ex H3 (upd H3 p (.lst [x, y])) := Ex.new n
    subst hx
    subst hy
    refine q _ _ ((e2.trans e3).trans exn) ⟨p, [a, b], rfl, fresh_back (e2.trans e3) n, upd_same, ?_, .cons ⟨na, exn _ _ ra3⟩ (.cons ⟨fresh_back e2 nb, exn _ _ rb⟩ .nil)⟩
    simp only [List.nodup_cons, List.mem_cons, List.not_mem_nil, not_or, or_false]
    exact ⟨⟨fun z => n2 z.symm, fun z => n3 z.symm⟩, n1, not_false, List.nodup_nil⟩⟩
theorem en_ll3 {td : TE} {xs ys zs : List Int} (ha : EvN K ta σ H (.l (il xs))) (hb : EvN K tb σ H (.l (il ys))) (hd : EvN K td σ H (.l (il zs))) : EvN K (tLst (tCons ta (tCons tb (tCons td tNil)))) σ H (.ll (([xs, ys, zs] : List (List Int)).map il)) := fun H1 e1 _ q =>
  ha H1 e1 _ fun x H2 e2 ⟨a, hx, na, ra⟩ => hb H2 (e1.trans e2) _ fun y H3 e3 ⟨b, hy, nb, rb⟩ => hd H3 ((e1.trans e2).trans e3) _ fun z H4 e4 ⟨c, hz, nc, rc⟩ => ⟨Nat.le_of_ble_eq_true rfl, fun p n => by
    have ra3 := e3 _ _ ra
    have ra4 := e4 _ _ ra3
    have rb4 := e4 _ _ rb
    have n1 : a ≠ b := ne_of_none ra nb
    have n4 : a ≠ c := ne_of_none ra3 nc
    have n5 : b ≠ c := ne_of_none rb nc
    have n2 : a ≠ p := ne_of_none ra4 n
    have n3 : b ≠ p := ne_of_none rb4 n
    have n6 : c ≠ p := ne_of_none rc n
    have exn : Ex H4 (upd H4 p (.lst [x, y, z])) := Ex.new n
    subst hx
    subst hy
    subst hz
    refine q _ _ (((e2.trans e3).trans e4).trans exn) ⟨p, [a, b, c], rfl, fresh_back ((e2.trans e3).trans e4) n, upd_same, ?_, .cons ⟨na, exn _ _ ra4⟩ (.cons ⟨fresh_back e2 nb, exn _ _ rb4⟩ (.cons ⟨fresh_back (e2.trans e3) nc, exn _ _ rc⟩ .nil))⟩
    simp only [List.nodup_cons, List.mem_cons, List.not_mem_nil, not_or, or_false]
    exact ⟨⟨fun z => n2 z.symm, fun z => n3 z.symm, fun z => n6 z.symm⟩, ⟨n1, n4⟩, n5, not_false, List.nodup_nil⟩⟩
theorem ed_llv {ta : TA} {ps : List Addr} {xss : List (List V)} (h : EvA ta σ H (ps.map V.ref)) (r : Paired (fun q xs => H q = some (.lst xs)) ps xss) (hz : (ps.map V.ref).length ≤ 100000) : EvD K (tLst ta) σ H (.ll xss) := fun H1 e _ q =>
  h H1 e _ fun H2 e2 => ⟨sz_of hz, fun p n => q _ _ (e2.trans (Ex.new n)) ⟨p, ps, rfl, upd_same, paired_imp (fun _ _ z => (Ex.new n) _ _ (e2 _ _ (e _ _ z))) r⟩⟩
theorem paired_at {α β : Type} {F : α → β → Prop} : ∀ {l : List α} {m : List β} {i : Nat} {y : β}, Paired F l m → m[i]? = some y → ∃ x, l[i]? = some x ∧ F x y
  | _, _, 0, _, .cons a _, h => by cases h; exact ⟨_, rfl, a⟩
  | _, _, i + 1, _, .cons _ b, h => paired_at (i := i) b h
  | _, _, _, _, .nil, h => by simp at h
theorem ed_ixLL {xss : List (List Int)} {i : Int} (ha : EvD K ta σ H (.ll (xss.map il))) (hb : Ev tb σ H (.int i)) (h : 0 ≤ i ∧ i < xss.length) : EvD K (tOp (rIxL K) ta tb) σ H (.l (il (xss.getD i.toNat []))) := fun H1 e1 Q q =>
  ha H1 e1 _ fun u H2 e2 ⟨a, ps, hu, hx, hp⟩ => hb H2 (e1.trans e2) _ fun H3 e3 => by
    have hj : i.toNat < xss.length := by omega
    have hg : (xss.map il)[i.toNat]? = some (il (xss.getD i.toNat [])) := by
      rw [List.getElem?_map, List.getD_eq_getElem?_getD, List.getElem?_eq_getElem hj]
      rfl
    obtain ⟨c, hc, hr⟩ := paired_at hp hg
    refine ⟨a, ps.map V.ref, i, .ref c, hu, rfl, sq_of (e3 _ _ hx), at_of (j := i.toNat) (by omega) ?_, q _ H3 (e2.trans e3) ⟨c, rfl, e3 _ _ hr⟩⟩
    rw [List.getElem?_map, hc]
    rfl
theorem ev_eqB {a b : Bool} (ha : Ev ta σ H (.bl a)) (hb : Ev tb σ H (.bl b)) : Ev (tOp rEq ta tb) σ H (.bl (decide (a = b))) := by
  have g := ev_op ha hb (rv_eq (H := H) (x := .bl a) (y := .bl b) rfl)
  have e : decide ((V.bl a) = V.bl b) = decide (a = b) := by simp
  rw [e] at g
  exact g
theorem ev_neB {a b : Bool} (ha : Ev ta σ H (.bl a)) (hb : Ev tb σ H (.bl b)) : Ev (tOp rNe ta tb) σ H (.bl (!decide (a = b))) := by
  have g := ev_op ha hb (rv_ne (H := H) (x := .bl a) (y := .bl b) rfl)
  have e : decide ((V.bl a) = V.bl b) = decide (a = b) := by simp
  rw [e] at g
  exact g
theorem ev_eqT {xs ys : List Int} (ha : EvD K ta σ H (.t (il xs))) (hb : EvD K tb σ H (.t (il ys))) : Ev (tOp (rEqD K) ta tb) σ H (.bl (decide (xs = ys))) := by
  rw [← eqv_tt]
  exact ev_eqD ha hb (fl_il _) (fl_il _) (Nat.le_of_ble_eq_true rfl) (Nat.le_of_ble_eq_true rfl)
theorem ev_neT {xs ys : List Int} (ha : EvD K ta σ H (.t (il xs))) (hb : EvD K tb σ H (.t (il ys))) : Ev (tOp (rNeD K) ta tb) σ H (.bl (!decide (xs = ys))) := by
  rw [← eqv_tt]
  exact ev_neD ha hb (fl_il _) (fl_il _) (Nat.le_of_ble_eq_true rfl) (Nat.le_of_ble_eq_true rfl)
theorem dec_pair {α β : Type} [DecidableEq α] [DecidableEq β] (a c : α) (b d : β) : (decide (a = c) && decide (b = d)) = decide ((a, b) = (c, d)) := by
  by_cases h : a = c <;> by_cases h' : b = d <;> simp [h, h']
theorem ev_neIT {p q : Int × List Int} (ha : EvD K ta σ H (.p (.v (.int p.1)) (.t (il p.2)))) (hb : EvD K tb σ H (.p (.v (.int q.1)) (.t (il q.2)))) : Ev (tOp (rNeD K) ta tb) σ H (.bl (!decide (p = q))) := by
  have g := ev_neD ha hb (by simp only [D.fl, flI, fl_il, Bool.and_self]) (by simp only [D.fl, flI, fl_il, Bool.and_self]) (Nat.le_of_ble_eq_true rfl) (Nat.le_of_ble_eq_true rfl)
  rw [eqv_pp, eqv_vv, eqv_tt, dec_pair] at g
  exact g
theorem ev_eqIT {p q : Int × List Int} (ha : EvD K ta σ H (.p (.v (.int p.1)) (.t (il p.2)))) (hb : EvD K tb σ H (.p (.v (.int q.1)) (.t (il q.2)))) : Ev (tOp (rEqD K) ta tb) σ H (.bl (decide (p = q))) := by
  have g := ev_eqD ha hb (by simp only [D.fl, flI, fl_il, Bool.and_self]) (by simp only [D.fl, flI, fl_il, Bool.and_self]) (Nat.le_of_ble_eq_true rfl) (Nat.le_of_ble_eq_true rfl)
  rw [eqv_pp, eqv_vv, eqv_tt, dec_pair] at g
  exact g
theorem fl_lss (xss : List (List Int)) : (xss.map il).all (fun xs => xs.all flI) = true := by
  rw [List.all_map]
  exact List.all_eq_true.mpr fun x _ => fl_il x
theorem ev_neLL {xss yss : List (List Int)} (ha : EvD K ta σ H (.ll (xss.map il))) (hb : EvD K tb σ H (.ll (yss.map il))) : Ev (tOp (rNeD K) ta tb) σ H (.bl (!decide (xss = yss))) := by
  rw [← eqv_llll]
  exact ev_neD ha hb (fl_lss _) (fl_lss _) (Nat.le_of_ble_eq_true rfl) (Nat.le_of_ble_eq_true rfl)
theorem fl_op : ∀ o, (dOP o).fl = true
  | none => rfl
  | some q => by simp only [dOP, D.fl, fl_il, Bool.and_self]
theorem dsz_op : ∀ o, (dOP o).dsz ≤ 64
  | none => Nat.le_of_ble_eq_true rfl
  | some q => Nat.le_of_ble_eq_true rfl
theorem eqv_op : ∀ o o' : Option (List Int × List Int), PyData.eqv (dOP o).py (dOP o').py = decide (o = o')
  | none, none => by simp [dOP, D.py, vpy, PyData.eqv]
  | none, some _ => by simp [dOP, D.py, vpy, PyData.eqv]
  | some _, none => by simp [dOP, D.py, vpy, PyData.eqv]
  | some p, some q => by
    show PyData.eqv (D.p (.l (il p.1)) (.l (il p.2))).py (D.p (.l (il q.1)) (.l (il q.2))).py = decide (some p = some q)
    rw [eqv_pp, eqv_ll, eqv_ll]
    obtain ⟨p1, p2⟩ := p
    obtain ⟨q1, q2⟩ := q
    by_cases h : p1 = q1 <;> by_cases h' : p2 = q2 <;> simp [h, h']
theorem ev_neOP {o o' : Option (List Int × List Int)} (ha : EvD K ta σ H (dOP o)) (hb : EvD K tb σ H (dOP o')) : Ev (tOp (rNeD K) ta tb) σ H (.bl (!decide (o = o'))) := by
  rw [← eqv_op]
  exact ev_neD ha hb (fl_op _) (fl_op _) (dsz_op _) (dsz_op _)
theorem ev_eqOP {o o' : Option (List Int × List Int)} (ha : EvD K ta σ H (dOP o)) (hb : EvD K tb σ H (dOP o')) : Ev (tOp (rEqD K) ta tb) σ H (.bl (decide (o = o'))) := by
  rw [← eqv_op]
  exact ev_eqD ha hb (fl_op _) (fl_op _) (dsz_op _) (dsz_op _)
theorem ed_opN (h : EvD K te σ H (.v .non)) : EvD K te σ H (dOP none) := h
theorem ed_opS {q : List Int × List Int} (h : EvD K te σ H (.p (.l (il q.1)) (.l (il q.2)))) : EvD K te σ H (dOP (some q)) := h
end
theorem iter_snoc_len {f : Nat → List Int → List Int} {a : List Int} (h : ∀ i st, ∃ x, f i st = st ++ [x]) : ∀ n, (iter f a n).length = a.length + n
  | 0 => rfl
  | n + 1 => by
    obtain ⟨x, hx⟩ := h n (iter f a n)
    rw [iter_succ, hx, List.length_append, iter_snoc_len h n]
    rfl
theorem iter_len {f : Nat → List Int → List Int} {a : List Int} (h : ∀ i st, (f i st).length = st.length) : ∀ n, (iter f a n).length = a.length
  | 0 => rfl
  | n + 1 => by rw [iter_succ, h, iter_len h n]
theorem dropLast_lt {x : List Int} (h : ¬ x = []) : x.dropLast.length < x.length := by
  rw [List.length_dropLast]
  have : x.length ≠ 0 := fun z => h (List.length_eq_zero_iff.mp z)
  omega
section
variable {K : PySem.W.Frag} {σ : L2.St} {H H0 H' : Hp} {ta tb te tl ty td tv : TE} {x y : V} {d e : D} {u : V} {D' : Ends} {tz tu : TS}
theorem s_forTI {a : Addr} {ns : List Int} {j : Nat} (h : Ev tl σ H (.ref a)) (hx : H a = some (.tup (il ns))) (Pv : Nat → L2.St → Hp → Prop) (h0 : ∀ H1, Ex H H1 → Pv 0 σ H1) (hl : ∀ i σ' H', Pv i σ' H' → H' a = some (.tup (il ns)))
    (hs : ∀ (i : Nat) (x : Int) σ' H', ns[i]? = some x → Pv i σ' H' → tu { D' with nx := Pv (i + 1), ct := Pv (i + 1), bk := D'.nx } (σ'.set j (some (.int x))) H') (hd : ∀ σ' H', Pv ns.length σ' H' → D'.nx σ' H') : tFor (iTup K tl) (gName j) tu D' σ H :=
  s_forT h (st_of hx) Pv h0 (fun i σ' H' _ p => st_of (hl i σ' H' p)) (fun i x σ' H' hi p => by
    rw [List.getElem?_map] at hi
    cases hn : ns[i]? with
    | none => rw [hn] at hi; cases hi
    | some n =>
      rw [hn] at hi
      cases hi
      exact hs i n σ' H' hn p) (fun σ' H' p => hd σ' H' (by rw [List.length_map] at p; exact p))
theorem q_forTI {a : Addr} {ns : List Int} {j : Nat} (h : Ev tl σ H (.ref a)) (hx : H a = some (.tup (il ns))) (Pv : Nat → L2.St → Hp → Prop) (h0 : ∀ H1, Ex H H1 → Pv 0 σ H1) (hl : ∀ i σ' H', Pv i σ' H' → H' a = some (.tup (il ns)))
    (hs : ∀ (i : Nat) (x : Int) σ' H', ns[i]? = some x → Pv i σ' H' → tu { D' with nx := Pv (i + 1), ct := Pv (i + 1), bk := tz D' } (σ'.set j (some (.int x))) H') (hd : ∀ σ' H', Pv ns.length σ' H' → tz D' σ' H') : tSeq (tFor (iTup K tl) (gName j) tu) tz D' σ H :=
  s_forTI (D' := { D' with nx := tz D' }) h hx Pv h0 hl hs hd
/-! a dict whose keys are the numbers met -/
def dct (l : List Int) : List (Key × V) := l.map fun n => (Sum.inl n, V.bl true)
theorem dct_val (n : Int) : ∀ l : List Int, (valV (dct l) (Sum.inl n)).isSome = decide (n ∈ l)
  | [] => rfl
  | m :: l => by
    have ih := dct_val n l
    show (valV ((Sum.inl m, V.bl true) :: dct l) (Sum.inl n)).isSome = _
    by_cases h : m = n
    · rw [valV_pos (congrArg Sum.inl h)]
      simp [h]
    · have h' : ¬ n = m := fun q => h q.symm
      rw [valV_neg (fun q => h (Sum.inl.inj q)), ih]
      simp [h']
theorem dct_put {n : Int} {l : List Int} (h : ¬ n ∈ l) : putK (dct l) (Sum.inl n) (V.bl true) = dct (l ++ [n]) := by
  have hv : valV (dct l) (Sum.inl n) = none := by
    have e := dct_val n l
    rw [decide_eq_false h] at e
    cases q : valV (dct l) (Sum.inl n) with
    | none => rfl
    | some v => rw [q] at e; cases e
  rw [putK_new _ hv]
  unfold dct
  rw [List.map_append]
  rfl
theorem q_asgDict {i : Nat} (k : ∀ p H1, H p = none → Ex H H1 → H1 p = some (.dK (dct [])) → tz D' (σ.set i (some (.ref p))) H1) : tSeq (tAsg tDNewK (gName i)) tz D' σ H := fun p hp => k p _ hp (Ex.new hp) upd_same
theorem ev_din {n : Int} {p : Addr} {l : List Int} (hy : Ev ty σ H (.int n)) (hd : Ev td σ H (.ref p)) (h : H p = some (.dK (dct l))) : Ev (tDIn ty td) σ H (.bl (decide (n ∈ l))) := fun H1 e Q q =>
  hy H1 e _ fun H2 e2 => hd H2 (e.trans e2) _ fun H3 e3 => ⟨p, _, rfl, DGet.k (k := Sum.inl n) (e3 _ _ (e2 _ _ (e _ _ h))), by
    rw [dct_val]
    exact q H3 (e2.trans e3)⟩
theorem s_dput {n : Int} {p : Addr} {l : List Int} (hv : Ev tv σ H (.bl true)) (hd : Ev td σ H (.ref p)) (hy : Ev ty σ H (.int n)) (h : H p = some (.dK (dct l))) (hn : ¬ n ∈ l) (hz : l.length < 100000) (k : ∀ H1, But p H H1 → H1 p = some (.dK (dct (l ++ [n]))) → D'.nx σ H1) : sDPut td ty tv D' σ H :=
  hv H (Ex.refl H) _ fun H1 e1 => hd H1 e1 _ fun H2 e2 => hy H2 (e1.trans e2) _ fun H3 e3 => ⟨p, _, rfl, DPut.k (k := Sum.inl n) (e3 _ _ (e2 _ _ (e1 _ _ h))) (sz_lt (by
    unfold dct
    rw [List.length_map]
    exact hz)), k _ (but_upd ((e1.trans e2).trans e3)) (by rw [upd_same, dct_put hn])⟩
end
/-- a row: different numbers from 1 to 250 -/
def RowOk (xs : List Int) : Prop := xs.Nodup ∧ (∀ x ∈ xs, 1 ≤ x ∧ x ≤ 250) ∧ xs.length ≤ 1000
end Kx

namespace Kx
/-! ### plain lists of numbers: trimming, places -/
theorem iter_invI {α : Type} {f : Nat → α → α} {a : α} {P : Nat → α → Prop} {n : Nat} (h0 : P 0 a) (hs : ∀ i st, i < n → P i st → P (i + 1) (f i st)) : P n (iter f a n) := by
  induction n with
  | zero => exact h0
  | succ n ih => exact hs n _ (Nat.lt_succ_self n) (ih fun i st hi => hs i st (Nat.lt_succ_of_lt hi))
theorem iter_snoc {f : Nat → List Int → List Int} {g : Nat → Int} (h : ∀ i st, f i st = st ++ [g i]) : ∀ n, iter f [] n = (List.range n).map g
  | 0 => rfl
  | n + 1 => by rw [iter_succ, h, iter_snoc h n, List.range_succ, List.map_append]; rfl
/-- the number at a place, 0 beyond -/
def co (xs : List Int) (n : Nat) : Int := xs.getD n 0
theorem gi_co (xs : List Int) (i : Int) : gi xs i = co xs i.toNat := rfl
theorem gi_nat (xs : List Int) (i : Nat) : gi xs (i : Int) = co xs i := by rw [gi_co, Int.toNat_natCast]
theorem co_nil (n : Nat) : co [] n = 0 := by simp [co]
theorem co_ge {xs : List Int} {n : Nat} (h : xs.length ≤ n) : co xs n = 0 := by
  unfold co
  rw [List.getD_eq_getElem?_getD, List.getElem?_eq_none h]
  rfl
theorem co_lt {xs : List Int} {n : Nat} (h : n < xs.length) : xs[n]? = some (co xs n) := by
  unfold co
  rw [List.getD_eq_getElem?_getD, List.getElem?_eq_getElem h]
  rfl
theorem co_zero {x : Int} {xs : List Int} : co (x :: xs) 0 = x := rfl
theorem co_succ {x : Int} {xs : List Int} {n : Nat} : co (x :: xs) (n + 1) = co xs n := by simp [co]
theorem co_app (xs ys : List Int) (n : Nat) : co (xs ++ ys) n = if n < xs.length then co xs n else co ys (n - xs.length) := by
  unfold co
  rw [List.getD_eq_getElem?_getD, List.getD_eq_getElem?_getD, List.getD_eq_getElem?_getD]
  split
  · rw [List.getElem?_append_left (by assumption)]
  · rw [List.getElem?_append_right (by omega)]
theorem co_take (xs : List Int) (k n : Nat) : co (xs.take k) n = if n < k then co xs n else 0 := by
  unfold co
  rw [List.getD_eq_getElem?_getD, List.getD_eq_getElem?_getD, List.getElem?_take]
  split <;> rfl
theorem co_map {g : Nat → Int} {m n : Nat} : co ((List.range m).map g) n = if n < m then g n else 0 := by
  unfold co
  rw [List.getD_eq_getElem?_getD, List.getElem?_map]
  split
  · rw [List.getElem?_range (by assumption)]
    rfl
  · rw [List.getElem?_eq_none (by rw [List.length_range]; omega)]
    rfl
theorem co_si (xs : List Int) (i v : Int) (n : Nat) : co (si xs i v) n = if n = i.toNat ∧ n < xs.length then v else co xs n := by
  unfold co si
  rw [List.getD_eq_getElem?_getD, List.getD_eq_getElem?_getD, List.getElem?_set]
  by_cases h : i.toNat = n
  · subst h
    by_cases h2 : i.toNat < xs.length
    · rw [if_pos rfl, if_pos h2, if_pos ⟨rfl, h2⟩]
      rfl
    · rw [if_pos rfl, if_neg h2, if_neg (fun z => h2 z.2), List.getElem?_eq_none (by omega)]
  · rw [if_neg h, if_neg (fun z => h z.1.symm)]
theorem co_zs (k : Int) (n : Nat) : co (zs k) n = 0 := by
  unfold co zs
  rw [List.getD_eq_getElem?_getD, List.getElem?_replicate]
  split <;> rfl
theorem co_rests {xs : List Int} (h : Rests xs) (n : Nat) : 0 ≤ co xs n ∧ co xs n < 251 := by
  have := rests_gi h n
  rw [gi_nat] at this
  exact this
theorem list_ext_co {xs ys : List Int} (hl : xs.length = ys.length) (h : ∀ n, n < xs.length → co xs n = co ys n) : xs = ys := by
  apply List.ext_getElem?
  intro n
  by_cases c : n < xs.length
  · rw [co_lt c, co_lt (hl ▸ c), h n c]
  · rw [List.getElem?_eq_none (by omega), List.getElem?_eq_none (by omega)]
/-- no nought at the end -/
def Tr (xs : List Int) : Prop := xs = [] ∨ co xs (xs.length - 1) ≠ 0
theorem tr_ext {xs ys : List Int} (hx : Tr xs) (hy : Tr ys) (h : ∀ n, co xs n = co ys n) : xs = ys := by
  have hl : xs.length = ys.length := by
    rcases Nat.lt_trichotomy xs.length ys.length with c | c | c
    · rcases hy with e | e
      · rw [e] at c; simp at c
      · exact absurd ((h _).symm.trans (co_ge (by omega))) e
    · exact c
    · rcases hx with e | e
      · rw [e] at c; simp at c
      · exact absurd ((h _).trans (co_ge (by omega))) e
  exact list_ext_co hl fun n _ => h n
theorem gl_co {xs : List Int} (h : xs ≠ []) : gl xs = co xs (xs.length - 1) := by
  unfold gl co
  rw [List.getLastD_eq_getLast?, List.getLast?_eq_getElem?, List.getD_eq_getElem?_getD]
theorem tr_gl {xs : List Int} (h : xs = [] ∨ gl xs ≠ 0) : Tr xs := by
  rcases h with h | h
  · exact .inl h
  · by_cases c : xs = []
    · exact .inl c
    · exact .inr (by rw [← gl_co c]; exact h)
/-- without the noughts at the end -/
def trim (xs : List Int) : List Int := xs.take (whl (fun n => decide (0 < n) && decide (co xs (n - 1) = 0)) (fun n => n - 1) xs.length xs.length)
theorem trim_step {xs : List Int} : ∀ m, m ≤ xs.length → (∀ k, m ≤ k → co xs k = 0) → (xs.take (whl (fun n => decide (0 < n) && decide (co xs (n - 1) = 0)) (fun n => n - 1) m m)).length ≤ m ∧ Tr (xs.take (whl (fun n => decide (0 < n) && decide (co xs (n - 1) = 0)) (fun n => n - 1) m m)) ∧ ∀ n, co (xs.take (whl (fun n => decide (0 < n) && decide (co xs (n - 1) = 0)) (fun n => n - 1) m m)) n = co xs n
  | 0, _, h => by
    refine ⟨?_, .inl ?_, fun n => ?_⟩
    · show (xs.take 0).length ≤ 0
      simp
    · show xs.take 0 = []
      simp
    · show co (xs.take 0) n = co xs n
      rw [h n (Nat.zero_le n)]
      simp [co_nil]
  | m + 1, hm, h => by
    by_cases c : co xs m = 0
    · have e : whl (fun n => decide (0 < n) && decide (co xs (n - 1) = 0)) (fun n => n - 1) (m + 1) (m + 1) = whl (fun n => decide (0 < n) && decide (co xs (n - 1) = 0)) (fun n => n - 1) m m := by
        show (if (decide (0 < m + 1) && decide (co xs (m + 1 - 1) = 0)) = true then _ else _) = _
        rw [if_pos (by rw [decide_eq_true (Nat.succ_pos m), decide_eq_true (show co xs (m + 1 - 1) = 0 from c)]; rfl)]
        rfl
      rw [e]
      obtain ⟨h1, h2, h3⟩ := trim_step (xs := xs) m (by omega) (fun k hk => by
        by_cases q : k = m
        · rw [q]; exact c
        · exact h k (by omega))
      exact ⟨Nat.le_succ_of_le h1, h2, h3⟩
    · have e : whl (fun n => decide (0 < n) && decide (co xs (n - 1) = 0)) (fun n => n - 1) (m + 1) (m + 1) = m + 1 := by
        show (if (decide (0 < m + 1) && decide (co xs (m + 1 - 1) = 0)) = true then _ else _) = _
        rw [if_neg (by rw [decide_eq_false (show ¬ co xs (m + 1 - 1) = 0 from c), Bool.and_false]; decide)]
      rw [e]
      have hl : (xs.take (m + 1)).length = m + 1 := by rw [List.length_take]; omega
      refine ⟨Nat.le_of_eq hl, .inr ?_, fun n => ?_⟩
      · rw [hl, co_take, if_pos (by omega)]
        exact c
      · rw [co_take]
        split
        · rfl
        · exact (h n (by omega)).symm
theorem trim_tr (xs : List Int) : Tr (trim xs) := (trim_step xs.length (Nat.le_refl _) (fun _ hk => co_ge hk)).2.1
theorem trim_co (xs : List Int) (n : Nat) : co (trim xs) n = co xs n := (trim_step xs.length (Nat.le_refl _) (fun _ hk => co_ge hk)).2.2 n
theorem trim_len (xs : List Int) : (trim xs).length ≤ xs.length := (trim_step xs.length (Nat.le_refl _) (fun _ hk => co_ge hk)).1
theorem trim_id {xs : List Int} (h : Tr xs) : trim xs = xs := tr_ext (trim_tr xs) h (trim_co xs)
theorem trim_eq {xs ys : List Int} (h : Tr ys) (hc : ∀ n, co ys n = co xs n) : ys = trim xs := tr_ext h (trim_tr xs) fun n => (hc n).trans (trim_co xs n).symm
theorem trim_rests {xs : List Int} (h : Rests xs) : Rests (trim xs) := rests_sub h fun _ hx => List.mem_of_mem_take hx
/-- the law's own way: the last one is dropped while it is 0 -/
theorem drop_end {c : List Int → Bool} {f : List Int → List Int} (hc : ∀ x, c x = ((!decide (x = [])) && decide (gl x = 0))) (hf : ∀ x, f x = x.dropLast) : ∀ (n : Nat) (xs : List Int), xs.length ≤ n → whl c f n xs = trim xs
  | 0, xs, h => by
    have e : xs = [] := List.length_eq_zero_iff.mp (by omega)
    rw [e]
    rfl
  | n + 1, xs, h => by
    show (if c xs = true then whl c f n (f xs) else xs) = trim xs
    by_cases e : xs = []
    · rw [if_neg (by rw [hc, decide_eq_true e]; simp), e]
      rfl
    · by_cases g : gl xs = 0
      · rw [if_pos (by rw [hc, decide_eq_false e, decide_eq_true g]; rfl), hf, drop_end hc hf n xs.dropLast (by have := dropLast_lt e; omega)]
        refine tr_ext (trim_tr _) (trim_tr _) fun k => ?_
        rw [trim_co, trim_co, List.dropLast_eq_take, co_take]
        split
        · rfl
        · by_cases q : k = xs.length - 1
          · rw [q, ← gl_co e]; exact g.symm
          · exact (co_ge (by omega)).symm
      · rw [if_neg (by rw [hc, decide_eq_false g, Bool.and_false]; decide)]
        exact (trim_id (tr_gl (.inr g))).symm
end Kx

/-! list(reversed(a list)) -/
namespace LR
open PySem PySem.Spec PyProof.Rows L2 RT
section
variable {prog : Program} {w : World} {A : Around} {E : Value → Shared → Prop} {s : Shared}
theorem extend_rev {R : Result → Shared → Prop} {it l : Addr} {items : Array Value} (hh : A.handled = none) (hit : s.heap.IsRevIter it l ((items.size : Int) - 1)) (hl : s.heap.IsList l items) (hne : l ≠ it) (hn : items.size ≤ sizeLine) (S : Addr) (res : Value) (c₀ : Nat)
    (hS : s.heap.get? S = some { cls := .type "list", data := .seq #[] c₀ }) (hSi : S ≠ it) (hSl : S ≠ l)
    (hR : ∀ h' tk acc' c', (∀ b o, b ≠ S → b ≠ it → s.heap.get? b = some o → h'.get? b = some o) → h'.get? S = some { cls := .type "list", dict := none, data := .seq acc' c', slots := #[] } →
      ItemsOf (fun i v => items[items.size - 1 - i]? = some v) acc' items.size → R (.ok (.ret res)) { s with heap := h', toks := tk }) :
    wpAny (model prog w) A.in1 (Builtin.List.listExtendWith (.ref S) (.ref it) res)
      (fun fin s' => match fin with | .done f => R (.ok f) s' | .again c' => c'.quiet = true ∧ codeAny (model prog w) A c' R s') (fun e s' => R (.error e) s') s := by
  have W := (Walks.listRev (prog := prog) (w := w) (A := A.in1) hh it l hne items).toS
  have hSf : S ∉ [it, l] := by simp only [List.mem_cons, List.not_mem_nil, or_false, not_or]; exact ⟨hSi, hSl⟩
  have hT : s.TypeIs (.ref it) "list_reverseiterator" := hit.typeIs
  have h1 : Builtin.List.listSameRef (.ref S) (.ref it) = false := by simp [Builtin.List.listSameRef, hSi]
  unfold Builtin.List.listExtendWith
  refine wpAny_bind (wpAny_typeOf hT ?_)
  rw [if_neg (by rw [h1]; decide)]
  refine wpAny_bind (wpAny_pyIter_revIter hit ?_)
  refine wpAny_bind (wpAny_holding ?_)
  unfold Builtin.List.listLengthHint
  refine wpAny_bind (wpAny_specialOf hT nolen_lri ?_)
  show wpAny _ A.in1 (specialOf (Value.ref it) (Str.ofString "__length_hint__") >>= _) _ _ _
  refine wpAny_bind (wpAny_specialOf hT hint_lri ?_)
  generalize hid : ("list_reverseiterator.__length_hint__" : String) = id0
  wp_delta
  rw [show splitId id0 = some ("list_reverseiterator", "__length_hint__") from by subst hid; decide +kernel]
  subst hid
  refine wpAny_bind (wpAny_isInstance (b := true) hT (by rw [isSubtype_type]; kernel_rfl) ?_)
  refine wpAny_pure ?_
  rw [if_neg (by decide)]
  have e0 : ((items.size : Nat) : Int) - 1 - ((0 : Nat) : Int) = (items.size : Int) - 1 := by omega
  refine wpAny_pure ⟨plainId_quiet F.plain_extend_loop _, codeAny_extend_loopS W hn _ hSf _ items.size 0 _ _ _ rfl (Nat.zero_le _) ⟨Nat.zero_le _, by rw [e0]; exact hit, hl⟩ hS (ItemsOf.nil _) fun s' acc' c' hm hS' hacc => ?_⟩
  rw [Moved.eq_with hm]
  refine hR s'.heap s'.toks acc' c' (fun b o hb hb2 e => hm.heap b o (fun hmem => ?_) e) hS' hacc
  rcases List.mem_cons.mp hmem with e' | hmem
  · exact hb e'
  · exact hb2 (List.mem_singleton.mp hmem)
theorem init_rev {R : Result → Shared → Prop} {it l : Addr} {items : Array Value} (hh : A.handled = none) (hit : s.heap.IsRevIter it l ((items.size : Int) - 1)) (hl : s.heap.IsList l items) (hne : l ≠ it) (hn : items.size ≤ sizeLine) (S : Addr)
    (hS : s.heap.get? S = some { cls := .type "list", data := .seq #[] }) (hSi : S ≠ it) (hSl : S ≠ l)
    (hR : ∀ h' tk acc' c', (∀ b o, b ≠ S → b ≠ it → s.heap.get? b = some o → h'.get? b = some o) → h'.get? S = some { cls := .type "list", dict := none, data := .seq acc' c', slots := #[] } →
      ItemsOf (fun i v => items[items.size - 1 - i]? = some v) acc' items.size → R (.ok (.ret .none)) { s with heap := h', toks := tk }) :
    wpAny (model prog w) A.in1 (Builtin.«list.__init__» ⟨[.ref S, .ref it], []⟩)
      (fun fin s' => match fin with | .done f => R (.ok f) s' | .again c' => c'.quiet = true ∧ codeAny (model prog w) A c' R s') (fun e s' => R (.error e) s') s := by
  show wpAny _ _ (do let old ← Builtin.List.listItems (.ref S); Builtin.List.listUpdate (.ref S) (fun _ => #[]); letGo old.toList.reverse; Builtin.List.listExtendWith (.ref S) (.ref it) .none) _ _ s
  refine wpAny_bind ?_
  unfold Builtin.List.listItems
  refine wpAny_bind (wpAny_seqItems hS rfl (wpAny_pure ?_))
  show wpAny _ _ (updateSeq S (fun _ => #[]) >>= fun _ => letGo (#[] : Array Value).toList.reverse >>= fun _ => Builtin.List.listExtendWith (.ref S) (.ref it) .none) _ _ s
  refine wpAny_bind (wpAny_updateSeq hS rfl ?_)
  have hS₂ := Heap.get?_update_self (Obj.mapSeq (fun _ => (#[] : Array Value))) hS rfl
  have oth : ∀ b o, b ≠ S → s.heap.get? b = some o → (s.heap.update S (Obj.mapSeq (fun _ => (#[] : Array Value)))).get? b = some o :=
    fun b o hb e => (Heap.get?_update_other _ _ (Ne.symm hb)).trans e
  have hit2 : (s.heap.update S (Obj.mapSeq (fun _ => (#[] : Array Value)))).IsRevIter it l ((items.size : Int) - 1) := hit.at fun o e => oth it o hSi.symm e
  have hl2 : (s.heap.update S (Obj.mapSeq (fun _ => (#[] : Array Value)))).IsList l items := by
    obtain ⟨o, ho, r⟩ := hl
    exact ⟨o, oth l o hSl.symm ho, r⟩
  refine wpAny_bind (wpAny_letGo ?_)
  refine extend_rev hh hit2 hl2 hne hn S .none _ hS₂ hSi hSl fun h' tk acc' c' hk hS' hacc => ?_
  exact hR h' tk acc' c' (fun b o hb hb2 e => hk b o hb hb2 (oth b o hb e)) hS' hacc
theorem call_list_rev {Q : Value → Shared → Prop} {it l : Addr} {items : Array Value} (hh : A.handled = none) (hit : s.heap.IsRevIter it l ((items.size : Int) - 1)) (hl : s.heap.IsList l items) (hne : l ≠ it) (hn : items.size ≤ sizeLine)
    (hQ : ∀ h' tk acc' c', (∀ b o, b ≠ it → s.heap.get? b = some o → h'.get? b = some o) →
      h'.get? s.heap.objs.size = some { cls := .type "list", dict := none, data := .seq acc' c', slots := #[] } → ItemsOf (fun i v => items[items.size - 1 - i]? = some v) acc' items.size → Q (.ref s.heap.objs.size) { s with heap := h', toks := tk }) :
    wpAny (model prog w) A (call (.type "list") [.ref it]) Q E s := by
  refine callType_codes (Q₁ := fun obj s₁ => obj = .ref s.heap.objs.size ∧ s₁ = { s with heap := s.heap.push { cls := .type "list", data := .seq #[] } }) F.called_list (F.typeCall_list_1 _) F.entry_list_init
    (code_list_new _ ⟨rfl, rfl⟩) fun obj s₁ h₁ => ?_
  obtain ⟨rfl, rfl⟩ := h₁
  obtain ⟨oi, hoi, _⟩ := id hit
  obtain ⟨ol, hol, _⟩ := id hl
  have hS : (s.heap.push { cls := .type "list", data := .seq #[] }).get? s.heap.objs.size = some { cls := .type "list", data := .seq #[] } := Heap.get?_push_size _ rfl
  refine ⟨⟨_, hS, rfl⟩, F.args_list_init_2 _ _, init_rev (A := A.in1) hh (hit.at fun o e => Heap.get?_push_of_some _ e) (hl.push _) hne hn _ hS (Nat.ne_of_gt (Heap.lt_size hoi)) (Nat.ne_of_gt (Heap.lt_size hol)) fun h' tk acc' c' hk hS' hacc => ?_⟩
  exact ⟨rfl, hQ h' tk acc' c' (fun b o hb e => hk b o (Nat.ne_of_lt (Heap.lt_size e)) hb (Heap.get?_push_of_some _ e)) hS' hacc⟩
end
/-- list(reversed(x)), x a list: a new list -/
def tLstRev (K : PySem.W.Frag) (te : TE) : TE := fun σ H Q => te σ H fun v H1 => ∃ (a : Addr) (xs : List V), v = .ref a ∧ SqL K H1 a xs ∧ ∀ q, H1 q = none → Q (.ref q) (upd H1 q (.lst xs.reverse))
section
variable {X : Cx}
theorem pe_listRev {e : Expr} {te : TE} {p p2 pos pos2 : Pos} (hc : X.calm = true) (hg : Gl X "list") (hm : X.mg "list" = none) (hg2 : Gl X "reversed") (hm2 : X.mg "reversed" = none) (he : PE X e te)
    (hs : starEach [e] X.env = (false, eval e X.env) :: starEach [] X.env := by rfl)
    (hs2 : starEach [.Call (.Name "reversed" p2) [e] [] pos2] X.env = (false, eval (.Call (.Name "reversed" p2) [e] [] pos2) X.env) :: starEach [] X.env := by rfl) :
    PE X (.Call (.Name "list" p) [.Call (.Name "reversed" p2) [e] [] pos2] [] pos) (tLstRev X.K te) := by
  refine ⟨fun pins s σ H Q I h => ?_⟩
  refine Call_ (ld_blt I hg hm boot_list (PyProof.Rows.callWith_type1 (args_cons (Call_ (ld_blt I hg2 hm2 PyProof.Rows.boot_reversed (PyProof.Rows.callWith_type1 (args_cons (thn (he.run pins s σ H _ I h) fun u s1 ⟨v, H1, I1, r1, q1⟩ => args_nil ?_) hs) hs rfl))) hs2) hs2 rfl))
  obtain ⟨a, xs, ev, hq, q⟩ := q1
  subst ev
  obtain rfl : u = Value.ref a := r1
  obtain ⟨its, rv, p', hz⟩ := I1.list hq
  refine call_reversed_list p'.isList (args_nil ?_)
  have k0 : ∀ b o, s1.heap.get? b = some o → (s1.heap.push (revObj a ((its.toArray.size : Int) - 1))).get? b = some o := fun b o e => Heap.get?_push_of_some _ e
  have hl := p'.isList
  obtain ⟨ol, hol, _⟩ := id hl
  have hne : a ≠ s1.heap.objs.size := Nat.ne_of_lt (Heap.lt_size hol)
  have hn : its.toArray.size ≤ sizeLine := by rw [List.size_toArray, ← rv.length]; exact hz
  refine call_list_rev (s := { s1 with heap := s1.heap.push (revObj a ((its.toArray.size : Int) - 1)) }) (I1.ok.hd hc) ⟨_, Heap.get?_push_size _ rfl, rfl, rfl⟩ (hl.push _) hne hn fun h' tk acc c hk e' hi => ?_
  have hsz : s1.heap.objs.size ≤ (s1.heap.push (revObj a ((its.toArray.size : Int) - 1))).objs.size := by
    have h0 : (s1.heap.push (revObj a ((its.toArray.size : Int) - 1))).get? s1.heap.objs.size = some (revObj a ((its.toArray.size : Int) - 1)) := Heap.get?_push_size _ rfl
    exact Nat.le_of_lt (Heap.lt_size h0)
  refine ⟨.ref (s1.heap.push (revObj a ((its.toArray.size : Int) - 1))).objs.size, upd H1 (s1.heap.push (revObj a ((its.toArray.size : Int) - 1))).objs.size (.lst xs.reverse), I1.laid (t' := tk) (fun b o e => hk b o (Nat.ne_of_lt (Heap.lt_size e)) (k0 b o e)) hsz (show ObjOk X.prog X.w _ _ _ (.lst xs.reverse) from ⟨by rw [List.length_reverse]; exact hz, acc.toList, c, vals_rev rv hi, ?_⟩), rfl, q _ (I1.hok.fresh hsz)⟩
  rw [Array.toArray_toList]
  exact e'
end
end LR
namespace Kx
open PySem PySem.Spec PyProof.Rows L2 Evl
theorem en_listRev {K : PySem.W.Frag} {σ : L2.St} {H : Hp} {te : TE} {ns : List Int} (h : EvD K te σ H (.l (il ns))) : EvN K (LR.tLstRev K te) σ H (.l (il ns.reverse)) := fun H1 e Q q =>
  h H1 e _ fun u H2 e2 ⟨a, hu, ha⟩ => ⟨a, il ns, hu, sq_of ha, fun l n => q _ _ (e2.trans (Ex.new n)) ⟨l, rfl, fresh_back e2 n, by rw [upd_same, il, il, List.map_reverse]⟩⟩
end Kx

namespace Pf
open PySem PySem.Spec PyProof.Rows L2 Evl Kx
local macro_rules | `(tactic| walk_at "kside") => `(tactic| first | assumption | omega | (constructor <;> first | assumption | omega) | (simp only [List.length_cons, List.length_nil, List.length_append, List.length_map, List.length_take, List.length_drop, zs_len, si_len, rng_len] at *; omega) | exact Nat.le_trans (List.length_filter_le _ _) (by simp only [rng_len]; omega))
local macro_rules | `(tactic| walk_at "kmul") => `(tactic| first | exact .inr ⟨by omega, by omega⟩ | exact .inl ⟨by omega, by omega⟩)
def topS (i : Nat) : Stmt := PySem.Challenge.pw_sumsync_k05_letters.main.body.getD i (.Pass ⟨0, 0, 0, 0⟩)
abbrev s__law_cell_at : Stmt := topS 16
abbrev s__law_row : Stmt := topS 18
abbrev s_is_number : Stmt := topS 9
abbrev s_need_row : Stmt := topS 10
abbrev s_need_count : Stmt := topS 11
abbrev s_power : Stmt := topS 6
abbrev s_written : Stmt := topS 12
abbrev s_letter : Stmt := topS 13
abbrev s__law_whole : Stmt := topS 15
abbrev s__law_rests : Stmt := topS 17
abbrev s__law_sums : Stmt := topS 19
abbrev s_law : Stmt := topS 20
theorem sc__law_cell_at : FnScope ["_law_script", "_law_k"] ["_law_script", "_law_k"] (defScope s__law_cell_at) := ⟨rfl, rfl, rfl, by decide +kernel, rfl, by decide +kernel, by decide +kernel⟩
theorem sc__law_row : FnScope ["_law_script", "_law_at", "_law_most", "_law_cell", "_law_step", "_law_begin", "_law_found", "_law_k", "_law_number"] ["_law_script", "_law_at", "_law_most"] (defScope s__law_row) := ⟨rfl, rfl, rfl, by decide +kernel, rfl, by decide +kernel, by decide +kernel⟩
theorem sc_is_number : FnScope ["thing", "least", "most"] ["thing", "least", "most"] (defScope s_is_number) := ⟨rfl, rfl, rfl, by decide +kernel, rfl, by decide +kernel, by decide +kernel⟩
theorem sc_need_row : FnScope ["row", "met", "number"] ["row"] (defScope s_need_row) := ⟨rfl, rfl, rfl, by decide +kernel, rfl, by decide +kernel, by decide +kernel⟩
theorem sc_need_count : FnScope ["many"] ["many"] (defScope s_need_count) := ⟨rfl, rfl, rfl, by decide +kernel, rfl, by decide +kernel, by decide +kernel⟩
theorem sc_power : FnScope ["rest", "many", "found", "turn"] ["rest", "many"] (defScope s_power) := ⟨rfl, rfl, rfl, by decide +kernel, rfl, by decide +kernel, by decide +kernel⟩
theorem sc_written : FnScope ["row", "many", "sums", "k", "number"] ["row", "many"] (defScope s_written) := ⟨rfl, rfl, rfl, by decide +kernel, rfl, by decide +kernel, by decide +kernel⟩
theorem sc_letter : FnScope ["row", "many"] ["row", "many"] (defScope s_letter) := ⟨rfl, rfl, rfl, by decide +kernel, rfl, by decide +kernel, by decide +kernel⟩
theorem sc__law_whole : FnScope ["_law_found"] ["_law_found"] (defScope s__law_whole) := ⟨rfl, rfl, rfl, by decide +kernel, rfl, by decide +kernel, by decide +kernel⟩
theorem sc__law_rests : FnScope ["_law_found", "_law_due", "_law_k"] ["_law_found", "_law_due"] (defScope s__law_rests) := ⟨rfl, rfl, rfl, by decide +kernel, rfl, by decide +kernel, by decide +kernel⟩
theorem sc__law_sums : FnScope ["_law_row_here", "_law_many", "_law_found", "_law_k", "_law_number", "_law_factor"] ["_law_row_here", "_law_many"] (defScope s__law_sums) := ⟨rfl, rfl, rfl, by decide +kernel, rfl, by decide +kernel, by decide +kernel⟩
theorem sc_law : FnScope ["_law_script", "_law_row_here", "_law_many", "_law_handed", "_law_turn", "_law_found"] ["_law_script"] (defScope s_law) := ⟨rfl, rfl, rfl, by decide +kernel, rfl, by decide +kernel, by decide +kernel⟩
structure Txt (K : PySem.W.Frag) (mg : Str → Option Value) (fa : Nat → Addr) (fd : Nat → FuncData) : Prop where
  F__law_cell_at : Fun K "_law_cell_at" "_law_cell_at" s__law_cell_at (fa 0) (fd 0)
  b__law_cell_at : Binds K (fd 0) ["_law_script", "_law_k"] []
  g__law_cell_at : mg "_law_cell_at" = some (.ref (fa 0))
  F__law_row : Fun K "_law_row" "_law_row" s__law_row (fa 1) (fd 1)
  b__law_row : Binds K (fd 1) ["_law_script", "_law_at", "_law_most"] []
  g__law_row : mg "_law_row" = some (.ref (fa 1))
  F_is_number : Fun K "is_number" "is_number" s_is_number (fa 2) (fd 2)
  b_is_number : Binds K (fd 2) ["thing", "least", "most"] []
  g_is_number : mg "is_number" = some (.ref (fa 2))
  F_need_row : Fun K "need_row" "need_row" s_need_row (fa 3) (fd 3)
  b_need_row : Binds K (fd 3) ["row"] []
  g_need_row : mg "need_row" = some (.ref (fa 3))
  F_need_count : Fun K "need_count" "need_count" s_need_count (fa 4) (fd 4)
  b_need_count : Binds K (fd 4) ["many"] []
  g_need_count : mg "need_count" = some (.ref (fa 4))
  F_power : Fun K "power" "power" s_power (fa 5) (fd 5)
  b_power : Binds K (fd 5) ["rest", "many"] []
  g_power : mg "power" = some (.ref (fa 5))
  F_written : Fun K "written" "written" s_written (fa 6) (fd 6)
  b_written : Binds K (fd 6) ["row", "many"] []
  g_written : mg "written" = some (.ref (fa 6))
  F_letter : Fun K "letter" "letter" s_letter (fa 7) (fd 7)
  b_letter : Binds K (fd 7) ["row", "many"] []
  g_letter : mg "letter" = some (.ref (fa 7))
  F__law_whole : Fun K "_law_whole" "_law_whole" s__law_whole (fa 8) (fd 8)
  b__law_whole : Binds K (fd 8) ["_law_found"] []
  g__law_whole : mg "_law_whole" = some (.ref (fa 8))
  F__law_rests : Fun K "_law_rests" "_law_rests" s__law_rests (fa 9) (fd 9)
  b__law_rests : Binds K (fd 9) ["_law_found", "_law_due"] []
  g__law_rests : mg "_law_rests" = some (.ref (fa 9))
  F__law_sums : Fun K "_law_sums" "_law_sums" s__law_sums (fa 10) (fd 10)
  b__law_sums : Binds K (fd 10) ["_law_row_here", "_law_many"] []
  g__law_sums : mg "_law_sums" = some (.ref (fa 10))
  F_law : Fun K "law" "law" s_law (fa 11) (fd 11)
  b_law : Binds K (fd 11) ["_law_script"] []
  g_law : mg "law" = some (.ref (fa 11))
  n_bool : mg "bool" = none
  n_int : mg "int" = none
  n_isinstance : mg "isinstance" = none
  n_len : mg "len" = none
  n_list : mg "list" = none
  n_range : mg "range" = none
  n_reversed : mg "reversed" = none
  n_sum : mg "sum" = none
  n_tuple : mg "tuple" = none
  v_MOST_SUMS : ∃ t, mg "MOST_SUMS" = some (.int 12 t)
  v_PRIME : ∃ t, mg "PRIME" = some (.int 251 t)
def m_law_cell_at (v_script : List Int) (v_k : Int) : Int := (bif decide (v_k < (v_script.length : Int)) then gi v_script v_k else 0)
def m_law_row_J1 (v_begin_9 : Int) (i13 : Nat) (v_number_18 : Int) : Int := (bif decide (v_begin_9 % 3 = 1) then (let v_number_25 : Int := 1 + ((((v_begin_9 / 3 + (((i13 : Int) * (i13 : Int)) * 7919) + ((i13 : Int) * 48271)) * 69621) % 1000003) % 250); v_number_25) else v_number_18)
def m_law_row_J2 (v_script : List Int) (v_at : Int) (v_begin_9 : Int) (i13 : Nat) (v_number_19 : Int) : Int := (bif decide (v_begin_9 % 3 = 2) then (let v_number_35 : Int := 1 + ((m_law_cell_at v_script (8 + (20 * v_at) + (i13 : Int))) % 250); v_number_35) else v_number_19)
def m_law_row_L1s (v_script : List Int) (v_at : Int) (v_step_6 : Int) (v_begin_9 : Int) (i13 : Nat) (v_found_14 : List Int) : (List Int) := (let v_number_18 : Int := 1 + ((v_begin_9 + (v_step_6 * (i13 : Int))) % 250); (let v_number_19 : Int := m_law_row_J1 v_begin_9 i13 v_number_18; (let v_number_29 : Int := m_law_row_J2 v_script v_at v_begin_9 i13 v_number_19; (bif !decide (v_number_29 ∈ v_found_14) then v_found_14 ++ [v_number_29] else v_found_14))))
def m_law_row_L1 (v_script : List Int) (v_at : Int) (v_most : Int) (v_cell_3 : Int) (v_step_6 : Int) (v_begin_9 : Int) : (List Int) := iter (m_law_row_L1s v_script v_at v_step_6 v_begin_9) [] ((v_cell_3 % (v_most + 1) : Int).toNat)
def m_law_row (v_script : List Int) (v_at : Int) (v_most : Int) : List Int := (let v_cell_3 : Int := m_law_cell_at v_script v_at; (let v_step_6 : Int := gi [1, 3, 7, 9, 11, 13, 37, 121, 249, 97] ((v_cell_3 / (v_most + 1)) % 10); (let v_begin_9 : Int := (v_cell_3 / (v_most + 1)) / 10; (let v_found_51 : List Int := (m_law_row_L1 v_script v_at v_most v_cell_3 v_step_6 v_begin_9); v_found_51))))
theorem law_row_inv (s : List Int) (a b c : Int) (n : Nat) : (iter (m_law_row_L1s s a b c) [] n).Nodup ∧ (∀ x ∈ iter (m_law_row_L1s s a b c) [] n, 1 ≤ x ∧ x ≤ 250) ∧ (iter (m_law_row_L1s s a b c) [] n).length ≤ n := by
  refine iter_invI (P := fun n (st : List Int) => st.Nodup ∧ (∀ x ∈ st, 1 ≤ x ∧ x ≤ 250) ∧ st.length ≤ n) ⟨List.nodup_nil, fun _ h => (nomatch h), Nat.le_refl _⟩ (fun i st _ h => ?_)
  unfold m_law_row_L1s
  dsimp only
  generalize hx : m_law_row_J2 s a c i (m_law_row_J1 c i (1 + (c + b * (i : Int)) % 250)) = x
  have hb : 1 ≤ x ∧ x ≤ 250 := by
    rw [← hx]
    unfold m_law_row_J2
    cases decide (c % 3 = 2)
    · simp only [cond_false]
      unfold m_law_row_J1
      cases decide (c % 3 = 1)
      · simp only [cond_false]; omega
      · simp only [cond_true]; omega
    · simp only [cond_true]; omega
  cases hd : (!decide (x ∈ st)) with
  | false =>
    simp only [cond_false]
    exact ⟨h.1, h.2.1, by have := h.2.2; omega⟩
  | true =>
    simp only [cond_true]
    have hn : ¬ x ∈ st := by simpa using hd
    refine ⟨?_, fun y hy => ?_, ?_⟩
    · rw [List.nodup_append]
      exact ⟨h.1, by simp, fun y hy z hz => by
        rw [List.mem_singleton.mp hz]
        exact fun q => hn (q ▸ hy)⟩
    · rcases List.mem_append.mp hy with q | q
      · exact h.2.1 y q
      · rw [List.mem_singleton.mp q]; exact hb
    · rw [List.length_append]
      have := h.2.2
      simp only [List.length_cons, List.length_nil]
      omega
theorem law_row_ok (s : List Int) (a m : Int) (h : 0 ≤ m ∧ m ≤ 250) : RowOk (m_law_row s a m) ∧ (m_law_row s a m).length ≤ m := by
  have h2 := law_row_inv s a (gi [1, 3, 7, 9, 11, 13, 37, 121, 249, 97] (m_law_cell_at s a / (m + 1) % 10)) (m_law_cell_at s a / (m + 1) / 10) (m_law_cell_at s a % (m + 1)).toNat
  have h3 := Int.emod_lt_of_pos (m_law_cell_at s a) (show 0 < m + 1 by omega)
  have h4 := Int.emod_nonneg (m_law_cell_at s a) (show m + 1 ≠ 0 by omega)
  exact ⟨⟨h2.1, h2.2.1, by
    have := h2.2.2
    show (iter (m_law_row_L1s s a (gi [1, 3, 7, 9, 11, 13, 37, 121, 249, 97] (m_law_cell_at s a / (m + 1) % 10)) (m_law_cell_at s a / (m + 1) / 10)) [] (m_law_cell_at s a % (m + 1)).toNat).length ≤ 1000
    omega⟩, by
    have := h2.2.2
    show ((iter (m_law_row_L1s s a (gi [1, 3, 7, 9, 11, 13, 37, 121, 249, 97] (m_law_cell_at s a / (m + 1) % 10)) (m_law_cell_at s a / (m + 1) / 10)) [] (m_law_cell_at s a % (m + 1)).toNat).length : Int) ≤ m
    omega⟩
def m_is_number (v_thing : Int) (v_least : Int) (v_most : Int) : Bool := decide (v_least ≤ v_thing) && decide (v_thing ≤ v_most)
theorem is_number_ok {t l m : Int} (h1 : l ≤ t) (h2 : t ≤ m) : m_is_number t l m = true := by
  show (decide (l ≤ t) && decide (t ≤ m)) = true
  rw [decide_eq_true h1, decide_eq_true h2]
  rfl
def m_need_row (v_row : List Int) : Unit := ()
theorem nodup_take {l : List Int} {i : Nat} {x : Int} (h : l.Nodup) (hx : l[i]? = some x) : ¬ x ∈ l.take i := fun hm => by
  obtain ⟨j, hj⟩ := List.mem_iff_getElem?.mp hm
  rw [List.getElem?_take] at hj
  split at hj
  · rename_i q
    obtain ⟨h1, e1⟩ := List.getElem?_eq_some_iff.mp hj
    obtain ⟨h2, e2⟩ := List.getElem?_eq_some_iff.mp hx
    have := (List.getElem_inj h).mp (e1.trans e2.symm)
    omega
  · cases hj
def m_need_count (v_many : Int) : Unit := (bif !(m_is_number v_many 1 12) then default else ())
def m_power_L1s (v_rest : Int) (i3 : Nat) (v_found_4 : Int) : Int := (let v_found_8 : Int := (v_found_4 * v_rest) % 251; v_found_8)
def m_power_L1 (v_rest : Int) (v_many : Int) : Int := iter (m_power_L1s v_rest) 1 ((v_many : Int).toNat)
def m_power (v_rest : Int) (v_many : Int) : Int := (let v_found_15 : Int := (m_power_L1 v_rest v_many); v_found_15)
theorem power_ok (v_rest v_many : Int) : 0 ≤ m_power v_rest v_many ∧ m_power v_rest v_many < 251 := by
  show 0 ≤ iter (m_power_L1s v_rest) 1 v_many.toNat ∧ iter (m_power_L1s v_rest) 1 v_many.toNat < 251
  refine iter_inv (P := fun z => 0 ≤ z ∧ z < 251) (by omega) (fun i st _ h => ?_)
  unfold m_power_L1s
  dsimp only
  omega
def m_written_L1s (v_row : List Int) (i4 : Nat) (v_sums_5 : List Int) : (List Int) := v_sums_5 ++ [((v_row.map fun v_number_c7 => m_power v_number_c7 (1 + (i4 : Int))).sum) % 251]
def m_written_L1 (v_row : List Int) (v_many : Int) : (List Int) := iter (m_written_L1s v_row) [] ((v_many + 1 - 1 : Int).toNat)
def m_written (v_row : List Int) (v_many : Int) : Int × (List Int) := (let v_sums_17 : List Int := (m_written_L1 v_row v_many); ((v_row.length : Int), v_sums_17))
def psum (row : List Int) (k : Int) : Int := (row.map fun x => m_power x k).sum % 251
theorem written_eq (row : List Int) (many : Int) : m_written row many = ((row.length : Int), (List.range many.toNat).map fun (i : Nat) => psum row (1 + (i : Int))) := by
  have e : iter (m_written_L1s row) [] (many + 1 - 1).toNat = (List.range (many + 1 - 1).toNat).map fun (i : Nat) => psum row (1 + (i : Int)) := iter_snoc (f := m_written_L1s row) (fun _ _ => rfl) _
  show ((row.length : Int), iter (m_written_L1s row) [] (many + 1 - 1).toNat) = _
  rw [e, show many + 1 - 1 = many by omega]
theorem written_len (row : List Int) (many : Int) : (m_written row many).2.length = many.toNat := by
  rw [written_eq, List.length_map, List.length_range]
theorem written_rests (row : List Int) (many : Int) : Rests (m_written row many).2 := by
  rw [written_eq]
  exact rests_map fun i _ => by unfold psum; omega
def m_letter (v_row : List Int) (v_many : Int) : Int × (List Int) := m_written v_row v_many
def m_law_whole (v_found : Int) : Bool := true
def m_law_rests_L1b (v_found : List Int) (v_due : List Int) (i9 : Nat) : Option Bool := (bif (!(m_law_whole (gi v_found (i9 : Int)))) || (!decide (gi v_found (i9 : Int) = gi v_due (i9 : Int))) then some false else none)
def m_law_rests (v_found : List Int) (v_due : List Int) : Bool := (bif !decide ((v_found.length : Int) = (v_due.length : Int)) then false else (Option.getD (first (m_law_rests_L1b v_found v_due) (((v_due.length : Int) : Int).toNat)) true))
def m_law_sums_L1s  (i4 : Nat) (v_found_5 : List Int) : (List Int) := v_found_5 ++ [0]
def m_law_sums_L1 (v_many : Int) : (List Int) := iter m_law_sums_L1s [] ((v_many : Int).toNat)
def m_law_sums_L3s (v_number_18 : Int) (i21 : Nat) (st25 : Int × (List Int)) : Int × (List Int) := (let v_factor_27 : Int := (st25.1 * v_number_18) % 251; (v_factor_27, si st25.2 (i21 : Int) ((gi st25.2 (i21 : Int) + v_factor_27) % 251)))
def m_law_sums_L3 (v_many : Int) (v_found_17 : List Int) (v_number_18 : Int) : Int × (List Int) := iter (m_law_sums_L3s v_number_18) (1, v_found_17) ((v_many : Int).toNat)
def m_law_sums_L2s (v_many : Int) (v_found_17 : List Int) (v_number_18 : Int) : (List Int) := (let v_factor_36 : Int := (m_law_sums_L3 v_many v_found_17 v_number_18).1; (let v_found_37 : List Int := (m_law_sums_L3 v_many v_found_17 v_number_18).2; v_found_37))
def m_law_sums_L2 (v_row_here : List Int) (v_many : Int) (v_found_15 : List Int) : (List Int) := v_row_here.foldl (m_law_sums_L2s v_many) v_found_15
def m_law_sums (v_row_here : List Int) (v_many : Int) : List Int := (let v_found_15 : List Int := (m_law_sums_L1 v_many); (let v_found_44 : List Int := (m_law_sums_L2 v_row_here v_many v_found_15); v_found_44))
theorem law_sums_len3 (n : Int) (f : List Int) (i : Nat) : (iter (m_law_sums_L3s n) ((1, f) : Int × List Int) i).2.length = f.length :=
  iter_inv (P := fun (st : Int × List Int) => st.2.length = f.length) rfl (fun i st _ h => (si_len _ _ _).trans h)
theorem law_sums_len4 {n : Int} {f b : List Int} {i : Nat} {c : Int} (h : iter (m_law_sums_L3s n) ((1, f) : Int × List Int) i = (c, b)) : b.length = f.length := by
  have := law_sums_len3 n f i
  rw [h] at this
  exact this
theorem law_sums_len2 (many : Int) (f l : List Int) : (l.foldl (m_law_sums_L2s many) f).length = f.length :=
  fold_inv (P := fun (st : List Int) => st.length = f.length) l rfl (fun st x _ h => (law_sums_len3 x st many.toNat).trans h)
theorem law_sums_rests (row : List Int) (many : Int) : Rests (m_law_sums row many) := by
  show Rests (row.foldl (m_law_sums_L2s many) (iter m_law_sums_L1s [] many.toNat))
  refine fold_inv (P := Rests) row ?_ (fun st x _ h => ?_)
  · exact iter_inv (P := Rests) rests_nil (fun i st _ h => rests_app h (rests_cons (by decide) rests_nil))
  · show Rests (iter (m_law_sums_L3s x) ((1, st) : Int × List Int) many.toNat).2
    exact iter_inv (P := fun (q : Int × List Int) => Rests q.2) h (fun i q _ h2 => rests_si h2 (by omega))
theorem law_sums_length (row : List Int) (many : Int) : (m_law_sums row many).length = many.toNat :=
  (law_sums_len2 many (m_law_sums_L1 many) row).trans ((iter_snoc_len (f := m_law_sums_L1s) (fun i st => ⟨_, rfl⟩) _).trans (Nat.zero_add _))
def m_law_J1 (v_script : List Int) (v_row_here_4 : List Int) (v_many_7 : Int) : (List Int) × Int := (bif decide (((m_law_cell_at v_script 1) / 12) % 8 = 1) then (let v_row_here_16 : List Int := m_law_row v_script 0 250; (let v_many_19 : Int := 1 + ((m_law_cell_at v_script 1) % 3); (v_row_here_16, v_many_19))) else (v_row_here_4, v_many_7))
def m_law_L1b (v_many_9 : Int) (i26 : Nat) (st30 : (List Int) × (List Int)) : Option Bool := (let v_found_33 : Int × (List Int) := m_letter st30.2 v_many_9; (bif !(m_law_rests ([v_found_33.1] ++ v_found_33.2) ([(st30.1.length : Int)] ++ (m_law_sums st30.1 v_many_9))) then some false else (bif !(m_law_rests st30.2 st30.1) then some false else (let v_row_here_59 : List Int := st30.1.reverse; none))))
def m_law_L1s (v_many_9 : Int) (i26 : Nat) (st30 : (List Int) × (List Int)) : (List Int) × (List Int) := (let v_found_33 : Int × (List Int) := m_letter st30.2 v_many_9; (bif !(m_law_rests ([v_found_33.1] ++ v_found_33.2) ([(st30.1.length : Int)] ++ (m_law_sums st30.1 v_many_9))) then (st30.1, st30.2) else (bif !(m_law_rests st30.2 st30.1) then (st30.1, st30.2) else (let v_row_here_59 : List Int := st30.1.reverse; (v_row_here_59, v_row_here_59)))))
def m_law_L1 (v_row_here_8 : List Int) (v_many_9 : Int) : (List Int) × (List Int) := iter (m_law_L1s v_many_9) (v_row_here_8, v_row_here_8) ((2 : Int).toNat)
def m_law (v_script : List Int) : Bool := (let v_row_here_4 : List Int := m_law_row v_script 0 24; (let v_many_7 : Int := 1 + ((m_law_cell_at v_script 1) % 12); (let v_row_here_8 : List Int := (m_law_J1 v_script v_row_here_4 v_many_7).1; (let v_many_9 : Int := (m_law_J1 v_script v_row_here_4 v_many_7).2; (Option.getD (first (fun i => (m_law_L1b v_many_9) i (iter (m_law_L1s v_many_9) (v_row_here_8, v_row_here_8) i)) ((2 : Int).toNat)) (let v_row_here_74 : List Int := (m_law_L1 v_row_here_8 v_many_9).1; (let v_handed_75 : List Int := (m_law_L1 v_row_here_8 v_many_9).2; true)))))))
theorem law_J1_ok (s : List Int) (r : List Int) (m : Int) (h : RowOk r ∧ (r.length : Int) ≤ 24) (hm : 1 ≤ m ∧ m ≤ 12) : (RowOk (m_law_J1 s r m).1 ∧ (m_law_J1 s r m).1.length ≤ 250) ∧ 1 ≤ (m_law_J1 s r m).2 ∧ (m_law_J1 s r m).2 ≤ 12 := by
  unfold m_law_J1
  cases decide (m_law_cell_at s 1 / 12 % 8 = 1)
  · exact ⟨⟨h.1, by show r.length ≤ 250; omega⟩, hm⟩
  · have := law_row_ok s 0 250 (by decide)
    exact ⟨⟨this.1, by show (m_law_row s 0 250).length ≤ 250; omega⟩, by show 1 ≤ 1 + m_law_cell_at s 1 % 3; omega, by show 1 + m_law_cell_at s 1 % 3 ≤ 12; omega⟩
theorem bif_P {α : Type} {P : α → Prop} {b : Bool} {x y : α} (hx : P x) (hy : P y) : P (bif b then x else y) := by
  cases b
  · exact hy
  · exact hx
theorem rev_ok {row : List Int} (h : RowOk row) : RowOk row.reverse := ⟨(List.reverse_perm row).nodup_iff.mpr h.1, fun x hx => h.2.1 x (List.mem_reverse.mp hx), by rw [List.length_reverse]; exact h.2.2⟩
theorem law_turn_inv (many : Int) {row : List Int} (hr : RowOk row) (hl : row.length ≤ 250) (i : Nat) : RowOk (iter (m_law_L1s many) ((row, row) : List Int × List Int) i).1 ∧ (iter (m_law_L1s many) ((row, row) : List Int × List Int) i).1.length ≤ 250 ∧ (iter (m_law_L1s many) ((row, row) : List Int × List Int) i).2 = (iter (m_law_L1s many) ((row, row) : List Int × List Int) i).1 := by
  refine iter_inv (P := fun (st : List Int × List Int) => RowOk st.1 ∧ st.1.length ≤ 250 ∧ st.2 = st.1) ⟨hr, hl, rfl⟩ (fun i st _ h => ?_)
  unfold m_law_L1s
  dsimp only
  refine bif_P (P := fun (st : List Int × List Int) => RowOk st.1 ∧ st.1.length ≤ 250 ∧ st.2 = st.1) h (bif_P (P := fun (st : List Int × List Int) => RowOk st.1 ∧ st.1.length ≤ 250 ∧ st.2 = st.1) h ⟨rev_ok h.1, ?_, rfl⟩)
  show st.1.reverse.length ≤ 250
  rw [List.length_reverse]
  exact h.2.1
section
variable {P : Program} {w : World} {K : PySem.W.Frag} {mg : Str → Option Value} {base : Heap} {fa : Nat → Addr} {fd : Nat → FuncData}
def sp__law_cell_at (K : PySem.W.Frag) : Sp := spG K (fun (a : (List Int) × Int) => [.s (il a.1), .v (.int a.2)]) (fun a => (0 ≤ a.2)) (fun a => .v (.int (m_law_cell_at a.1 a.2)))
theorem cl__law_cell_at {K : PySem.W.Frag} {σ : L2.St} {H : Hp} {ta : TA} {E : XK} (v_script : List Int) (v_k : Int) (h : EvAs K ta σ H [.s (il v_script), .v (.int v_k)]) (hp : (0 ≤ v_k)) : Ev (tCall (sp__law_cell_at K) [] E ta) σ H (.int (m_law_cell_at v_script v_k)) := ev_ofN (en_call (a := (v_script, v_k)) h hp)
theorem ok__law_cell_at (T : Txt K mg fa fd) : FnOk P w K mg base CX0 1 (fa 0) (fd 0) ["_law_script", "_law_k"] (sp__law_cell_at K) := by
  refine T.F__law_cell_at.ok sc__law_cell_at (fun vs H Q E h => ?_) (fun cdv A outer s H0 vs Q E hr h => ?_)
  · obtain ⟨a, r, _⟩ := h
    exact r.length
  · obtain ⟨⟨v_script, v_k⟩, r, hpre, k⟩ := h
    replace r : Paired (fun u d => D.rep K d u H0) vs [.s (il v_script), .v (.int v_k)] := r
    obtain ⟨u_v_script, tl_v_script, hvs0, r_v_script, r0⟩ := paired_cons r
    clear r
    subst hvs0
    obtain ⟨a_v_script, rfl, h_a_v_script0⟩ := r_v_script
    obtain ⟨u_v_k, tl_v_k, hvs1, r_v_k, r1⟩ := paired_cons r0
    clear r0
    subst hvs1
    obtain rfl : u_v_k = .int v_k := r_v_k
    obtain rfl := paired_nil r1
    have hp0 := hpre
    replace hp0 : 0 ≤ v_k := hp0
    have ex : Ex H0 H0 := Ex.refl H0
    refine ⟨_, (pss_cons (ps_if (pt_cmpR op_lt (pv 1) (pe_callB (r := rLenS K) call_len_seq (by rfl) T.n_len PySem.boot_len (pa_cons (pv 0) pa_nil)) (nomark _)) (pss_one (ps_ret (pe_ix (r := rIxL K) ix_list (pv 0) (pv 1) (fun _ _ => rfl)))) pss_nil)
      (pss_one (ps_ret pe_int))), ?_⟩
    refine q_when (b := decide (v_k < (v_script.length : Int))) (et_test (ev_op (ev_var rfl) (ev_lenS (ed_var rfl ⟨_, rfl, ex_l ex h_a_v_script0⟩)) rv_I0)) (fun hb3 H1 e2 => ?_) (fun hb3 H1 e2 => ?_)
    ·
      have hq3 := hb3
      (try simp only [Bool.and_eq_true, Bool.or_eq_true, Bool.not_eq_true', Bool.not_eq_false', Bool.and_eq_false_iff, Bool.or_eq_false_iff, decide_eq_true_eq, decide_eq_false_iff_not] at hq3)
      have ex := ex.trans e2
      refine s_ret (ev_ixS (ed_var rfl ⟨_, rfl, ex_l ex h_a_v_script0⟩) (ev_var rfl) (by walk_at "kside")) (fun H4 e5 => ?_)
      exact k _ _ (ex.trans e5) (ret_eq (congrArg (fun z : Int => (.v (.int z) : D)) (show m_law_cell_at v_script v_k = (gi v_script v_k) from (Eq.trans (cond_t hb3) rfl))) rfl)
    ·
      have hq3 := hb3
      (try simp only [Bool.and_eq_true, Bool.or_eq_true, Bool.not_eq_true', Bool.not_eq_false', Bool.and_eq_false_iff, Bool.or_eq_false_iff, decide_eq_true_eq, decide_eq_false_iff_not] at hq3)
      have ex := ex.trans e2
      refine s_ret ev_c (fun H8 e9 => ?_)
      exact k _ _ (ex.trans e9) (ret_eq (congrArg (fun z : Int => (.v (.int z) : D)) (show m_law_cell_at v_script v_k = 0 from (Eq.trans (cond_f hb3) rfl))) rfl)
def sp__law_row (K : PySem.W.Frag) : Sp := spG K (fun (a : (List Int) × Int × Int) => [.s (il a.1), .v (.int a.2.1), .v (.int a.2.2)]) (fun a => (0 ≤ a.2.1 ∧ a.2.1 ≤ 10) ∧ (0 ≤ a.2.2 ∧ a.2.2 ≤ 250)) (fun a => .l (il (m_law_row a.1 a.2.1 a.2.2)))
theorem cl__law_row {K : PySem.W.Frag} {σ : L2.St} {H : Hp} {ta : TA} {E : XK} (v_script : List Int) (v_at : Int) (v_most : Int) (h : EvAs K ta σ H [.s (il v_script), .v (.int v_at), .v (.int v_most)]) (hp : (0 ≤ v_at ∧ v_at ≤ 10) ∧ (0 ≤ v_most ∧ v_most ≤ 250)) : EvN K (tCall (sp__law_row K) [] E ta) σ H (.l (il (m_law_row v_script v_at v_most))) := en_call (a := (v_script, v_at, v_most)) h hp
theorem ok__law_row (T : Txt K mg fa fd) : FnOk P w K mg base CX0 2 (fa 1) (fd 1) ["_law_script", "_law_at", "_law_most"] (sp__law_row K) := by
  have G__law_cell_at := ok__law_cell_at (P := P) (w := w) (base := base) T
  refine T.F__law_row.ok sc__law_row (fun vs H Q E h => ?_) (fun cdv A outer s H0 vs Q E hr h => ?_)
  · obtain ⟨a, r, _⟩ := h
    exact r.length
  · obtain ⟨⟨v_script, v_at, v_most⟩, r, hpre, k⟩ := h
    replace r : Paired (fun u d => D.rep K d u H0) vs [.s (il v_script), .v (.int v_at), .v (.int v_most)] := r
    obtain ⟨u_v_script, tl_v_script, hvs0, r_v_script, r0⟩ := paired_cons r
    clear r
    subst hvs0
    obtain ⟨a_v_script, rfl, h_a_v_script0⟩ := r_v_script
    obtain ⟨u_v_at, tl_v_at, hvs1, r_v_at, r1⟩ := paired_cons r0
    clear r0
    subst hvs1
    obtain rfl : u_v_at = .int v_at := r_v_at
    obtain ⟨u_v_most, tl_v_most, hvs2, r_v_most, r2⟩ := paired_cons r1
    clear r1
    subst hvs2
    obtain rfl : u_v_most = .int v_most := r_v_most
    obtain rfl := paired_nil r2
    obtain ⟨hp0, hp1⟩ := hpre
    replace hp0 : 0 ≤ v_at ∧ v_at ≤ 10 := hp0
    replace hp1 : 0 ≤ v_most ∧ v_most ≤ 250 := hp1
    have ex : Ex H0 H0 := Ex.refl H0
    refine ⟨_, (pss_cons (ps_set (i := 3) sc__law_row.nd rfl (.inl rfl) (pe_call G__law_cell_at (hr.mono (by decide)) (by rfl) T.g__law_cell_at T.F__law_cell_at.kp T.b__law_cell_at .nil pass0 (pa_cons (pv 0) (pa_cons (pv 1) pa_nil))))
      (pss_cons (ps_set (i := 4) sc__law_row.nd rfl (.inl rfl) (pe_ix (r := rIxL K) ix_list (pe_lst (pa_cons pe_int (pa_cons pe_int (pa_cons pe_int (pa_cons pe_int (pa_cons pe_int (pa_cons pe_int (pa_cons pe_int (pa_cons pe_int (pa_cons pe_int (pa_cons pe_int pa_nil))))))))))) (pe_op op_mod (pe_op op_fdiv (pv 3) (pe_op op_add (pv 2) pe_int)) pe_int) (fun _ _ => rfl)))
      (pss_cons (ps_set (i := 5) sc__law_row.nd rfl (.inl rfl) (pe_op op_fdiv (pe_op op_fdiv (pv 3) (pe_op op_add (pv 2) pe_int)) pe_int))
      (pss_cons (ps_set (i := 6) sc__law_row.nd rfl (.inl rfl) (pe_lst pa_nil))
      (pss_cons (ps_for PassesOwn.never rfl (pi_range1 (by rfl) T.n_range (pa_cons (pe_op op_mod (pv 3) (pe_op op_add (pv 2) pe_int)) pa_nil)) (pg_name (i := 7) sc__law_row.nd rfl (.inl rfl)) (pss_cons (ps_set (i := 8) sc__law_row.nd rfl (.inl rfl) (pe_op op_add pe_int (pe_op op_mod (pe_op op_add (pv 5) (pe_op op_mul (pv 4) (pv 7))) pe_int)))
      (pss_cut (ps_if (pt_cmpR op_eq (pe_op op_mod (pv 5) pe_int) pe_int (nomark _)) (pss_one (ps_set (i := 8) sc__law_row.nd rfl (.inl rfl) (pe_op op_add pe_int (pe_op op_mod (pe_op op_mod (pe_op op_mul (pe_op op_add (pe_op op_add (pe_op op_fdiv (pv 5) pe_int) (pe_op op_mul (pe_op op_mul (pv 7) (pv 7)) pe_int)) (pe_op op_mul (pv 7) pe_int)) pe_int) pe_int) pe_int)))) pss_nil)
      (pss_cut (ps_if (pt_cmpR op_eq (pe_op op_mod (pv 5) pe_int) pe_int (nomark _)) (pss_one (ps_set (i := 8) sc__law_row.nd rfl (.inl rfl) (pe_op op_add pe_int (pe_op op_mod (pe_call G__law_cell_at (hr.mono (by decide)) (by rfl) T.g__law_cell_at T.F__law_cell_at.kp T.b__law_cell_at .nil pass0 (pa_cons (pv 0) (pa_cons (pe_op op_add (pe_op op_add pe_int (pe_op op_mul pe_int (pv 1))) (pv 7)) pa_nil))) pe_int)))) pss_nil)
      (pss_one (ps_if (pt_cmpR (r := rIn K true) op_notIn_seq (pv 8) (pv 6) (by rfl)) (pss_one (ps_expr (pe_bm PySem.F.plainAttrs_list PySem.F.slot_list_append PySem.F.type_list_append mt_append (pv 6) (pa_cons (pv 8) pa_nil)))) pss_nil))))))
      (pss_one (ps_ret (pv 6)))))))), ?_⟩
    obtain ⟨v_cell_3, e_v_cell_3⟩ : ∃ z : Int, z = (m_law_cell_at v_script v_at) := ⟨_, rfl⟩
    refine q_asg (v := .int v_cell_3) (ev_is (cl__law_cell_at v_script v_at (eas_cons (ed_var rfl ⟨_, rfl, ex_l ex h_a_v_script0⟩) (eas_cons (ed_v (ev_var rfl)) eas_nil)) (by walk_at "kside")) (congrArg V.int e_v_cell_3.symm)) (fun H1 e2 => ?_)
    have ex := ex.trans e2
    obtain ⟨v_step_6, e_v_step_6⟩ : ∃ z : Int, z = (gi [1, 3, 7, 9, 11, 13, 37, 121, 249, 97] ((v_cell_3 / (v_most + 1)) % 10)) := ⟨_, rfl⟩
    refine q_asg (v := .int v_step_6) (ev_is (ev_ix (EvN.toD (en_ls (vs := il ([1, 3, 7, 9, 11, 13, 37, 121, 249, 97] : List Int)) (ea_cons ev_c (ea_cons ev_c (ea_cons ev_c (ea_cons ev_c (ea_cons ev_c (ea_cons ev_c (ea_cons ev_c (ea_cons ev_c (ea_cons ev_c (ea_cons ev_c ea_nil)))))))))) (Nat.le_of_ble_eq_true rfl))) (ev_op (ev_op (ev_var rfl) (ev_op (ev_var rfl) ev_c rv_I0) (rv_I ⟨by walk_at "kside", by walk_at "kside"⟩)) ev_c (rv_I (by walk_at "kside"))) (by walk_at "kside")) (congrArg V.int e_v_step_6.symm)) (fun H4 e5 => ?_)
    have ex := ex.trans e5
    obtain ⟨v_begin_9, e_v_begin_9⟩ : ∃ z : Int, z = ((v_cell_3 / (v_most + 1)) / 10) := ⟨_, rfl⟩
    refine q_asg (v := .int v_begin_9) (ev_is (ev_op (ev_op (ev_var rfl) (ev_op (ev_var rfl) ev_c rv_I0) (rv_I ⟨by walk_at "kside", by walk_at "kside"⟩)) ev_c (rv_I ⟨by walk_at "kside", by walk_at "kside"⟩)) (congrArg V.int e_v_begin_9.symm)) (fun H7 e8 => ?_)
    have ex := ex.trans e8
    refine q_asgNl (K := K) (xs := il []) en_l0 (fun a_12 H10 np_a_12 e11 h_a_12 => ?_)
    have n_a_12 := fresh_back ex np_a_12
    have ex := ex.trans e11
    have hmo : 0 ≤ v_cell_3 % (v_most + 1) ∧ v_cell_3 % (v_most + 1) < v_most + 1 := ⟨Int.emod_nonneg _ (by omega), Int.emod_lt_of_pos _ (by omega)⟩
    refine q_forR1 (n := v_cell_3 % (v_most + 1)) (ea_cons (ev_op (ev_var rfl) (ev_op (ev_var rfl) ev_c rv_I0) (rv_I (by walk_at "kside"))) ea_nil) (by walk_at "kside") (fun (i : Nat) σ' H' => ∃ (y_v_k_1 : Option V) (y_v_number_1 : Option V) (v_found_14 : List Int), iter (m_law_row_L1s v_script v_at v_step_6 v_begin_9) [] i = v_found_14 ∧ σ' = [some (.ref a_v_script), some (.int v_at), some (.int v_most), some (.int v_cell_3), some (.int v_step_6), some (.int v_begin_9), some (.ref a_12), y_v_k_1, y_v_number_1] ∧ Ex H0 H' ∧ H' a_12 = some (.lst (il v_found_14))) (fun H17 e18 => ⟨_, _, _, rfl, rfl, ex.trans e18, e18 _ _ h_a_12⟩) ?_ ?_
    ·
      rintro i13 σ' H19 hi_i13 ⟨y_v_k_1, y_v_number_1, v_found_14, hst1, rfl, ex, h_a_12⟩
      have hl : v_found_14.length ≤ i13 := by rw [← hst1]; exact (law_row_inv _ _ _ _ i13).2.2
      obtain ⟨v_number_22, e_v_number_22⟩ : ∃ z : Int, z = (1 + ((v_begin_9 + (v_step_6 * (i13 : Int))) % 250)) := ⟨_, rfl⟩
      refine q_asg (v := .int v_number_22) (ev_is (ev_op ev_c (ev_op (ev_op (ev_var rfl) (ev_op (ev_var rfl) (ev_var rfl) (rv_I (by walk_at "kmul"))) rv_I0) ev_c (rv_I (by walk_at "kside"))) rv_I0) (congrArg V.int e_v_number_22.symm)) (fun H20 e21 => ?_)
      have ex := ex.trans e21
      have h_a_12 := e21 _ _ h_a_12
      refine q_cut (M := fun σ' H' => ∃ (v_number_23 : Int), m_law_row_J1 v_begin_9 i13 v_number_22 = v_number_23 ∧ σ' = [some (.ref a_v_script), some (.int v_at), some (.int v_most), some (.int v_cell_3), some (.int v_step_6), some (.int v_begin_9), some (.ref a_12), some (.int (i13 : Int)), some (.int v_number_23)] ∧ Ex H0 H' ∧ H' a_12 = some (.lst (il v_found_14))) ?_ ?_
      ·
        refine s_when (b := decide (v_begin_9 % 3 = 1)) (et_test (ev_eqI (ev_op (ev_var rfl) ev_c (rv_I (by walk_at "kside"))) ev_c)) (fun hb26 H24 e25 => ?_) (fun hb26 H24 e25 => ?_)
        ·
          have hq26 := hb26
          (try simp only [Bool.and_eq_true, Bool.or_eq_true, Bool.not_eq_true', Bool.not_eq_false', Bool.and_eq_false_iff, Bool.or_eq_false_iff, decide_eq_true_eq, decide_eq_false_iff_not] at hq26)
          have ex := ex.trans e25
          have h_a_12 := e25 _ _ h_a_12
          obtain ⟨v_number_29, e_v_number_29⟩ : ∃ z : Int, z = (1 + ((((v_begin_9 / 3 + (((i13 : Int) * (i13 : Int)) * 7919) + ((i13 : Int) * 48271)) * 69621) % 1000003) % 250)) := ⟨_, rfl⟩
          refine s_asg (v := .int v_number_29) (ev_is (ev_op ev_c (ev_op (ev_op (ev_op (ev_op (ev_op (ev_op (ev_var rfl) ev_c (rv_I ⟨by walk_at "kside", by walk_at "kside"⟩)) (ev_op (ev_op (ev_var rfl) (ev_var rfl) (rv_I (by walk_at "kmul"))) ev_c (rv_I (by walk_at "kmul"))) rv_I0) (ev_op (ev_var rfl) ev_c (rv_I (by walk_at "kmul"))) rv_I0) ev_c (rv_I (by walk_at "kmul"))) ev_c (rv_I (by walk_at "kside"))) ev_c (rv_I (by walk_at "kside"))) rv_I0) (congrArg V.int e_v_number_29.symm)) (fun H27 e28 => ?_)
          have ex := ex.trans e28
          have h_a_12 := e28 _ _ h_a_12
          subst e_v_number_29
          have hs30 : m_law_row_J1 v_begin_9 i13 v_number_22 = (1 + ((((v_begin_9 / 3 + (((i13 : Int) * (i13 : Int)) * 7919) + ((i13 : Int) * 48271)) * 69621) % 1000003) % 250)) := (Eq.trans (cond_t hb26) rfl)
          exact ⟨_, hs30, rfl, ex, h_a_12⟩
        ·
          have hq26 := hb26
          (try simp only [Bool.and_eq_true, Bool.or_eq_true, Bool.not_eq_true', Bool.not_eq_false', Bool.and_eq_false_iff, Bool.or_eq_false_iff, decide_eq_true_eq, decide_eq_false_iff_not] at hq26)
          have ex := ex.trans e25
          have h_a_12 := e25 _ _ h_a_12
          have hs31 : m_law_row_J1 v_begin_9 i13 v_number_22 = v_number_22 := (Eq.trans (cond_f hb26) rfl)
          exact ⟨_, hs31, rfl, ex, h_a_12⟩
      ·
        rintro σ' H32 ⟨v_number_23, hj1, rfl, ex, h_a_12⟩
        have e_v_number_23 : v_number_23 = m_law_row_J1 v_begin_9 i13 v_number_22 := hj1.symm
        clear hj1
        refine q_cut (M := fun σ' H' => ∃ (v_number_33 : Int), m_law_row_J2 v_script v_at v_begin_9 i13 v_number_23 = v_number_33 ∧ σ' = [some (.ref a_v_script), some (.int v_at), some (.int v_most), some (.int v_cell_3), some (.int v_step_6), some (.int v_begin_9), some (.ref a_12), some (.int (i13 : Int)), some (.int v_number_33)] ∧ Ex H0 H' ∧ H' a_12 = some (.lst (il v_found_14))) ?_ ?_
        ·
          refine s_when (b := decide (v_begin_9 % 3 = 2)) (et_test (ev_eqI (ev_op (ev_var rfl) ev_c (rv_I (by walk_at "kside"))) ev_c)) (fun hb36 H34 e35 => ?_) (fun hb36 H34 e35 => ?_)
          ·
            have hq36 := hb36
            (try simp only [Bool.and_eq_true, Bool.or_eq_true, Bool.not_eq_true', Bool.not_eq_false', Bool.and_eq_false_iff, Bool.or_eq_false_iff, decide_eq_true_eq, decide_eq_false_iff_not] at hq36)
            have ex := ex.trans e35
            have h_a_12 := e35 _ _ h_a_12
            obtain ⟨v_number_39, e_v_number_39⟩ : ∃ z : Int, z = (1 + ((m_law_cell_at v_script (8 + (20 * v_at) + (i13 : Int))) % 250)) := ⟨_, rfl⟩
            refine s_asg (v := .int v_number_39) (ev_is (ev_op ev_c (ev_op (cl__law_cell_at v_script (8 + (20 * v_at) + (i13 : Int)) (eas_cons (ed_var rfl ⟨_, rfl, ex_l ex h_a_v_script0⟩) (eas_cons (ed_v (ev_op (ev_op ev_c (ev_op ev_c (ev_var rfl) (rv_I (by walk_at "kmul"))) rv_I0) (ev_var rfl) rv_I0)) eas_nil)) (by walk_at "kside")) ev_c (rv_I (by walk_at "kside"))) rv_I0) (congrArg V.int e_v_number_39.symm)) (fun H37 e38 => ?_)
            have ex := ex.trans e38
            have h_a_12 := e38 _ _ h_a_12
            subst e_v_number_39
            have hs40 : m_law_row_J2 v_script v_at v_begin_9 i13 v_number_23 = (1 + ((m_law_cell_at v_script (8 + (20 * v_at) + (i13 : Int))) % 250)) := (Eq.trans (cond_t hb36) rfl)
            exact ⟨_, hs40, rfl, ex, h_a_12⟩
          ·
            have hq36 := hb36
            (try simp only [Bool.and_eq_true, Bool.or_eq_true, Bool.not_eq_true', Bool.not_eq_false', Bool.and_eq_false_iff, Bool.or_eq_false_iff, decide_eq_true_eq, decide_eq_false_iff_not] at hq36)
            have ex := ex.trans e35
            have h_a_12 := e35 _ _ h_a_12
            have hs41 : m_law_row_J2 v_script v_at v_begin_9 i13 v_number_23 = v_number_23 := (Eq.trans (cond_f hb36) rfl)
            exact ⟨_, hs41, rfl, ex, h_a_12⟩
        ·
          rintro σ' H42 ⟨v_number_33, hj2, rfl, ex, h_a_12⟩
          have e_v_number_33 : v_number_33 = m_law_row_J2 v_script v_at v_begin_9 i13 v_number_23 := hj2.symm
          clear hj2
          refine s_when (b := !decide (v_number_33 ∈ v_found_14)) (et_test (ev_ni (ev_var rfl) (ed_rep (d := .l (il v_found_14)) (ev_var (v := .ref a_12) rfl) ⟨_, rfl, h_a_12⟩))) (fun hb45 H43 e44 => ?_) (fun hb45 H43 e44 => ?_)
          ·
            have hq45 := hb45
            (try simp only [Bool.and_eq_true, Bool.or_eq_true, Bool.not_eq_true', Bool.not_eq_false', Bool.and_eq_false_iff, Bool.or_eq_false_iff, decide_eq_true_eq, decide_eq_false_iff_not] at hq45)
            have ex := ex.trans e44
            have h_a_12 := e44 _ _ h_a_12
            refine s_appI h_a_12 (ev_var (v := .ref a_12) rfl) (ev_var rfl) (by walk_at "kside") (fun H46 b47 h_a_12' => ?_)
            have ex := But.ex ex n_a_12 b47
            have h_a_12 := h_a_12'
            subst e_v_number_33
            subst e_v_number_23
            subst e_v_number_22
            have hs48 : iter (m_law_row_L1s v_script v_at v_step_6 v_begin_9) [] (i13 + 1) = (v_found_14 ++ [(m_law_row_J2 v_script v_at v_begin_9 i13 (m_law_row_J1 v_begin_9 i13 (1 + ((v_begin_9 + (v_step_6 * (i13 : Int))) % 250))))]) := (congrArg ((m_law_row_L1s v_script v_at v_step_6 v_begin_9) i13) hst1).trans (Eq.trans (cond_t hb45) rfl)
            exact ⟨_, _, _, hs48, rfl, ex, h_a_12⟩
          ·
            have hq45 := hb45
            (try simp only [Bool.and_eq_true, Bool.or_eq_true, Bool.not_eq_true', Bool.not_eq_false', Bool.and_eq_false_iff, Bool.or_eq_false_iff, decide_eq_true_eq, decide_eq_false_iff_not] at hq45)
            have ex := ex.trans e44
            have h_a_12 := e44 _ _ h_a_12
            subst e_v_number_33
            subst e_v_number_23
            subst e_v_number_22
            have hs49 : iter (m_law_row_L1s v_script v_at v_step_6 v_begin_9) [] (i13 + 1) = v_found_14 := (congrArg ((m_law_row_L1s v_script v_at v_step_6 v_begin_9) i13) hst1).trans (Eq.trans (cond_f hb45) rfl)
            exact ⟨_, _, _, hs49, rfl, ex, h_a_12⟩
    ·
      rintro σ' H50 ⟨y_v_k_1, y_v_number_1, v_found_14, hst1, rfl, ex, h_a_12⟩
      obtain rfl : v_found_14 = (m_law_row_L1 v_script v_at v_most v_cell_3 v_step_6 v_begin_9) := hst1.symm
      obtain ⟨v_found_51, e_v_found_51⟩ : ∃ z : List Int, z = (m_law_row_L1 v_script v_at v_most v_cell_3 v_step_6 v_begin_9) := ⟨_, rfl⟩
      rw [← e_v_found_51] at h_a_12
      refine s_ret (ev_var (v := .ref a_12) rfl) (fun H52 e53 => ?_)
      have ex := ex.trans e53
      have h_a_12 := e53 _ _ h_a_12
      subst e_v_found_51
      subst e_v_begin_9
      subst e_v_step_6
      subst e_v_cell_3
      exact k _ _ ex (ret_eq (congrArg (fun z : List Int => (.l (il z) : D)) (show m_law_row v_script v_at v_most = (m_law_row_L1 v_script v_at v_most (m_law_cell_at v_script v_at) (gi [1, 3, 7, 9, 11, 13, 37, 121, 249, 97] (((m_law_cell_at v_script v_at) / (v_most + 1)) % 10)) (((m_law_cell_at v_script v_at) / (v_most + 1)) / 10)) from rfl)) ⟨_, rfl, n_a_12, h_a_12⟩)
def sp_is_number (K : PySem.W.Frag) : Sp := spG K (fun (a : Int × Int × Int) => [.v (.int a.1), .v (.int a.2.1), .v (.int a.2.2)]) (fun a => True) (fun a => .v (.bl (m_is_number a.1 a.2.1 a.2.2)))
theorem cl_is_number {K : PySem.W.Frag} {σ : L2.St} {H : Hp} {ta : TA} {E : XK} (v_thing : Int) (v_least : Int) (v_most : Int) (h : EvAs K ta σ H [.v (.int v_thing), .v (.int v_least), .v (.int v_most)]) (hp : True) : Ev (tCall (sp_is_number K) [] E ta) σ H (.bl (m_is_number v_thing v_least v_most)) := ev_ofN (en_call (a := (v_thing, v_least, v_most)) h hp)
theorem ok_is_number (T : Txt K mg fa fd) : FnOk P w K mg base CX0 1 (fa 2) (fd 2) ["thing", "least", "most"] (sp_is_number K) := by
  refine T.F_is_number.ok sc_is_number (fun vs H Q E h => ?_) (fun cdv A outer s H0 vs Q E hr h => ?_)
  · obtain ⟨a, r, _⟩ := h
    exact r.length
  · obtain ⟨⟨v_thing, v_least, v_most⟩, r, hpre, k⟩ := h
    replace r : Paired (fun u d => D.rep K d u H0) vs [.v (.int v_thing), .v (.int v_least), .v (.int v_most)] := r
    obtain ⟨u_v_thing, tl_v_thing, hvs0, r_v_thing, r0⟩ := paired_cons r
    clear r
    subst hvs0
    obtain rfl : u_v_thing = .int v_thing := r_v_thing
    obtain ⟨u_v_least, tl_v_least, hvs1, r_v_least, r1⟩ := paired_cons r0
    clear r0
    subst hvs1
    obtain rfl : u_v_least = .int v_least := r_v_least
    obtain ⟨u_v_most, tl_v_most, hvs2, r_v_most, r2⟩ := paired_cons r1
    clear r1
    subst hvs2
    obtain rfl : u_v_most = .int v_most := r_v_most
    obtain rfl := paired_nil r2
    have ex : Ex H0 H0 := Ex.refl H0
    refine ⟨_, (pss_one (ps_ret (pe_and (pe_callB (r := rIsi K) call_isi (by rfl) T.n_isinstance (by decide +kernel) (pa_cons (pv 0) (pa_cons (pe_bltn (v := .ty "int") (by rfl) T.n_int (by decide +kernel) rfl) pa_nil))) (pe_and (pe_not (pe_callB (r := rIsi K) call_isi (by rfl) T.n_isinstance (by decide +kernel) (pa_cons (pv 0) (pa_cons (pe_bltn (v := .ty "bool") (by rfl) T.n_bool (by decide +kernel) rfl) pa_nil)))) (pe_one (pe_chain op_le op_le (pv 1) (pv 0) (pv 2))))))), ?_⟩
    refine s_ret (ev_andV (a := true) (b := decide (v_least ≤ v_thing) && decide (v_thing ≤ v_most)) (ev_isD (d := .v (.int v_thing)) (s := "int") (b := true) (ed_v (ev_var rfl)) ev_c rfl (by decide +kernel)) (fun hg2 => (ev_andV (a := true) (b := decide (v_least ≤ v_thing) && decide (v_thing ≤ v_most)) (ev_notV (ev_isD (d := .v (.int v_thing)) (s := "int") (b := false) (ed_v (ev_var rfl)) ev_c rfl (by decide +kernel))) (fun hg1 => (ev_chain (ev_var rfl) (ev_var rfl) (ev_var rfl) rv_I0 rv_I0))))) (fun H3 e4 => ?_)
    exact k _ _ (ex.trans e4) (ret_eq (congrArg (fun z : Bool => (.v (.bl z) : D)) (show m_is_number v_thing v_least v_most = (decide (v_least ≤ v_thing) && decide (v_thing ≤ v_most)) from rfl)) rfl)
def sp_need_row (K : PySem.W.Frag) : Sp := spG K (fun (a : List Int) => [.l (il a)]) (fun a => RowOk a) (fun a => .v .non)
theorem cl_need_row {K : PySem.W.Frag} {σ : L2.St} {H : Hp} {ta : TA} {E : XK} (v_row : List Int) (h : EvAs K ta σ H [.l (il v_row)]) (hp : RowOk v_row) : EvN K (tCall (sp_need_row K) [] E ta) σ H (.v .non) := en_call (a := v_row) h hp
theorem ok_need_row (T : Txt K mg fa fd) : FnOk P w K mg base CX0 2 (fa 3) (fd 3) ["row"] (sp_need_row K) := by
  have G_is_number := ok_is_number (P := P) (w := w) (base := base) T
  obtain ⟨tPRIME, vPRIME⟩ := T.v_PRIME
  refine T.F_need_row.ok sc_need_row (fun vs H Q E h => ?_) (fun cdv A outer s H0 vs Q E hr h => ?_)
  · obtain ⟨a, r, _⟩ := h
    exact r.length
  · obtain ⟨v_row, r, hrow, k⟩ := h
    replace r : Paired (fun u d => D.rep K d u H0) vs [.l (il v_row)] := r
    obtain ⟨u_v_row, tl_v_row, hvs0, r_v_row, r0⟩ := paired_cons r
    clear r
    subst hvs0
    obtain ⟨a, rfl, ha0⟩ := r_v_row
    obtain rfl := paired_nil r0
    replace hrow : RowOk v_row := hrow
    refine ⟨_, pss_cons (ps_if (pt_not (pt_val (pe_callB (r := rIsi K) call_isi (by rfl) T.n_isinstance (by decide +kernel) (pa_cons (pv 0) (pa_cons (pe_bltn (v := .ty "list") (by rfl) T.n_list (by decide +kernel) rfl) pa_nil))))) (pss_one ps_never) pss_nil)
      (pss_cons (ps_set (i := 1) sc_need_row.nd rfl (.inl rfl) pe_dnewK)
      (pss_one (ps_for PassesOwn.never rfl (pi_list (pv 0)) (pg_name (i := 2) sc_need_row.nd rfl (.inl rfl))
        (pss_cons (ps_if (PW.pt (pw_or (pt_not (pt_val (pe_call G_is_number (hr.mono (by decide)) (by rfl) T.g_is_number T.F_is_number.kp T.b_is_number .nil pass0 (pa_cons (pv 2) (pa_cons pe_int (pa_cons (pe_op op_sub (pe_glob (v := .int 251) rfl vPRIME ⟨_, rfl⟩) pe_int) pa_nil)))))) (pw_or1 (pt_cmp (pc_din (hu_of hr) (pv 2) (pv 1)))))) (pss_one ps_never) pss_nil)
        (pss_one (ps_dput (hu_of hr) (pv 1) (pv 2) pe_bl rfl)))))), ?_⟩
    refine q_when (b := false) (et_not (et_B (ev_isD (d := .l (il v_row)) (s := "list") (b := true) (ed_rep (ev_var (v := .ref a) rfl) ⟨_, rfl, ha0⟩) ev_c rfl (by decide +kernel)))) (fun hd => by cases hd) (fun _ H1 e1 => ?_)
    refine q_asgDict (fun p H2 np e2 hp => ?_)
    have ex : Ex H0 H2 := e1.trans e2
    have n_p : H0 p = none := fresh_back e1 np
    refine s_forI (ev_var (v := .ref a) rfl) (ex _ _ ha0) (fun (i : Nat) σ' H' => ∃ (y : Option V), σ' = [some (.ref a), some (.ref p), y] ∧ Ex H0 H' ∧ H' p = some (.dK (dct (v_row.take i)))) (fun H3 e3 => ⟨_, rfl, ex.trans e3, e3 _ _ hp⟩) (fun i σ' H' hP => by obtain ⟨_, _, ex', _⟩ := hP; exact ex' _ _ ha0) ?_ ?_
    · rintro i x σ' H3 hx ⟨y, rfl, ex3, hp3⟩
      have hm : x ∈ v_row := List.mem_of_getElem? hx
      have hb := hrow.2.1 x hm
      have hnot : ¬ x ∈ v_row.take i := nodup_take hrow.1 hx
      refine q_when (b := false) (et_is (et_or (a := !(m_is_number x 1 (251 - 1))) (b := decide (x ∈ v_row.take i)) (et_not (et_B (cl_is_number x 1 (251 - 1) (eas_cons (ed_v (ev_var rfl)) (eas_cons (ed_v ev_c) (eas_cons (ed_v (ev_op ev_c ev_c rv_I0)) eas_nil))) trivial))) (fun _ => et_B (ev_din (ev_var rfl) (ev_var rfl) hp3))) (by rw [is_number_ok (by omega) (by omega), decide_eq_false hnot]; rfl)) (fun hd => by cases hd) (fun _ H4 e4 => ?_)
      refine s_dput ev_c (ev_var rfl) (ev_var rfl) (e4 _ _ hp3) hnot (by have := hrow.2.2; rw [List.length_take]; omega) (fun H5 b5 hp5 => ?_)
      exact ⟨_, rfl, But.ex (ex3.trans e4) n_p b5, by rw [take_snoc hx]; exact hp5⟩
    · rintro σ' H3 ⟨y, rfl, ex3, hp3⟩
      exact k _ _ ex3 rfl
def sp_need_count (K : PySem.W.Frag) : Sp := spG K (fun (a : Int) => [.v (.int a)]) (fun a => (1 ≤ a ∧ a ≤ 12)) (fun a => .v .non)
theorem cl_need_count {K : PySem.W.Frag} {σ : L2.St} {H : Hp} {ta : TA} {E : XK} (v_many : Int) (h : EvAs K ta σ H [.v (.int v_many)]) (hp : (1 ≤ v_many ∧ v_many ≤ 12)) : EvN K (tCall (sp_need_count K) [] E ta) σ H (.v .non) := en_call (a := (v_many)) h hp
theorem ok_need_count (T : Txt K mg fa fd) : FnOk P w K mg base CX0 2 (fa 4) (fd 4) ["many"] (sp_need_count K) := by
  have G_is_number := ok_is_number (P := P) (w := w) (base := base) T
  obtain ⟨tMOST_SUMS, vMOST_SUMS⟩ := T.v_MOST_SUMS
  refine T.F_need_count.ok sc_need_count (fun vs H Q E h => ?_) (fun cdv A outer s H0 vs Q E hr h => ?_)
  · obtain ⟨a, r, _⟩ := h
    exact r.length
  · obtain ⟨v_many, r, hpre, k⟩ := h
    replace r : Paired (fun u d => D.rep K d u H0) vs [.v (.int v_many)] := r
    obtain ⟨u_v_many, tl_v_many, hvs0, r_v_many, r0⟩ := paired_cons r
    clear r
    subst hvs0
    obtain rfl : u_v_many = .int v_many := r_v_many
    obtain rfl := paired_nil r0
    have hp0 := hpre
    replace hp0 : 1 ≤ v_many ∧ v_many ≤ 12 := hp0
    have ex : Ex H0 H0 := Ex.refl H0
    refine ⟨_, (pss_one (ps_if (pt_not (pt_val (pe_call G_is_number (hr.mono (by decide)) (by rfl) T.g_is_number T.F_is_number.kp T.b_is_number .nil pass0 (pa_cons (pv 0) (pa_cons pe_int (pa_cons (pe_glob (v := .int 12) rfl vMOST_SUMS ⟨_, rfl⟩) pa_nil)))))) (pss_one ps_never) pss_nil)), ?_⟩
    refine s_when (b := !(m_is_number v_many 1 12)) (et_not (et_B (cl_is_number v_many 1 12 (eas_cons (ed_v (ev_var rfl)) (eas_cons (ed_v ev_c) (eas_cons (ed_v ev_c) eas_nil))) trivial))) (fun hb3 H1 e2 => ?_) (fun hb3 H1 e2 => ?_)
    ·
      have hq3 := hb3
      (try simp only [Bool.and_eq_true, Bool.or_eq_true, Bool.not_eq_true', Bool.not_eq_false', Bool.and_eq_false_iff, Bool.or_eq_false_iff, decide_eq_true_eq, decide_eq_false_iff_not] at hq3)
      have ex := ex.trans e2
      have hno : False := by rw [is_number_ok (by omega) (by omega)] at hb3; cases hb3
      exact hno.elim
    ·
      have hq3 := hb3
      (try simp only [Bool.and_eq_true, Bool.or_eq_true, Bool.not_eq_true', Bool.not_eq_false', Bool.and_eq_false_iff, Bool.or_eq_false_iff, decide_eq_true_eq, decide_eq_false_iff_not] at hq3)
      have ex := ex.trans e2
      exact k _ _ ex (ret_eq (congrArg (fun z : Unit => (.v .non : D)) (show m_need_count v_many = () from (Eq.trans (cond_f hb3) rfl))) rfl)
def sp_power (K : PySem.W.Frag) : Sp := spG K (fun (a : Int × Int) => [.v (.int a.1), .v (.int a.2)]) (fun a => (0 ≤ a.1 ∧ a.1 < 251) ∧ (0 ≤ a.2 ∧ a.2 ≤ 100000)) (fun a => .v (.int (m_power a.1 a.2)))
theorem cl_power {K : PySem.W.Frag} {σ : L2.St} {H : Hp} {ta : TA} {E : XK} (v_rest : Int) (v_many : Int) (h : EvAs K ta σ H [.v (.int v_rest), .v (.int v_many)]) (hp : (0 ≤ v_rest ∧ v_rest < 251) ∧ (0 ≤ v_many ∧ v_many ≤ 100000)) : Ev (tCall (sp_power K) [] E ta) σ H (.int (m_power v_rest v_many)) := ev_ofN (en_call (a := (v_rest, v_many)) h hp)
theorem ok_power (T : Txt K mg fa fd) : FnOk P w K mg base CX0 1 (fa 5) (fd 5) ["rest", "many"] (sp_power K) := by
  obtain ⟨tPRIME, vPRIME⟩ := T.v_PRIME
  refine T.F_power.ok sc_power (fun vs H Q E h => ?_) (fun cdv A outer s H0 vs Q E hr h => ?_)
  · obtain ⟨a, r, _⟩ := h
    exact r.length
  · obtain ⟨⟨v_rest, v_many⟩, r, hpre, k⟩ := h
    replace r : Paired (fun u d => D.rep K d u H0) vs [.v (.int v_rest), .v (.int v_many)] := r
    obtain ⟨u_v_rest, tl_v_rest, hvs0, r_v_rest, r0⟩ := paired_cons r
    clear r
    subst hvs0
    obtain rfl : u_v_rest = .int v_rest := r_v_rest
    obtain ⟨u_v_many, tl_v_many, hvs1, r_v_many, r1⟩ := paired_cons r0
    clear r0
    subst hvs1
    obtain rfl : u_v_many = .int v_many := r_v_many
    obtain rfl := paired_nil r1
    obtain ⟨hp0, hp1⟩ := hpre
    replace hp0 : 0 ≤ v_rest ∧ v_rest < 251 := hp0
    replace hp1 : 0 ≤ v_many ∧ v_many ≤ 100000 := hp1
    have ex : Ex H0 H0 := Ex.refl H0
    refine ⟨_, (pss_cons (ps_set (i := 2) sc_power.nd rfl (.inl rfl) pe_int)
      (pss_cons (ps_for PassesOwn.never rfl (pi_range1 (by rfl) T.n_range (pa_cons (pv 1) pa_nil)) (pg_name (i := 3) sc_power.nd rfl (.inl rfl)) (pss_one (ps_set (i := 2) sc_power.nd rfl (.inl rfl) (pe_op op_mod (pe_op op_mul (pv 2) (pv 0)) (pe_glob (v := .int 251) rfl vPRIME ⟨_, rfl⟩)))))
      (pss_one (ps_ret (pv 2))))), ?_⟩
    refine q_asg (v := .int 1) ev_c (fun H1 e2 => ?_)
    have ex := ex.trans e2
    refine q_forR1 (n := v_many) (ea_cons (ev_var rfl) ea_nil) (by walk_at "kside") (fun (i : Nat) σ' H' => ∃ (y_v_turn_1 : Option V) (v_found_4 : Int), iter (m_power_L1s v_rest) 1 i = v_found_4 ∧ σ' = [some (.int v_rest), some (.int v_many), some (.int v_found_4), y_v_turn_1] ∧ Ex H0 H') (fun H7 e8 => ⟨_, _, rfl, rfl, ex.trans e8⟩) ?_ ?_
    ·
      rintro i3 σ' H9 hi_i3 ⟨y_v_turn_1, v_found_4, hst1, rfl, ex⟩
      obtain ⟨v_found_12, e_v_found_12⟩ : ∃ z : Int, z = ((v_found_4 * v_rest) % 251) := ⟨_, rfl⟩
      refine s_asg (v := .int v_found_12) (ev_is (ev_op (ev_op (ev_var rfl) (ev_var rfl) (rv_I (by walk_at "kmul"))) ev_c (rv_I (by walk_at "kside"))) (congrArg V.int e_v_found_12.symm)) (fun H10 e11 => ?_)
      have ex := ex.trans e11
      subst e_v_found_12
      have hs13 : iter (m_power_L1s v_rest) 1 (i3 + 1) = ((v_found_4 * v_rest) % 251) := (congrArg ((m_power_L1s v_rest) i3) hst1).trans rfl
      exact ⟨_, _, hs13, rfl, ex⟩
    ·
      rintro σ' H14 ⟨y_v_turn_1, v_found_4, hst1, rfl, ex⟩
      obtain rfl : v_found_4 = (m_power_L1 v_rest v_many) := hst1.symm
      obtain ⟨v_found_15, e_v_found_15⟩ : ∃ z : Int, z = (m_power_L1 v_rest v_many) := ⟨_, rfl⟩
      rw [← e_v_found_15]
      refine s_ret (ev_var rfl) (fun H16 e17 => ?_)
      subst e_v_found_15
      exact k _ _ (ex.trans e17) (ret_eq (congrArg (fun z : Int => (.v (.int z) : D)) (show m_power v_rest v_many = (m_power_L1 v_rest v_many) from rfl)) rfl)
def sp_written (K : PySem.W.Frag) : Sp := spG K (fun (a : (List Int) × Int) => [.l (il a.1), .v (.int a.2)]) (fun a => (∀ x ∈ a.1, 1 ≤ x ∧ x ≤ 250) ∧ (a.1.length ≤ 2000) ∧ (1 ≤ a.2 ∧ a.2 ≤ 12)) (fun a => .p (.v (.int ((m_written a.1 a.2).1))) (.t (il ((m_written a.1 a.2).2))))
theorem cl_written {K : PySem.W.Frag} {σ : L2.St} {H : Hp} {ta : TA} {E : XK} (v_row : List Int) (v_many : Int) (h : EvAs K ta σ H [.l (il v_row), .v (.int v_many)]) (hp : (∀ x ∈ v_row, 1 ≤ x ∧ x ≤ 250) ∧ (v_row.length ≤ 2000) ∧ (1 ≤ v_many ∧ v_many ≤ 12)) : EvN K (tCall (sp_written K) [] E ta) σ H (.p (.v (.int ((m_written v_row v_many).1))) (.t (il ((m_written v_row v_many).2)))) := en_call (a := (v_row, v_many)) h hp
theorem ok_written (T : Txt K mg fa fd) : FnOk P w K mg base CX0 2 (fa 6) (fd 6) ["row", "many"] (sp_written K) := by
  have G_power := ok_power (P := P) (w := w) (base := base) T
  obtain ⟨tPRIME, vPRIME⟩ := T.v_PRIME
  refine T.F_written.ok sc_written (fun vs H Q E h => ?_) (fun cdv A outer s H0 vs Q E hr h => ?_)
  · obtain ⟨a, r, _⟩ := h
    exact r.length
  · obtain ⟨⟨v_row, v_many⟩, r, hpre, k⟩ := h
    replace r : Paired (fun u d => D.rep K d u H0) vs [.l (il v_row), .v (.int v_many)] := r
    obtain ⟨u_v_row, tl_v_row, hvs0, r_v_row, r0⟩ := paired_cons r
    clear r
    subst hvs0
    obtain ⟨a_v_row, rfl, h_a_v_row0⟩ := r_v_row
    obtain ⟨u_v_many, tl_v_many, hvs1, r_v_many, r1⟩ := paired_cons r0
    clear r0
    subst hvs1
    obtain rfl : u_v_many = .int v_many := r_v_many
    obtain rfl := paired_nil r1
    obtain ⟨hp0, hp1, hp2⟩ := hpre
    replace hp0 : ∀ x ∈ v_row, 1 ≤ x ∧ x ≤ 250 := hp0
    replace hp1 : v_row.length ≤ 2000 := hp1
    replace hp2 : 1 ≤ v_many ∧ v_many ≤ 12 := hp2
    have ex : Ex H0 H0 := Ex.refl H0
    refine ⟨_, (pss_cons (ps_set (i := 2) sc_written.nd rfl (.inl rfl) (pe_lst pa_nil))
      (pss_cons (ps_for PassesOwn.never rfl (pi_range2 (by rfl) T.n_range (pa_cons pe_int (pa_cons (pe_op op_add (pv 1) pe_int) pa_nil))) (pg_name (i := 3) sc_written.nd rfl (.inr rfl)) (pss_one (ps_expr (pe_bm PySem.F.plainAttrs_list PySem.F.slot_list_append PySem.F.type_list_append mt_append (pv 2) (pa_cons (pe_op op_mod (pe_callB (r := rSum K) (cr_sum rfl) (by rfl) T.n_sum (by decide +kernel) (pa_cons (pe_lc (own := [("number", 4)]) (g := gName 4) (tt := tYes) rfl sc_written.nd (pi_list (pv 0)) (blkOk_by (own := [("number", 4)]) (N := ["row", "many", "sums", "k", "number"]) (sc := defScope s_written) (by decide +kernel)) (fun _ _ _ _ _ => pg_name (i := 4) sc_written.nd rfl (Or.inl rfl)) (fun _ _ _ _ _ => pts_nil) (fun _ _ _ _ _ => (pe_call G_power (hr.mono (by decide)) (by rfl) T.g_power T.F_power.kp T.b_power .nil pass0 (pa_cons (pv 4) (pa_cons (pv 3) pa_nil))))) pa_nil)) (pe_glob (v := .int 251) rfl vPRIME ⟨_, rfl⟩)) pa_nil)))))
      (pss_one (ps_ret (pe_tup (pa_cons (pe_callB (r := rLenS K) call_len_seq (by rfl) T.n_len PySem.boot_len (pa_cons (pv 0) pa_nil)) (pa_cons (pe_callTy (r := rTupOf K) call_tuple_of (by rfl) T.n_tuple (by decide +kernel) (pa_cons (pv 2) pa_nil)) pa_nil))))))), ?_⟩
    refine q_asgNl (K := K) (xs := il []) en_l0 (fun a_3 H1 np_a_3 e2 h_a_3 => ?_)
    have n_a_3 := fresh_back ex np_a_3
    have ne_a_v_row_a_3 := ne_of_none (ex _ _ h_a_v_row0) np_a_3
    have ex := ex.trans e2
    refine q_forR2 (lo := 1) (n := v_many + 1) (ea_cons ev_c (ea_cons (ev_op (ev_var rfl) ev_c rv_I0) ea_nil)) (by walk_at "kside") (fun (i : Nat) σ' H' => ∃ (y_v_k_1 : Option V) (v_sums_5 : List Int), iter (m_written_L1s v_row) [] i = v_sums_5 ∧ σ' = [some (.ref a_v_row), some (.int v_many), some (.ref a_3), y_v_k_1, none] ∧ Ex H0 H' ∧ H' a_3 = some (.lst (il v_sums_5))) (fun H8 e9 => ⟨_, _, rfl, rfl, ex.trans e9, e9 _ _ h_a_3⟩) ?_ ?_
    ·
      rintro i4 σ' H10 hi_i4 ⟨y_v_k_1, v_sums_5, hst1, rfl, ex, h_a_3⟩
      have hl : v_sums_5.length = 0 + i4 := by rw [← hst1]; exact iter_snoc_len (f := (m_written_L1s v_row)) (fun i st => ⟨_, rfl⟩) i4
      refine s_appI h_a_3 (ev_var (v := .ref a_3) rfl) (ev_op (ev_sum (EvN.toD (en_il (g := fun v_number_c11 => m_power v_number_c11 (1 + (i4 : Int))) (en_lc (g := fun v_number_c11 => V.int (m_power v_number_c11 (1 + (i4 : Int)))) (ed_rep (d := .l (il v_row)) (ev_var (v := .ref a_v_row) rfl) ⟨_, rfl, (ex _ _ h_a_v_row0)⟩) (by walk_at "kside") (fun v_number_c11 hm12 => (by have hb := hp0 v_number_c11 hm12; exact (cl_power v_number_c11 (1 + (i4 : Int)) (eas_cons (ed_v (ev_var rfl)) (eas_cons (ed_v (ev_var rfl)) eas_nil)) ⟨(by walk_at "kside"), (by walk_at "kside")⟩))))))) ev_c (rv_I (by walk_at "kside"))) (by walk_at "kside") (fun H13 b14 h_a_3' => ?_)
      have ex := But.ex ex n_a_3 b14
      have h_a_3 := h_a_3'
      have hs15 : iter (m_written_L1s v_row) [] (i4 + 1) = (v_sums_5 ++ [((v_row.map fun v_number_c11 => m_power v_number_c11 (1 + (i4 : Int))).sum) % 251]) := (congrArg ((m_written_L1s v_row) i4) hst1).trans rfl
      exact ⟨_, _, hs15, rfl, ex, h_a_3⟩
    ·
      rintro σ' H16 ⟨y_v_k_1, v_sums_5, hst1, rfl, ex, h_a_3⟩
      obtain rfl : v_sums_5 = (m_written_L1 v_row v_many) := hst1.symm
      obtain ⟨v_sums_17, e_v_sums_17⟩ : ∃ z : List Int, z = (m_written_L1 v_row v_many) := ⟨_, rfl⟩
      rw [← e_v_sums_17] at h_a_3
      refine s_retN (K := K) (en_p (en_v (ev_lenI (ed_rep (d := .l (il v_row)) (ev_var (v := .ref a_v_row) rfl) ⟨_, rfl, (ex _ _ h_a_v_row0)⟩))) (en_tuple (ed_rep (d := .l (il v_sums_17)) (ev_var (v := .ref a_3) rfl) ⟨_, rfl, h_a_3⟩)) (dis_v (fun b hb => by cases hb))) (fun u20 H18 e19 n21 => ?_)
      subst e_v_sums_17
      exact k _ _ (ex.trans e19) (ret_eq (congrArg (fun z : Int × (List Int) => (.p (.v (.int z.1)) (.t (il z.2)) : D)) (show m_written v_row v_many = ((v_row.length : Int), (m_written_L1 v_row v_many)) from rfl)) (D.nback ex n21))
def sp_letter (K : PySem.W.Frag) : Sp := spG K (fun (a : (List Int) × Int) => [.l (il a.1), .v (.int a.2)]) (fun a => (RowOk a.1) ∧ (1 ≤ a.2 ∧ a.2 ≤ 12)) (fun a => .p (.v (.int ((m_letter a.1 a.2).1))) (.t (il ((m_letter a.1 a.2).2))))
theorem cl_letter {K : PySem.W.Frag} {σ : L2.St} {H : Hp} {ta : TA} {E : XK} (v_row : List Int) (v_many : Int) (h : EvAs K ta σ H [.l (il v_row), .v (.int v_many)]) (hp : (RowOk v_row) ∧ (1 ≤ v_many ∧ v_many ≤ 12)) : EvN K (tCall (sp_letter K) [] E ta) σ H (.p (.v (.int ((m_letter v_row v_many).1))) (.t (il ((m_letter v_row v_many).2)))) := en_call (a := (v_row, v_many)) h hp
theorem ok_letter (T : Txt K mg fa fd) : FnOk P w K mg base CX0 3 (fa 7) (fd 7) ["row", "many"] (sp_letter K) := by
  have G_need_count := ok_need_count (P := P) (w := w) (base := base) T
  have G_need_row := ok_need_row (P := P) (w := w) (base := base) T
  have G_written := ok_written (P := P) (w := w) (base := base) T
  refine T.F_letter.ok sc_letter (fun vs H Q E h => ?_) (fun cdv A outer s H0 vs Q E hr h => ?_)
  · obtain ⟨a, r, _⟩ := h
    exact r.length
  · obtain ⟨⟨v_row, v_many⟩, r, hpre, k⟩ := h
    replace r : Paired (fun u d => D.rep K d u H0) vs [.l (il v_row), .v (.int v_many)] := r
    obtain ⟨u_v_row, tl_v_row, hvs0, r_v_row, r0⟩ := paired_cons r
    clear r
    subst hvs0
    obtain ⟨a_v_row, rfl, h_a_v_row0⟩ := r_v_row
    obtain ⟨u_v_many, tl_v_many, hvs1, r_v_many, r1⟩ := paired_cons r0
    clear r0
    subst hvs1
    obtain rfl : u_v_many = .int v_many := r_v_many
    obtain rfl := paired_nil r1
    obtain ⟨hp0, hp1⟩ := hpre
    replace hp0 : RowOk v_row := hp0
    replace hp1 : 1 ≤ v_many ∧ v_many ≤ 12 := hp1
    have ex : Ex H0 H0 := Ex.refl H0
    refine ⟨_, (pss_cons (ps_expr (pe_call G_need_row (hr.mono (by decide)) (by rfl) T.g_need_row T.F_need_row.kp T.b_need_row .nil pass0 (pa_cons (pv 0) pa_nil)))
      (pss_cons (ps_expr (pe_call G_need_count (hr.mono (by decide)) (by rfl) T.g_need_count T.F_need_count.kp T.b_need_count .nil pass0 (pa_cons (pv 1) pa_nil)))
      (pss_one (ps_ret (pe_call G_written (hr.mono (by decide)) (by rfl) T.g_written T.F_written.kp T.b_written .nil pass0 (pa_cons (pv 0) (pa_cons (pv 1) pa_nil))))))), ?_⟩
    have hr1 := hp0.2.1
    have hr2 := hp0.2.2
    refine q_dropN (K := K) (cl_need_row v_row (eas_cons (ed_rep (d := .l (il v_row)) (ev_var (v := .ref a_v_row) rfl) ⟨_, rfl, (ex _ _ h_a_v_row0)⟩) eas_nil) (by walk_at "kside")) (fun H1 e2 => ?_)
    have ex := ex.trans e2
    refine q_dropN (K := K) (cl_need_count v_many (eas_cons (ed_v (ev_var rfl)) eas_nil) (by walk_at "kside")) (fun H3 e4 => ?_)
    have ex := ex.trans e4
    refine s_retN (K := K) (cl_written v_row v_many (eas_cons (ed_rep (d := .l (il v_row)) (ev_var (v := .ref a_v_row) rfl) ⟨_, rfl, (ex _ _ h_a_v_row0)⟩) (eas_cons (ed_v (ev_var rfl)) eas_nil)) ⟨(by walk_at "kside"), (by walk_at "kside"), (by walk_at "kside")⟩) (fun u7 H5 e6 n8 => ?_)
    exact k _ _ (ex.trans e6) (ret_eq (congrArg (fun z : Int × (List Int) => (.p (.v (.int z.1)) (.t (il z.2)) : D)) (show m_letter v_row v_many = (m_written v_row v_many) from rfl)) (D.nback ex n8))
def sp__law_whole (K : PySem.W.Frag) : Sp := spG K (fun (a : Int) => [.v (.int a)]) (fun a => True) (fun a => .v (.bl (m_law_whole a)))
theorem cl__law_whole {K : PySem.W.Frag} {σ : L2.St} {H : Hp} {ta : TA} {E : XK} (v_found : Int) (h : EvAs K ta σ H [.v (.int v_found)]) (hp : True) : Ev (tCall (sp__law_whole K) [] E ta) σ H (.bl (m_law_whole v_found)) := ev_ofN (en_call (a := (v_found)) h hp)
theorem ok__law_whole (T : Txt K mg fa fd) : FnOk P w K mg base CX0 1 (fa 8) (fd 8) ["_law_found"] (sp__law_whole K) := by
  refine T.F__law_whole.ok sc__law_whole (fun vs H Q E h => ?_) (fun cdv A outer s H0 vs Q E hr h => ?_)
  · obtain ⟨a, r, _⟩ := h
    exact r.length
  · obtain ⟨v_found, r, hpre, k⟩ := h
    replace r : Paired (fun u d => D.rep K d u H0) vs [.v (.int v_found)] := r
    obtain ⟨u_v_found, tl_v_found, hvs0, r_v_found, r0⟩ := paired_cons r
    clear r
    subst hvs0
    obtain rfl : u_v_found = .int v_found := r_v_found
    obtain rfl := paired_nil r0
    have ex : Ex H0 H0 := Ex.refl H0
    refine ⟨_, (pss_one (ps_ret (pe_and (pe_callB (r := rIsi K) call_isi (by rfl) T.n_isinstance (by decide +kernel) (pa_cons (pv 0) (pa_cons (pe_bltn (v := .ty "int") (by rfl) T.n_int (by decide +kernel) rfl) pa_nil))) (pe_one (pe_not (pe_callB (r := rIsi K) call_isi (by rfl) T.n_isinstance (by decide +kernel) (pa_cons (pv 0) (pa_cons (pe_bltn (v := .ty "bool") (by rfl) T.n_bool (by decide +kernel) rfl) pa_nil)))))))), ?_⟩
    refine s_ret (ev_andV (a := true) (b := true) (ev_isD (d := .v (.int v_found)) (s := "int") (b := true) (ed_v (ev_var rfl)) ev_c rfl (by decide +kernel)) (fun hg1 => (ev_notV (ev_isD (d := .v (.int v_found)) (s := "int") (b := false) (ed_v (ev_var rfl)) ev_c rfl (by decide +kernel))))) (fun H2 e3 => ?_)
    exact k _ _ (ex.trans e3) (ret_eq (congrArg (fun z : Bool => (.v (.bl z) : D)) (show m_law_whole v_found = true from rfl)) rfl)
def sp__law_rests (K : PySem.W.Frag) : Sp := spG K (fun (a : (List Int) × (List Int)) => [.l (il a.1), .l (il a.2)]) (fun a => (a.2.length ≤ 1000)) (fun a => .v (.bl (m_law_rests a.1 a.2)))
theorem cl__law_rests {K : PySem.W.Frag} {σ : L2.St} {H : Hp} {ta : TA} {E : XK} (v_found : List Int) (v_due : List Int) (h : EvAs K ta σ H [.l (il v_found), .l (il v_due)]) (hp : (v_due.length ≤ 1000)) : Ev (tCall (sp__law_rests K) [] E ta) σ H (.bl (m_law_rests v_found v_due)) := ev_ofN (en_call (a := (v_found, v_due)) h hp)
theorem ok__law_rests (T : Txt K mg fa fd) : FnOk P w K mg base CX0 2 (fa 9) (fd 9) ["_law_found", "_law_due"] (sp__law_rests K) := by
  have G__law_whole := ok__law_whole (P := P) (w := w) (base := base) T
  refine T.F__law_rests.ok sc__law_rests (fun vs H Q E h => ?_) (fun cdv A outer s H0 vs Q E hr h => ?_)
  · obtain ⟨a, r, _⟩ := h
    exact r.length
  · obtain ⟨⟨v_found, v_due⟩, r, hpre, k⟩ := h
    replace r : Paired (fun u d => D.rep K d u H0) vs [.l (il v_found), .l (il v_due)] := r
    obtain ⟨u_v_found, tl_v_found, hvs0, r_v_found, r0⟩ := paired_cons r
    clear r
    subst hvs0
    obtain ⟨a_v_found, rfl, h_a_v_found0⟩ := r_v_found
    obtain ⟨u_v_due, tl_v_due, hvs1, r_v_due, r1⟩ := paired_cons r0
    clear r0
    subst hvs1
    obtain ⟨a_v_due, rfl, h_a_v_due0⟩ := r_v_due
    obtain rfl := paired_nil r1
    have hp0 := hpre
    replace hp0 : v_due.length ≤ 1000 := hp0
    have ex : Ex H0 H0 := Ex.refl H0
    refine ⟨_, (pss_cons (ps_if (PW.pt (pw_or (pt_not (pt_val (pe_callB (r := rIsi K) call_isi (by rfl) T.n_isinstance (by decide +kernel) (pa_cons (pv 0) (pa_cons (pe_bltn (v := .ty "list") (by rfl) T.n_list (by decide +kernel) rfl) pa_nil))))) (pw_or1 (pt_cmpR op_ne (pe_callB (r := rLenS K) call_len_seq (by rfl) T.n_len PySem.boot_len (pa_cons (pv 0) pa_nil)) (pe_callB (r := rLenS K) call_len_seq (by rfl) T.n_len PySem.boot_len (pa_cons (pv 1) pa_nil)) (nomark _))))) (pss_one (ps_ret pe_bl)) pss_nil)
      (pss_cons (ps_for PassesOwn.never rfl (pi_range1 (by rfl) T.n_range (pa_cons (pe_callB (r := rLenS K) call_len_seq (by rfl) T.n_len PySem.boot_len (pa_cons (pv 1) pa_nil)) pa_nil)) (pg_name (i := 2) sc__law_rests.nd rfl (.inl rfl)) (pss_one (ps_if (PW.pt (pw_or (pt_not (pt_val (pe_call G__law_whole (hr.mono (by decide)) (by rfl) T.g__law_whole T.F__law_whole.kp T.b__law_whole .nil pass0 (pa_cons (pe_ix (r := rIxL K) ix_list (pv 0) (pv 2) (fun _ _ => rfl)) pa_nil)))) (pw_or1 (pt_cmpR op_ne (pe_ix (r := rIxL K) ix_list (pv 0) (pv 2) (fun _ _ => rfl)) (pe_ix (r := rIxL K) ix_list (pv 1) (pv 2) (fun _ _ => rfl)) (nomark _))))) (pss_one (ps_ret pe_bl)) pss_nil)))
      (pss_one (ps_ret pe_bl)))), ?_⟩
    refine q_when (b := !decide ((v_found.length : Int) = (v_due.length : Int))) (et_or (a := false) (b := !decide ((v_found.length : Int) = (v_due.length : Int))) (et_not (et_B (ev_isD (d := .l (il v_found)) (s := "list") (b := true) (ed_rep (d := .l (il v_found)) (ev_var (v := .ref a_v_found) rfl) ⟨_, rfl, (ex _ _ h_a_v_found0)⟩) ev_c rfl (by decide +kernel)))) (fun hg1 => (et_test (ev_neI (ev_lenI (ed_rep (d := .l (il v_found)) (ev_var (v := .ref a_v_found) rfl) ⟨_, rfl, (ex _ _ h_a_v_found0)⟩)) (ev_lenI (ed_rep (d := .l (il v_due)) (ev_var (v := .ref a_v_due) rfl) ⟨_, rfl, (ex _ _ h_a_v_due0)⟩)))))) (fun hb4 H2 e3 => ?_) (fun hb4 H2 e3 => ?_)
    ·
      have hq4 := hb4
      (try simp only [Bool.and_eq_true, Bool.or_eq_true, Bool.not_eq_true', Bool.not_eq_false', Bool.and_eq_false_iff, Bool.or_eq_false_iff, decide_eq_true_eq, decide_eq_false_iff_not] at hq4)
      have ex := ex.trans e3
      refine s_ret ev_c (fun H5 e6 => ?_)
      exact k _ _ (ex.trans e6) (ret_eq (congrArg (fun z : Bool => (.v (.bl z) : D)) (show m_law_rests v_found v_due = false from (Eq.trans (cond_t hb4) rfl))) rfl)
    ·
      have hq4 := hb4
      (try simp only [Bool.and_eq_true, Bool.or_eq_true, Bool.not_eq_true', Bool.not_eq_false', Bool.and_eq_false_iff, Bool.or_eq_false_iff, decide_eq_true_eq, decide_eq_false_iff_not] at hq4)
      have ex := ex.trans e3
      refine q_forR1 (n := (v_due.length : Int)) (ea_cons (ev_lenI (ed_rep (d := .l (il v_due)) (ev_var (v := .ref a_v_due) rfl) ⟨_, rfl, (ex _ _ h_a_v_due0)⟩)) ea_nil) (by walk_at "kside") (fun (i : Nat) σ' H' => ∃ (y_v_k_1 : Option V), first (m_law_rests_L1b v_found v_due) i = none ∧ σ' = [some (.ref a_v_found), some (.ref a_v_due), y_v_k_1] ∧ Ex H0 H') (fun H11 e12 => ⟨_, rfl, rfl, ex.trans e12⟩) ?_ ?_
      ·
        rintro i9 σ' H13 hi_i9 ⟨y_v_k_1, hst1, rfl, ex⟩
        refine s_when (b := (!(m_law_whole (gi v_found (i9 : Int)))) || (!decide (gi v_found (i9 : Int) = gi v_due (i9 : Int)))) (et_or (a := !(m_law_whole (gi v_found (i9 : Int)))) (b := !decide (gi v_found (i9 : Int) = gi v_due (i9 : Int))) (et_not (et_B (cl__law_whole (gi v_found (i9 : Int)) (eas_cons (ed_v (ev_ix (ed_rep (d := .l (il v_found)) (ev_var (v := .ref a_v_found) rfl) ⟨_, rfl, (ex _ _ h_a_v_found0)⟩) (ev_var rfl) (by walk_at "kside"))) eas_nil) trivial))) (fun hg14 => (by have hg14' := hg14; (try simp only [Bool.and_eq_true, Bool.or_eq_true, Bool.not_eq_true', Bool.not_eq_false', Bool.and_eq_false_iff, Bool.or_eq_false_iff, decide_eq_true_eq, decide_eq_false_iff_not] at hg14'); exact (et_test (ev_neI (ev_ix (ed_rep (d := .l (il v_found)) (ev_var (v := .ref a_v_found) rfl) ⟨_, rfl, (ex _ _ h_a_v_found0)⟩) (ev_var rfl) (by walk_at "kside")) (ev_ix (ed_rep (d := .l (il v_due)) (ev_var (v := .ref a_v_due) rfl) ⟨_, rfl, (ex _ _ h_a_v_due0)⟩) (ev_var rfl) (by walk_at "kside"))))))) (fun hb17 H15 e16 => ?_) (fun hb17 H15 e16 => ?_)
        ·
          have hq17 := hb17
          (try simp only [Bool.and_eq_true, Bool.or_eq_true, Bool.not_eq_true', Bool.not_eq_false', Bool.and_eq_false_iff, Bool.or_eq_false_iff, decide_eq_true_eq, decide_eq_false_iff_not] at hq17)
          have ex := ex.trans e16
          refine s_ret ev_c (fun H18 e19 => ?_)
          have hs22 : (m_law_rests_L1b v_found v_due) i9 = some false := (Eq.trans (cond_t hb17) rfl)
          have hr23 : first (m_law_rests_L1b v_found v_due) (((v_due.length : Int) : Int).toNat) = some false := first_some hst1 hs22 (by have := hi_i9; omega)
          exact k _ _ (ex.trans e19) (ret_eq (congrArg (fun z : Bool => (.v (.bl z) : D)) (show m_law_rests v_found v_due = false from (Eq.trans (cond_f hb4) (Eq.trans (getd_s hr23) rfl)))) rfl)
        ·
          have hq17 := hb17
          (try simp only [Bool.and_eq_true, Bool.or_eq_true, Bool.not_eq_true', Bool.not_eq_false', Bool.and_eq_false_iff, Bool.or_eq_false_iff, decide_eq_true_eq, decide_eq_false_iff_not] at hq17)
          have ex := ex.trans e16
          have hs24 : (m_law_rests_L1b v_found v_due) i9 = none := (Eq.trans (cond_f hb17) rfl)
          exact ⟨_, first_none hst1 hs24, rfl, ex⟩
      ·
        rintro σ' H25 ⟨y_v_k_1, hst1, rfl, ex⟩
        refine s_ret ev_c (fun H26 e27 => ?_)
        exact k _ _ (ex.trans e27) (ret_eq (congrArg (fun z : Bool => (.v (.bl z) : D)) (show m_law_rests v_found v_due = true from (Eq.trans (cond_f hb4) (Eq.trans (getd_n hst1) rfl)))) rfl)
def sp__law_sums (K : PySem.W.Frag) : Sp := spG K (fun (a : (List Int) × Int) => [.l (il a.1), .v (.int a.2)]) (fun a => (∀ x ∈ a.1, 1 ≤ x ∧ x ≤ 250) ∧ (0 ≤ a.2 ∧ a.2 ≤ 1000)) (fun a => .l (il (m_law_sums a.1 a.2)))
theorem cl__law_sums {K : PySem.W.Frag} {σ : L2.St} {H : Hp} {ta : TA} {E : XK} (v_row_here : List Int) (v_many : Int) (h : EvAs K ta σ H [.l (il v_row_here), .v (.int v_many)]) (hp : (∀ x ∈ v_row_here, 1 ≤ x ∧ x ≤ 250) ∧ (0 ≤ v_many ∧ v_many ≤ 1000)) : EvN K (tCall (sp__law_sums K) [] E ta) σ H (.l (il (m_law_sums v_row_here v_many))) := en_call (a := (v_row_here, v_many)) h hp
theorem ok__law_sums (T : Txt K mg fa fd) : FnOk P w K mg base CX0 1 (fa 10) (fd 10) ["_law_row_here", "_law_many"] (sp__law_sums K) := by
  refine T.F__law_sums.ok sc__law_sums (fun vs H Q E h => ?_) (fun cdv A outer s H0 vs Q E hr h => ?_)
  · obtain ⟨a, r, _⟩ := h
    exact r.length
  · obtain ⟨⟨v_row_here, v_many⟩, r, hpre, k⟩ := h
    replace r : Paired (fun u d => D.rep K d u H0) vs [.l (il v_row_here), .v (.int v_many)] := r
    obtain ⟨u_v_row_here, tl_v_row_here, hvs0, r_v_row_here, r0⟩ := paired_cons r
    clear r
    subst hvs0
    obtain ⟨a_v_row_here, rfl, h_a_v_row_here0⟩ := r_v_row_here
    obtain ⟨u_v_many, tl_v_many, hvs1, r_v_many, r1⟩ := paired_cons r0
    clear r0
    subst hvs1
    obtain rfl : u_v_many = .int v_many := r_v_many
    obtain rfl := paired_nil r1
    obtain ⟨hp0, hp1⟩ := hpre
    replace hp0 : ∀ x ∈ v_row_here, 1 ≤ x ∧ x ≤ 250 := hp0
    replace hp1 : 0 ≤ v_many ∧ v_many ≤ 1000 := hp1
    have ex : Ex H0 H0 := Ex.refl H0
    refine ⟨_, (pss_cons (ps_set (i := 2) sc__law_sums.nd rfl (.inl rfl) (pe_lst pa_nil))
      (pss_cons (ps_for PassesOwn.never rfl (pi_range1 (by rfl) T.n_range (pa_cons (pv 1) pa_nil)) (pg_name (i := 3) sc__law_sums.nd rfl (.inl rfl)) (pss_one (ps_expr (pe_bm PySem.F.plainAttrs_list PySem.F.slot_list_append PySem.F.type_list_append mt_append (pv 2) (pa_cons pe_int pa_nil)))))
      (pss_cons (ps_for PassesOwn.never rfl (pi_list (pv 0)) (pg_name (i := 4) sc__law_sums.nd rfl (.inl rfl)) (pss_cons (ps_set (i := 5) sc__law_sums.nd rfl (.inl rfl) pe_int)
      (pss_one (ps_for PassesOwn.never rfl (pi_range1 (by rfl) T.n_range (pa_cons (pv 1) pa_nil)) (pg_name (i := 3) sc__law_sums.nd rfl (.inl rfl)) (pss_cons (ps_set (i := 5) sc__law_sums.nd rfl (.inl rfl) (pe_op op_mod (pe_op op_mul (pv 5) (pv 4)) pe_int))
      (pss_one (ps_asg (pe_op op_mod (pe_op op_add (pe_ix (r := rIxL K) ix_list (pv 2) (pv 3) (fun _ _ => rfl)) (pv 5)) pe_int) (pg_sub (pv 2) (pv 3) set_list))))))))
      (pss_one (ps_ret (pv 2)))))), ?_⟩
    refine q_asgNl (K := K) (xs := il []) en_l0 (fun a_3 H1 np_a_3 e2 h_a_3 => ?_)
    have n_a_3 := fresh_back ex np_a_3
    have ne_a_v_row_here_a_3 := ne_of_none (ex _ _ h_a_v_row_here0) np_a_3
    have ex := ex.trans e2
    refine q_forR1 (n := v_many) (ea_cons (ev_var rfl) ea_nil) (by walk_at "kside") (fun (i : Nat) σ' H' => ∃ (y_v_k_1 : Option V) (v_found_5 : List Int), iter m_law_sums_L1s [] i = v_found_5 ∧ σ' = [some (.ref a_v_row_here), some (.int v_many), some (.ref a_3), y_v_k_1, none, none] ∧ Ex H0 H' ∧ H' a_3 = some (.lst (il v_found_5))) (fun H8 e9 => ⟨_, _, rfl, rfl, ex.trans e9, e9 _ _ h_a_3⟩) ?_ ?_
    ·
      rintro i4 σ' H10 hi_i4 ⟨y_v_k_1, v_found_5, hst1, rfl, ex, h_a_3⟩
      have hl : v_found_5.length = 0 + i4 := by rw [← hst1]; exact iter_snoc_len (f := m_law_sums_L1s) (fun i st => ⟨_, rfl⟩) i4
      refine s_appI h_a_3 (ev_var (v := .ref a_3) rfl) ev_c (by walk_at "kside") (fun H11 b12 h_a_3' => ?_)
      have ex := But.ex ex n_a_3 b12
      have h_a_3 := h_a_3'
      have hs13 : iter m_law_sums_L1s [] (i4 + 1) = (v_found_5 ++ [0]) := (congrArg (m_law_sums_L1s i4) hst1).trans rfl
      exact ⟨_, _, hs13, rfl, ex, h_a_3⟩
    ·
      rintro σ' H14 ⟨y_v_k_1, v_found_5, hst1, rfl, ex, h_a_3⟩
      obtain rfl : v_found_5 = (m_law_sums_L1 v_many) := hst1.symm
      obtain ⟨v_found_15, e_v_found_15⟩ : ∃ z : List Int, z = (m_law_sums_L1 v_many) := ⟨_, rfl⟩
      rw [← e_v_found_15] at h_a_3
      have hl0 : v_found_15.length = v_many.toNat := by rw [e_v_found_15]; exact (iter_snoc_len (f := m_law_sums_L1s) (fun i st => ⟨_, rfl⟩) _).trans (Nat.zero_add _)
      refine q_forI (ev_var (v := .ref a_v_row_here) rfl) (ex _ _ h_a_v_row_here0) (fun (i : Nat) σ' H' => ∃ (y_v_number_2 : Option V) (y_v_factor_2 : Option V) (y_v_k_2 : Option V) (v_found_17 : List Int), (v_row_here.take i).foldl (m_law_sums_L2s v_many) v_found_15 = v_found_17 ∧ σ' = [some (.ref a_v_row_here), some (.int v_many), some (.ref a_3), y_v_k_2, y_v_number_2, y_v_factor_2] ∧ Ex H0 H' ∧ H' a_3 = some (.lst (il v_found_17))) (fun H20 e21 => ⟨_, _, _, _, rfl, rfl, ex.trans e21, e21 _ _ h_a_3⟩) (fun i σ' H' hP => by obtain ⟨_, _, _, _, _, _, ex', h'_a_3⟩ := hP; exact ex' _ _ h_a_v_row_here0) ?_ ?_
      ·
        rintro i16 v_number_18 σ' H22 hx_v_number_18 ⟨y_v_number_2, y_v_factor_2, y_v_k_2, v_found_17, hst2, rfl, ex, h_a_3⟩
        have hl : v_found_17.length = v_many.toNat := by rw [← hst2]; exact (law_sums_len2 _ _ _).trans hl0
        have hb := hp0 _ (List.mem_of_getElem? hx_v_number_18)
        refine q_asg (v := .int 1) ev_c (fun H23 e24 => ?_)
        have ex := ex.trans e24
        have h_a_3 := e24 _ _ h_a_3
        refine s_forR1 (n := v_many) (ea_cons (ev_var rfl) ea_nil) (by walk_at "kside") (fun (i : Nat) σ' H' => ∃ (y_v_k_3 : Option V) (v_factor_26 : Int) (v_found_27 : List Int), iter (m_law_sums_L3s v_number_18) (1, v_found_17) i = (v_factor_26, v_found_27) ∧ σ' = [some (.ref a_v_row_here), some (.int v_many), some (.ref a_3), y_v_k_3, some (.int v_number_18), some (.int v_factor_26)] ∧ Ex H0 H' ∧ H' a_3 = some (.lst (il v_found_27))) (fun H30 e31 => ⟨_, _, _, rfl, rfl, ex.trans e31, e31 _ _ h_a_3⟩) ?_ ?_
        ·
          rintro i25 σ' H32 hi_i25 ⟨y_v_k_3, v_factor_26, v_found_27, hst3, rfl, ex, h_a_3⟩
          have hl3 : v_found_27.length = v_many.toNat := (law_sums_len4 hst3).trans hl
          obtain ⟨v_factor_35, e_v_factor_35⟩ : ∃ z : Int, z = ((v_factor_26 * v_number_18) % 251) := ⟨_, rfl⟩
          refine q_asg (v := .int v_factor_35) (ev_is (ev_op (ev_op (ev_var rfl) (ev_var rfl) (rv_I (by walk_at "kmul"))) ev_c (rv_I (by walk_at "kside"))) (congrArg V.int e_v_factor_35.symm)) (fun H33 e34 => ?_)
          have ex := ex.trans e34
          have h_a_3 := e34 _ _ h_a_3
          refine s_setI h_a_3 (ev_op (ev_op (ev_ix (ed_rep (d := .l (il v_found_27)) (ev_var (v := .ref a_3) rfl) ⟨_, rfl, h_a_3⟩) (ev_var rfl) (by walk_at "kside")) (ev_var rfl) rv_I0) ev_c (rv_I (by walk_at "kside"))) (ev_var (v := .ref a_3) rfl) (ev_var rfl) (by walk_at "kside") (fun H36 b37 h_a_3' => ?_)
          have ex := But.ex ex n_a_3 b37
          have h_a_3 := h_a_3'
          subst e_v_factor_35
          have hs38 : iter (m_law_sums_L3s v_number_18) (1, v_found_17) (i25 + 1) = (((v_factor_26 * v_number_18) % 251), si v_found_27 (i25 : Int) ((gi v_found_27 (i25 : Int) + ((v_factor_26 * v_number_18) % 251)) % 251)) := (congrArg ((m_law_sums_L3s v_number_18) i25) hst3).trans rfl
          exact ⟨_, _, _, hs38, rfl, ex, h_a_3⟩
        ·
          rintro σ' H39 ⟨y_v_k_3, v_factor_26, v_found_27, hst3, rfl, ex, h_a_3⟩
          obtain rfl : v_factor_26 = (m_law_sums_L3 v_many v_found_17 v_number_18).1 := (congrArg (fun z => z.1) (show (m_law_sums_L3 v_many v_found_17 v_number_18) = _ from hst3)).symm
          obtain rfl : v_found_27 = (m_law_sums_L3 v_many v_found_17 v_number_18).2 := (congrArg (fun z => z.2) (show (m_law_sums_L3 v_many v_found_17 v_number_18) = _ from hst3)).symm
          obtain ⟨v_factor_40, e_v_factor_40⟩ : ∃ z : Int, z = ((m_law_sums_L3 v_many v_found_17 v_number_18).1) := ⟨_, rfl⟩
          rw [← e_v_factor_40]
          obtain ⟨v_found_41, e_v_found_41⟩ : ∃ z : List Int, z = ((m_law_sums_L3 v_many v_found_17 v_number_18).2) := ⟨_, rfl⟩
          rw [← e_v_found_41] at h_a_3
          subst e_v_found_41
          subst e_v_factor_40
          have hs42 : (v_row_here.take (i16 + 1)).foldl (m_law_sums_L2s v_many) v_found_15 = ((m_law_sums_L3 v_many v_found_17 v_number_18).2) := (fold_succ hx_v_number_18).trans ((congrArg (fun z => (m_law_sums_L2s v_many) z v_number_18) hst2).trans rfl)
          exact ⟨_, _, _, _, hs42, rfl, ex, h_a_3⟩
      ·
        rintro σ' H43 ⟨y_v_number_2, y_v_factor_2, y_v_k_2, v_found_17, hst2, rfl, ex, h_a_3⟩
        rw [List.take_length] at hst2
        obtain rfl : v_found_17 = (m_law_sums_L2 v_row_here v_many v_found_15) := hst2.symm
        obtain ⟨v_found_44, e_v_found_44⟩ : ∃ z : List Int, z = (m_law_sums_L2 v_row_here v_many v_found_15) := ⟨_, rfl⟩
        rw [← e_v_found_44] at h_a_3
        refine s_ret (ev_var (v := .ref a_3) rfl) (fun H45 e46 => ?_)
        have ex := ex.trans e46
        have h_a_3 := e46 _ _ h_a_3
        subst e_v_found_44
        subst e_v_found_15
        exact k _ _ ex (ret_eq (congrArg (fun z : List Int => (.l (il z) : D)) (show m_law_sums v_row_here v_many = (m_law_sums_L2 v_row_here v_many (m_law_sums_L1 v_many)) from rfl)) ⟨_, rfl, n_a_3, h_a_3⟩)
def sp_law (K : PySem.W.Frag) : Sp := spG K (fun (a : (List Int)) => [.s (il a)]) (fun a => (a.length ≤ 63)) (fun a => .v (.bl (m_law a)))
theorem cl_law {K : PySem.W.Frag} {σ : L2.St} {H : Hp} {ta : TA} {E : XK} (v_script : List Int) (h : EvAs K ta σ H [.s (il v_script)]) (hp : (v_script.length ≤ 63)) : Ev (tCall (sp_law K) [] E ta) σ H (.bl (m_law v_script)) := ev_ofN (en_call (a := (v_script)) h hp)
theorem ok_law (T : Txt K mg fa fd) : FnOk P w K mg base CX0 4 (fa 11) (fd 11) ["_law_script"] (sp_law K) := by
  have G__law_cell_at := ok__law_cell_at (P := P) (w := w) (base := base) T
  have G__law_rests := ok__law_rests (P := P) (w := w) (base := base) T
  have G__law_row := ok__law_row (P := P) (w := w) (base := base) T
  have G__law_sums := ok__law_sums (P := P) (w := w) (base := base) T
  have G_letter := ok_letter (P := P) (w := w) (base := base) T
  refine T.F_law.ok sc_law (fun vs H Q E h => ?_) (fun cdv A outer s H0 vs Q E hr h => ?_)
  · obtain ⟨a, r, _⟩ := h
    exact r.length
  · obtain ⟨v_script, r, hpre, k⟩ := h
    replace r : Paired (fun u d => D.rep K d u H0) vs [.s (il v_script)] := r
    obtain ⟨u_v_script, tl_v_script, hvs0, r_v_script, r0⟩ := paired_cons r
    clear r
    subst hvs0
    obtain ⟨a_v_script, rfl, h_a_v_script0⟩ := r_v_script
    obtain rfl := paired_nil r0
    have hp0 := hpre
    replace hp0 : v_script.length ≤ 63 := hp0
    have ex : Ex H0 H0 := Ex.refl H0
    refine ⟨_, (pss_cons (ps_set (i := 1) sc_law.nd rfl (.inl rfl) (pe_call G__law_row (hr.mono (by decide)) (by rfl) T.g__law_row T.F__law_row.kp T.b__law_row .nil pass0 (pa_cons (pv 0) (pa_cons pe_int (pa_cons pe_int pa_nil)))))
      (pss_cons (ps_set (i := 2) sc_law.nd rfl (.inl rfl) (pe_op op_add pe_int (pe_op op_mod (pe_call G__law_cell_at (hr.mono (by decide)) (by rfl) T.g__law_cell_at T.F__law_cell_at.kp T.b__law_cell_at .nil pass0 (pa_cons (pv 0) (pa_cons pe_int pa_nil))) pe_int)))
      (pss_cut (ps_if (pt_cmpR op_eq (pe_op op_mod (pe_op op_fdiv (pe_call G__law_cell_at (hr.mono (by decide)) (by rfl) T.g__law_cell_at T.F__law_cell_at.kp T.b__law_cell_at .nil pass0 (pa_cons (pv 0) (pa_cons pe_int pa_nil))) pe_int) pe_int) pe_int (nomark _)) (pss_cons (ps_set (i := 1) sc_law.nd rfl (.inl rfl) (pe_call G__law_row (hr.mono (by decide)) (by rfl) T.g__law_row T.F__law_row.kp T.b__law_row .nil pass0 (pa_cons (pv 0) (pa_cons pe_int (pa_cons pe_int pa_nil)))))
      (pss_one (ps_set (i := 2) sc_law.nd rfl (.inl rfl) (pe_op op_add pe_int (pe_op op_mod (pe_call G__law_cell_at (hr.mono (by decide)) (by rfl) T.g__law_cell_at T.F__law_cell_at.kp T.b__law_cell_at .nil pass0 (pa_cons (pv 0) (pa_cons pe_int pa_nil))) pe_int))))) pss_nil)
      (pss_cons (ps_set (i := 3) sc_law.nd rfl (.inl rfl) (pe_callTy (r := rListS K) call_list_of (by rfl) T.n_list (by decide +kernel) (pa_cons (pv 1) pa_nil)))
      (pss_cons (ps_for PassesOwn.never rfl (pi_range1 (by rfl) T.n_range (pa_cons pe_int pa_nil)) (pg_name (i := 4) sc_law.nd rfl (.inl rfl)) (pss_cons (ps_set (i := 5) sc_law.nd rfl (.inl rfl) (pe_call G_letter (hr.mono (by decide)) (by rfl) T.g_letter T.F_letter.kp T.b_letter .nil pass0 (pa_cons (pv 3) (pa_cons (pv 2) pa_nil))))
      (pss_cons (ps_if (PW.pt (pw_or (pt_not (pt_val (pe_callB (r := rIsi K) call_isi (by rfl) T.n_isinstance (by decide +kernel) (pa_cons (pv 5) (pa_cons (pe_bltn (v := .ty "tuple") (by rfl) T.n_tuple (by decide +kernel) rfl) pa_nil))))) (pw_or (pt_cmpR op_ne (pe_callB (r := rLenS K) call_len_seq (by rfl) T.n_len PySem.boot_len (pa_cons (pv 5) pa_nil)) pe_int (nomark _)) (pw_or1 (pt_not (pt_val (pe_callB (r := rIsi K) call_isi (by rfl) T.n_isinstance (by decide +kernel) (pa_cons (pe_ix (r := rIxT K) ix_tup (pv 5) pe_int (fun _ _ => rfl)) (pa_cons (pe_bltn (v := .ty "tuple") (by rfl) T.n_tuple (by decide +kernel) rfl) pa_nil))))))))) (pss_one (ps_ret pe_bl)) pss_nil)
      (pss_cons (ps_if (pt_not (pt_val (pe_call G__law_rests (hr.mono (by decide)) (by rfl) T.g__law_rests T.F__law_rests.kp T.b__law_rests .nil pass0 (pa_cons (pe_op op_cat (pe_lst (pa_cons (pe_ix (r := rIxT K) ix_tup (pv 5) pe_int (fun _ _ => rfl)) pa_nil)) (pe_callTy (r := rListS K) call_list_of (by rfl) T.n_list (by decide +kernel) (pa_cons (pe_ix (r := rIxT K) ix_tup (pv 5) pe_int (fun _ _ => rfl)) pa_nil))) (pa_cons (pe_op op_cat (pe_lst (pa_cons (pe_callB (r := rLenS K) call_len_seq (by rfl) T.n_len PySem.boot_len (pa_cons (pv 1) pa_nil)) pa_nil)) (pe_call G__law_sums (hr.mono (by decide)) (by rfl) T.g__law_sums T.F__law_sums.kp T.b__law_sums .nil pass0 (pa_cons (pv 1) (pa_cons (pv 2) pa_nil)))) pa_nil))))) (pss_one (ps_ret pe_bl)) pss_nil)
      (pss_cons (ps_if (pt_not (pt_val (pe_call G__law_rests (hr.mono (by decide)) (by rfl) T.g__law_rests T.F__law_rests.kp T.b__law_rests .nil pass0 (pa_cons (pv 3) (pa_cons (pv 1) pa_nil))))) (pss_one (ps_ret pe_bl)) pss_nil)
      (pss_cons (ps_set (i := 1) sc_law.nd rfl (.inl rfl) (LR.pe_listRev (by rfl) (by rfl) T.n_list (by rfl) T.n_reversed (pv 1)))
      (pss_one (ps_set (i := 3) sc_law.nd rfl (.inl rfl) (pe_callTy (r := rListS K) call_list_of (by rfl) T.n_list (by decide +kernel) (pa_cons (pv 1) pa_nil))))))))))
      (pss_one (ps_ret pe_bl))))))), ?_⟩
    obtain ⟨v_row_here_4, e_v_row_here_4⟩ : ∃ z : List Int, z = (m_law_row v_script 0 24) := ⟨_, rfl⟩
    refine q_asgNl (K := K) (xs := il v_row_here_4) (en_is (cl__law_row v_script 0 24 (eas_cons (ed_var rfl ⟨_, rfl, ex_l ex h_a_v_script0⟩) (eas_cons (ed_v ev_c) (eas_cons (ed_v ev_c) eas_nil))) ⟨(by walk_at "kside"), (by walk_at "kside")⟩) (congrArg (fun z => D.l (il z)) e_v_row_here_4.symm)) (fun a_3 H1 np_a_3 e2 h_a_3 => ?_)
    have n_a_3 := fresh_back ex np_a_3
    have ex := ex.trans e2
    obtain ⟨v_many_7, e_v_many_7⟩ : ∃ z : Int, z = (1 + ((m_law_cell_at v_script 1) % 12)) := ⟨_, rfl⟩
    refine q_asg (v := .int v_many_7) (ev_is (ev_op ev_c (ev_op (cl__law_cell_at v_script 1 (eas_cons (ed_var rfl ⟨_, rfl, ex_l ex h_a_v_script0⟩) (eas_cons (ed_v ev_c) eas_nil)) (by walk_at "kside")) ev_c (rv_I (by walk_at "kside"))) rv_I0) (congrArg V.int e_v_many_7.symm)) (fun H5 e6 => ?_)
    have ex := ex.trans e6
    have h_a_3 := e6 _ _ h_a_3
    have hj0 : RowOk v_row_here_4 ∧ (v_row_here_4.length : Int) ≤ 24 := by rw [e_v_row_here_4]; exact law_row_ok _ _ _ (by decide)
    have hj1 : 1 ≤ v_many_7 ∧ v_many_7 ≤ 12 := by omega
    refine q_cut (M := fun σ' H' => ∃ (v_row_here_8 : List Int) (v_many_9 : Int) (a_v_row_here_8 : Addr), m_law_J1 v_script v_row_here_4 v_many_7 = (v_row_here_8, v_many_9) ∧ σ' = [some (.ref a_v_script), some (.ref a_v_row_here_8), some (.int v_many_9), none, none, none] ∧ Ex H0 H' ∧ H' a_v_row_here_8 = some (.lst (il v_row_here_8)) ∧ H0 a_v_row_here_8 = none) ?_ ?_
    ·
      refine s_when (b := decide (((m_law_cell_at v_script 1) / 12) % 8 = 1)) (et_test (ev_eqI (ev_op (ev_op (cl__law_cell_at v_script 1 (eas_cons (ed_var rfl ⟨_, rfl, ex_l ex h_a_v_script0⟩) (eas_cons (ed_v ev_c) eas_nil)) (by walk_at "kside")) ev_c (rv_I ⟨by walk_at "kside", by walk_at "kside"⟩)) ev_c (rv_I (by walk_at "kside"))) ev_c)) (fun hb12 H10 e11 => ?_) (fun hb12 H10 e11 => ?_)
      ·
        have hq12 := hb12
        (try simp only [Bool.and_eq_true, Bool.or_eq_true, Bool.not_eq_true', Bool.not_eq_false', Bool.and_eq_false_iff, Bool.or_eq_false_iff, decide_eq_true_eq, decide_eq_false_iff_not] at hq12)
        have ex := ex.trans e11
        have h_a_3 := e11 _ _ h_a_3
        obtain ⟨v_row_here_16, e_v_row_here_16⟩ : ∃ z : List Int, z = (m_law_row v_script 0 250) := ⟨_, rfl⟩
        refine q_asgNl (K := K) (xs := il v_row_here_16) (en_is (cl__law_row v_script 0 250 (eas_cons (ed_var rfl ⟨_, rfl, ex_l ex h_a_v_script0⟩) (eas_cons (ed_v ev_c) (eas_cons (ed_v ev_c) eas_nil))) ⟨(by walk_at "kside"), (by walk_at "kside")⟩) (congrArg (fun z => D.l (il z)) e_v_row_here_16.symm)) (fun a_15 H13 np_a_15 e14 h_a_15 => ?_)
        have n_a_15 := fresh_back ex np_a_15
        have ne_a_3_a_15 := ne_of_none h_a_3 np_a_15
        have ex := ex.trans e14
        have h_a_3 := e14 _ _ h_a_3
        obtain ⟨v_many_19, e_v_many_19⟩ : ∃ z : Int, z = (1 + ((m_law_cell_at v_script 1) % 3)) := ⟨_, rfl⟩
        refine s_asg (v := .int v_many_19) (ev_is (ev_op ev_c (ev_op (cl__law_cell_at v_script 1 (eas_cons (ed_var rfl ⟨_, rfl, ex_l ex h_a_v_script0⟩) (eas_cons (ed_v ev_c) eas_nil)) (by walk_at "kside")) ev_c (rv_I (by walk_at "kside"))) rv_I0) (congrArg V.int e_v_many_19.symm)) (fun H17 e18 => ?_)
        have ex := ex.trans e18
        have h_a_3 := e18 _ _ h_a_3
        have h_a_15 := e18 _ _ h_a_15
        subst e_v_many_19
        subst e_v_row_here_16
        have hs20 : m_law_J1 v_script v_row_here_4 v_many_7 = ((m_law_row v_script 0 250), (1 + ((m_law_cell_at v_script 1) % 3))) := (Eq.trans (cond_t hb12) rfl)
        exact ⟨_, _, _, hs20, rfl, ex, h_a_15, n_a_15⟩
      ·
        have hq12 := hb12
        (try simp only [Bool.and_eq_true, Bool.or_eq_true, Bool.not_eq_true', Bool.not_eq_false', Bool.and_eq_false_iff, Bool.or_eq_false_iff, decide_eq_true_eq, decide_eq_false_iff_not] at hq12)
        have ex := ex.trans e11
        have h_a_3 := e11 _ _ h_a_3
        have hs21 : m_law_J1 v_script v_row_here_4 v_many_7 = (v_row_here_4, v_many_7) := (Eq.trans (cond_f hb12) rfl)
        exact ⟨_, _, _, hs21, rfl, ex, h_a_3, n_a_3⟩
    ·
      rintro σ' H22 ⟨v_row_here_8, v_many_9, a_v_row_here_8, hj1, rfl, ex, h_a_v_row_here_8, n_a_v_row_here_8⟩
      have e_v_row_here_8 : v_row_here_8 = (m_law_J1 v_script v_row_here_4 v_many_7).1 := (congrArg (fun z => z.1) hj1).symm
      have e_v_many_9 : v_many_9 = (m_law_J1 v_script v_row_here_4 v_many_7).2 := (congrArg (fun z => z.2) hj1).symm
      clear hj1
      have hj : (RowOk v_row_here_8 ∧ v_row_here_8.length ≤ 250) ∧ 1 ≤ v_many_9 ∧ v_many_9 ≤ 12 := by rw [e_v_row_here_8, e_v_many_9]; exact law_J1_ok _ _ _ hj0 hj1
      obtain ⟨⟨hrow0, hrl0⟩, hmany⟩ := hj
      refine q_asgNl (K := K) (xs := il v_row_here_8) (en_list (ed_rep (d := .l (il v_row_here_8)) (ev_var (v := .ref a_v_row_here_8) rfl) ⟨_, rfl, h_a_v_row_here_8⟩)) (fun a_25 H23 np_a_25 e24 h_a_25 => ?_)
      have n_a_25 := fresh_back ex np_a_25
      have ne_a_v_row_here_8_a_25 := ne_of_none h_a_v_row_here_8 np_a_25
      have ex := ex.trans e24
      have h_a_v_row_here_8 := e24 _ _ h_a_v_row_here_8
      refine q_forR1 (n := 2) (ea_cons ev_c ea_nil) (by walk_at "kside") (fun (i : Nat) σ' H' => ∃ (y_v_turn_1 : Option V) (y_v_found_1 : Option V) (v_row_here_27 : List Int) (v_handed_28 : List Int) (a_v_row_here_27 : Addr) (a_v_handed_28 : Addr), first (fun i => (m_law_L1b v_many_9) i (iter (m_law_L1s v_many_9) (v_row_here_8, v_row_here_8) i)) i = none ∧ iter (m_law_L1s v_many_9) (v_row_here_8, v_row_here_8) i = (v_row_here_27, v_handed_28) ∧ σ' = [some (.ref a_v_script), some (.ref a_v_row_here_27), some (.int v_many_9), some (.ref a_v_handed_28), y_v_turn_1, y_v_found_1] ∧ Ex H0 H' ∧ H' a_v_row_here_27 = some (.lst (il v_row_here_27)) ∧ H' a_v_handed_28 = some (.lst (il v_handed_28)) ∧ H0 a_v_row_here_27 = none ∧ H0 a_v_handed_28 = none) (fun H31 e32 => ⟨_, _, _, _, _, _, rfl, rfl, rfl, ex.trans e32, e32 _ _ h_a_v_row_here_8, e32 _ _ h_a_25, n_a_v_row_here_8, n_a_25⟩) ?_ ?_
      ·
        rintro i26 σ' H33 hi_i26 ⟨y_v_turn_1, y_v_found_1, v_row_here_27, v_handed_28, a_v_row_here_27, a_v_handed_28, hst1b, hst1, rfl, ex, h_a_v_row_here_27, h_a_v_handed_28, n_a_v_row_here_27, n_a_v_handed_28⟩
        have hti := law_turn_inv v_many_9 hrow0 hrl0 i26
        rw [hst1] at hti
        have hrow : RowOk v_row_here_27 := hti.1
        have hrl : v_row_here_27.length ≤ 250 := hti.2.1
        have hhd : v_handed_28 = v_row_here_27 := hti.2.2
        have hrow2 : RowOk v_handed_28 := by rw [hhd]; exact hrow
        have hrb := hrow.2.1
        have hsl := law_sums_length v_row_here_27 v_many_9
        obtain ⟨v_found_37, e_v_found_37⟩ : ∃ z : Int × (List Int), z = (m_letter v_handed_28 v_many_9) := ⟨_, rfl⟩
        refine q_asgN (K := K) (d := .p (.v (.int v_found_37.1)) (.t (il v_found_37.2))) (en_is (cl_letter v_handed_28 v_many_9 (eas_cons (ed_rep (d := .l (il v_handed_28)) (ev_var (v := .ref a_v_handed_28) rfl) ⟨_, rfl, h_a_v_handed_28⟩) (eas_cons (ed_v (ev_var rfl)) eas_nil)) ⟨(by walk_at "kside"), (by walk_at "kside")⟩) (congrArg (fun z : Int × (List Int) => (.p (.v (.int z.1)) (.t (il z.2)) : D)) e_v_found_37.symm)) (fun u_a_36 H34 e35 r_a_36 => ?_)
        obtain ⟨a_36, x_a_36, y_a_36, rfl, h_a_36, rfl, ⟨a_39, rfl, h_a_39⟩, nd_a_36⟩ := r_a_36
        have ex := ex.trans e35
        have h_a_v_row_here_27 := e35 _ _ h_a_v_row_here_27
        have h_a_v_handed_28 := e35 _ _ h_a_v_handed_28
        have ne_a_36_a_v_row_here_27 : a_36 ≠ a_v_row_here_27 := ne_of h_a_36 h_a_v_row_here_27 (fun z => by cases z)
        have ne_a_36_a_v_handed_28 : a_36 ≠ a_v_handed_28 := ne_of h_a_36 h_a_v_handed_28 (fun z => by cases z)
        have hfl : v_found_37.2.length = v_many_9.toNat := by rw [e_v_found_37]; exact written_len _ _
        refine q_when (b := false) (et_or (a := false) (b := false) (et_not (et_B (ev_isD (d := .p (.v (.int v_found_37.1)) (.t (il v_found_37.2))) (s := "tuple") (b := true) (ed_rep (d := .p (.v (.int v_found_37.1)) (.t (il v_found_37.2))) (ev_var (v := .ref a_36) rfl) ⟨_, _, _, rfl, h_a_36, rfl, ⟨_, rfl, h_a_39⟩⟩) ev_c rfl (by decide +kernel)))) (fun hg41 => (et_or (a := false) (b := false) (et_test (ev_is (ev_neI (ev_lenP (ed_rep (d := .p (.v (.int v_found_37.1)) (.t (il v_found_37.2))) (ev_var (v := .ref a_36) rfl) ⟨_, _, _, rfl, h_a_36, rfl, ⟨_, rfl, h_a_39⟩⟩)) ev_c) rfl)) (fun hg40 => (et_not (et_B (ev_isD (d := .t (il v_found_37.2)) (s := "tuple") (b := true) (ed_rep (d := .t (il v_found_37.2)) (ev_op (ev_var (v := .ref a_36) rfl) ev_c (rv_ixT (v := V.ref a_39) (st_of h_a_36) rfl)) ⟨_, rfl, h_a_39⟩) ev_c rfl (by decide +kernel)))))))) (fun hdead => ?_) (fun hdead => ?_)
        ·
          cases hdead
        ·
          intro H42 e43
          have ex := ex.trans e43
          have h_a_v_row_here_27 := e43 _ _ h_a_v_row_here_27
          have h_a_v_handed_28 := e43 _ _ h_a_v_handed_28
          have h_a_39 := e43 _ _ h_a_39
          have h_a_36 := e43 _ _ h_a_36
          refine q_when (b := !(m_law_rests ([v_found_37.1] ++ v_found_37.2) ([(v_row_here_27.length : Int)] ++ (m_law_sums v_row_here_27 v_many_9)))) (et_not (et_B (cl__law_rests ([v_found_37.1] ++ v_found_37.2) ([(v_row_here_27.length : Int)] ++ (m_law_sums v_row_here_27 v_many_9)) (eas_cons (EvN.toD (en_cat (EvN.toD (en_ls (vs := il ([v_found_37.1] : List Int)) (ea_cons (ev_op (ev_var (v := .ref a_36) rfl) ev_c (rv_ixT (v := V.int v_found_37.1) (st_of h_a_36) rfl)) ea_nil) (Nat.le_of_ble_eq_true rfl))) (EvN.toD (en_listT (ed_rep (d := .t (il v_found_37.2)) (ev_op (ev_var (v := .ref a_36) rfl) ev_c (rv_ixT (v := V.ref a_39) (st_of h_a_36) rfl)) ⟨_, rfl, h_a_39⟩))) (by walk_at "kside"))) (eas_cons (EvN.toD (en_cat (EvN.toD (en_ls (vs := il ([(v_row_here_27.length : Int)] : List Int)) (ea_cons (ev_lenI (ed_rep (d := .l (il v_row_here_27)) (ev_var (v := .ref a_v_row_here_27) rfl) ⟨_, rfl, h_a_v_row_here_27⟩)) ea_nil) (Nat.le_of_ble_eq_true rfl))) (EvN.toD (cl__law_sums v_row_here_27 v_many_9 (eas_cons (ed_rep (d := .l (il v_row_here_27)) (ev_var (v := .ref a_v_row_here_27) rfl) ⟨_, rfl, h_a_v_row_here_27⟩) (eas_cons (ed_v (ev_var rfl)) eas_nil)) ⟨(by walk_at "kside"), (by walk_at "kside")⟩)) (by walk_at "kside"))) eas_nil)) (by walk_at "kside")))) (fun hb48 H46 e47 => ?_) (fun hb48 H46 e47 => ?_)
          ·
            have hq48 := hb48
            (try simp only [Bool.and_eq_true, Bool.or_eq_true, Bool.not_eq_true', Bool.not_eq_false', Bool.and_eq_false_iff, Bool.or_eq_false_iff, decide_eq_true_eq, decide_eq_false_iff_not] at hq48)
            have ex := ex.trans e47
            have h_a_v_row_here_27 := e47 _ _ h_a_v_row_here_27
            have h_a_v_handed_28 := e47 _ _ h_a_v_handed_28
            have h_a_39 := e47 _ _ h_a_39
            have h_a_36 := e47 _ _ h_a_36
            refine s_ret ev_c (fun H49 e50 => ?_)
            subst e_v_found_37
            have hs53 : (m_law_L1b v_many_9) i26 (v_row_here_27, v_handed_28) = some false := (Eq.trans (cond_t hb48) rfl)
            have hr54 : first (fun i => (m_law_L1b v_many_9) i (iter (m_law_L1s v_many_9) (v_row_here_8, v_row_here_8) i)) ((2 : Int).toNat) = some false := first_some hst1b ((congrArg ((m_law_L1b v_many_9) i26) hst1).trans hs53) (by have := hi_i26; omega)
            subst e_v_many_9
            subst e_v_row_here_8
            subst e_v_many_7
            subst e_v_row_here_4
            exact k _ _ (ex.trans e50) (ret_eq (congrArg (fun z : Bool => (.v (.bl z) : D)) (show m_law v_script = false from (Eq.trans (getd_s hr54) rfl))) rfl)
          ·
            have hq48 := hb48
            (try simp only [Bool.and_eq_true, Bool.or_eq_true, Bool.not_eq_true', Bool.not_eq_false', Bool.and_eq_false_iff, Bool.or_eq_false_iff, decide_eq_true_eq, decide_eq_false_iff_not] at hq48)
            have ex := ex.trans e47
            have h_a_v_row_here_27 := e47 _ _ h_a_v_row_here_27
            have h_a_v_handed_28 := e47 _ _ h_a_v_handed_28
            have h_a_39 := e47 _ _ h_a_39
            have h_a_36 := e47 _ _ h_a_36
            refine q_when (b := !(m_law_rests v_handed_28 v_row_here_27)) (et_not (et_B (cl__law_rests v_handed_28 v_row_here_27 (eas_cons (ed_rep (d := .l (il v_handed_28)) (ev_var (v := .ref a_v_handed_28) rfl) ⟨_, rfl, h_a_v_handed_28⟩) (eas_cons (ed_rep (d := .l (il v_row_here_27)) (ev_var (v := .ref a_v_row_here_27) rfl) ⟨_, rfl, h_a_v_row_here_27⟩) eas_nil)) (by walk_at "kside")))) (fun hb57 H55 e56 => ?_) (fun hb57 H55 e56 => ?_)
            ·
              have hq57 := hb57
              (try simp only [Bool.and_eq_true, Bool.or_eq_true, Bool.not_eq_true', Bool.not_eq_false', Bool.and_eq_false_iff, Bool.or_eq_false_iff, decide_eq_true_eq, decide_eq_false_iff_not] at hq57)
              have ex := ex.trans e56
              have h_a_v_row_here_27 := e56 _ _ h_a_v_row_here_27
              have h_a_v_handed_28 := e56 _ _ h_a_v_handed_28
              have h_a_39 := e56 _ _ h_a_39
              have h_a_36 := e56 _ _ h_a_36
              refine s_ret ev_c (fun H58 e59 => ?_)
              subst e_v_found_37
              have hs62 : (m_law_L1b v_many_9) i26 (v_row_here_27, v_handed_28) = some false := (Eq.trans (cond_f hb48) (Eq.trans (cond_t hb57) rfl))
              have hr63 : first (fun i => (m_law_L1b v_many_9) i (iter (m_law_L1s v_many_9) (v_row_here_8, v_row_here_8) i)) ((2 : Int).toNat) = some false := first_some hst1b ((congrArg ((m_law_L1b v_many_9) i26) hst1).trans hs62) (by have := hi_i26; omega)
              subst e_v_many_9
              subst e_v_row_here_8
              subst e_v_many_7
              subst e_v_row_here_4
              exact k _ _ (ex.trans e59) (ret_eq (congrArg (fun z : Bool => (.v (.bl z) : D)) (show m_law v_script = false from (Eq.trans (getd_s hr63) rfl))) rfl)
            ·
              have hq57 := hb57
              (try simp only [Bool.and_eq_true, Bool.or_eq_true, Bool.not_eq_true', Bool.not_eq_false', Bool.and_eq_false_iff, Bool.or_eq_false_iff, decide_eq_true_eq, decide_eq_false_iff_not] at hq57)
              have ex := ex.trans e56
              have h_a_v_row_here_27 := e56 _ _ h_a_v_row_here_27
              have h_a_v_handed_28 := e56 _ _ h_a_v_handed_28
              have h_a_39 := e56 _ _ h_a_39
              have h_a_36 := e56 _ _ h_a_36
              obtain ⟨v_row_here_67, e_v_row_here_67⟩ : ∃ z : List Int, z = v_row_here_27.reverse := ⟨_, rfl⟩
              refine q_asgNl (K := K) (xs := il v_row_here_67) (en_is (en_listRev (ed_rep (d := .l (il v_row_here_27)) (ev_var (v := .ref a_v_row_here_27) rfl) ⟨_, rfl, h_a_v_row_here_27⟩)) (congrArg (fun z => D.l (il z)) e_v_row_here_67.symm)) (fun a_66 H64 np_a_66 e65 h_a_66 => ?_)
              have n_a_66 := fresh_back ex np_a_66
              have ne_a_v_row_here_27_a_66 := ne_of_none h_a_v_row_here_27 np_a_66
              have ne_a_v_handed_28_a_66 := ne_of_none h_a_v_handed_28 np_a_66
              have ne_a_39_a_66 := ne_of_none h_a_39 np_a_66
              have ne_a_36_a_66 := ne_of_none h_a_36 np_a_66
              have ex := ex.trans e65
              have h_a_v_row_here_27 := e65 _ _ h_a_v_row_here_27
              have h_a_v_handed_28 := e65 _ _ h_a_v_handed_28
              have h_a_39 := e65 _ _ h_a_39
              have h_a_36 := e65 _ _ h_a_36
              refine s_asgNl (K := K) (xs := il v_row_here_67) (en_list (ed_rep (d := .l (il v_row_here_67)) (ev_var (v := .ref a_66) rfl) ⟨_, rfl, h_a_66⟩)) (fun a_70 H68 np_a_70 e69 h_a_70 => ?_)
              have n_a_70 := fresh_back ex np_a_70
              have ne_a_v_row_here_27_a_70 := ne_of_none h_a_v_row_here_27 np_a_70
              have ne_a_v_handed_28_a_70 := ne_of_none h_a_v_handed_28 np_a_70
              have ne_a_39_a_70 := ne_of_none h_a_39 np_a_70
              have ne_a_36_a_70 := ne_of_none h_a_36 np_a_70
              have ne_a_66_a_70 := ne_of_none h_a_66 np_a_70
              have ex := ex.trans e69
              have h_a_v_row_here_27 := e69 _ _ h_a_v_row_here_27
              have h_a_v_handed_28 := e69 _ _ h_a_v_handed_28
              have h_a_39 := e69 _ _ h_a_39
              have h_a_36 := e69 _ _ h_a_36
              have h_a_66 := e69 _ _ h_a_66
              subst e_v_row_here_67
              subst e_v_found_37
              have hs71 : iter (m_law_L1s v_many_9) (v_row_here_8, v_row_here_8) (i26 + 1) = (v_row_here_27.reverse, v_row_here_27.reverse) := (congrArg ((m_law_L1s v_many_9) i26) hst1).trans (Eq.trans (cond_f hb48) (Eq.trans (cond_f hb57) rfl))
              have hs72 : (m_law_L1b v_many_9) i26 (v_row_here_27, v_handed_28) = none := (Eq.trans (cond_f hb48) (Eq.trans (cond_f hb57) rfl))
              exact ⟨_, _, _, _, _, _, first_none hst1b ((congrArg ((m_law_L1b v_many_9) i26) hst1).trans hs72), hs71, rfl, ex, h_a_66, h_a_70, n_a_66, n_a_70⟩
      ·
        rintro σ' H73 ⟨y_v_turn_1, y_v_found_1, v_row_here_27, v_handed_28, a_v_row_here_27, a_v_handed_28, hst1b, hst1, rfl, ex, h_a_v_row_here_27, h_a_v_handed_28, n_a_v_row_here_27, n_a_v_handed_28⟩
        obtain rfl : v_row_here_27 = (m_law_L1 v_row_here_8 v_many_9).1 := (congrArg (fun z => z.1) (show (m_law_L1 v_row_here_8 v_many_9) = _ from hst1)).symm
        obtain rfl : v_handed_28 = (m_law_L1 v_row_here_8 v_many_9).2 := (congrArg (fun z => z.2) (show (m_law_L1 v_row_here_8 v_many_9) = _ from hst1)).symm
        obtain ⟨v_row_here_74, e_v_row_here_74⟩ : ∃ z : List Int, z = ((m_law_L1 v_row_here_8 v_many_9).1) := ⟨_, rfl⟩
        rw [← e_v_row_here_74] at h_a_v_row_here_27
        obtain ⟨v_handed_75, e_v_handed_75⟩ : ∃ z : List Int, z = ((m_law_L1 v_row_here_8 v_many_9).2) := ⟨_, rfl⟩
        rw [← e_v_handed_75] at h_a_v_handed_28
        refine s_ret ev_c (fun H76 e77 => ?_)
        subst e_v_handed_75
        subst e_v_row_here_74
        subst e_v_many_9
        subst e_v_row_here_8
        subst e_v_many_7
        subst e_v_row_here_4
        exact k _ _ (ex.trans e77) (ret_eq (congrArg (fun z : Bool => (.v (.bl z) : D)) (show m_law v_script = true from (Eq.trans (getd_n hst1b) rfl))) rfl)
end
end Pf
namespace Kx
/-! ### rests of 251 -/
theorem mod_l (a b : Int) : (a % 251 + b) % 251 = (a + b) % 251 := by omega
theorem mod_r (a b : Int) : (a + b % 251) % 251 = (a + b) % 251 := by omega
theorem modm_l (a b : Int) : (a % 251 * b) % 251 = (a * b) % 251 := by
  rw [Int.mul_emod, Int.emod_emod, ← Int.mul_emod]
theorem modm_r (a b : Int) : (a * (b % 251)) % 251 = (a * b) % 251 := by
  rw [Int.mul_emod, Int.emod_emod, ← Int.mul_emod]
theorem mod_id {a : Int} (h : 0 ≤ a ∧ a < 251) : a % 251 = a := Int.emod_eq_of_lt h.1 h.2
/-- all the powers added up -/
def evp (p : List Int) (r : Int) : Int := p.foldr (fun n acc => n + r * acc) 0
theorem trim_len_le {xs : List Int} {m : Nat} (h : ∀ n, m ≤ n → co xs n = 0) : (trim xs).length ≤ m := by
  rcases trim_tr xs with e | e
  · rw [e]; exact Nat.zero_le _
  · rcases Nat.lt_or_ge m (trim xs).length with c | c
    · exact absurd ((trim_co xs _).trans (h _ (by omega))) e
    · exact c
theorem take_drop_sum (xs : List Int) (k : Nat) : ((xs.take (k + 1)).drop k).sum = co xs k := by
  induction xs generalizing k with
  | nil => simp [co]
  | cons x xs ih =>
    cases k with
    | zero => simp [co]
    | succ k =>
      rw [List.take_succ_cons, List.drop_succ_cons, ih k, co_succ]
theorem tr_ne {xs : List Int} (t : Tr xs) (h : xs ≠ []) : gl xs ≠ 0 := by
  rcases t with t | t
  · exact absurd t h
  · rw [gl_co h]; exact t
theorem ne_of_len {xs : List Int} (h : 1 ≤ xs.length) : xs ≠ [] := fun e => by
  rw [e] at h
  exact absurd h (by decide)
theorem len_of_ne {xs : List Int} (h : xs ≠ []) : 1 ≤ xs.length := by
  rcases Nat.eq_zero_or_pos xs.length with c | c
  · exact absurd (List.length_eq_zero_iff.mp c) h
  · exact c
end Kx

namespace Pf
open Kx
theorem rests_self (xs : List Int) : m_law_rests xs xs = true := by
  refine (cond_f (by rw [decide_eq_true rfl]; rfl)).trans ?_
  have e : ∀ n, first (m_law_rests_L1b xs xs) n = none := by
    intro n
    induction n with
    | zero => rfl
    | succ n ih =>
      refine first_none ih ?_
      show (bif (!true) || (!decide (gi xs (n : Int) = gi xs (n : Int))) then some false else none) = none
      rw [decide_eq_true rfl]
      rfl
  rw [e]
  rfl
end Pf

namespace Pf
open Kx
/-! ### sums of powers: the law's way and the program's -/
theorem power_succ (x : Int) (i : Nat) : m_power x ((i + 1 : Nat) : Int) = m_power x (i : Int) * x % 251 := rfl
theorem sums_inner (x : Int) (f : List Int) : ∀ i, i ≤ f.length → (iter (m_law_sums_L3s x) ((1, f) : Int × List Int) i).1 = m_power x (i : Int) ∧ ∀ j, co (iter (m_law_sums_L3s x) ((1, f) : Int × List Int) i).2 j = if j < i then (co f j + m_power x ((j + 1 : Nat) : Int)) % 251 else co f j
  | 0, _ => ⟨rfl, fun j => by rw [if_neg (by omega)]; rfl⟩
  | i + 1, hi => by
    obtain ⟨h1, h2⟩ := sums_inner x f i (by omega)
    have hl := law_sums_len3 x f i
    rw [iter_succ]
    generalize hst : iter (m_law_sums_L3s x) ((1, f) : Int × List Int) i = st at h1 h2 hl
    refine ⟨?_, fun j => ?_⟩
    · show st.1 * x % 251 = _
      rw [h1, power_succ]
    · show co (si st.2 (i : Int) ((gi st.2 (i : Int) + st.1 * x % 251) % 251)) j = _
      rw [co_si, Int.toNat_natCast, gi_nat, h1, ← power_succ]
      by_cases c : j = i
      · subst c
        rw [if_pos ⟨rfl, by omega⟩, if_pos (by omega), h2, if_neg (by omega)]
      · rw [if_neg (fun q => c q.1), h2]
        by_cases c2 : j < i
        · rw [if_pos c2, if_pos (by omega)]
        · rw [if_neg c2, if_neg (by omega)]
theorem sums_outer (many : Int) (k : Nat) : ∀ (l f : List Int), f.length = many.toNat → k < many.toNat → (0 ≤ co f k ∧ co f k < 251) → co (l.foldl (m_law_sums_L2s many) f) k = (co f k + (l.map fun x => m_power x ((k + 1 : Nat) : Int)).sum) % 251
  | [], f, _, _, h => by
    show co f k = (co f k + 0) % 251
    rw [Int.add_zero, mod_id h]
  | x :: l, f, hl, hk, h => by
    rw [List.foldl_cons]
    have e : co (m_law_sums_L2s many f x) k = (co f k + m_power x ((k + 1 : Nat) : Int)) % 251 := by
      show co (iter (m_law_sums_L3s x) ((1, f) : Int × List Int) many.toNat).2 k = _
      rw [(sums_inner x f many.toNat (by omega)).2, if_pos hk]
    have hl2 : (m_law_sums_L2s many f x).length = many.toNat := (law_sums_len3 x f many.toNat).trans hl
    rw [sums_outer many k l _ hl2 hk (by rw [e]; omega), e, List.map_cons, List.sum_cons, mod_l, Int.add_assoc]
theorem law_sums_pw (row : List Int) (many : Int) (k : Nat) (hk : k < many.toNat) : co (m_law_sums row many) k = (row.map fun x => m_power x ((k + 1 : Nat) : Int)).sum % 251 := by
  have h0 : iter m_law_sums_L1s [] many.toNat = (List.range many.toNat).map fun _ => (0 : Int) := iter_snoc (f := m_law_sums_L1s) (g := fun _ => 0) (fun _ _ => rfl) _
  show co (row.foldl (m_law_sums_L2s many) (iter m_law_sums_L1s [] many.toNat)) k = _
  have e0 : co (iter m_law_sums_L1s [] many.toNat) k = 0 := by rw [h0, co_map, if_pos hk]
  rw [sums_outer many k row _ (by rw [h0, List.length_map, List.length_range]) hk (by rw [e0]; decide), e0, Int.zero_add]
end Pf

namespace Pf
open Kx
theorem law_sums_co (row : List Int) (many : Int) (k : Nat) (hk : k < many.toNat) : co (m_law_sums row many) k = psum row (1 + (k : Int)) := by
  rw [law_sums_pw row many k hk]
  unfold psum
  rw [show ((k + 1 : Nat) : Int) = 1 + (k : Int) by omega]
theorem written_sums (row : List Int) (many : Int) : (m_written row many).2 = m_law_sums row many := by
  refine list_ext_co (by rw [written_len, law_sums_length]) fun n hn => ?_
  rw [written_len] at hn
  rw [law_sums_co row many n hn, written_eq]
  show co ((List.range many.toNat).map fun (i : Nat) => psum row (1 + (i : Int))) n = _
  rw [co_map, if_pos hn]
end Pf

namespace Pf
open Kx
theorem law_true (ns : List Int) (_ : ns.length ≤ 63) : m_law ns = true := by
  unfold m_law
  dsimp only
  have hj := law_J1_ok ns (m_law_row ns 0 24) (1 + m_law_cell_at ns 1 % 12) (law_row_ok ns 0 24 (by decide)) (by omega)
  generalize m_law_J1 ns (m_law_row ns 0 24) (1 + m_law_cell_at ns 1 % 12) = j at hj
  obtain ⟨row, many⟩ := j
  obtain ⟨⟨hr, hl⟩, hm⟩ := hj
  dsimp only at hr hl
  dsimp only
  have hk : ∀ i, m_law_L1b many i (iter (m_law_L1s many) ((row, row) : List Int × List Int) i) = none := fun i => by
    obtain ⟨_, _, h3⟩ := law_turn_inv many hr hl i
    generalize iter (m_law_L1s many) ((row, row) : List Int × List Int) i = st at h3
    obtain ⟨a, b⟩ := st
    dsimp only at h3
    subst h3
    unfold m_law_L1b
    dsimp only
    have e : ([(m_letter b many).1] ++ (m_letter b many).2) = ([(b.length : Int)] ++ (m_law_sums b many)) := by
      show [(m_written b many).1] ++ (m_written b many).2 = _
      rw [written_sums, written_eq]
    rw [e, rests_self, rests_self]
    rfl
  have e : first (fun i => (m_law_L1b many) i (iter (m_law_L1s many) ((row, row) : List Int × List Int) i)) ((2 : Int).toNat) = none := first_none (first_none rfl (hk _)) (hk _)
  rw [e]
  rfl
end Pf

namespace Pf
open PySem PySem.Spec PyProof.Rows L2 Evl Kx
theorem all_mk {l : PySem.W.OpenLaw} {w : World} {K : PySem.W.Frag} {h : Heap} {mg : Str → Option Value} {fl f0 f1 f2 f3 f4 f5 f6 f7 f8 f9 f10 f11 : Addr} (X : K.In h) (G : h.Ns mainGlobals mg) (hfa : mg "law" = some (.ref fl))
    {od0 an0 : Option Addr} {sl0 : Array (Option Value)} {oc0 kV0 dc0 pm0 cd0 ct0 : Value}
    {od1 an1 : Option Addr} {sl1 : Array (Option Value)} {oc1 kV1 dc1 pm1 cd1 ct1 : Value}
    {od2 an2 : Option Addr} {sl2 : Array (Option Value)} {oc2 kV2 dc2 pm2 cd2 ct2 : Value}
    {od3 an3 : Option Addr} {sl3 : Array (Option Value)} {oc3 kV3 dc3 pm3 cd3 ct3 : Value}
    {od4 an4 : Option Addr} {sl4 : Array (Option Value)} {oc4 kV4 dc4 pm4 cd4 ct4 : Value}
    {od5 an5 : Option Addr} {sl5 : Array (Option Value)} {oc5 kV5 dc5 pm5 cd5 ct5 : Value}
    {od6 an6 : Option Addr} {sl6 : Array (Option Value)} {oc6 kV6 dc6 pm6 cd6 ct6 : Value}
    {od7 an7 : Option Addr} {sl7 : Array (Option Value)} {oc7 kV7 dc7 pm7 cd7 ct7 : Value}
    {od8 an8 : Option Addr} {sl8 : Array (Option Value)} {oc8 kV8 dc8 pm8 cd8 ct8 : Value}
    {od9 an9 : Option Addr} {sl9 : Array (Option Value)} {oc9 kV9 dc9 pm9 cd9 ct9 : Value}
    {od10 an10 : Option Addr} {sl10 : Array (Option Value)} {oc10 kV10 dc10 pm10 cd10 ct10 : Value}
    {od11 an11 : Option Addr} {sl11 : Array (Option Value)} {oc11 kV11 dc11 pm11 cd11 ct11 : Value}
    (a0 : PySem.W.nsIn K mainGlobals "_law_cell_at" = some (some (.ref f0)))
    (l0 : K.lookup f0 = some ⟨oc0, od0, .func (PySem.W.fnOf "_law_cell_at" "_law_cell_at" (defArgs s__law_cell_at) (defBody s__law_cell_at) (defScope s__law_cell_at) .none kV0 dc0 pm0 an0 cd0 ct0), sl0⟩)
    (c0 : PySem.W.codeIn K cd0 "_law_cell_at" = true) (k0 : PySem.W.keepIn K (.ref f0) = true)
    (a1 : PySem.W.nsIn K mainGlobals "_law_row" = some (some (.ref f1)))
    (l1 : K.lookup f1 = some ⟨oc1, od1, .func (PySem.W.fnOf "_law_row" "_law_row" (defArgs s__law_row) (defBody s__law_row) (defScope s__law_row) .none kV1 dc1 pm1 an1 cd1 ct1), sl1⟩)
    (c1 : PySem.W.codeIn K cd1 "_law_row" = true) (k1 : PySem.W.keepIn K (.ref f1) = true)
    (a2 : PySem.W.nsIn K mainGlobals "is_number" = some (some (.ref f2)))
    (l2 : K.lookup f2 = some ⟨oc2, od2, .func (PySem.W.fnOf "is_number" "is_number" (defArgs s_is_number) (defBody s_is_number) (defScope s_is_number) .none kV2 dc2 pm2 an2 cd2 ct2), sl2⟩)
    (c2 : PySem.W.codeIn K cd2 "is_number" = true) (k2 : PySem.W.keepIn K (.ref f2) = true)
    (a3 : PySem.W.nsIn K mainGlobals "need_row" = some (some (.ref f3)))
    (l3 : K.lookup f3 = some ⟨oc3, od3, .func (PySem.W.fnOf "need_row" "need_row" (defArgs s_need_row) (defBody s_need_row) (defScope s_need_row) .none kV3 dc3 pm3 an3 cd3 ct3), sl3⟩)
    (c3 : PySem.W.codeIn K cd3 "need_row" = true) (k3 : PySem.W.keepIn K (.ref f3) = true)
    (a4 : PySem.W.nsIn K mainGlobals "need_count" = some (some (.ref f4)))
    (l4 : K.lookup f4 = some ⟨oc4, od4, .func (PySem.W.fnOf "need_count" "need_count" (defArgs s_need_count) (defBody s_need_count) (defScope s_need_count) .none kV4 dc4 pm4 an4 cd4 ct4), sl4⟩)
    (c4 : PySem.W.codeIn K cd4 "need_count" = true) (k4 : PySem.W.keepIn K (.ref f4) = true)
    (a5 : PySem.W.nsIn K mainGlobals "power" = some (some (.ref f5)))
    (l5 : K.lookup f5 = some ⟨oc5, od5, .func (PySem.W.fnOf "power" "power" (defArgs s_power) (defBody s_power) (defScope s_power) .none kV5 dc5 pm5 an5 cd5 ct5), sl5⟩)
    (c5 : PySem.W.codeIn K cd5 "power" = true) (k5 : PySem.W.keepIn K (.ref f5) = true)
    (a6 : PySem.W.nsIn K mainGlobals "written" = some (some (.ref f6)))
    (l6 : K.lookup f6 = some ⟨oc6, od6, .func (PySem.W.fnOf "written" "written" (defArgs s_written) (defBody s_written) (defScope s_written) .none kV6 dc6 pm6 an6 cd6 ct6), sl6⟩)
    (c6 : PySem.W.codeIn K cd6 "written" = true) (k6 : PySem.W.keepIn K (.ref f6) = true)
    (a7 : PySem.W.nsIn K mainGlobals "letter" = some (some (.ref f7)))
    (l7 : K.lookup f7 = some ⟨oc7, od7, .func (PySem.W.fnOf "letter" "letter" (defArgs s_letter) (defBody s_letter) (defScope s_letter) .none kV7 dc7 pm7 an7 cd7 ct7), sl7⟩)
    (c7 : PySem.W.codeIn K cd7 "letter" = true) (k7 : PySem.W.keepIn K (.ref f7) = true)
    (a8 : PySem.W.nsIn K mainGlobals "_law_whole" = some (some (.ref f8)))
    (l8 : K.lookup f8 = some ⟨oc8, od8, .func (PySem.W.fnOf "_law_whole" "_law_whole" (defArgs s__law_whole) (defBody s__law_whole) (defScope s__law_whole) .none kV8 dc8 pm8 an8 cd8 ct8), sl8⟩)
    (c8 : PySem.W.codeIn K cd8 "_law_whole" = true) (k8 : PySem.W.keepIn K (.ref f8) = true)
    (a9 : PySem.W.nsIn K mainGlobals "_law_rests" = some (some (.ref f9)))
    (l9 : K.lookup f9 = some ⟨oc9, od9, .func (PySem.W.fnOf "_law_rests" "_law_rests" (defArgs s__law_rests) (defBody s__law_rests) (defScope s__law_rests) .none kV9 dc9 pm9 an9 cd9 ct9), sl9⟩)
    (c9 : PySem.W.codeIn K cd9 "_law_rests" = true) (k9 : PySem.W.keepIn K (.ref f9) = true)
    (a10 : PySem.W.nsIn K mainGlobals "_law_sums" = some (some (.ref f10)))
    (l10 : K.lookup f10 = some ⟨oc10, od10, .func (PySem.W.fnOf "_law_sums" "_law_sums" (defArgs s__law_sums) (defBody s__law_sums) (defScope s__law_sums) .none kV10 dc10 pm10 an10 cd10 ct10), sl10⟩)
    (c10 : PySem.W.codeIn K cd10 "_law_sums" = true) (k10 : PySem.W.keepIn K (.ref f10) = true)
    (a11 : PySem.W.nsIn K mainGlobals "law" = some (some (.ref f11)))
    (l11 : K.lookup f11 = some ⟨oc11, od11, .func (PySem.W.fnOf "law" "law" (defArgs s_law) (defBody s_law) (defScope s_law) .none kV11 dc11 pm11 an11 cd11 ct11), sl11⟩)
    (c11 : PySem.W.codeIn K cd11 "law" = true) (k11 : PySem.W.keepIn K (.ref f11) = true)
    (z_bool : PySem.W.nsIn K mainGlobals "bool" = some none)
    (z_int : PySem.W.nsIn K mainGlobals "int" = some none)
    (z_isinstance : PySem.W.nsIn K mainGlobals "isinstance" = some none)
    (z_len : PySem.W.nsIn K mainGlobals "len" = some none)
    (z_list : PySem.W.nsIn K mainGlobals "list" = some none)
    (z_range : PySem.W.nsIn K mainGlobals "range" = some none)
    (z_reversed : PySem.W.nsIn K mainGlobals "reversed" = some none)
    (z_sum : PySem.W.nsIn K mainGlobals "sum" = some none)
    (z_tuple : PySem.W.nsIn K mainGlobals "tuple" = some none)
    {tMOST_SUMS : Tok} (v_MOST_SUMS : PySem.W.nsIn K mainGlobals "MOST_SUMS" = some (some (.int 12 tMOST_SUMS)))
    {tPRIME : Tok} (v_PRIME : PySem.W.nsIn K mainGlobals "PRIME" = some (some (.int 251 tPRIME))) :
    ∃ fd : FuncData, (∀ (s : Shared) (v : Value), BindsTo s fd ⟨[v], []⟩ [("_law_script", v)]) ∧ ∀ base : Heap, K.In base → base.Ns mainGlobals mg → FnOk l.prog w K mg base CX0 4 fl fd ["_law_script"] (sp_law K) := by
  have e := hfa.symm.trans (PySem.W.mg_of X G a11)
  cases e
  have F0 := fun_mk (st := s__law_cell_at) l0 c0 k0
  have b0 := F0.binds (ps := ["_law_script", "_law_k"]) fun _ _ _ _ _ _ us hl => match us, hl with | [_, _], _ => rfl
  have F1 := fun_mk (st := s__law_row) l1 c1 k1
  have b1 := F1.binds (ps := ["_law_script", "_law_at", "_law_most"]) fun _ _ _ _ _ _ us hl => match us, hl with | [_, _, _], _ => rfl
  have F2 := fun_mk (st := s_is_number) l2 c2 k2
  have b2 := F2.binds (ps := ["thing", "least", "most"]) fun _ _ _ _ _ _ us hl => match us, hl with | [_, _, _], _ => rfl
  have F3 := fun_mk (st := s_need_row) l3 c3 k3
  have b3 := F3.binds (ps := ["row"]) fun _ _ _ _ _ _ us hl => match us, hl with | [_], _ => rfl
  have F4 := fun_mk (st := s_need_count) l4 c4 k4
  have b4 := F4.binds (ps := ["many"]) fun _ _ _ _ _ _ us hl => match us, hl with | [_], _ => rfl
  have F5 := fun_mk (st := s_power) l5 c5 k5
  have b5 := F5.binds (ps := ["rest", "many"]) fun _ _ _ _ _ _ us hl => match us, hl with | [_, _], _ => rfl
  have F6 := fun_mk (st := s_written) l6 c6 k6
  have b6 := F6.binds (ps := ["row", "many"]) fun _ _ _ _ _ _ us hl => match us, hl with | [_, _], _ => rfl
  have F7 := fun_mk (st := s_letter) l7 c7 k7
  have b7 := F7.binds (ps := ["row", "many"]) fun _ _ _ _ _ _ us hl => match us, hl with | [_, _], _ => rfl
  have F8 := fun_mk (st := s__law_whole) l8 c8 k8
  have b8 := F8.binds (ps := ["_law_found"]) fun _ _ _ _ _ _ us hl => match us, hl with | [_], _ => rfl
  have F9 := fun_mk (st := s__law_rests) l9 c9 k9
  have b9 := F9.binds (ps := ["_law_found", "_law_due"]) fun _ _ _ _ _ _ us hl => match us, hl with | [_, _], _ => rfl
  have F10 := fun_mk (st := s__law_sums) l10 c10 k10
  have b10 := F10.binds (ps := ["_law_row_here", "_law_many"]) fun _ _ _ _ _ _ us hl => match us, hl with | [_, _], _ => rfl
  have F11 := fun_mk (st := s_law) l11 c11 k11
  have b11 := F11.binds (ps := ["_law_script"]) fun _ _ _ _ _ _ us hl => match us, hl with | [_], _ => rfl
  have T : Txt K mg (fun i => [f0, f1, f2, f3, f4, f5, f6, f7, f8, f9, f10, fl].getD i f0) (fun i => [(PySem.W.fnOf "_law_cell_at" "_law_cell_at" (defArgs s__law_cell_at) (defBody s__law_cell_at) (defScope s__law_cell_at) .none kV0 dc0 pm0 an0 cd0 ct0),
      (PySem.W.fnOf "_law_row" "_law_row" (defArgs s__law_row) (defBody s__law_row) (defScope s__law_row) .none kV1 dc1 pm1 an1 cd1 ct1),
      (PySem.W.fnOf "is_number" "is_number" (defArgs s_is_number) (defBody s_is_number) (defScope s_is_number) .none kV2 dc2 pm2 an2 cd2 ct2),
      (PySem.W.fnOf "need_row" "need_row" (defArgs s_need_row) (defBody s_need_row) (defScope s_need_row) .none kV3 dc3 pm3 an3 cd3 ct3),
      (PySem.W.fnOf "need_count" "need_count" (defArgs s_need_count) (defBody s_need_count) (defScope s_need_count) .none kV4 dc4 pm4 an4 cd4 ct4),
      (PySem.W.fnOf "power" "power" (defArgs s_power) (defBody s_power) (defScope s_power) .none kV5 dc5 pm5 an5 cd5 ct5),
      (PySem.W.fnOf "written" "written" (defArgs s_written) (defBody s_written) (defScope s_written) .none kV6 dc6 pm6 an6 cd6 ct6),
      (PySem.W.fnOf "letter" "letter" (defArgs s_letter) (defBody s_letter) (defScope s_letter) .none kV7 dc7 pm7 an7 cd7 ct7),
      (PySem.W.fnOf "_law_whole" "_law_whole" (defArgs s__law_whole) (defBody s__law_whole) (defScope s__law_whole) .none kV8 dc8 pm8 an8 cd8 ct8),
      (PySem.W.fnOf "_law_rests" "_law_rests" (defArgs s__law_rests) (defBody s__law_rests) (defScope s__law_rests) .none kV9 dc9 pm9 an9 cd9 ct9),
      (PySem.W.fnOf "_law_sums" "_law_sums" (defArgs s__law_sums) (defBody s__law_sums) (defScope s__law_sums) .none kV10 dc10 pm10 an10 cd10 ct10),
      (PySem.W.fnOf "law" "law" (defArgs s_law) (defBody s_law) (defScope s_law) .none kV11 dc11 pm11 an11 cd11 ct11)].getD i (PySem.W.fnOf "_law_cell_at" "_law_cell_at" (defArgs s__law_cell_at) (defBody s__law_cell_at) (defScope s__law_cell_at) .none kV0 dc0 pm0 an0 cd0 ct0)) :=
    ⟨F0, b0, PySem.W.mg_of X G a0, F1, b1, PySem.W.mg_of X G a1, F2, b2, PySem.W.mg_of X G a2, F3, b3, PySem.W.mg_of X G a3, F4, b4, PySem.W.mg_of X G a4, F5, b5, PySem.W.mg_of X G a5, F6, b6, PySem.W.mg_of X G a6, F7, b7, PySem.W.mg_of X G a7, F8, b8, PySem.W.mg_of X G a8, F9, b9, PySem.W.mg_of X G a9, F10, b10, PySem.W.mg_of X G a10, F11, b11, PySem.W.mg_of X G a11, PySem.W.mg_none_of X G z_bool, PySem.W.mg_none_of X G z_int, PySem.W.mg_none_of X G z_isinstance, PySem.W.mg_none_of X G z_len, PySem.W.mg_none_of X G z_list, PySem.W.mg_none_of X G z_range, PySem.W.mg_none_of X G z_reversed, PySem.W.mg_none_of X G z_sum, PySem.W.mg_none_of X G z_tuple, ⟨_, PySem.W.mg_of X G v_MOST_SUMS⟩, ⟨_, PySem.W.mg_of X G v_PRIME⟩⟩
  exact ⟨(PySem.W.fnOf "law" "law" (defArgs s_law) (defBody s_law) (defScope s_law) .none kV11 dc11 pm11 an11 cd11 ct11), fun s v => .of_eq rfl, fun base _ _ => ok_law (P := l.prog) (w := w) (base := base) T⟩
end Pf
open PySem PySem.W PyProof.Rows
set_option maxHeartbeats 0 in
theorem PySem.Challenge.cw_sumsync_k05_letters_holds : PySem.Challenge.rw_sumsync_k05_letters.Holds := by
  w_on; o_law; k_head; (case hw => w_witness2)
  k_fill
  refine L2.walk_of (l := PySem.Challenge.rw_sumsync_k05_letters) (n := 63) (k := 4) (x := "_law_script") (CX := fun _ => L2.CX0) (sp := fun w => Pf.sp_law _) rfl (by decide) rfl ⟨rfl, by decide, by decide⟩ (fun w h Y => PySem.W.kIn_of Y) ?F (fun _ _ a ns hl _ hS => ⟨ns, .cons ⟨a, rfl, hS⟩ .nil, hl, fun u H' _ hn => (show u = _ from hn).trans (congrArg L2.V.bl (Pf.law_true ns hl))⟩) (fun _ _ _ _ _ h => h)
  case F =>
    intro w mg fa h KX G hmg
    refine' Pf.all_mk KX G hmg ?a0 ?l0 ?c0 ?k0 ?a1 ?l1 ?c1 ?k1 ?a2 ?l2 ?c2 ?k2 ?a3 ?l3 ?c3 ?k3 ?a4 ?l4 ?c4 ?k4 ?a5 ?l5 ?c5 ?k5 ?a6 ?l6 ?c6 ?k6 ?a7 ?l7 ?c7 ?k7 ?a8 ?l8 ?c8 ?k8 ?a9 ?l9 ?c9 ?k9 ?a10 ?l10 ?c10 ?k10 ?a11 ?l11 ?c11 ?k11 ?z_bool ?z_int ?z_isinstance ?z_len ?z_list ?z_range ?z_reversed ?z_sum ?z_tuple ?v_MOST_SUMS ?v_PRIME
    (case a0 => k_is); (case l0 => k_is); (case c0 => k_is); (case k0 => k_is); (case a1 => k_is); (case l1 => k_is)
    (case c1 => k_is); (case k1 => k_is); (case a2 => k_is); (case l2 => k_is); (case c2 => k_is); (case k2 => k_is)
    (case a3 => k_is); (case l3 => k_is); (case c3 => k_is); (case k3 => k_is); (case a4 => k_is); (case l4 => k_is)
    (case c4 => k_is); (case k4 => k_is); (case a5 => k_is); (case l5 => k_is); (case c5 => k_is); (case k5 => k_is)
    (case a6 => k_is); (case l6 => k_is); (case c6 => k_is); (case k6 => k_is); (case a7 => k_is); (case l7 => k_is)
    (case c7 => k_is); (case k7 => k_is); (case a8 => k_is); (case l8 => k_is); (case c8 => k_is); (case k8 => k_is)
    (case a9 => k_is); (case l9 => k_is); (case c9 => k_is); (case k9 => k_is); (case a10 => k_is); (case l10 => k_is)
    (case c10 => k_is); (case k10 => k_is); (case a11 => k_is); (case l11 => k_is); (case c11 => k_is); (case k11 => k_is)
    (case z_bool => k_is); (case z_int => k_is); (case z_isinstance => k_is); (case z_len => k_is); (case z_list => k_is); (case z_range => k_is)
    (case z_reversed => k_is); (case z_sum => k_is); (case z_tuple => k_is); (case v_MOST_SUMS => k_is); (case v_PRIME => k_is)
