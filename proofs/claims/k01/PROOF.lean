import PyProof.Rows.All
import Wide.All
import OpenK.AllK
import Wide.FinOn
import HandS.ForMost
import HandS.Evl
import HandS.IsInst
import HandS.SortInts
import HandS.Style
import HandS.Rev
import KE.KSortedM
import PySem.Challenge.RW_sumsync_k01_rests
set_option Elab.async false
set_option linter.all false
set_option maxRecDepth 100000
set_option maxHeartbeats 4000000
/-! Own layer over the readings: data, calls, lists of whole numbers. -/
namespace Kx
open PySem PySem.Spec PyProof.Rows L2 Evl

/-- what a value stands for -/
inductive D where
  | v (x : V)
  | l (xs : List V)
  | t (xs : List V)
  | p (a b : D)
  | ll (xss : List (List V))
  | s (xs : List V)

def D.rep (K : PySem.W.Frag) : D → V → Hp → Prop
  | .v x, u, _ => u = x
  | .l xs, u, H => ∃ a, u = .ref a ∧ H a = some (.lst xs)
  | .t xs, u, H => ∃ a, u = .ref a ∧ H a = some (.tup xs)
  | .p d e, u, H => ∃ a x y, u = .ref a ∧ H a = some (.tup [x, y]) ∧ d.rep K x H ∧ e.rep K y H
  | .ll xss, u, H => ∃ a ps, u = .ref a ∧ H a = some (.lst (ps.map V.ref)) ∧ Paired (fun q xs => H q = some (.lst xs)) ps xss
  | .s xs, u, H => ∃ a, u = .ref a ∧ SqL K H a xs

/-- .. made anew behind H0 -/
def D.new (K : PySem.W.Frag) (H0 : Hp) : D → V → Hp → Prop
  | .v x, u, _ => u = x
  | .l xs, u, H => ∃ a, u = .ref a ∧ H0 a = none ∧ H a = some (.lst xs)
  | .t xs, u, H => ∃ a, u = .ref a ∧ H a = some (.tup xs)
  | .p d e, u, H => ∃ a x y, u = .ref a ∧ H a = some (.tup [x, y]) ∧ d.new K H0 x H ∧ e.new K H0 y H ∧ (∀ b, x = .ref b → y ≠ .ref b)
  | .ll xss, u, H => ∃ a ps, u = .ref a ∧ H0 a = none ∧ H a = some (.lst (ps.map V.ref)) ∧ (a :: ps).Nodup ∧ Paired (fun q xs => H0 q = none ∧ H q = some (.lst xs)) ps xss
  | .s xs, u, H => ∃ a, u = .ref a ∧ SqL K H a xs

theorem paired_imp {α β : Type} {F G : α → β → Prop} (h : ∀ a b, F a b → G a b) : ∀ {l : List α} {m : List β}, Paired F l m → Paired G l m
  | _, _, .nil => .nil
  | _, _, .cons a b => .cons (h _ _ a) (paired_imp h b)

section
variable {K : PySem.W.Frag} {H0 H H' H1 H2 : Hp}
theorem D.mono (e : Ex H H') : ∀ {d : D} {u : V}, d.rep K u H → d.rep K u H'
  | .v _, _, h => h
  | .l _, _, ⟨a, h1, h2⟩ => ⟨a, h1, e _ _ h2⟩
  | .t _, _, ⟨a, h1, h2⟩ => ⟨a, h1, e _ _ h2⟩
  | .p _ _, _, ⟨a, x, y, h1, h2, h3, h4⟩ => ⟨a, x, y, h1, e _ _ h2, D.mono e h3, D.mono e h4⟩
  | .ll _, _, ⟨a, ps, h1, h2, h3⟩ => ⟨a, ps, h1, e _ _ h2, paired_imp (fun _ _ q => e _ _ q) h3⟩
  | .s _, _, ⟨a, h1, h2⟩ => ⟨a, h1, ex_l e h2⟩
theorem D.nrep : ∀ {d : D} {u : V}, d.new K H0 u H → d.rep K u H
  | .v _, _, h => h
  | .l _, _, ⟨a, h1, _, h2⟩ => ⟨a, h1, h2⟩
  | .t _, _, ⟨a, h1, h2⟩ => ⟨a, h1, h2⟩
  | .p _ _, _, ⟨a, x, y, h1, h2, h3, h4, _⟩ => ⟨a, x, y, h1, h2, D.nrep h3, D.nrep h4⟩
  | .ll _, _, ⟨a, ps, h1, _, h2, _, h3⟩ => ⟨a, ps, h1, h2, paired_imp (fun _ _ q => q.2) h3⟩
  | .s _, _, ⟨a, h1, h2⟩ => ⟨a, h1, h2⟩
theorem D.nmono (e : Ex H H') : ∀ {d : D} {u : V}, d.new K H0 u H → d.new K H0 u H'
  | .v _, _, h => h
  | .l _, _, ⟨a, h1, n, h2⟩ => ⟨a, h1, n, e _ _ h2⟩
  | .t _, _, ⟨a, h1, h2⟩ => ⟨a, h1, e _ _ h2⟩
  | .p _ _, _, ⟨a, x, y, h1, h2, h3, h4, n⟩ => ⟨a, x, y, h1, e _ _ h2, D.nmono e h3, D.nmono e h4, n⟩
  | .ll _, _, ⟨a, ps, h1, n, h2, m, h3⟩ => ⟨a, ps, h1, n, e _ _ h2, m, paired_imp (fun _ _ q => ⟨q.1, e _ _ q.2⟩) h3⟩
  | .s _, _, ⟨a, h1, h2⟩ => ⟨a, h1, ex_l e h2⟩
theorem D.nback (e : Ex H0 H1) : ∀ {d : D} {u : V}, d.new K H1 u H → d.new K H0 u H
  | .v _, _, h => h
  | .l _, _, ⟨a, h1, n, h2⟩ => ⟨a, h1, fresh_back e n, h2⟩
  | .t _, _, ⟨a, h1, h2⟩ => ⟨a, h1, h2⟩
  | .p _ _, _, ⟨a, x, y, h1, h2, h3, h4, n⟩ => ⟨a, x, y, h1, h2, D.nback e h3, D.nback e h4, n⟩
  | .ll _, _, ⟨a, ps, h1, n, h2, m, h3⟩ => ⟨a, ps, h1, fresh_back e n, h2, m, paired_imp (fun _ _ q => ⟨fresh_back e q.1, q.2⟩) h3⟩
  | .s _, _, ⟨a, h1, h2⟩ => ⟨a, h1, h2⟩
end

/-- te gives something that stands for d | .. made anew -/
def EvD (K : PySem.W.Frag) (te : TE) (σ : L2.St) (H : Hp) (d : D) : Prop := ∀ H1, Ex H H1 → ∀ Q : VK, (∀ u H2, Ex H1 H2 → d.rep K u H2 → Q u H2) → te σ H1 Q
def EvN (K : PySem.W.Frag) (te : TE) (σ : L2.St) (H : Hp) (d : D) : Prop := ∀ H1, Ex H H1 → ∀ Q : VK, (∀ u H2, Ex H1 H2 → d.new K H1 u H2 → Q u H2) → te σ H1 Q
def Reps (K : PySem.W.Frag) (H : Hp) : List V → List D → Prop := Paired fun u d => d.rep K u H
def EvAs (K : PySem.W.Frag) (ta : TA) (σ : L2.St) (H : Hp) (ds : List D) : Prop := ∀ H1, Ex H H1 → ∀ Q : List V → Hp → Prop, (∀ us H2, Ex H1 H2 → Reps K H2 us ds → Q us H2) → ta σ H1 Q

section
variable {K : PySem.W.Frag} {σ : L2.St} {H H' : Hp} {ta tb te tx : TE} {t u : TT} {x y z : V} {d e : D} {D' : Ends} {tz tu : TS}
theorem EvN.toD (h : EvN K te σ H d) : EvD K te σ H d := fun H1 e Q q => h H1 e Q fun u H2 e2 r => q u H2 e2 (D.nrep r)
theorem EvD.mono (e : Ex H H') (h : EvD K te σ H d) : EvD K te σ H' d := fun H1 a Q q => h H1 (e.trans a) Q q
theorem EvN.mono (e : Ex H H') (h : EvN K te σ H d) : EvN K te σ H' d := fun H1 a Q q => h H1 (e.trans a) Q q
theorem ed_v (h : Ev te σ H x) : EvD K te σ H (.v x) := fun H1 e Q q => h H1 e Q fun H2 e2 => q x H2 e2 rfl
theorem en_v (h : Ev te σ H x) : EvN K te σ H (.v x) := fun H1 e Q q => h H1 e Q fun H2 e2 => q x H2 e2 rfl
theorem ev_of (h : EvD K te σ H (.v x)) : Ev te σ H x := fun H1 e Q q => h H1 e Q fun u H2 e2 r => by
  have r' : u = x := r
  rw [r']
  exact q H2 e2
theorem ev_ofN (h : EvN K te σ H (.v x)) : Ev te σ H x := ev_of h.toD
theorem ed_var {i : Nat} (h : σ[i]? = some (some x)) (r : d.rep K x H) : EvD K (tVar i) σ H d := fun H1 e _ q => ⟨x, h, q x H1 (Ex.refl H1) (D.mono e r)⟩
theorem ed_ref {a : Addr} {xs : List V} (h : Ev te σ H (.ref a)) (r : H a = some (.lst xs)) : EvD K te σ H (.l xs) := fun H1 e _ q => h H1 e _ fun H2 e2 => q _ H2 e2 ⟨a, rfl, e2 _ _ (e _ _ r)⟩
theorem eas_nil : EvAs K tNil σ H [] := fun H1 _ _ q => q [] H1 (Ex.refl H1) .nil
theorem eas_cons {tr : TA} {ds : List D} (h : EvD K te σ H d) (hr : EvAs K tr σ H ds) : EvAs K (tCons te tr) σ H (d :: ds) := fun H1 e _ q =>
  h H1 e _ fun u H2 e2 r => hr H2 (e.trans e2) _ fun us H3 e3 rs => q (u :: us) H3 (e2.trans e3) (.cons (D.mono e3 r) rs)
theorem ea_of (h : Ev te σ H x) : EvA (tCons te tNil) σ H [x] := ea_cons h ea_nil

/-- the promises' shape -/
def spG (K : PySem.W.Frag) {α : Type} (args : α → List D) (pre : α → Prop) (res : α → D) : Sp := fun vs H Q _ => ∃ a : α, Reps K H vs (args a) ∧ pre a ∧ ∀ u H', Ex H H' → (res a).new K H u H' → Q u H'
theorem en_call {α : Type} {args : α → List D} {pre : α → Prop} {res : α → D} {ta : TA} {E : XK} (a : α) (h : EvAs K ta σ H (args a)) (hp : pre a) : EvN K (tCall (spG K args pre res) [] E ta) σ H (res a) := fun H1 e Q q =>
  h H1 e _ fun us H2 e2 r => ⟨a, by rw [List.append_nil]; exact r, hp, fun u H3 e3 n => q u H3 (e2.trans e3) (D.nback e2 n)⟩

/-! ### lists -/
abbrev il (xs : List Int) : List V := xs.map V.int
/-- the number at a place -/
def gi (xs : List Int) (i : Int) : Int := xs.getD i.toNat 0
theorem gi_at {xs : List Int} {i : Int} (h0 : 0 ≤ i) (h1 : i < xs.length) : atI (il xs) i = some (.int (gi xs i)) := by
  have hj : i.toNat < xs.length := by omega
  refine at_of (j := i.toNat) (by omega) ?_
  rw [List.getElem?_map, List.getElem?_eq_getElem hj]
  show some (V.int xs[i.toNat]) = some (V.int (xs.getD i.toNat 0))
  rw [List.getD_eq_getElem?_getD, List.getElem?_eq_getElem hj]
  rfl
theorem gi_get {xs : List Int} {i : Nat} {v : Int} (h : xs[i]? = some v) : gi xs (i : Int) = v := by
  unfold gi
  rw [Int.toNat_natCast, List.getD_eq_getElem?_getD, h]
  rfl
theorem ev_len (h : EvD K te σ H (.l xs)) : Ev (tCB (rLenS K) (tCons te tNil)) σ H (.int (xs.length : Int)) := fun H1 e Q q =>
  h H1 e _ fun u H2 e2 ⟨a, hu, ha⟩ => ⟨a, xs, by rw [hu], .inl (sq_of ha), q H2 e2⟩
theorem ev_lenI {ns : List Int} (h : EvD K te σ H (.l (il ns))) : Ev (tCB (rLenS K) (tCons te tNil)) σ H (.int (ns.length : Int)) := by
  have g := ev_len h
  rw [List.length_map] at g
  exact g
theorem ev_lenT (h : EvD K te σ H (.t xs)) : Ev (tCB (rLenS K) (tCons te tNil)) σ H (.int (xs.length : Int)) := fun H1 e Q q =>
  h H1 e _ fun u H2 e2 ⟨a, hu, ha⟩ => ⟨a, xs, by rw [hu], .inr (st_of ha), q H2 e2⟩
theorem ev_lenTI {ns : List Int} (h : EvD K te σ H (.t (il ns))) : Ev (tCB (rLenS K) (tCons te tNil)) σ H (.int (ns.length : Int)) := by
  have g := ev_lenT h
  rw [List.length_map] at g
  exact g
theorem ev_lenP {d e : D} (h : EvD K te σ H (.p d e)) : Ev (tCB (rLenS K) (tCons te tNil)) σ H (.int 2) := fun H1 e Q q =>
  h H1 e _ fun u H2 e2 ⟨a, x, y, hu, ha, _⟩ => ⟨a, [x, y], by rw [hu], .inr (st_of ha), q H2 e2⟩
theorem ev_lenS {ns : List Int} (h : EvD K te σ H (.s (il ns))) : Ev (tCB (rLenS K) (tCons te tNil)) σ H (.int (ns.length : Int)) := fun H1 e Q q =>
  h H1 e _ fun u H2 e2 ⟨a, hu, ha⟩ => ⟨a, il ns, by rw [hu], .inl ha, by
    rw [List.length_map]
    exact q H2 e2⟩
theorem ev_sum {ns : List Int} (h : EvD K te σ H (.l (il ns))) : Ev (tCB (rSum K) (tCons te tNil)) σ H (.int ns.sum) := fun H1 e Q q =>
  h H1 e _ fun u H2 e2 ⟨a, hu, ha⟩ => ⟨a, ns, by rw [hu], sq_of ha, q H2 e2⟩
theorem ev_all {bs : List Bool} (h : EvD K te σ H (.l (bs.map V.bl))) : Ev (tCB (rAll K) (tCons te tNil)) σ H (.bl (bs.all id)) := fun H1 e Q q =>
  h H1 e _ fun u H2 e2 ⟨a, hu, ha⟩ => ⟨a, bs, by rw [hu], sq_of ha, q H2 e2⟩
theorem ev_any {bs : List Bool} (h : EvD K te σ H (.l (bs.map V.bl))) : Ev (tCB (rAny K) (tCons te tNil)) σ H (.bl (bs.any id)) := fun H1 e Q q =>
  h H1 e _ fun u H2 e2 ⟨a, hu, ha⟩ => ⟨a, bs, by rw [hu], sq_of ha, q H2 e2⟩
def rMin2 : List V → Hp → VK → Prop := fun xs H Q => ∃ i j, xs = [.int i, .int j] ∧ Q (.int (if j < i then j else i)) H
theorem max_if (i j : Int) : (if j > i then j else i) = max i j := by
  split <;> omega
theorem min_if (i j : Int) : (if j < i then j else i) = min i j := by
  split <;> omega
theorem ev_maxI {i j : Int} (ha : Ev ta σ H (.int i)) (hb : Ev tb σ H (.int j)) : Ev (tCB rMax2 (tCons ta (tCons tb tNil))) σ H (.int (max i j)) := by
  rw [← max_if]
  exact ev_max2 ha hb
theorem ev_minI {i j : Int} (ha : Ev ta σ H (.int i)) (hb : Ev tb σ H (.int j)) : Ev (tCB rMin2 (tCons ta (tCons tb tNil))) σ H (.int (min i j)) := by
  rw [← min_if]
  exact fun H1 e Q q => ha H1 e _ fun H2 e2 => hb H2 (e.trans e2) _ fun H3 e3 => ⟨i, j, rfl, q H3 (e2.trans e3)⟩
/-- a list in order -/
def srt (ns : List Int) : List Int := ns.mergeSort (fun a b => decide (a ≤ b))
theorem srt_perm (ns : List Int) : (srt ns).Perm ns := List.mergeSort_perm ns _
theorem srt_le (ns : List Int) : (srt ns).Pairwise (· ≤ ·) := by
  have h := List.pairwise_mergeSort (le := fun a b : Int => decide (a ≤ b)) (fun a b c h1 h2 => by
    simp only [decide_eq_true_eq] at *
    omega) (fun a b => by
    simp only [Bool.or_eq_true, decide_eq_true_eq]
    omega) ns
  exact h.imp fun q => of_decide_eq_true q
theorem srt_eq {ns ms : List Int} (h : ms.Perm ns) (p : ms.Pairwise (· ≤ ·)) : ms = srt ns := PySem.W.ksm_same (h.trans (srt_perm ns).symm) p (srt_le ns)
theorem en_sorted {ns : List Int} (h : EvD K te σ H (.l (il ns))) : EvN K (tCB (rSortedI K) (tCons te tNil)) σ H (.l (il (srt ns))) := fun H1 e Q q =>
  h H1 e _ fun u H2 e2 ⟨a, hu, ha⟩ => ⟨a, ns, by rw [hu], sq_of ha, fun ms p hp hs n => by
    rw [srt_eq hp hs]
    exact q _ _ (e2.trans (Ex.new n)) ⟨p, rfl, fresh_back e2 n, upd_same⟩⟩
def rTupOf (K : PySem.W.Frag) : List V → Hp → VK → Prop := fun xs H Q => ∃ p ys, xs = [.ref p] ∧ ((SqL K H p ys ∧ ∀ l, H l = none → Q (.ref l) (upd H l (.tup ys))) ∨ (SqT K H p ys ∧ Q (.ref p) H))
theorem en_tuple (h : EvD K te σ H (.l xs)) : EvN K (tCB (rTupOf K) (tCons te tNil)) σ H (.t xs) := fun H1 e Q q =>
  h H1 e _ fun u H2 e2 ⟨a, hu, ha⟩ => ⟨a, xs, by rw [hu], .inl ⟨sq_of ha, fun l n => q _ _ (e2.trans (Ex.new n)) ⟨l, rfl, upd_same⟩⟩⟩
theorem en_list (h : EvD K te σ H (.l xs)) : EvN K (tCB (rListS K) (tCons te tNil)) σ H (.l xs) := fun H1 e Q q =>
  h H1 e _ fun u H2 e2 ⟨a, hu, ha⟩ => ⟨a, xs, by rw [hu], .inl (sq_of ha), fun l n => q _ _ (e2.trans (Ex.new n)) ⟨l, rfl, fresh_back e2 n, upd_same⟩⟩
theorem en_listT (h : EvD K te σ H (.t xs)) : EvN K (tCB (rListS K) (tCons te tNil)) σ H (.l xs) := fun H1 e Q q =>
  h H1 e _ fun u H2 e2 ⟨a, hu, ha⟩ => ⟨a, xs, by rw [hu], .inr (st_of ha), fun l n => q _ _ (e2.trans (Ex.new n)) ⟨l, rfl, fresh_back e2 n, upd_same⟩⟩
theorem ev_ix {ns : List Int} {i : Int} (ha : EvD K ta σ H (.l (il ns))) (hb : Ev tb σ H (.int i)) (h : 0 ≤ i ∧ i < ns.length) : Ev (tOp (rIxL K) ta tb) σ H (.int (gi ns i)) := fun H1 e Q q =>
  ha H1 e _ fun u H2 e2 ⟨a, hu, hx⟩ => hb H2 (e.trans e2) _ fun H3 e3 => ⟨a, il ns, i, _, hu, rfl, sq_of (e3 _ _ hx), gi_at h.1 h.2, q H3 (e2.trans e3)⟩
theorem ev_ixS {ns : List Int} {i : Int} (ha : EvD K ta σ H (.s (il ns))) (hb : Ev tb σ H (.int i)) (h : 0 ≤ i ∧ i < ns.length) : Ev (tOp (rIxL K) ta tb) σ H (.int (gi ns i)) := fun H1 e Q q =>
  ha H1 e _ fun u H2 e2 ⟨a, hu, hx⟩ => hb H2 (e.trans e2) _ fun H3 e3 => ⟨a, il ns, i, _, hu, rfl, ex_l e3 hx, gi_at h.1 h.2, q H3 (e2.trans e3)⟩
theorem ev_ixT {ns : List Int} {i : Int} (ha : EvD K ta σ H (.t (il ns))) (hb : Ev tb σ H (.int i)) (h : 0 ≤ i ∧ i < ns.length) : Ev (tOp (rIxT K) ta tb) σ H (.int (gi ns i)) := fun H1 e Q q =>
  ha H1 e _ fun u H2 e2 ⟨a, hu, hx⟩ => hb H2 (e.trans e2) _ fun H3 e3 => ⟨a, il ns, i, _, hu, rfl, st_of (e3 _ _ hx), gi_at h.1 h.2, q H3 (e2.trans e3)⟩
theorem ed_ixP0 (ha : EvD K ta σ H (.p d e)) (hb : Ev tb σ H (.int 0)) : EvD K (tOp (rIxT K) ta tb) σ H d := fun H1 e Q q =>
  ha H1 e _ fun u H2 e2 ⟨a, x, y, hu, hx, r1, r2⟩ => hb H2 (e.trans e2) _ fun H3 e3 => ⟨a, [x, y], 0, x, hu, rfl, st_of (e3 _ _ hx), rfl, q _ H3 (e2.trans e3) (D.mono e3 r1)⟩
theorem ed_ixP1 (ha : EvD K ta σ H (.p d e)) (hb : Ev tb σ H (.int 1)) : EvD K (tOp (rIxT K) ta tb) σ H e := fun H1 e Q q =>
  ha H1 e _ fun u H2 e2 ⟨a, x, y, hu, hx, r1, r2⟩ => hb H2 (e.trans e2) _ fun H3 e3 => ⟨a, [x, y], 1, y, hu, rfl, st_of (e3 _ _ hx), rfl, q _ H3 (e2.trans e3) (D.mono e3 r2)⟩
/-- the last number -/
def gl (xs : List Int) : Int := xs.getLastD 0
theorem gl_at {xs : List Int} (h : xs ≠ []) : atI (il xs) (-1) = some (.int (gl xs)) := by
  have e : il xs = il xs.dropLast ++ [.int (xs.getLast h)] := by
    conv => lhs; rw [← List.dropLast_concat_getLast h]
    rw [il, List.map_append]
    rfl
  have e2 : gl xs = xs.getLast h := by
    unfold gl
    rw [List.getLastD_eq_getLast?, List.getLast?_eq_getLast h]
    rfl
  rw [e, e2]
  exact atI_last _ _
theorem ev_last {ns : List Int} (ha : EvD K ta σ H (.l (il ns))) (hb : Ev tb σ H (.int (-1))) (h : ns ≠ []) : Ev (tOp (rIxL K) ta tb) σ H (.int (gl ns)) := fun H1 e Q q =>
  ha H1 e _ fun u H2 e2 ⟨a, hu, hx⟩ => hb H2 (e.trans e2) _ fun H3 e3 => ⟨a, il ns, -1, _, hu, rfl, sq_of (e3 _ _ hx), gl_at h, q H3 (e2.trans e3)⟩
theorem en_cut {xs : List V} {tl th : TO} {lo hi : Option Int} (h : EvD K te σ H (.l xs)) (h1 : EvO tl σ H lo) (h2 : EvO th σ H hi) : EvN K (tSl (rSlL K) te tl th) σ H (.l (cutV xs lo hi)) := fun H1 e Q q =>
  h H1 e _ fun u H2 e2 ⟨a, hu, ha⟩ => h1 H2 (e.trans e2) _ fun H3 e3 => h2 H3 ((e.trans e2).trans e3) _ fun H4 e4 =>
    ⟨a, xs, hu, sq_of (e4 _ _ (e3 _ _ ha)), fun p n => q _ _ (((e2.trans e3).trans e4).trans (Ex.new n)) ⟨p, rfl, fresh_back ((e2.trans e3).trans e4) n, upd_same⟩⟩
theorem six_pos (n d : Nat) {i : Int} (h : 0 ≤ i) : HT.sIx n d (some i) = min i.toNat n := by
  show (if i < 0 then (i + (n : Int)).toNat else min i.toNat n) = min i.toNat n
  rw [if_neg (by omega)]
theorem cut_take {xs : List Int} {n : Int} (h : 0 ≤ n) : cutV (il xs) none (some n) = il (xs.take n.toNat) := by
  unfold cutV
  rw [HT.sIx_none, six_pos _ _ h, List.drop_zero, Nat.sub_zero]
  by_cases c : n.toNat ≤ xs.length
  · rw [show min n.toNat (il xs).length = n.toNat by rw [List.length_map]; omega]
    exact (List.map_take).symm
  · rw [List.take_of_length_le (by rw [List.length_map]; omega), List.take_of_length_le (by omega)]
theorem cut_drop {xs : List Int} {n : Int} (h : 0 ≤ n) : cutV (il xs) (some n) none = il (xs.drop n.toNat) := by
  unfold cutV
  rw [HT.sIx_none, six_pos _ _ h]
  by_cases c : n.toNat ≤ xs.length
  · rw [show min n.toNat (il xs).length = n.toNat by rw [List.length_map]; omega, List.take_of_length_le (by rw [List.length_drop]; exact Nat.le_refl _)]
    exact (List.map_drop).symm
  · rw [List.drop_of_length_le (by rw [List.length_map]; omega), List.drop_of_length_le (by omega), List.take_nil]
    rfl
theorem cut_mid {xs : List Int} {m n : Int} (h : 0 ≤ m) (h2 : 0 ≤ n) : cutV (il xs) (some m) (some n) = il ((xs.take n.toNat).drop m.toNat) := by
  unfold cutV
  rw [six_pos _ _ h, six_pos _ _ h2]
  apply List.ext_getElem?
  intro k
  rw [List.length_map, List.getElem?_take, List.getElem?_drop, List.getElem?_map, List.getElem?_map, List.getElem?_drop, List.getElem?_take]
  by_cases c : m.toNat + k < n.toNat
  · by_cases c2 : m.toNat + k < xs.length
    · rw [if_pos (by omega), if_pos c, show min m.toNat xs.length = m.toNat by omega]
    · rw [if_pos c, List.getElem?_eq_none (by omega : xs.length ≤ m.toNat + k)]
      split
      · rw [List.getElem?_eq_none (by omega)]
      · rfl
  · rw [if_neg c]
    split
    · rw [List.getElem?_eq_none (by omega)]
    · rfl
theorem cut_init {xs : List Int} : cutV (il xs) none (some (-1)) = il xs.dropLast := by
  unfold cutV
  rw [HT.sIx_none]
  show List.take ((if (-1 : Int) < 0 then ((-1 : Int) + ((il xs).length : Int)).toNat else min (-1 : Int).toNat (il xs).length) - 0) (List.drop 0 (il xs)) = _
  rw [if_pos (by decide), List.drop_zero, Nat.sub_zero, List.length_map, List.dropLast_eq_take, show ((-1 : Int) + (xs.length : Int)).toNat = xs.length - 1 by omega]
  exact (List.map_take).symm
theorem en_is {d' : D} (h : EvN K te σ H d) (e : d = d') : EvN K te σ H d' := by
  rw [← e]
  exact h
theorem ed_is {d' : D} (h : EvD K te σ H d) (e : d = d') : EvD K te σ H d' := by
  rw [← e]
  exact h
theorem en_take {ns : List Int} {th : TE} {n : Int} (h : EvD K te σ H (.l (il ns))) (h2 : Ev th σ H (.int n)) (h0 : 0 ≤ n) : EvN K (tSl (rSlL K) te tNoPart (tPart th)) σ H (.l (il (ns.take n.toNat))) := en_is (en_cut h eo_none (eo_some h2)) (congrArg D.l (cut_take h0))
theorem en_init {ns : List Int} {th : TE} (h : EvD K te σ H (.l (il ns))) (h2 : Ev th σ H (.int (-1))) : EvN K (tSl (rSlL K) te tNoPart (tPart th)) σ H (.l (il ns.dropLast)) := en_is (en_cut h eo_none (eo_some h2)) (congrArg D.l cut_init)
theorem en_drop {ns : List Int} {th : TE} {n : Int} (h : EvD K te σ H (.l (il ns))) (h2 : Ev th σ H (.int n)) (h0 : 0 ≤ n) : EvN K (tSl (rSlL K) te (tPart th) tNoPart) σ H (.l (il (ns.drop n.toNat))) := en_is (en_cut h (eo_some h2) eo_none) (congrArg D.l (cut_drop h0))
theorem en_mid {ns : List Int} {tl th : TE} {m n : Int} (h : EvD K te σ H (.l (il ns))) (h1 : Ev tl σ H (.int m)) (h2 : Ev th σ H (.int n)) (hm : 0 ≤ m) (h0 : 0 ≤ n) : EvN K (tSl (rSlL K) te (tPart tl) (tPart th)) σ H (.l (il ((ns.take n.toNat).drop m.toNat))) := en_is (en_cut h (eo_some h1) (eo_some h2)) (congrArg D.l (cut_mid hm h0))
theorem en_rev {ns : List Int} (h : EvD K te σ H (.l (il ns))) : EvN K (tRevL K te) σ H (.l (il ns.reverse)) := fun H1 e Q q =>
  h H1 e _ fun u H2 e2 ⟨a, hu, ha⟩ => ⟨a, il ns, hu, sq_of ha, fun p n => by
    rw [← List.map_reverse]
    exact q _ _ (e2.trans (Ex.new n)) ⟨p, rfl, fresh_back e2 n, upd_same⟩⟩
theorem en_cat {ns ms : List Int} (ha : EvD K ta σ H (.l (il ns))) (hb : EvD K tb σ H (.l (il ms))) (hz : ns.length + ms.length ≤ 100000) : EvN K (tOp rCat ta tb) σ H (.l (il (ns ++ ms))) := fun H1 e Q q =>
  ha H1 e _ fun u H2 e2 ⟨a, hu, hx⟩ => hb H2 (e.trans e2) _ fun w H3 e3 ⟨b, hw, hy⟩ => ⟨a, b, il ns, il ms, hu, hw, e3 _ _ hx, hy, by
    rw [List.length_map, List.length_map]
    exact sz_of hz, fun p n => by
    rw [← List.map_append]
    exact q _ _ ((e2.trans e3).trans (Ex.new n)) ⟨p, rfl, fresh_back (e2.trans e3) n, upd_same⟩⟩
/-- so many noughts -/
def zs (k : Int) : List Int := List.replicate k.toNat 0
theorem zs_len (k : Int) : (zs k).length = k.toNat := List.length_replicate
theorem flat_one (k : Nat) (x : V) : (List.replicate k [x]).flatten = List.replicate k x := by
  induction k with
  | zero => rfl
  | succ k ih => rw [List.replicate_succ, List.flatten_cons, ih, List.replicate_succ]; rfl
theorem en_rep {k : Int} (ha : EvD K ta σ H (.l (il [0]))) (hb : Ev tb σ H (.int k)) (hz : -100000 ≤ k ∧ k ≤ 100000) : EvN K (tOp rRep ta tb) σ H (.l (il (zs k))) := fun H1 e Q q =>
  ha H1 e _ fun u H2 e2 ⟨a, hu, hx⟩ => hb H2 (e.trans e2) _ fun H3 e3 => ⟨a, k, il [0], hu, rfl, e3 _ _ hx, by omega, by omega, by
    show 1 * k.toNat ≤ sizeLine
    rw [Nat.one_mul]
    exact sz_of (by omega), fun p n => by
    refine q _ _ ((e2.trans e3).trans (Ex.new n)) ⟨p, rfl, fresh_back (e2.trans e3) n, ?_⟩
    rw [upd_same]
    show some (HO.lst (List.replicate k.toNat [V.int 0]).flatten) = some (HO.lst (il (zs k)))
    rw [flat_one]
    unfold zs il
    rw [List.map_replicate]⟩
end

/-! ### comparisons -/
def vpy : V → PyData
  | .non => .none
  | .bl b => .bool b
  | .int i => .int i
  | _ => .none
def flI : V → Bool
  | .non => true
  | .bl _ => true
  | .int _ => true
  | _ => false
def D.py : D → PyData
  | .v x => vpy x
  | .l xs => .list (xs.map vpy)
  | .t xs => .tuple (xs.map vpy)
  | .p d e => .tuple [d.py, e.py]
  | .ll xss => .list (xss.map fun xs => .list (xs.map vpy))
  | .s xs => .list (xs.map vpy)
def D.fl : D → Bool
  | .v x => flI x
  | .l xs => xs.all flI
  | .t xs => xs.all flI
  | .p d e => d.fl && e.fl
  | .ll xss => xss.all fun xs => xs.all flI
  | .s xs => xs.all flI
def D.dsz : D → Nat
  | .v _ => 0
  | .l _ => 1
  | .t _ => 1
  | .p d e => max d.dsz e.dsz + 1
  | .ll _ => 2
  | .s _ => 1
theorem fl_il (ns : List Int) : (il ns).all flI = true := by
  rw [List.all_map]
  exact List.all_eq_true.mpr fun _ _ => rfl
theorem vpy_lay : ∀ {x : V}, flI x = true → PyData.canLay0 (vpy x) = true ∧ PyData.depth (vpy x) = 0
  | .non, _ => ⟨rfl, by simp [vpy, PyData.depth]⟩
  | .bl _, _ => ⟨by simp [vpy, PyData.canLay0], by simp [vpy, PyData.depth]⟩
  | .int _, _ => ⟨by simp [vpy, PyData.canLay0], by simp [vpy, PyData.depth]⟩
  | .str _, h => nomatch h
  | .byt _, h => nomatch h
  | .flt _, h => nomatch h
  | .ref _, h => nomatch h
  | .ty _, h => nomatch h
theorem vpys_lay : ∀ {xs : List V}, xs.all flI = true → PyData.canLayAll0 (xs.map vpy) = true ∧ PyData.depthAll (xs.map vpy) = 0
  | [], _ => ⟨by simp [PyData.canLayAll0], by simp [PyData.depthAll]⟩
  | x :: xs, h => by
    rw [List.all_cons, Bool.and_eq_true] at h
    have a := vpy_lay h.1
    have b := vpys_lay h.2
    simp only [List.map_cons, PyData.canLayAll0, PyData.depthAll, a.1, a.2, b.1, b.2]
    exact ⟨rfl, rfl⟩
theorem vpyss_lay : ∀ {xss : List (List V)}, (xss.all fun xs => xs.all flI) = true → PyData.canLayAll0 (xss.map fun xs => .list (xs.map vpy)) = true ∧ PyData.depthAll (xss.map fun xs => .list (xs.map vpy)) ≤ 1
  | [], _ => ⟨by simp [PyData.canLayAll0], by simp [PyData.depthAll]⟩
  | xs :: xss, h => by
    rw [List.all_cons, Bool.and_eq_true] at h
    have a := vpys_lay h.1
    have b := vpyss_lay h.2
    simp only [List.map_cons, PyData.canLayAll0, PyData.depthAll, PyData.canLay0, PyData.depth, a.1, a.2, b.1]
    exact ⟨rfl, by have := b.2; omega⟩
theorem py_lay : ∀ {d : D}, d.fl = true → PyData.canLay0 d.py = true ∧ PyData.depth d.py ≤ d.dsz
  | .v x, h => by
    have a := vpy_lay h
    exact ⟨a.1, Nat.le_of_eq a.2⟩
  | .l xs, h => by
    have a := vpys_lay h
    simp only [D.py, PyData.canLay0, PyData.depth, a.1, a.2, D.dsz]
    exact ⟨trivial, Nat.le_refl _⟩
  | .t xs, h => by
    have a := vpys_lay h
    simp only [D.py, PyData.canLay0, PyData.depth, a.1, a.2, D.dsz]
    exact ⟨trivial, Nat.le_refl _⟩
  | .s xs, h => by
    have a := vpys_lay h
    simp only [D.py, PyData.canLay0, PyData.depth, a.1, a.2, D.dsz]
    exact ⟨trivial, Nat.le_refl _⟩
  | .ll xss, h => by
    have a := vpyss_lay h
    simp only [D.py, PyData.canLay0, PyData.depth, a.1, D.dsz]
    exact ⟨trivial, by have := a.2; omega⟩
  | .p d e, h => by
    have h' : (d.fl && e.fl) = true := h
    rw [Bool.and_eq_true] at h'
    have a := py_lay h'.1
    have b := py_lay h'.2
    simp only [D.py, PyData.canLay0, PyData.depth, PyData.canLayAll0, PyData.depthAll, a.1, b.1, D.dsz]
    exact ⟨rfl, by have := a.2; have := b.2; omega⟩
theorem py_shaped {d : D} (h : d.fl = true) (hz : d.dsz ≤ 64) : SeqAt.shaped d.py = true := by
  have a := py_lay h
  show (PyData.canLay0 d.py && decide (PyData.depth d.py ≤ 64)) = true
  rw [Bool.and_eq_true]
  exact ⟨a.1, decide_eq_true (Nat.le_trans a.2 hz)⟩
section
variable {K : PySem.W.Frag} {H : Hp}
theorem vpy_dp : ∀ {x : V}, flI x = true → Dp K H x (vpy x)
  | .non, _ => .non
  | .bl _, _ => .bl _
  | .int _, _ => .int _
  | .str _, h => nomatch h
  | .byt _, h => nomatch h
  | .flt _, h => nomatch h
  | .ref _, h => nomatch h
  | .ty _, h => nomatch h
theorem vpys_dp : ∀ {xs : List V}, xs.all flI = true → DpAll K H xs (xs.map vpy)
  | [], _ => .nil
  | x :: xs, h => by
    rw [List.all_cons, Bool.and_eq_true] at h
    exact .cons (vpy_dp h.1) (vpys_dp h.2)
theorem pss_dp : ∀ {ps : List Addr} {xss : List (List V)}, (xss.all fun xs => xs.all flI) = true → Paired (fun q xs => H q = some (.lst xs)) ps xss → DpAll K H (ps.map V.ref) (xss.map fun xs => .list (xs.map vpy))
  | _, _, _, .nil => .nil
  | q :: ps, xs :: xss, h, .cons a b => by
    rw [List.all_cons, Bool.and_eq_true] at h
    exact .cons (.lst (sq_of a) (vpys_dp h.1)) (pss_dp h.2 b)
theorem py_dp : ∀ {d : D} {u : V}, d.fl = true → d.rep K u H → Dp K H u d.py
  | .v x, u, h, r => by
    have r' : u = x := r
    rw [r']
    exact vpy_dp h
  | .l xs, _, h, ⟨a, hu, ha⟩ => by
    rw [hu]
    exact .lst (sq_of ha) (vpys_dp h)
  | .t xs, _, h, ⟨a, hu, ha⟩ => by
    rw [hu]
    exact .tup (st_of ha) (vpys_dp h)
  | .s xs, _, h, ⟨a, hu, ha⟩ => by
    rw [hu]
    exact .lst ha (vpys_dp h)
  | .ll xss, _, h, ⟨a, ps, hu, ha, hp⟩ => by
    rw [hu]
    exact .lst (sq_of ha) (pss_dp h hp)
  | .p d e, _, h, ⟨a, x, y, hu, ha, r1, r2⟩ => by
    have h' : (d.fl && e.fl) = true := h
    rw [Bool.and_eq_true] at h'
    rw [hu]
    exact .tup (st_of ha) (.cons (py_dp h'.1 r1) (.cons (py_dp h'.2 r2) .nil))
end
theorem eqv_il : ∀ xs ys : List Int, PyData.eqvAll ((il xs).map vpy) ((il ys).map vpy) = decide (xs = ys)
  | [], [] => by simp [PyData.eqvAll]
  | [], _ :: _ => by simp [PyData.eqvAll]
  | _ :: _, [] => by simp [PyData.eqvAll]
  | x :: xs, y :: ys => by
    have ih := eqv_il xs ys
    simp only [List.map_cons, PyData.eqvAll, vpy, PyData.eqv, ih]
    by_cases h : x = y <;> by_cases h' : xs = ys <;> simp [h, h']
theorem eqv_ll (xs ys : List Int) : PyData.eqv (D.l (il xs)).py (D.l (il ys)).py = decide (xs = ys) := by
  simp only [D.py, PyData.eqv]
  exact eqv_il xs ys
theorem eqv_tt (xs ys : List Int) : PyData.eqv (D.t (il xs)).py (D.t (il ys)).py = decide (xs = ys) := by
  simp only [D.py, PyData.eqv]
  exact eqv_il xs ys
theorem eqv_vv (i j : Int) : PyData.eqv (D.v (.int i)).py (D.v (.int j)).py = decide (i = j) := by
  simp only [D.py, vpy, PyData.eqv]
  by_cases h : i = j <;> simp [h]
theorem eqv_pp {a b c d : D} : PyData.eqv (D.p a b).py (D.p c d).py = (PyData.eqv a.py c.py && PyData.eqv b.py d.py) := by
  simp only [D.py, PyData.eqv, PyData.eqvAll, Bool.and_true]
theorem eqv_lss : ∀ xss yss : List (List Int), PyData.eqvAll ((xss.map il).map fun xs => .list (xs.map vpy)) ((yss.map il).map fun xs => .list (xs.map vpy)) = decide (xss = yss)
  | [], [] => by simp [PyData.eqvAll]
  | [], _ :: _ => by simp [PyData.eqvAll]
  | _ :: _, [] => by simp [PyData.eqvAll]
  | x :: xs, y :: ys => by
    have ih := eqv_lss xs ys
    simp only [List.map_cons, PyData.eqvAll, PyData.eqv, ih, eqv_il]
    by_cases h : x = y <;> by_cases h' : xs = ys <;> simp [h, h']
theorem eqv_llll (xss yss : List (List Int)) : PyData.eqv (D.ll (xss.map il)).py (D.ll (yss.map il)).py = decide (xss = yss) := by
  simp only [D.py, PyData.eqv]
  exact eqv_lss xss yss
section
variable {K : PySem.W.Frag} {σ : L2.St} {H H' : Hp} {ta tb te tx tl : TE} {t u : TT} {x y z : V} {d e : D} {D' : Ends} {tz tu : TS}
theorem ev_eqD (ha : EvD K ta σ H d) (hb : EvD K tb σ H e) (h1 : d.fl = true) (h2 : e.fl = true) (z1 : d.dsz ≤ 64) (z2 : e.dsz ≤ 64) : Ev (tOp (rEqD K) ta tb) σ H (.bl (PyData.eqv d.py e.py)) := fun H1 a Q q =>
  ha H1 a _ fun u H2 e2 r => hb H2 (a.trans e2) _ fun w H3 e3 r' => ⟨d.py, e.py, py_dp h1 (D.mono e3 r), py_dp h2 r', py_shaped h1 z1, py_shaped h2 z2, q H3 (e2.trans e3)⟩
theorem ev_neD (ha : EvD K ta σ H d) (hb : EvD K tb σ H e) (h1 : d.fl = true) (h2 : e.fl = true) (z1 : d.dsz ≤ 64) (z2 : e.dsz ≤ 64) : Ev (tOp (rNeD K) ta tb) σ H (.bl (!PyData.eqv d.py e.py)) := fun H1 a Q q =>
  ha H1 a _ fun u H2 e2 r => hb H2 (a.trans e2) _ fun w H3 e3 r' => ⟨d.py, e.py, py_dp h1 (D.mono e3 r), py_dp h2 r', py_shaped h1 z1, py_shaped h2 z2, q H3 (e2.trans e3)⟩
theorem ev_eqL {xs ys : List Int} (ha : EvD K ta σ H (.l (il xs))) (hb : EvD K tb σ H (.l (il ys))) : Ev (tOp (rEqD K) ta tb) σ H (.bl (decide (xs = ys))) := by
  rw [← eqv_ll]
  exact ev_eqD ha hb (fl_il _) (fl_il _) (Nat.le_of_ble_eq_true rfl) (Nat.le_of_ble_eq_true rfl)
theorem ev_neL {xs ys : List Int} (ha : EvD K ta σ H (.l (il xs))) (hb : EvD K tb σ H (.l (il ys))) : Ev (tOp (rNeD K) ta tb) σ H (.bl (!decide (xs = ys))) := by
  rw [← eqv_ll]
  exact ev_neD ha hb (fl_il _) (fl_il _) (Nat.le_of_ble_eq_true rfl) (Nat.le_of_ble_eq_true rfl)
theorem ev_eqI {i j : Int} (ha : Ev ta σ H (.int i)) (hb : Ev tb σ H (.int j)) : Ev (tOp rEq ta tb) σ H (.bl (decide (i = j))) := by
  have g := ev_op ha hb (rv_eq (H := H) (x := .int i) (y := .int j) rfl)
  have e : decide ((V.int i) = V.int j) = decide (i = j) := by simp
  rw [e] at g
  exact g
theorem ev_neI {i j : Int} (ha : Ev ta σ H (.int i)) (hb : Ev tb σ H (.int j)) : Ev (tOp rNe ta tb) σ H (.bl (!decide (i = j))) := by
  have g := ev_op ha hb (rv_ne (H := H) (x := .int i) (y := .int j) rfl)
  have e : decide ((V.int i) = V.int j) = decide (i = j) := by simp
  rw [e] at g
  exact g
theorem ev_isN (ha : Ev ta σ H x) : Ev (tIsN ta) σ H (.bl (decide (x = .non))) := fun H1 e Q q => ha H1 e _ fun H2 e2 => q H2 e2
theorem ev_notN (ha : Ev ta σ H x) : Ev (tNotN ta) σ H (.bl (!decide (x = .non))) := fun H1 e Q q => ha H1 e _ fun H2 e2 => q H2 e2
theorem inV_il (i : Int) (ns : List Int) : inV (.int i) (il ns) = decide (i ∈ ns) := by
  unfold inV
  rw [List.any_map]
  induction ns with
  | nil => rfl
  | cons n ns ih =>
    rw [List.any_cons, ih]
    have e : ((fun y => eqV y (V.int i)) ∘ V.int) n = (n == i) := rfl
    rw [e]
    by_cases h : n = i
    · subst h; simp
    · have h' : ¬ i = n := fun z => h z.symm
      by_cases h2 : i ∈ ns <;> simp [h, h', h2]
theorem flat_il (ns : List Int) : (il ns).all flatV = true := by
  rw [List.all_map]
  exact List.all_eq_true.mpr fun _ _ => rfl
theorem ev_in {i : Int} {ns : List Int} (ha : Ev ta σ H (.int i)) (hb : EvD K tb σ H (.l (il ns))) : Ev (tOp (rIn K false) ta tb) σ H (.bl (decide (i ∈ ns))) := fun H1 e Q q =>
  ha H1 e _ fun H2 e2 => hb H2 (e.trans e2) _ fun u H3 e3 ⟨a, hu, hx⟩ => ⟨a, il ns, hu, .inl (sq_of hx), rfl, flat_il ns, by
    show Q (.bl (inV (.int i) (il ns))) H3
    rw [inV_il]
    exact q H3 (e2.trans e3)⟩
theorem ev_ni {i : Int} {ns : List Int} (ha : Ev ta σ H (.int i)) (hb : EvD K tb σ H (.l (il ns))) : Ev (tOp (rIn K true) ta tb) σ H (.bl (!decide (i ∈ ns))) := fun H1 e Q q =>
  ha H1 e _ fun H2 e2 => hb H2 (e.trans e2) _ fun u H3 e3 ⟨a, hu, hx⟩ => ⟨a, il ns, hu, .inl (sq_of hx), rfl, flat_il ns, by
    show Q (.bl (!inV (.int i) (il ns))) H3
    rw [inV_il]
    exact q H3 (e2.trans e3)⟩
/-- a < b < c -/
theorem ev_chain {r r' : R2} {a b c : Int} {k1 k2 : Bool} (ha : Ev ta σ H (.int a)) (hb : Ev tb σ H (.int b)) (hc : Ev te σ H (.int c)) (h1 : RV r (.int a) (.int b) H (.bl k1)) (h2 : RV r' (.int b) (.int c) H (.bl k2)) :
    Ev (tChain r r' ta tb te) σ H (.bl (k1 && k2)) := fun H1 e Q q => ha H1 e _ fun H2 e2 => hb H2 (e.trans e2) _ fun H3 e3 => h1 H3 ((e.trans e2).trans e3) _ fun H4 e4 => ⟨k1, rfl, by
  cases k1 with
  | true =>
    rw [if_pos rfl]
    exact hc H4 (((e.trans e2).trans e3).trans e4) _ fun H5 e5 => h2 H5 ((((e.trans e2).trans e3).trans e4).trans e5) Q fun H6 e6 => q H6 ((((e2.trans e3).trans e4).trans e5).trans e6)
  | false =>
    rw [if_neg Bool.false_ne_true]
    exact q H4 ((e2.trans e3).trans e4)⟩
/-- isinstance -/
theorem ev_isi {x : V} {c : V} {u t : Value} {b : Bool} (ha : Ev ta σ H x) (hb : Ev tb σ H c) (hc : ClsV c u) (ht : ∀ H1, Ex H H1 → TyX K H1 x t) (hk : PySem.W.kitOne K t u = some b) : Ev (tCB (rIsi K) (tCons ta (tCons tb tNil))) σ H (.bl b) := fun H1 e Q q =>
  ha H1 e _ fun H2 e2 => hb H2 (e.trans e2) _ fun H3 e3 => ⟨x, c, t, u, b, rfl, hc, ht H3 ((e.trans e2).trans e3), hk, q H3 (e2.trans e3)⟩
def tyD : D → Option String
  | .v .non => some "NoneType"
  | .v (.bl _) => some "bool"
  | .v (.int _) => some "int"
  | .v (.str _) => some "str"
  | .l _ => some "list"
  | .t _ => some "tuple"
  | .p _ _ => some "tuple"
  | .ll _ => some "list"
  | _ => none
theorem tyD_ok : ∀ {d : D} {u : V} {s : String}, tyD d = some s → d.rep K u H → TyX K H u (.type s)
  | .v .non, _, _, h, r => by cases h; cases r; exact .base .non
  | .v (.bl _), _, _, h, r => by cases h; cases r; exact .base (.bl _)
  | .v (.int _), _, _, h, r => by cases h; cases r; exact .base (.int _)
  | .v (.str _), _, _, h, r => by cases h; cases r; exact .base (.str _)
  | .l _, _, _, h, ⟨a, hu, ha⟩ => by cases h; rw [hu]; exact .base (.lst ha)
  | .t _, _, _, h, ⟨a, hu, ha⟩ => by cases h; rw [hu]; exact .base (.tup ha)
  | .p _ _, _, _, h, ⟨a, x, y, hu, ha, _⟩ => by cases h; rw [hu]; exact .base (.tup ha)
  | .ll _, _, _, h, ⟨a, ps, hu, ha, _⟩ => by cases h; rw [hu]; exact .base (.lst ha)
  | .v (.byt _), _, _, h, _ => nomatch h
  | .v (.flt _), _, _, h, _ => nomatch h
  | .v (.ref _), _, _, h, _ => nomatch h
  | .v (.ty _), _, _, h, _ => nomatch h
  | .s _, _, _, h, _ => nomatch h
theorem ev_isD {d : D} {s c : String} {b : Bool} (ha : EvD K ta σ H d) (hb : Ev tb σ H (.ty c)) (hs : tyD d = some s) (hk : kitB s c = some b) : Ev (tCB (rIsi K) (tCons ta (tCons tb tNil))) σ H (.bl b) := fun H1 e Q q =>
  ha H1 e _ fun u H2 e2 r => hb H2 (e.trans e2) _ fun H3 e3 => ⟨u, .ty c, .type s, .type c, b, rfl, .ty c, tyD_ok hs (D.mono e3 r), kit_ty hk, q H3 (e2.trans e3)⟩

/-! ### comprehensions -/
theorem wipe1 (σ : L2.St) (j : Nat) (y : Option V) : (wipe σ [j]).set j y = σ.set j y := by
  show (σ.set j none).set j y = σ.set j y
  rw [List.set_set]
theorem wipe2 (σ : L2.St) (j : Nat) (y : Option V) : wipe (σ.set j y) [j] = wipe σ [j] := by
  show (σ.set j y).set j none = σ.set j none
  rw [List.set_set]
theorem et_yes : EvT tYes σ H true := fun H1 _ _ q => q H1 (Ex.refl H1)
def CwI (H : Hp) (ns : List Int) (p : Int → Bool) (g : Int → V) (Dl : Addr) (i : Nat) (H' : Hp) : Prop := H Dl = none ∧ Ex H H' ∧ H' Dl = some (.lst (((ns.take i).filter p).map g))
theorem take_snoc {α : Type} {l : List α} {i : Nat} {x : α} (h : l[i]? = some x) : l.take (i + 1) = l.take i ++ [x] := by
  rw [List.take_add_one, h]
  rfl
theorem cwI_turn {ns : List Int} {p : Int → Bool} {g : Int → V} {Dl : Addr} {i : Nat} {x : Int} {σ2 : L2.St} (hx : ns[i]? = some x) (hz : ns.length ≤ 40000) (c : CwI H ns p g Dl i H') (ht : EvT t σ2 H (p x)) (he : p x = true → Ev te σ2 H (g x)) :
    t σ2 H' fun b H3 => if b = true then te σ2 H3 fun y H4 => ∃ acc, H4 Dl = some (.lst acc) ∧ acc.length < sizeLine ∧ CwI H ns p g Dl (i + 1) (upd H4 Dl (.lst (acc ++ [y]))) else CwI H ns p g Dl (i + 1) H3 := by
  obtain ⟨p1, p2, p3⟩ := c
  refine ht H' p2 _ fun H3 e3 => ?_
  have es : ns.take (i + 1) = ns.take i ++ [x] := take_snoc hx
  cases hf : p x with
  | true =>
    show te σ2 H3 fun y H4 => ∃ acc, H4 Dl = some (.lst acc) ∧ acc.length < sizeLine ∧ CwI H ns p g Dl (i + 1) (upd H4 Dl (.lst (acc ++ [y])))
    refine he hf H3 (p2.trans e3) _ fun H4 e4 => ⟨_, e4 Dl _ (e3 Dl _ p3), sz_lt ?_, p1, Ex.mut ((p2.trans e3).trans e4) p1, ?_⟩
    · rw [List.length_map]
      have h1 := List.length_filter_le p (ns.take i)
      have h2 := List.length_take_le i ns
      rw [List.length_take] at h1
      omega
    · rw [upd_same, es, List.filter_append, List.map_append, List.filter_cons, if_pos hf]
      rfl
  | false =>
    show CwI H ns p g Dl (i + 1) H3
    refine ⟨p1, p2.trans e3, ?_⟩
    rw [es, List.filter_append, List.filter_cons, if_neg (by rw [hf]; decide)]
    show H3 Dl = some (.lst ((List.filter p (ns.take i) ++ []).map g))
    rw [List.append_nil]
    exact e3 Dl _ p3
theorem en_lcF {j : Nat} {ns : List Int} {p : Int → Bool} {g : Int → V} (h : EvD K tl σ H (.l (il ns))) (hz : ns.length ≤ 40000)
    (ht : ∀ x, x ∈ ns → EvT t (σ.set j (some (.int x))) H (p x)) (he : ∀ x, x ∈ ns → p x = true → Ev te (σ.set j (some (.int x))) H (g x)) : EvN K (tLc (iList K tl) (gName j) t te [j]) σ H (.l ((ns.filter p).map g)) := fun H0 e Q q =>
  h H0 e _ fun u H1 e1 ⟨a, hu, ha⟩ => ⟨a, hu, ⟨_, sq_of ha⟩, fun Dl hD =>
    lc_list (xs := il ns) (CwI H1 ns p g Dl) ⟨hD, Ex.new hD, upd_same⟩ (fun i H' _ c => sq_of (c.2.1 _ _ ha)) (fun i x H' hi c => by
      obtain ⟨n, hn, rfl⟩ : ∃ n, ns[i]? = some n ∧ x = .int n := by
        rw [List.getElem?_map] at hi
        cases hn : ns[i]? with
        | none => rw [hn] at hi; cases hi
        | some n => rw [hn] at hi; exact ⟨n, rfl, (Option.some.inj hi).symm⟩
      have hm : n ∈ ns := List.mem_of_getElem? hn
      show wipe ((wipe σ [j]).set j (some (V.int n))) [j] = wipe σ [j] ∧ t ((wipe σ [j]).set j (some (V.int n))) H' _
      rw [wipe1, wipe2]
      exact ⟨rfl, cwI_turn hn hz c (fun H2 a => ht n hm H2 ((e.trans e1).trans a)) (fun hf H2 a => he n hm hf H2 ((e.trans e1).trans a))⟩)
    (fun H' c => by
      have c3 := c.2.2
      rw [List.length_map, List.take_length] at c3
      exact q _ H' (e1.trans c.2.1) ⟨Dl, rfl, fresh_back e1 c.1, c3⟩)⟩
theorem en_lc {j : Nat} {ns : List Int} {g : Int → V} (h : EvD K tl σ H (.l (il ns))) (hz : ns.length ≤ 40000)
    (he : ∀ x, x ∈ ns → Ev te (σ.set j (some (.int x))) H (g x)) : EvN K (tLc (iList K tl) (gName j) tYes te [j]) σ H (.l (ns.map g)) := by
  have r := en_lcF (p := fun _ => true) (g := g) (t := tYes) (te := te) (j := j) h hz (fun _ _ => et_yes) (fun x hx _ => he x hx)
  rw [List.filter_eq_self.mpr (fun _ _ => rfl)] at r
  exact r
/-- lo, lo + 1, .. below hi -/
def rng (lo hi : Int) : List Int := (List.range (hi - lo).toNat).map fun (i : Nat) => lo + (i : Int)
theorem rng_len (lo hi : Int) : (rng lo hi).length = (hi - lo).toNat := by
  unfold rng
  rw [List.length_map, List.length_range]
theorem rng_get {lo hi : Int} {i : Nat} (h : i < (hi - lo).toNat) : (rng lo hi)[i]? = some (lo + (i : Int)) := by
  unfold rng
  rw [List.getElem?_map, List.getElem?_range h]
  rfl
theorem rng_mem {lo hi x : Int} : x ∈ rng lo hi ↔ lo ≤ x ∧ x < hi := by
  unfold rng
  rw [List.mem_map]
  constructor
  · rintro ⟨i, hi', rfl⟩
    have := List.mem_range.mp hi'
    omega
  · intro h
    exact ⟨(x - lo).toNat, List.mem_range.mpr (by omega), by omega⟩
theorem en_lcR {j : Nat} {ns : List Int} {lo : Int} {n : Nat} {p : Int → Bool} {g : Int → V} {wi : TI} (hns : ns = (List.range n).map fun (i : Nat) => lo + (i : Int)) (hn : n ≤ 40000)
    (hwi : ∀ H1, Ex H H1 → ∀ R : It → Hp → Prop, (∀ H2, Ex H1 H2 → R (Itr lo n) H2) → wi σ H1 R)
    (ht : ∀ x, x ∈ ns → EvT t (σ.set j (some (.int x))) H (p x)) (he : ∀ x, x ∈ ns → p x = true → Ev te (σ.set j (some (.int x))) H (g x)) : EvN K (tLc wi (gName j) t te [j]) σ H (.l ((ns.filter p).map g)) := fun H0 e Q q =>
  hwi H0 e _ fun H1 e1 => fun Dl hD => by
    have hl : ns.length = n := by rw [hns, List.length_map, List.length_range]
    refine lc_range (lo := lo) (n := n) (CwI H1 ns p g Dl) ⟨hD, Ex.new hD, upd_same⟩ (fun i H' hi c => ?_) (fun H' c => ?_)
    · have hg : ns[i]? = some (lo + (i : Int)) := by
        rw [hns, List.getElem?_map, List.getElem?_range hi]
        rfl
      have hm := List.mem_of_getElem? hg
      show wipe ((wipe σ [j]).set j (some (V.int (lo + (i : Int))))) [j] = wipe σ [j] ∧ t ((wipe σ [j]).set j (some (V.int (lo + (i : Int))))) H' _
      rw [wipe1, wipe2]
      exact ⟨rfl, cwI_turn hg (by omega) c (fun H2 a => ht _ hm H2 ((e.trans e1).trans a)) (fun hf H2 a => he _ hm hf H2 ((e.trans e1).trans a))⟩
    · have c3 := c.2.2
      rw [← hl, List.take_length] at c3
      exact q _ H' (e1.trans c.2.1) ⟨Dl, rfl, fresh_back e1 c.1, c3⟩
theorem en_lcR1 {j : Nat} {n : Int} {p : Int → Bool} {g : Int → V} (h : Ev ta σ H (.int n)) (hn : -40000 ≤ n ∧ n ≤ 40000)
    (ht : ∀ x, x ∈ rng 0 n → EvT t (σ.set j (some (.int x))) H (p x)) (he : ∀ x, x ∈ rng 0 n → p x = true → Ev te (σ.set j (some (.int x))) H (g x)) : EvN K (tLc (iRng1 (tCons ta tNil)) (gName j) t te [j]) σ H (.l (((rng 0 n).filter p).map g)) :=
  en_lcR (lo := 0) (n := n.toNat) (by unfold rng; rw [Int.sub_zero]) (by omega) (fun H1 e R r => (ea_of h) H1 e _ fun H2 e2 => ⟨n, rfl, by omega, by omega, r H2 e2⟩) ht he
theorem en_lcR2 {j : Nat} {lo n : Int} {p : Int → Bool} {g : Int → V} (h1 : Ev ta σ H (.int lo)) (h : Ev tb σ H (.int n)) (hn : -40000 ≤ n ∧ n ≤ 20000 ∧ -20000 ≤ lo ∧ lo ≤ 40000)
    (ht : ∀ x, x ∈ rng lo n → EvT t (σ.set j (some (.int x))) H (p x)) (he : ∀ x, x ∈ rng lo n → p x = true → Ev te (σ.set j (some (.int x))) H (g x)) : EvN K (tLc (iRng2 (tCons ta (tCons tb tNil))) (gName j) t te [j]) σ H (.l (((rng lo n).filter p).map g)) :=
  en_lcR (lo := lo) (n := (n - lo).toNat) rfl (by omega) (fun H1 e R r => (ea_cons h1 (ea_cons h ea_nil)) H1 e _ fun H2 e2 => ⟨lo, n, rfl, by omega, r H2 e2⟩) ht he
theorem filt_t (ns : List Int) : ns.filter (fun _ => true) = ns := List.filter_eq_self.mpr (fun _ _ => rfl)
theorem en_lcR1t {j : Nat} {n : Int} {g : Int → V} (h : Ev ta σ H (.int n)) (hn : -40000 ≤ n ∧ n ≤ 40000)
    (he : ∀ x, x ∈ rng 0 n → Ev te (σ.set j (some (.int x))) H (g x)) : EvN K (tLc (iRng1 (tCons ta tNil)) (gName j) tYes te [j]) σ H (.l ((rng 0 n).map g)) := by
  have r := en_lcR1 (K := K) (p := fun _ => true) (g := g) (t := tYes) (te := te) (j := j) h hn (fun _ _ => et_yes) (fun x hx _ => he x hx)
  rw [filt_t] at r
  exact r
theorem en_lcR2t {j : Nat} {lo n : Int} {g : Int → V} (h1 : Ev ta σ H (.int lo)) (h : Ev tb σ H (.int n)) (hn : -40000 ≤ n ∧ n ≤ 20000 ∧ -20000 ≤ lo ∧ lo ≤ 40000)
    (he : ∀ x, x ∈ rng lo n → Ev te (σ.set j (some (.int x))) H (g x)) : EvN K (tLc (iRng2 (tCons ta (tCons tb tNil))) (gName j) tYes te [j]) σ H (.l ((rng lo n).map g)) := by
  have r := en_lcR2 (K := K) (p := fun _ => true) (g := g) (t := tYes) (te := te) (j := j) h1 h hn (fun _ _ => et_yes) (fun x hx _ => he x hx)
  rw [filt_t] at r
  exact r
/-- the made list is one of whole numbers -/
theorem il_map (ns : List Int) (g : Int → Int) : ns.map (fun x => V.int (g x)) = il (ns.map g) := by
  unfold il
  rw [List.map_map]
  rfl
theorem bl_map (ns : List Int) (g : Int → Bool) : ns.map (fun x => V.bl (g x)) = (ns.map g).map V.bl := by
  rw [List.map_map]
  rfl
theorem en_il {ns : List Int} {g : Int → Int} (h : EvN K te σ H (.l (ns.map fun x => V.int (g x)))) : EvN K te σ H (.l (il (ns.map g))) := by
  rw [il_map] at h
  exact h
theorem en_bl {ns : List Int} {g : Int → Bool} (h : EvN K te σ H (.l (ns.map fun x => V.bl (g x)))) : EvN K te σ H (.l ((ns.map g).map V.bl)) := by
  rw [bl_map] at h
  exact h

/-! ### displays -/
theorem en_l0 : EvN K (tLst tNil) σ H (.l (il [])) := fun H1 e Q q => ⟨Nat.zero_le _, fun p n => q _ _ (Ex.new n) ⟨p, rfl, n, upd_same⟩⟩
theorem en_ls {ta : TA} {vs : List V} (h : EvA ta σ H vs) (hl : vs.length ≤ 100000) : EvN K (tLst ta) σ H (.l vs) := fun H1 e _ q =>
  h H1 e _ fun H2 e2 => ⟨sz_of hl, fun p n => q _ _ (e2.trans (Ex.new n)) ⟨p, rfl, fresh_back e2 n, upd_same⟩⟩
/-- (a, b), both made anew -/
theorem en_p (ha : EvN K ta σ H d) (hb : EvN K tb σ H e) (hd : ∀ H1 H2 x y, d.rep K x H1 → e.new K H1 y H2 → ∀ b, x = V.ref b → y ≠ .ref b) : EvN K (tTup (tCons ta (tCons tb tNil))) σ H (.p d e) := fun H1 e1 _ q =>
  ha H1 e1 _ fun x H2 e2 r => hb H2 (e1.trans e2) _ fun y H3 e3 r' => ⟨(by decide : 2 ≤ sizeLine), fun p n => q _ _ ((e2.trans e3).trans (Ex.new n)) ⟨p, x, y, rfl, upd_same, D.nmono (e3.trans (Ex.new n)) r, D.nmono (Ex.new n) (D.nback e2 r'), hd _ _ _ _ (D.nrep r) r'⟩⟩
theorem dis_ll {xs ys : List V} : ∀ H1 H2 x y, (D.l xs).rep K x H1 → (D.l ys).new K H1 y H2 → ∀ b, x = V.ref b → y ≠ .ref b := fun H1 H2 x y ⟨a, hx, ha⟩ ⟨c, hy, hc, _⟩ b e1 e2 => by
  rw [hx] at e1
  rw [hy] at e2
  cases e1
  cases e2
  rw [ha] at hc
  cases hc
theorem dis_v {x0 : V} (h : ∀ b, x0 ≠ .ref b) : ∀ H1 H2 x y, (D.v x0).rep K x H1 → e.new K H1 y H2 → ∀ b, x = V.ref b → y ≠ .ref b := fun H1 H2 x y hx _ b e1 => by
  have hx' : x = x0 := hx
  rw [hx'] at e1
  exact absurd e1 (h b)

/-! ### statements -/
theorem q_asgN {i : Nat} (h : EvN K te σ H d) (k : ∀ u H1, Ex H H1 → d.new K H u H1 → tz D' (σ.set i (some u)) H1) : tSeq (tAsg te (gName i)) tz D' σ H := h H (Ex.refl H) _ fun u H1 e n => k u H1 e n
theorem s_asgN {i : Nat} (h : EvN K te σ H d) (k : ∀ u H1, Ex H H1 → d.new K H u H1 → D'.nx (σ.set i (some u)) H1) : tAsg te (gName i) D' σ H := h H (Ex.refl H) _ fun u H1 e n => k u H1 e n
theorem q_asgD {i : Nat} (h : EvD K te σ H d) (k : ∀ u H1, Ex H H1 → d.rep K u H1 → tz D' (σ.set i (some u)) H1) : tSeq (tAsg te (gName i)) tz D' σ H := h H (Ex.refl H) _ fun u H1 e n => k u H1 e n
theorem s_asgD {i : Nat} (h : EvD K te σ H d) (k : ∀ u H1, Ex H H1 → d.rep K u H1 → D'.nx (σ.set i (some u)) H1) : tAsg te (gName i) D' σ H := h H (Ex.refl H) _ fun u H1 e n => k u H1 e n
theorem q_asgNl {i : Nat} {xs : List V} (h : EvN K te σ H (.l xs)) (k : ∀ p H1, H p = none → Ex H H1 → H1 p = some (.lst xs) → tz D' (σ.set i (some (.ref p))) H1) : tSeq (tAsg te (gName i)) tz D' σ H :=
  q_asgN h fun u H1 e n => by
    obtain ⟨p, rfl, n1, n2⟩ := n
    exact k p H1 n1 e n2
theorem s_asgNl {i : Nat} {xs : List V} (h : EvN K te σ H (.l xs)) (k : ∀ p H1, H p = none → Ex H H1 → H1 p = some (.lst xs) → D'.nx (σ.set i (some (.ref p))) H1) : tAsg te (gName i) D' σ H :=
  s_asgN h fun u H1 e n => by
    obtain ⟨p, rfl, n1, n2⟩ := n
    exact k p H1 n1 e n2
theorem s_retN (h : EvN K te σ H d) (k : ∀ u H1, Ex H H1 → d.new K H u H1 → D'.rt u H1) : tRet te D' σ H := h H (Ex.refl H) _ k
theorem s_retD (h : EvD K te σ H d) (k : ∀ u H1, Ex H H1 → d.rep K u H1 → D'.rt u H1) : tRet te D' σ H := h H (Ex.refl H) _ k
theorem q_dropN (h : EvN K te σ H d) (k : ∀ H1, Ex H H1 → tz D' σ H1) : tSeq (tDrop te) tz D' σ H := h H (Ex.refl H) _ fun _ H1 e _ => k H1 e
theorem s_dropN (h : EvN K te σ H d) (k : ∀ H1, Ex H H1 → D'.nx σ H1) : tDrop te D' σ H := h H (Ex.refl H) _ fun _ H1 e _ => k H1 e
/-- a, b = e -/
theorem q_asgP {i j : Nat} (h : EvN K te σ H (.p d e)) (k : ∀ x y H1, Ex H H1 → d.new K H x H1 → e.new K H y H1 → (∀ b, x = V.ref b → y ≠ .ref b) → tz D' ((σ.set i (some x)).set j (some y)) H1) :
    tSeq (tAsg te (gTup K 2 (gCons (gName i) (gCons (gName j) gNil)))) tz D' σ H := h H (Ex.refl H) _ fun u H1 e1 ⟨a, x, y, hu, ha, r1, r2, nd⟩ =>
  ⟨a, [x, y], hu, st_of ha, rfl, x, [y], rfl, y, [], rfl, rfl, k x y H1 e1 r1 r2 nd⟩
/-- what stands but at l -/
def But (l : Addr) (H H' : Hp) : Prop := ∀ b o, b ≠ l → H b = some o → H' b = some o
theorem But.ex {H0 : Hp} {l : Addr} (e : Ex H0 H) (n : H0 l = none) (b : But l H H') : Ex H0 H' := fun a o h => b a o (ne_of_none h n) (e a o h)
theorem but_upd {l : Addr} {o : HO} (e : Ex H H') : But l H (upd H' l o) := fun b o' hb h => by
  rw [upd_ne hb]
  exact e b o' h
theorem s_appB {l : Addr} {xs : List V} (hl : H l = some (.lst xs)) (ha : Ev ta σ H (.ref l)) (h : Ev te σ H x) (hz : xs.length < 100000) (k : ∀ H1, But l H H1 → H1 l = some (.lst (xs ++ [x])) → D'.nx σ H1) :
    tDrop (tBM K "list" rAppend ta (tCons te tNil)) D' σ H := s_app hl ha h hz fun H1 e1 => k _ (but_upd e1) upd_same
theorem q_appB {l : Addr} {xs : List V} (hl : H l = some (.lst xs)) (ha : Ev ta σ H (.ref l)) (h : Ev te σ H x) (hz : xs.length < 100000) (k : ∀ H1, But l H H1 → H1 l = some (.lst (xs ++ [x])) → tz D' σ H1) :
    tSeq (tDrop (tBM K "list" rAppend ta (tCons te tNil))) tz D' σ H := s_appB (D' := { D' with nx := tz D' }) hl ha h hz k
theorem s_appI {l : Addr} {ns : List Int} {n : Int} (hl : H l = some (.lst (il ns))) (ha : Ev ta σ H (.ref l)) (h : Ev te σ H (.int n)) (hz : ns.length < 100000) (k : ∀ H1, But l H H1 → H1 l = some (.lst (il (ns ++ [n]))) → D'.nx σ H1) :
    tDrop (tBM K "list" rAppend ta (tCons te tNil)) D' σ H := s_appB hl ha h (by rw [List.length_map]; exact hz) fun H1 b e => k H1 b (by rw [e]; unfold il; rw [List.map_append]; rfl)
theorem q_appI {l : Addr} {ns : List Int} {n : Int} (hl : H l = some (.lst (il ns))) (ha : Ev ta σ H (.ref l)) (h : Ev te σ H (.int n)) (hz : ns.length < 100000) (k : ∀ H1, But l H H1 → H1 l = some (.lst (il (ns ++ [n]))) → tz D' σ H1) :
    tSeq (tDrop (tBM K "list" rAppend ta (tCons te tNil))) tz D' σ H := s_appI (D' := { D' with nx := tz D' }) hl ha h hz k
/-- a list with a number changed -/
def si (xs : List Int) (i v : Int) : List Int := xs.set i.toNat v
theorem si_len (xs : List Int) (i v : Int) : (si xs i v).length = xs.length := List.length_set
theorem s_setI {l : Addr} {ns : List Int} {i n : Int} (hl : H l = some (.lst (il ns))) (h : Ev te σ H (.int n)) (ha : Ev ta σ H (.ref l)) (hb : Ev tb σ H (.int i)) (hi : 0 ≤ i ∧ i < ns.length) (k : ∀ H1, But l H H1 → H1 l = some (.lst (il (si ns i n))) → D'.nx σ H1) :
    tAsg te (gSub ta tb rSetL) D' σ H := by
  have e : i = (i.toNat : Int) := by omega
  refine s_setL (j := i.toNat) hl h ha (by rw [← e]; exact hb) (by rw [List.length_map]; omega) fun H1 e1 => k _ (but_upd e1) ?_
  rw [upd_same]
  unfold si il
  rw [List.map_set]
theorem q_setI {l : Addr} {ns : List Int} {i n : Int} (hl : H l = some (.lst (il ns))) (h : Ev te σ H (.int n)) (ha : Ev ta σ H (.ref l)) (hb : Ev tb σ H (.int i)) (hi : 0 ≤ i ∧ i < ns.length) (k : ∀ H1, But l H H1 → H1 l = some (.lst (il (si ns i n))) → tz D' σ H1) :
    tSeq (tAsg te (gSub ta tb rSetL)) tz D' σ H := s_setI (D' := { D' with nx := tz D' }) hl h ha hb hi k

/-! ### loops -/
theorem s_forI {a : Addr} {ns : List Int} {j : Nat} (h : Ev tl σ H (.ref a)) (hx : H a = some (.lst (il ns))) (Pv : Nat → L2.St → Hp → Prop) (h0 : ∀ H1, Ex H H1 → Pv 0 σ H1) (hl : ∀ i σ' H', Pv i σ' H' → H' a = some (.lst (il ns)))
    (hs : ∀ (i : Nat) (x : Int) σ' H', ns[i]? = some x → Pv i σ' H' → tu { D' with nx := Pv (i + 1), ct := Pv (i + 1), bk := D'.nx } (σ'.set j (some (.int x))) H') (hd : ∀ σ' H', Pv ns.length σ' H' → D'.nx σ' H') : tFor (iList K tl) (gName j) tu D' σ H :=
  s_forLn h (sq_of hx) Pv h0 (fun i σ' H' _ p => sq_of (hl i σ' H' p)) (fun i x σ' H' hi p => by
    rw [List.getElem?_map] at hi
    cases hn : ns[i]? with
    | none => rw [hn] at hi; cases hi
    | some n =>
      rw [hn] at hi
      cases hi
      exact hs i n σ' H' hn p) (fun σ' H' p => hd σ' H' (by rw [List.length_map] at p; exact p))
theorem q_forI {a : Addr} {ns : List Int} {j : Nat} (h : Ev tl σ H (.ref a)) (hx : H a = some (.lst (il ns))) (Pv : Nat → L2.St → Hp → Prop) (h0 : ∀ H1, Ex H H1 → Pv 0 σ H1) (hl : ∀ i σ' H', Pv i σ' H' → H' a = some (.lst (il ns)))
    (hs : ∀ (i : Nat) (x : Int) σ' H', ns[i]? = some x → Pv i σ' H' → tu { D' with nx := Pv (i + 1), ct := Pv (i + 1), bk := tz D' } (σ'.set j (some (.int x))) H') (hd : ∀ σ' H', Pv ns.length σ' H' → tz D' σ' H') : tSeq (tFor (iList K tl) (gName j) tu) tz D' σ H :=
  s_forI (D' := { D' with nx := tz D' }) h hx Pv h0 hl hs hd
theorem s_forV {a : Addr} {ns : List Int} {j : Nat} (h : Ev tl σ H (.ref a)) (hx : H a = some (.lst (il ns))) (Pv : Nat → L2.St → Hp → Prop) (h0 : ∀ H1, Ex H H1 → Pv 0 σ H1) (hl : ∀ i σ' H', Pv i σ' H' → H' a = some (.lst (il ns)))
    (hs : ∀ (i : Nat) (x : Int) σ' H', ns.reverse[i]? = some x → Pv i σ' H' → tu { D' with nx := Pv (i + 1), ct := Pv (i + 1), bk := D'.nx } (σ'.set j (some (.int x))) H') (hd : ∀ σ' H', Pv ns.length σ' H' → D'.nx σ' H') : tFor (iRev K (tCons tl tNil)) (gName j) tu D' σ H := by
  unfold tFor iRev
  exact (ea_of h) H (Ex.refl H) _ fun H1 e => ⟨a, il ns, rfl, sq_of (e _ _ hx), RT.for_Itv (K := K) (xs := il ns) Pv (h0 H1 e) (fun i σ' H' p => sq_of (hl i σ' H' p)) (fun i x σ' H' hi hg p => by
    rw [List.length_map] at hi hg
    have hr : ns.reverse[i]? = ns[ns.length - 1 - i]? := List.getElem?_reverse hi
    rw [List.getElem?_map, ← hr] at hg
    cases hn : ns.reverse[i]? with
    | none => rw [hn] at hg; cases hg
    | some n =>
      rw [hn] at hg
      cases hg
      exact hs i n σ' H' hn p) (fun σ' H' p => hd σ' H' (by rw [List.length_map] at p; exact p))⟩
theorem q_forV {a : Addr} {ns : List Int} {j : Nat} (h : Ev tl σ H (.ref a)) (hx : H a = some (.lst (il ns))) (Pv : Nat → L2.St → Hp → Prop) (h0 : ∀ H1, Ex H H1 → Pv 0 σ H1) (hl : ∀ i σ' H', Pv i σ' H' → H' a = some (.lst (il ns)))
    (hs : ∀ (i : Nat) (x : Int) σ' H', ns.reverse[i]? = some x → Pv i σ' H' → tu { D' with nx := Pv (i + 1), ct := Pv (i + 1), bk := tz D' } (σ'.set j (some (.int x))) H') (hd : ∀ σ' H', Pv ns.length σ' H' → tz D' σ' H') : tSeq (tFor (iRev K (tCons tl tNil)) (gName j) tu) tz D' σ H :=
  s_forV (D' := { D' with nx := tz D' }) h hx Pv h0 hl hs hd
end

/-! ### turns as plain functions -/
def iter {α : Type} (f : Nat → α → α) (a : α) : Nat → α
  | 0 => a
  | n + 1 => f n (iter f a n)
theorem iter_succ {α : Type} (f : Nat → α → α) (a : α) (n : Nat) : iter f a (n + 1) = f n (iter f a n) := rfl
theorem fold_succ {α : Type} {f : α → Int → α} {a : α} {l : List Int} {i : Nat} {x : Int} (h : l[i]? = some x) : (l.take (i + 1)).foldl f a = f ((l.take i).foldl f a) x := by
  rw [take_snoc h, List.foldl_append]
  rfl
/-- the first turn that hands something back -/
def first {α : Type} (b : Nat → Option α) : Nat → Option α
  | 0 => none
  | n + 1 => match first b n with
    | some r => some r
    | none => b n
theorem first_none {α : Type} {b : Nat → Option α} {n : Nat} (h : first b n = none) (h' : b n = none) : first b (n + 1) = none := by
  unfold first
  rw [h]
  exact h'
theorem first_some {α : Type} {b : Nat → Option α} {i n : Nat} {r : α} (h : first b i = none) (h' : b i = some r) (hi : i < n) : first b n = some r := by
  induction n with
  | zero => omega
  | succ n ih =>
    by_cases c : i = n
    · subst c
      unfold first
      rw [h]
      exact h'
    · have q := ih (by omega)
      unfold first
      rw [q]
def whl {α : Type} (c : α → Bool) (f : α → α) : Nat → α → α
  | 0, x => x
  | n + 1, x => if c x = true then whl c f n (f x) else x
theorem whl_stop {α : Type} {c : α → Bool} {f : α → α} {x : α} (h : c x = false) : ∀ n, whl c f n x = x
  | 0 => rfl
  | n + 1 => by
    unfold whl
    rw [h]
    rfl
theorem whl_fuel {α : Type} {c : α → Bool} {f : α → α} {I : α → Prop} {mu : α → Nat} (hI : ∀ x, I x → c x = true → I (f x) ∧ mu (f x) < mu x) : ∀ (n m : Nat) (x : α), I x → mu x ≤ n → mu x ≤ m → whl c f n x = whl c f m x := by
  intro n
  induction n with
  | zero =>
    intro m x hx h h2
    cases hc : c x with
    | false => rw [whl_stop hc, whl_stop hc]
    | true =>
      have := (hI x hx hc).2
      omega
  | succ n ih =>
    intro m x hx h h2
    cases hc : c x with
    | false => rw [whl_stop hc, whl_stop hc]
    | true =>
      obtain ⟨i1, i2⟩ := hI x hx hc
      obtain ⟨m', rfl⟩ : ∃ m', m = m' + 1 := ⟨m - 1, by omega⟩
      show (if c x = true then whl c f n (f x) else x) = (if c x = true then whl c f m' (f x) else x)
      rw [if_pos hc, if_pos hc]
      exact ih m' (f x) i1 (by omega) (by omega)
theorem whl_go {α : Type} {c : α → Bool} {f : α → α} {I : α → Prop} {mu : α → Nat} (hI : ∀ x, I x → c x = true → I (f x) ∧ mu (f x) < mu x) {x : α} (hx : I x) (hc : c x = true) : whl c f (mu x) x = whl c f (mu (f x)) (f x) := by
  obtain ⟨i1, i2⟩ := hI x hx hc
  obtain ⟨m, hm⟩ : ∃ m, mu x = m + 1 := ⟨mu x - 1, by omega⟩
  rw [hm]
  show (if c x = true then whl c f m (f x) else x) = _
  rw [if_pos hc]
  exact whl_fuel hI m (mu (f x)) (f x) i1 (by omega) (Nat.le_refl _)
/-- behind the loop the test fails -/
theorem whl_end {α : Type} {c : α → Bool} {f : α → α} {I : α → Prop} {mu : α → Nat} (hI : ∀ x, I x → c x = true → I (f x) ∧ mu (f x) < mu x) : ∀ (n : Nat) (x : α), I x → mu x ≤ n → I (whl c f n x) ∧ c (whl c f n x) = false := by
  intro n
  induction n with
  | zero =>
    intro x hx h
    cases hc : c x with
    | false => exact ⟨hx, hc⟩
    | true =>
      have := (hI x hx hc).2
      omega
  | succ n ih =>
    intro x hx h
    cases hc : c x with
    | false => rw [whl_stop hc]; exact ⟨hx, hc⟩
    | true =>
      obtain ⟨i1, i2⟩ := hI x hx hc
      show I (if c x = true then whl c f n (f x) else x) ∧ c (if c x = true then whl c f n (f x) else x) = false
      rw [if_pos hc]
      exact ih (f x) i1 (by omega)

/-! ### further words -/
theorem paired_cons {α β : Type} {F : α → β → Prop} {l : List α} {y : β} {ys : List β} (h : Paired F l (y :: ys)) : ∃ x xs, l = x :: xs ∧ F x y ∧ Paired F xs ys := by
  cases h with
  | cons a b => exact ⟨_, _, rfl, a, b⟩
theorem paired_nil {α β : Type} {F : α → β → Prop} {l : List α} (h : Paired F l []) : l = [] := by
  cases h
  rfl
theorem list_nodup3 {α : Type} {a b c : α} (h : [a, b, c].Nodup) : a ≠ b ∧ a ≠ c ∧ b ≠ c := by
  simp only [List.nodup_cons, List.mem_cons, List.not_mem_nil, not_or, or_false] at h
  exact ⟨h.1.1, h.1.2, h.2.1⟩
theorem list_nodup4 {α : Type} {a b c d : α} (h : [a, b, c, d].Nodup) : a ≠ b ∧ a ≠ c ∧ a ≠ d ∧ b ≠ c ∧ b ≠ d ∧ c ≠ d := by
  simp only [List.nodup_cons, List.mem_cons, List.not_mem_nil, not_or, or_false] at h
  exact ⟨h.1.1, h.1.2.1, h.1.2.2, h.2.1.1, h.2.1.2, h.2.2.1⟩
theorem cond_t {α : Type} {c : Bool} {a b : α} (h : c = true) : (bif c then a else b) = a := by rw [h]; rfl
theorem cond_f {α : Type} {c : Bool} {a b : α} (h : c = false) : (bif c then a else b) = b := by rw [h]; rfl
theorem elim_n {α β : Type} {o : Option α} {a : β} {f : α → β} (h : o = none) : Option.elim o a f = a := by rw [h]; rfl
theorem elim_s {α β : Type} {o : Option α} {a : β} {f : α → β} {x : α} (h : o = some x) : Option.elim o a f = f x := by rw [h]; rfl
theorem getd_n {α : Type} {o : Option α} {a : α} (h : o = none) : Option.getD o a = a := by rw [h]; rfl
theorem getd_s {α : Type} {o : Option α} {a x : α} (h : o = some x) : Option.getD o a = x := by rw [h]; rfl
theorem getd_at {l : List Int} {i : Nat} {x : Int} (h : l[i]? = some x) : l.getD i 0 = x := by
  rw [List.getD_eq_getElem?_getD, h]
  rfl
theorem lt_of_get {α : Type} {l : List α} {i : Nat} {x : α} (h : l[i]? = some x) : i < l.length := (List.getElem?_eq_some_iff.mp h).1
theorem take_rev (l : List Int) : l.reverse.take l.length = l.reverse := by
  rw [← List.length_reverse, List.take_length]
def dOP : Option (List Int × List Int) → D
  | none => .v .non
  | some q => .p (.l (il q.1)) (.l (il q.2))
def dOL : Option (List Int) → D
  | none => .v .non
  | some q => .l (il q)
section
variable {K : PySem.W.Frag} {σ : L2.St} {H H0 H' : Hp} {ta tb te : TE} {x y : V} {d e : D} {u : V} {D' : Ends} {tz : TS}
theorem ret_eq {d' : D} (h : d = d') (n : d'.new K H0 u H') : d.new K H0 u H' := by
  rw [h]
  exact n
theorem ed_rep (h : Ev te σ H u) (r : d.rep K u H) : EvD K te σ H d := fun H1 e Q q => h H1 e Q fun H2 e2 => q u H2 e2 (D.mono (e.trans e2) r)
theorem ed_p (ha : EvD K ta σ H d) (hb : EvD K tb σ H e) : EvD K (tTup (tCons ta (tCons tb tNil))) σ H (.p d e) := fun H1 e1 _ q =>
  ha H1 e1 _ fun x H2 e2 r => hb H2 (e1.trans e2) _ fun y H3 e3 r' => ⟨(by decide : 2 ≤ sizeLine), fun p n => q _ _ ((e2.trans e3).trans (Ex.new n)) ⟨p, x, y, rfl, upd_same, D.mono (e3.trans (Ex.new n)) r, D.mono (Ex.new n) r'⟩⟩
theorem q_par {i j : Nat} {v w : V} {ta : TA} (h : EvA ta σ H [v, w]) (k : ∀ H1, Ex H H1 → tz D' ((σ.set i (some v)).set j (some w)) H1) : tSeq (tPar i j ta) tz D' σ H := h H (Ex.refl H) _ fun H1 e => ⟨v, w, rfl, k H1 e⟩
theorem s_par {i j : Nat} {v w : V} {ta : TA} (h : EvA ta σ H [v, w]) (k : ∀ H1, Ex H H1 → D'.nx ((σ.set i (some v)).set j (some w)) H1) : tPar i j ta D' σ H := h H (Ex.refl H) _ fun H1 e => ⟨v, w, rfl, k H1 e⟩
end
theorem iter_inv {α : Type} {f : Nat → α → α} {a : α} {P : α → Prop} {n : Nat} (h0 : P a) (hs : ∀ i st, i < n → P st → P (f i st)) : P (iter f a n) := by
  induction n with
  | zero => exact h0
  | succ n ih => exact hs n _ (Nat.lt_succ_self n) (ih fun i st hi => hs i st (Nat.lt_succ_of_lt hi))
end Kx

namespace Pf
open PySem PySem.Spec PyProof.Rows L2 Evl Kx
local macro_rules | `(tactic| walk_at "kside") => `(tactic| first | assumption | omega | (constructor <;> first | assumption | omega) | (simp only [List.length_cons, List.length_nil, List.length_append, List.length_map, zs_len, si_len, rng_len] at *; omega) | exact Nat.le_trans (List.length_filter_le _ _) (by simp only [rng_len]; omega))
local macro_rules | `(tactic| walk_at "kmul") => `(tactic| first | exact .inr ⟨by omega, by omega⟩ | exact .inl ⟨by omega, by omega⟩)
def topS (i : Nat) : Stmt := PySem.Challenge.pw_sumsync_k01_rests.main.body.getD i (.Pass ⟨0, 0, 0, 0⟩)
abbrev s_power : Stmt := topS 2
abbrev s_inverse : Stmt := topS 3
abbrev s__law_whole : Stmt := topS 5
abbrev s__law_rests : Stmt := topS 7
abbrev s__law_cell_at : Stmt := topS 6
abbrev s_law : Stmt := topS 8
theorem sc_power : FnScope ["rest", "many", "found", "turn"] ["rest", "many"] (defScope s_power) := ⟨rfl, rfl, rfl, by decide +kernel, rfl, by decide +kernel, by decide +kernel⟩
theorem sc_inverse : FnScope ["rest"] ["rest"] (defScope s_inverse) := ⟨rfl, rfl, rfl, by decide +kernel, rfl, by decide +kernel, by decide +kernel⟩
theorem sc__law_whole : FnScope ["_law_found"] ["_law_found"] (defScope s__law_whole) := ⟨rfl, rfl, rfl, by decide +kernel, rfl, by decide +kernel, by decide +kernel⟩
theorem sc__law_rests : FnScope ["_law_found", "_law_due", "_law_k"] ["_law_found", "_law_due"] (defScope s__law_rests) := ⟨rfl, rfl, rfl, by decide +kernel, rfl, by decide +kernel, by decide +kernel⟩
theorem sc__law_cell_at : FnScope ["_law_script", "_law_k"] ["_law_script", "_law_k"] (defScope s__law_cell_at) := ⟨rfl, rfl, rfl, by decide +kernel, rfl, by decide +kernel, by decide +kernel⟩
theorem sc_law : FnScope ["_law_script", "_law_rest", "_law_many", "_law_due", "_law_turn", "_law_found", "_law_one", "_law_back", "_law_number"] ["_law_script"] (defScope s_law) := ⟨rfl, rfl, rfl, by decide +kernel, rfl, by decide +kernel, by decide +kernel⟩
structure Txt (K : PySem.W.Frag) (mg : Str → Option Value) (fa : Nat → Addr) (fd : Nat → FuncData) : Prop where
  F_power : Fun K "power" "power" s_power (fa 0) (fd 0)
  b_power : Binds K (fd 0) ["rest", "many"] []
  g_power : mg "power" = some (.ref (fa 0))
  F_inverse : Fun K "inverse" "inverse" s_inverse (fa 1) (fd 1)
  b_inverse : Binds K (fd 1) ["rest"] []
  g_inverse : mg "inverse" = some (.ref (fa 1))
  F__law_whole : Fun K "_law_whole" "_law_whole" s__law_whole (fa 2) (fd 2)
  b__law_whole : Binds K (fd 2) ["_law_found"] []
  g__law_whole : mg "_law_whole" = some (.ref (fa 2))
  F__law_rests : Fun K "_law_rests" "_law_rests" s__law_rests (fa 3) (fd 3)
  b__law_rests : Binds K (fd 3) ["_law_found", "_law_due"] []
  g__law_rests : mg "_law_rests" = some (.ref (fa 3))
  F__law_cell_at : Fun K "_law_cell_at" "_law_cell_at" s__law_cell_at (fa 4) (fd 4)
  b__law_cell_at : Binds K (fd 4) ["_law_script", "_law_k"] []
  g__law_cell_at : mg "_law_cell_at" = some (.ref (fa 4))
  F_law : Fun K "law" "law" s_law (fa 5) (fd 5)
  b_law : Binds K (fd 5) ["_law_script"] []
  g_law : mg "law" = some (.ref (fa 5))
  n_bool : mg "bool" = none
  n_int : mg "int" = none
  n_isinstance : mg "isinstance" = none
  n_len : mg "len" = none
  n_list : mg "list" = none
  n_range : mg "range" = none
  v_PRIME : ∃ t, mg "PRIME" = some (.int 251 t)
def m_power_L1s (v_rest : Int) (i3 : Nat) (v_found_4 : Int) : Int := (let v_found_8 : Int := (v_found_4 * v_rest) % 251; v_found_8)
def m_power_L1 (v_rest : Int) (v_many : Int) : Int := iter (m_power_L1s v_rest) 1 ((v_many).toNat)
def m_power (v_rest : Int) (v_many : Int) : Int := (let v_found_15 : Int := (m_power_L1 v_rest v_many); v_found_15)
theorem power_ok (v_rest v_many : Int) : 0 ≤ m_power v_rest v_many ∧ m_power v_rest v_many < 251 := by
  show 0 ≤ iter (m_power_L1s v_rest) 1 v_many.toNat ∧ iter (m_power_L1s v_rest) 1 v_many.toNat < 251
  refine iter_inv (P := fun z => 0 ≤ z ∧ z < 251) (by omega) (fun i st _ h => ?_)
  unfold m_power_L1s
  dsimp only
  omega
def m_inverse (v_rest : Int) : Int := m_power v_rest (251 - 2)
theorem inverse_ok (v_rest : Int) : 0 ≤ m_inverse v_rest ∧ m_inverse v_rest < 251 := power_ok _ _
def m_law_whole (v_found : Int) : Bool := true
def m_law_rests_L1b (v_found : List Int) (v_due : List Int) (i9 : Nat) : Option Bool := (bif (!(m_law_whole (gi v_found (i9 : Int)))) || (!decide (gi v_found (i9 : Int) = gi v_due (i9 : Int))) then some false else none)
def m_law_rests (v_found : List Int) (v_due : List Int) : Bool := (bif !decide ((v_found.length : Int) = (v_due.length : Int)) then false else (Option.getD (first (m_law_rests_L1b v_found v_due) (((v_due.length : Int)).toNat)) true))
def m_law_cell_at (v_script : List Int) (v_k : Int) : Int := (bif decide (v_k < (v_script.length : Int)) then gi v_script v_k else 0)
def m_law_J1 (v_script : List Int) (v_many_6 : Int) : Int := (bif decide (((m_law_cell_at v_script 1) / 13) % 4 = 1) then (let v_many_13 : Int := ((m_law_cell_at v_script 1) / 52) % 601; v_many_13) else v_many_6)
def m_law_L1s (v_rest_3 : Int) (i19 : Nat) (v_due_20 : Int) : Int := (let v_due_24 : Int := (v_due_20 * v_rest_3) % 251; v_due_24)
def m_law_L1 (v_rest_3 : Int) (v_many_7 : Int) : Int := iter (m_law_L1s v_rest_3) 1 ((v_many_7).toNat)
def m_law (v_script : List Int) : Bool := (let v_rest_3 : Int := (m_law_cell_at v_script 0) % 251; (let v_many_6 : Int := (m_law_cell_at v_script 1) % 13; (let v_many_7 : Int := m_law_J1 v_script v_many_6; (let v_due_31 : Int := (m_law_L1 v_rest_3 v_many_7); (let v_found_34 : Int := m_power v_rest_3 v_many_7; (bif (!(m_law_whole v_found_34)) || ((!decide (v_found_34 = v_due_31)) || ((!(m_law_whole 251)) || (!decide (251 = 251)))) then false else (let v_one_47 : Int := 1 + ((m_law_cell_at v_script 2) % 250); (let v_back_50 : Int := m_inverse v_one_47; (bif !(m_law_rests [v_back_50] ((rng 0 251).filter fun v_number_c51 => decide ((v_one_47 * v_number_c51) % 251 = 1))) then false else m_law_rests [m_inverse v_back_50] [v_one_47])))))))))
section
variable {P : Program} {w : World} {K : PySem.W.Frag} {mg : Str → Option Value} {base : Heap} {fa : Nat → Addr} {fd : Nat → FuncData}
def sp_power (K : PySem.W.Frag) : Sp := spG K (fun (a : Int × Int) => [.v (.int a.1), .v (.int a.2)]) (fun a => (0 ≤ a.1 ∧ a.1 < 251) ∧ (0 ≤ a.2 ∧ a.2 ≤ 100000)) (fun a => .v (.int (m_power a.1 a.2)))
theorem ok_power (T : Txt K mg fa fd) : FnOk P w K mg base CX0 1 (fa 0) (fd 0) ["rest", "many"] (sp_power K) := by
  obtain ⟨tPRIME, vPRIME⟩ := T.v_PRIME
  refine T.F_power.ok sc_power (fun vs H Q E h => ?_) (fun cdv A outer s H0 vs Q E hr h => ?_)
  · obtain ⟨a, r, _⟩ := h
    exact r.length
  · obtain ⟨⟨v_rest, v_many⟩, r, hpre, k⟩ := h
    replace r : Paired (fun u d => D.rep K d u H0) vs [.v (.int v_rest), .v (.int v_many)] := r
    obtain ⟨u_v_rest, tl_v_rest, hvs0, r_v_rest, r0⟩ := paired_cons r
    clear r
    subst hvs0
    obtain rfl : u_v_rest = .int v_rest := r_v_rest
    obtain ⟨u_v_many, tl_v_many, hvs1, r_v_many, r1⟩ := paired_cons r0
    clear r0
    subst hvs1
    obtain rfl : u_v_many = .int v_many := r_v_many
    obtain rfl := paired_nil r1
    obtain ⟨hp0, hp1⟩ := hpre
    replace hp0 : 0 ≤ v_rest ∧ v_rest < 251 := hp0
    replace hp1 : 0 ≤ v_many ∧ v_many ≤ 100000 := hp1
    have ex : Ex H0 H0 := Ex.refl H0
    refine ⟨_, (pss_cons (ps_set (i := 2) sc_power.nd rfl (.inl rfl) pe_int)
      (pss_cons (ps_for PassesOwn.never rfl (pi_range1 (by rfl) T.n_range (pa_cons (pv 1) pa_nil)) (pg_name (i := 3) sc_power.nd rfl (.inl rfl)) (pss_one (ps_set (i := 2) sc_power.nd rfl (.inl rfl) (pe_op op_mod (pe_op op_mul (pv 2) (pv 0)) (pe_glob (v := .int 251) rfl vPRIME ⟨_, rfl⟩)))))
      (pss_one (ps_ret (pv 2))))), ?_⟩
    refine q_asg (v := .int 1) ev_c (fun H1 e2 => ?_)
    have ex := ex.trans e2
    refine q_forR1 (n := v_many) (ea_cons (ev_var rfl) ea_nil) (by walk_at "kside") (fun (i : Nat) σ' H' => ∃ (y_v_turn_1 : Option V) (v_found_4 : Int), iter (m_power_L1s v_rest) 1 i = v_found_4 ∧ σ' = [some (.int v_rest), some (.int v_many), some (.int v_found_4), y_v_turn_1] ∧ Ex H0 H') (fun H7 e8 => ⟨_, _, rfl, rfl, ex.trans e8⟩) ?_ ?_
    ·
      rintro i3 σ' H9 hi_i3 ⟨y_v_turn_1, v_found_4, hst1, rfl, ex⟩
      obtain ⟨v_found_12, e_v_found_12⟩ : ∃ z : Int, z = (v_found_4 * v_rest) % 251 := ⟨_, rfl⟩
      refine s_asg (v := .int v_found_12) (ev_is (ev_op (ev_op (ev_var rfl) (ev_var rfl) (rv_I (by walk_at "kmul"))) ev_c (rv_I (by walk_at "kside"))) (congrArg V.int e_v_found_12.symm)) (fun H10 e11 => ?_)
      have ex := ex.trans e11
      subst e_v_found_12
      have hs13 : iter (m_power_L1s v_rest) 1 (i3 + 1) = ((v_found_4 * v_rest) % 251) := (congrArg ((m_power_L1s v_rest) i3) hst1).trans rfl
      exact ⟨_, _, hs13, rfl, ex⟩
    ·
      rintro σ' H14 ⟨y_v_turn_1, v_found_4, hst1, rfl, ex⟩
      obtain rfl : v_found_4 = (m_power_L1 v_rest v_many) := hst1.symm
      obtain ⟨v_found_15, e_v_found_15⟩ : ∃ z : Int, z = (m_power_L1 v_rest v_many) := ⟨_, rfl⟩
      rw [← e_v_found_15]
      refine s_ret (ev_var rfl) (fun H16 e17 => ?_)
      subst e_v_found_15
      exact k _ _ (ex.trans e17) (ret_eq (congrArg (fun z : Int => (.v (.int z) : D)) (show m_power v_rest v_many = (m_power_L1 v_rest v_many) from rfl)) rfl)
def sp_inverse (K : PySem.W.Frag) : Sp := spG K (fun (a : Int) => [.v (.int a)]) (fun a => (0 ≤ a ∧ a < 251)) (fun a => .v (.int (m_inverse a)))
theorem ok_inverse (T : Txt K mg fa fd) : FnOk P w K mg base CX0 2 (fa 1) (fd 1) ["rest"] (sp_inverse K) := by
  have G_power := ok_power (P := P) (w := w) (base := base) T
  obtain ⟨tPRIME, vPRIME⟩ := T.v_PRIME
  refine T.F_inverse.ok sc_inverse (fun vs H Q E h => ?_) (fun cdv A outer s H0 vs Q E hr h => ?_)
  · obtain ⟨a, r, _⟩ := h
    exact r.length
  · obtain ⟨v_rest, r, hpre, k⟩ := h
    replace r : Paired (fun u d => D.rep K d u H0) vs [.v (.int v_rest)] := r
    obtain ⟨u_v_rest, tl_v_rest, hvs0, r_v_rest, r0⟩ := paired_cons r
    clear r
    subst hvs0
    obtain rfl : u_v_rest = .int v_rest := r_v_rest
    obtain rfl := paired_nil r0
    have hp0 := hpre
    replace hp0 : 0 ≤ v_rest ∧ v_rest < 251 := hp0
    have ex : Ex H0 H0 := Ex.refl H0
    refine ⟨_, (pss_one (ps_ret (pe_call G_power (hr.mono (by decide)) (by rfl) T.g_power T.F_power.kp T.b_power .nil pass0 (pa_cons (pv 0) (pa_cons (pe_op op_sub (pe_glob (v := .int 251) rfl vPRIME ⟨_, rfl⟩) pe_int) pa_nil))))), ?_⟩
    refine s_ret (ev_ofN (en_call (a := (v_rest, 251 - 2)) (eas_cons (ed_v (ev_var rfl)) (eas_cons (ed_v (ev_op ev_c ev_c rv_I0)) eas_nil)) ⟨(by walk_at "kside"), (by walk_at "kside")⟩)) (fun H1 e2 => ?_)
    exact k _ _ (ex.trans e2) (ret_eq (congrArg (fun z : Int => (.v (.int z) : D)) (show m_inverse v_rest = m_power v_rest (251 - 2) from rfl)) rfl)
def sp__law_whole (K : PySem.W.Frag) : Sp := spG K (fun (a : Int) => [.v (.int a)]) (fun a => True) (fun a => .v (.bl (m_law_whole a)))
theorem ok__law_whole (T : Txt K mg fa fd) : FnOk P w K mg base CX0 1 (fa 2) (fd 2) ["_law_found"] (sp__law_whole K) := by
  refine T.F__law_whole.ok sc__law_whole (fun vs H Q E h => ?_) (fun cdv A outer s H0 vs Q E hr h => ?_)
  · obtain ⟨a, r, _⟩ := h
    exact r.length
  · obtain ⟨v_found, r, hpre, k⟩ := h
    replace r : Paired (fun u d => D.rep K d u H0) vs [.v (.int v_found)] := r
    obtain ⟨u_v_found, tl_v_found, hvs0, r_v_found, r0⟩ := paired_cons r
    clear r
    subst hvs0
    obtain rfl : u_v_found = .int v_found := r_v_found
    obtain rfl := paired_nil r0
    have ex : Ex H0 H0 := Ex.refl H0
    refine ⟨_, (pss_one (ps_ret (pe_and (pe_callB call_isi (by rfl) T.n_isinstance (by decide +kernel) (pa_cons (pv 0) (pa_cons (pe_bltn (v := .ty "int") (by rfl) T.n_int (by decide +kernel) rfl) pa_nil))) (pe_one (pe_not (pe_callB call_isi (by rfl) T.n_isinstance (by decide +kernel) (pa_cons (pv 0) (pa_cons (pe_bltn (v := .ty "bool") (by rfl) T.n_bool (by decide +kernel) rfl) pa_nil)))))))), ?_⟩
    refine s_ret (ev_andV (ev_isD (d := .v (.int v_found)) (s := "int") (b := true) (ed_v (ev_var rfl)) ev_c rfl (by decide +kernel)) (fun hg1 => (ev_notV (ev_isD (d := .v (.int v_found)) (s := "int") (b := false) (ed_v (ev_var rfl)) ev_c rfl (by decide +kernel))))) (fun H2 e3 => ?_)
    exact k _ _ (ex.trans e3) (ret_eq (congrArg (fun z : Bool => (.v (.bl z) : D)) (show m_law_whole v_found = true from rfl)) rfl)
def sp__law_rests (K : PySem.W.Frag) : Sp := spG K (fun (a : (List Int) × (List Int)) => [.l (il a.1), .l (il a.2)]) (fun a => (a.2.length ≤ 1000)) (fun a => .v (.bl (m_law_rests a.1 a.2)))
theorem ok__law_rests (T : Txt K mg fa fd) : FnOk P w K mg base CX0 2 (fa 3) (fd 3) ["_law_found", "_law_due"] (sp__law_rests K) := by
  have G__law_whole := ok__law_whole (P := P) (w := w) (base := base) T
  refine T.F__law_rests.ok sc__law_rests (fun vs H Q E h => ?_) (fun cdv A outer s H0 vs Q E hr h => ?_)
  · obtain ⟨a, r, _⟩ := h
    exact r.length
  · obtain ⟨⟨v_found, v_due⟩, r, hpre, k⟩ := h
    replace r : Paired (fun u d => D.rep K d u H0) vs [.l (il v_found), .l (il v_due)] := r
    obtain ⟨u_v_found, tl_v_found, hvs0, r_v_found, r0⟩ := paired_cons r
    clear r
    subst hvs0
    obtain ⟨a_v_found, rfl, h_a_v_found0⟩ := r_v_found
    obtain ⟨u_v_due, tl_v_due, hvs1, r_v_due, r1⟩ := paired_cons r0
    clear r0
    subst hvs1
    obtain ⟨a_v_due, rfl, h_a_v_due0⟩ := r_v_due
    obtain rfl := paired_nil r1
    have hp0 := hpre
    replace hp0 : v_due.length ≤ 1000 := hp0
    have ex : Ex H0 H0 := Ex.refl H0
    refine ⟨_, (pss_cons (ps_if (PW.pt (pw_or (pt_not (pt_val (pe_callB call_isi (by rfl) T.n_isinstance (by decide +kernel) (pa_cons (pv 0) (pa_cons (pe_bltn (v := .ty "list") (by rfl) T.n_list (by decide +kernel) rfl) pa_nil))))) (pw_or1 (pt_cmpR op_ne (pe_callB call_len_seq (by rfl) T.n_len PySem.boot_len (pa_cons (pv 0) pa_nil)) (pe_callB call_len_seq (by rfl) T.n_len PySem.boot_len (pa_cons (pv 1) pa_nil)) (nomark _))))) (pss_one (ps_ret pe_bl)) pss_nil)
      (pss_cons (ps_for PassesOwn.never rfl (pi_range1 (by rfl) T.n_range (pa_cons (pe_callB call_len_seq (by rfl) T.n_len PySem.boot_len (pa_cons (pv 1) pa_nil)) pa_nil)) (pg_name (i := 2) sc__law_rests.nd rfl (.inl rfl)) (pss_one (ps_if (PW.pt (pw_or (pt_not (pt_val (pe_call G__law_whole (hr.mono (by decide)) (by rfl) T.g__law_whole T.F__law_whole.kp T.b__law_whole .nil pass0 (pa_cons (pe_ix ix_list (pv 0) (pv 2) (fun _ _ => rfl)) pa_nil)))) (pw_or1 (pt_cmpR op_ne (pe_ix ix_list (pv 0) (pv 2) (fun _ _ => rfl)) (pe_ix ix_list (pv 1) (pv 2) (fun _ _ => rfl)) (nomark _))))) (pss_one (ps_ret pe_bl)) pss_nil)))
      (pss_one (ps_ret pe_bl)))), ?_⟩
    refine q_when (b := !decide ((v_found.length : Int) = (v_due.length : Int))) (et_or (et_not (et_B (ev_isD (d := .l (il v_found)) (s := "list") (b := true) (ed_rep (ev_var (v := .ref a_v_found) rfl) ⟨_, rfl, (ex _ _ h_a_v_found0)⟩) ev_c rfl (by decide +kernel)))) (fun hg1 => (et_test (ev_neI (ev_lenI (ed_rep (ev_var (v := .ref a_v_found) rfl) ⟨_, rfl, (ex _ _ h_a_v_found0)⟩)) (ev_lenI (ed_rep (ev_var (v := .ref a_v_due) rfl) ⟨_, rfl, (ex _ _ h_a_v_due0)⟩)))))) (fun hb4 H2 e3 => ?_) (fun hb4 H2 e3 => ?_)
    ·
      have hq4 := hb4
      try simp only [Bool.and_eq_true, Bool.or_eq_true, Bool.not_eq_true', Bool.not_eq_false', Bool.and_eq_false_iff, Bool.or_eq_false_iff, decide_eq_true_eq, decide_eq_false_iff_not] at hq4
      have ex := ex.trans e3
      refine s_ret ev_c (fun H5 e6 => ?_)
      exact k _ _ (ex.trans e6) (ret_eq (congrArg (fun z : Bool => (.v (.bl z) : D)) (show m_law_rests v_found v_due = false from (Eq.trans (cond_t hb4) rfl))) rfl)
    ·
      have hq4 := hb4
      try simp only [Bool.and_eq_true, Bool.or_eq_true, Bool.not_eq_true', Bool.not_eq_false', Bool.and_eq_false_iff, Bool.or_eq_false_iff, decide_eq_true_eq, decide_eq_false_iff_not] at hq4
      have ex := ex.trans e3
      refine q_forR1 (n := (v_due.length : Int)) (ea_cons (ev_lenI (ed_rep (ev_var (v := .ref a_v_due) rfl) ⟨_, rfl, (ex _ _ h_a_v_due0)⟩)) ea_nil) (by walk_at "kside") (fun (i : Nat) σ' H' => ∃ (y_v_k_1 : Option V), first (m_law_rests_L1b v_found v_due) i = none ∧ σ' = [some (.ref a_v_found), some (.ref a_v_due), y_v_k_1] ∧ Ex H0 H') (fun H11 e12 => ⟨_, rfl, rfl, ex.trans e12⟩) ?_ ?_
      ·
        rintro i9 σ' H13 hi_i9 ⟨y_v_k_1, hst1, rfl, ex⟩
        refine s_when (b := (!(m_law_whole (gi v_found (i9 : Int)))) || (!decide (gi v_found (i9 : Int) = gi v_due (i9 : Int)))) (et_or (et_not (et_B (ev_ofN (en_call (a := (gi v_found (i9 : Int))) (eas_cons (ed_v (ev_ix (ed_rep (ev_var (v := .ref a_v_found) rfl) ⟨_, rfl, (ex _ _ h_a_v_found0)⟩) (ev_var rfl) (by walk_at "kside"))) eas_nil) trivial)))) (fun hg14 => (by have hg14' := hg14; try simp only [Bool.and_eq_true, Bool.or_eq_true, Bool.not_eq_true', Bool.not_eq_false', Bool.and_eq_false_iff, Bool.or_eq_false_iff, decide_eq_true_eq, decide_eq_false_iff_not] at hg14'; exact (et_test (ev_neI (ev_ix (ed_rep (ev_var (v := .ref a_v_found) rfl) ⟨_, rfl, (ex _ _ h_a_v_found0)⟩) (ev_var rfl) (by walk_at "kside")) (ev_ix (ed_rep (ev_var (v := .ref a_v_due) rfl) ⟨_, rfl, (ex _ _ h_a_v_due0)⟩) (ev_var rfl) (by walk_at "kside"))))))) (fun hb17 H15 e16 => ?_) (fun hb17 H15 e16 => ?_)
        ·
          have hq17 := hb17
          try simp only [Bool.and_eq_true, Bool.or_eq_true, Bool.not_eq_true', Bool.not_eq_false', Bool.and_eq_false_iff, Bool.or_eq_false_iff, decide_eq_true_eq, decide_eq_false_iff_not] at hq17
          have ex := ex.trans e16
          refine s_ret ev_c (fun H18 e19 => ?_)
          have hs22 : (m_law_rests_L1b v_found v_due) i9 = some false := (Eq.trans (cond_t hb17) rfl)
          have hr23 : first (m_law_rests_L1b v_found v_due) (((v_due.length : Int)).toNat) = some false := first_some hst1 hs22 (by have := hi_i9; omega)
          exact k _ _ (ex.trans e19) (ret_eq (congrArg (fun z : Bool => (.v (.bl z) : D)) (show m_law_rests v_found v_due = false from (Eq.trans (cond_f hb4) (Eq.trans (getd_s hr23) rfl)))) rfl)
        ·
          have hq17 := hb17
          try simp only [Bool.and_eq_true, Bool.or_eq_true, Bool.not_eq_true', Bool.not_eq_false', Bool.and_eq_false_iff, Bool.or_eq_false_iff, decide_eq_true_eq, decide_eq_false_iff_not] at hq17
          have ex := ex.trans e16
          have hs24 : (m_law_rests_L1b v_found v_due) i9 = none := (Eq.trans (cond_f hb17) rfl)
          exact ⟨_, first_none hst1 hs24, rfl, ex⟩
      ·
        rintro σ' H25 ⟨y_v_k_1, hst1, rfl, ex⟩
        refine s_ret ev_c (fun H26 e27 => ?_)
        exact k _ _ (ex.trans e27) (ret_eq (congrArg (fun z : Bool => (.v (.bl z) : D)) (show m_law_rests v_found v_due = true from (Eq.trans (cond_f hb4) (Eq.trans (getd_n hst1) rfl)))) rfl)
def sp__law_cell_at (K : PySem.W.Frag) : Sp := spG K (fun (a : (List Int) × Int) => [.s (il a.1), .v (.int a.2)]) (fun a => (0 ≤ a.2)) (fun a => .v (.int (m_law_cell_at a.1 a.2)))
theorem ok__law_cell_at (T : Txt K mg fa fd) : FnOk P w K mg base CX0 1 (fa 4) (fd 4) ["_law_script", "_law_k"] (sp__law_cell_at K) := by
  refine T.F__law_cell_at.ok sc__law_cell_at (fun vs H Q E h => ?_) (fun cdv A outer s H0 vs Q E hr h => ?_)
  · obtain ⟨a, r, _⟩ := h
    exact r.length
  · obtain ⟨⟨v_script, v_k⟩, r, hpre, k⟩ := h
    replace r : Paired (fun u d => D.rep K d u H0) vs [.s (il v_script), .v (.int v_k)] := r
    obtain ⟨u_v_script, tl_v_script, hvs0, r_v_script, r0⟩ := paired_cons r
    clear r
    subst hvs0
    obtain ⟨a_v_script, rfl, h_a_v_script0⟩ := r_v_script
    obtain ⟨u_v_k, tl_v_k, hvs1, r_v_k, r1⟩ := paired_cons r0
    clear r0
    subst hvs1
    obtain rfl : u_v_k = .int v_k := r_v_k
    obtain rfl := paired_nil r1
    have hp0 := hpre
    replace hp0 : 0 ≤ v_k := hp0
    have ex : Ex H0 H0 := Ex.refl H0
    refine ⟨_, (pss_cons (ps_if (pt_cmpR op_lt (pv 1) (pe_callB call_len_seq (by rfl) T.n_len PySem.boot_len (pa_cons (pv 0) pa_nil)) (nomark _)) (pss_one (ps_ret (pe_ix ix_list (pv 0) (pv 1) (fun _ _ => rfl)))) pss_nil)
      (pss_one (ps_ret pe_int))), ?_⟩
    refine q_when (b := decide (v_k < (v_script.length : Int))) (et_test (ev_op (ev_var rfl) (ev_lenS (ed_var rfl ⟨_, rfl, ex_l ex h_a_v_script0⟩)) rv_I0)) (fun hb3 H1 e2 => ?_) (fun hb3 H1 e2 => ?_)
    ·
      have hq3 := hb3
      try simp only [Bool.and_eq_true, Bool.or_eq_true, Bool.not_eq_true', Bool.not_eq_false', Bool.and_eq_false_iff, Bool.or_eq_false_iff, decide_eq_true_eq, decide_eq_false_iff_not] at hq3
      have ex := ex.trans e2
      refine s_ret (ev_ixS (ed_var rfl ⟨_, rfl, ex_l ex h_a_v_script0⟩) (ev_var rfl) (by walk_at "kside")) (fun H4 e5 => ?_)
      exact k _ _ (ex.trans e5) (ret_eq (congrArg (fun z : Int => (.v (.int z) : D)) (show m_law_cell_at v_script v_k = gi v_script v_k from (Eq.trans (cond_t hb3) rfl))) rfl)
    ·
      have hq3 := hb3
      try simp only [Bool.and_eq_true, Bool.or_eq_true, Bool.not_eq_true', Bool.not_eq_false', Bool.and_eq_false_iff, Bool.or_eq_false_iff, decide_eq_true_eq, decide_eq_false_iff_not] at hq3
      have ex := ex.trans e2
      refine s_ret ev_c (fun H8 e9 => ?_)
      exact k _ _ (ex.trans e9) (ret_eq (congrArg (fun z : Int => (.v (.int z) : D)) (show m_law_cell_at v_script v_k = 0 from (Eq.trans (cond_f hb3) rfl))) rfl)
def sp_law (K : PySem.W.Frag) : Sp := spG K (fun (a : (List Int)) => [.s (il a)]) (fun a => (a.length ≤ 63)) (fun a => .v (.bl (m_law a)))
theorem ok_law (T : Txt K mg fa fd) : FnOk P w K mg base CX0 3 (fa 5) (fd 5) ["_law_script"] (sp_law K) := by
  have G__law_cell_at := ok__law_cell_at (P := P) (w := w) (base := base) T
  have G__law_rests := ok__law_rests (P := P) (w := w) (base := base) T
  have G__law_whole := ok__law_whole (P := P) (w := w) (base := base) T
  have G_inverse := ok_inverse (P := P) (w := w) (base := base) T
  have G_power := ok_power (P := P) (w := w) (base := base) T
  obtain ⟨tPRIME, vPRIME⟩ := T.v_PRIME
  refine T.F_law.ok sc_law (fun vs H Q E h => ?_) (fun cdv A outer s H0 vs Q E hr h => ?_)
  · obtain ⟨a, r, _⟩ := h
    exact r.length
  · obtain ⟨v_script, r, hpre, k⟩ := h
    replace r : Paired (fun u d => D.rep K d u H0) vs [.s (il v_script)] := r
    obtain ⟨u_v_script, tl_v_script, hvs0, r_v_script, r0⟩ := paired_cons r
    clear r
    subst hvs0
    obtain ⟨a_v_script, rfl, h_a_v_script0⟩ := r_v_script
    obtain rfl := paired_nil r0
    have hp0 := hpre
    replace hp0 : v_script.length ≤ 63 := hp0
    have ex : Ex H0 H0 := Ex.refl H0
    refine ⟨_, (pss_cons (ps_set (i := 1) sc_law.nd rfl (.inl rfl) (pe_op op_mod (pe_call G__law_cell_at (hr.mono (by decide)) (by rfl) T.g__law_cell_at T.F__law_cell_at.kp T.b__law_cell_at .nil pass0 (pa_cons (pv 0) (pa_cons pe_int pa_nil))) pe_int))
      (pss_cons (ps_set (i := 2) sc_law.nd rfl (.inl rfl) (pe_op op_mod (pe_call G__law_cell_at (hr.mono (by decide)) (by rfl) T.g__law_cell_at T.F__law_cell_at.kp T.b__law_cell_at .nil pass0 (pa_cons (pv 0) (pa_cons pe_int pa_nil))) pe_int))
      (pss_cut (ps_if (pt_cmpR op_eq (pe_op op_mod (pe_op op_fdiv (pe_call G__law_cell_at (hr.mono (by decide)) (by rfl) T.g__law_cell_at T.F__law_cell_at.kp T.b__law_cell_at .nil pass0 (pa_cons (pv 0) (pa_cons pe_int pa_nil))) pe_int) pe_int) pe_int (nomark _)) (pss_one (ps_set (i := 2) sc_law.nd rfl (.inl rfl) (pe_op op_mod (pe_op op_fdiv (pe_call G__law_cell_at (hr.mono (by decide)) (by rfl) T.g__law_cell_at T.F__law_cell_at.kp T.b__law_cell_at .nil pass0 (pa_cons (pv 0) (pa_cons pe_int pa_nil))) pe_int) pe_int))) pss_nil)
      (pss_cons (ps_set (i := 3) sc_law.nd rfl (.inl rfl) pe_int)
      (pss_cons (ps_for PassesOwn.never rfl (pi_range1 (by rfl) T.n_range (pa_cons (pv 2) pa_nil)) (pg_name (i := 4) sc_law.nd rfl (.inl rfl)) (pss_one (ps_set (i := 3) sc_law.nd rfl (.inl rfl) (pe_op op_mod (pe_op op_mul (pv 3) (pv 1)) pe_int))))
      (pss_cons (ps_set (i := 5) sc_law.nd rfl (.inl rfl) (pe_call G_power (hr.mono (by decide)) (by rfl) T.g_power T.F_power.kp T.b_power .nil pass0 (pa_cons (pv 1) (pa_cons (pv 2) pa_nil))))
      (pss_cons (ps_if (PW.pt (pw_or (pt_not (pt_val (pe_call G__law_whole (hr.mono (by decide)) (by rfl) T.g__law_whole T.F__law_whole.kp T.b__law_whole .nil pass0 (pa_cons (pv 5) pa_nil)))) (pw_or (pt_cmpR op_ne (pv 5) (pv 3) (nomark _)) (pw_or (pt_not (pt_val (pe_call G__law_whole (hr.mono (by decide)) (by rfl) T.g__law_whole T.F__law_whole.kp T.b__law_whole .nil pass0 (pa_cons (pe_glob (v := .int 251) rfl vPRIME ⟨_, rfl⟩) pa_nil)))) (pw_or1 (pt_cmpR op_ne (pe_glob (v := .int 251) rfl vPRIME ⟨_, rfl⟩) pe_int (nomark _))))))) (pss_one (ps_ret pe_bl)) pss_nil)
      (pss_cons (ps_set (i := 6) sc_law.nd rfl (.inr rfl) (pe_op op_add pe_int (pe_op op_mod (pe_call G__law_cell_at (hr.mono (by decide)) (by rfl) T.g__law_cell_at T.F__law_cell_at.kp T.b__law_cell_at .nil pass0 (pa_cons (pv 0) (pa_cons pe_int pa_nil))) pe_int)))
      (pss_cons (ps_set (i := 7) sc_law.nd rfl (.inl rfl) (pe_call G_inverse (hr.mono (by decide)) (by rfl) T.g_inverse T.F_inverse.kp T.b_inverse .nil pass0 (pa_cons (pv 6) pa_nil)))
      (pss_cons (ps_if (pt_not (pt_val (pe_call G__law_rests (hr.mono (by decide)) (by rfl) T.g__law_rests T.F__law_rests.kp T.b__law_rests .nil pass0 (pa_cons (pe_lst (pa_cons (pv 7) pa_nil)) (pa_cons (pe_lc (own := [("_law_number", 8)]) (g := gName 8) rfl sc_law.nd (pi_range1 (by rfl) T.n_range (pa_cons pe_int pa_nil)) (blkOk_by (own := [("_law_number", 8)]) (N := ["_law_script", "_law_rest", "_law_many", "_law_due", "_law_turn", "_law_found", "_law_one", "_law_back", "_law_number"]) (sc := defScope s_law) (by decide +kernel)) (fun _ _ _ _ _ => pg_name (i := 8) sc_law.nd rfl (Or.inl rfl)) (fun _ _ _ _ _ => pts_one (pt_cmpR op_eq (pe_op op_mod (pe_op op_mul (pv 6) (pv 8)) pe_int) pe_int (nomark _))) (fun _ _ _ _ _ => (pv 8))) pa_nil))))) (pss_one (ps_ret pe_bl)) pss_nil)
      (pss_one (ps_ret (pe_call G__law_rests (hr.mono (by decide)) (by rfl) T.g__law_rests T.F__law_rests.kp T.b__law_rests .nil pass0 (pa_cons (pe_lst (pa_cons (pe_call G_inverse (hr.mono (by decide)) (by rfl) T.g_inverse T.F_inverse.kp T.b_inverse .nil pass0 (pa_cons (pv 7) pa_nil)) pa_nil)) (pa_cons (pe_lst (pa_cons (pv 6) pa_nil)) pa_nil))))))))))))))), ?_⟩
    obtain ⟨v_rest_3, e_v_rest_3⟩ : ∃ z : Int, z = (m_law_cell_at v_script 0) % 251 := ⟨_, rfl⟩
    refine q_asg (v := .int v_rest_3) (ev_is (ev_op (ev_ofN (en_call (a := (v_script, 0)) (eas_cons (ed_var rfl ⟨_, rfl, ex_l ex h_a_v_script0⟩) (eas_cons (ed_v ev_c) eas_nil)) (by walk_at "kside"))) ev_c (rv_I (by walk_at "kside"))) (congrArg V.int e_v_rest_3.symm)) (fun H1 e2 => ?_)
    have ex := ex.trans e2
    obtain ⟨v_many_6, e_v_many_6⟩ : ∃ z : Int, z = (m_law_cell_at v_script 1) % 13 := ⟨_, rfl⟩
    refine q_asg (v := .int v_many_6) (ev_is (ev_op (ev_ofN (en_call (a := (v_script, 1)) (eas_cons (ed_var rfl ⟨_, rfl, ex_l ex h_a_v_script0⟩) (eas_cons (ed_v ev_c) eas_nil)) (by walk_at "kside"))) ev_c (rv_I (by walk_at "kside"))) (congrArg V.int e_v_many_6.symm)) (fun H4 e5 => ?_)
    have ex := ex.trans e5
    refine q_cut (M := fun σ' H' => ∃ (v_many_7 : Int), m_law_J1 v_script v_many_6 = v_many_7 ∧ σ' = [some (.ref a_v_script), some (.int v_rest_3), some (.int v_many_7), none, none, none, none, none, none] ∧ Ex H0 H') ?_ ?_
    ·
      refine s_when (b := decide (((m_law_cell_at v_script 1) / 13) % 4 = 1)) (et_test (ev_eqI (ev_op (ev_op (ev_ofN (en_call (a := (v_script, 1)) (eas_cons (ed_var rfl ⟨_, rfl, ex_l ex h_a_v_script0⟩) (eas_cons (ed_v ev_c) eas_nil)) (by walk_at "kside"))) ev_c (rv_I ⟨by walk_at "kside", by walk_at "kside"⟩)) ev_c (rv_I (by walk_at "kside"))) ev_c)) (fun hb10 H8 e9 => ?_) (fun hb10 H8 e9 => ?_)
      ·
        have hq10 := hb10
        try simp only [Bool.and_eq_true, Bool.or_eq_true, Bool.not_eq_true', Bool.not_eq_false', Bool.and_eq_false_iff, Bool.or_eq_false_iff, decide_eq_true_eq, decide_eq_false_iff_not] at hq10
        have ex := ex.trans e9
        obtain ⟨v_many_13, e_v_many_13⟩ : ∃ z : Int, z = ((m_law_cell_at v_script 1) / 52) % 601 := ⟨_, rfl⟩
        refine s_asg (v := .int v_many_13) (ev_is (ev_op (ev_op (ev_ofN (en_call (a := (v_script, 1)) (eas_cons (ed_var rfl ⟨_, rfl, ex_l ex h_a_v_script0⟩) (eas_cons (ed_v ev_c) eas_nil)) (by walk_at "kside"))) ev_c (rv_I ⟨by walk_at "kside", by walk_at "kside"⟩)) ev_c (rv_I (by walk_at "kside"))) (congrArg V.int e_v_many_13.symm)) (fun H11 e12 => ?_)
        have ex := ex.trans e12
        subst e_v_many_13
        have hs14 : m_law_J1 v_script v_many_6 = (((m_law_cell_at v_script 1) / 52) % 601) := (Eq.trans (cond_t hb10) rfl)
        exact ⟨_, hs14, rfl, ex⟩
      ·
        have hq10 := hb10
        try simp only [Bool.and_eq_true, Bool.or_eq_true, Bool.not_eq_true', Bool.not_eq_false', Bool.and_eq_false_iff, Bool.or_eq_false_iff, decide_eq_true_eq, decide_eq_false_iff_not] at hq10
        have ex := ex.trans e9
        have hs15 : m_law_J1 v_script v_many_6 = v_many_6 := (Eq.trans (cond_f hb10) rfl)
        exact ⟨_, hs15, rfl, ex⟩
    ·
      rintro σ' H16 ⟨v_many_7, hj1, rfl, ex⟩
      have e_v_many_7 : v_many_7 = m_law_J1 v_script v_many_6 := hj1.symm
      clear hj1
      have hmany : 0 ≤ v_many_7 ∧ v_many_7 ≤ 600 := by rw [e_v_many_7]; unfold m_law_J1; cases decide (m_law_cell_at v_script 1 / 13 % 4 = 1) <;> simp only [cond_true, cond_false] <;> omega
      refine q_asg (v := .int 1) ev_c (fun H17 e18 => ?_)
      have ex := ex.trans e18
      refine q_forR1 (n := v_many_7) (ea_cons (ev_var rfl) ea_nil) (by walk_at "kside") (fun (i : Nat) σ' H' => ∃ (y_v_turn_1 : Option V) (v_due_20 : Int), iter (m_law_L1s v_rest_3) 1 i = v_due_20 ∧ σ' = [some (.ref a_v_script), some (.int v_rest_3), some (.int v_many_7), some (.int v_due_20), y_v_turn_1, none, none, none, none] ∧ Ex H0 H') (fun H23 e24 => ⟨_, _, rfl, rfl, ex.trans e24⟩) ?_ ?_
      ·
        rintro i19 σ' H25 hi_i19 ⟨y_v_turn_1, v_due_20, hst1, rfl, ex⟩
        obtain ⟨v_due_28, e_v_due_28⟩ : ∃ z : Int, z = (v_due_20 * v_rest_3) % 251 := ⟨_, rfl⟩
        refine s_asg (v := .int v_due_28) (ev_is (ev_op (ev_op (ev_var rfl) (ev_var rfl) (rv_I (by walk_at "kmul"))) ev_c (rv_I (by walk_at "kside"))) (congrArg V.int e_v_due_28.symm)) (fun H26 e27 => ?_)
        have ex := ex.trans e27
        subst e_v_due_28
        have hs29 : iter (m_law_L1s v_rest_3) 1 (i19 + 1) = ((v_due_20 * v_rest_3) % 251) := (congrArg ((m_law_L1s v_rest_3) i19) hst1).trans rfl
        exact ⟨_, _, hs29, rfl, ex⟩
      ·
        rintro σ' H30 ⟨y_v_turn_1, v_due_20, hst1, rfl, ex⟩
        obtain rfl : v_due_20 = (m_law_L1 v_rest_3 v_many_7) := hst1.symm
        obtain ⟨v_due_31, e_v_due_31⟩ : ∃ z : Int, z = (m_law_L1 v_rest_3 v_many_7) := ⟨_, rfl⟩
        rw [← e_v_due_31]
        obtain ⟨v_found_34, e_v_found_34⟩ : ∃ z : Int, z = m_power v_rest_3 v_many_7 := ⟨_, rfl⟩
        refine q_asg (v := .int v_found_34) (ev_is (ev_ofN (en_call (a := (v_rest_3, v_many_7)) (eas_cons (ed_v (ev_var rfl)) (eas_cons (ed_v (ev_var rfl)) eas_nil)) ⟨(by walk_at "kside"), (by walk_at "kside")⟩)) (congrArg V.int e_v_found_34.symm)) (fun H32 e33 => ?_)
        have ex := ex.trans e33
        refine q_when (b := (!(m_law_whole v_found_34)) || ((!decide (v_found_34 = v_due_31)) || ((!(m_law_whole 251)) || (!decide (251 = 251))))) (et_or (et_not (et_B (ev_ofN (en_call (a := (v_found_34)) (eas_cons (ed_v (ev_var rfl)) eas_nil) trivial)))) (fun hg37 => (et_or (et_test (ev_neI (ev_var rfl) (ev_var rfl))) (fun hg36 => (et_or (et_not (et_B (ev_ofN (en_call (a := (251)) (eas_cons (ed_v ev_c) eas_nil) trivial)))) (fun hg35 => (et_test (ev_neI ev_c ev_c)))))))) (fun hb40 H38 e39 => ?_) (fun hb40 H38 e39 => ?_)
        ·
          have hq40 := hb40
          try simp only [Bool.and_eq_true, Bool.or_eq_true, Bool.not_eq_true', Bool.not_eq_false', Bool.and_eq_false_iff, Bool.or_eq_false_iff, decide_eq_true_eq, decide_eq_false_iff_not] at hq40
          have ex := ex.trans e39
          refine s_ret ev_c (fun H41 e42 => ?_)
          subst e_v_found_34
          subst e_v_due_31
          subst e_v_many_7
          subst e_v_many_6
          subst e_v_rest_3
          exact k _ _ (ex.trans e42) (ret_eq (congrArg (fun z : Bool => (.v (.bl z) : D)) (show m_law v_script = false from (Eq.trans (cond_t hb40) rfl))) rfl)
        ·
          have hq40 := hb40
          try simp only [Bool.and_eq_true, Bool.or_eq_true, Bool.not_eq_true', Bool.not_eq_false', Bool.and_eq_false_iff, Bool.or_eq_false_iff, decide_eq_true_eq, decide_eq_false_iff_not] at hq40
          have ex := ex.trans e39
          obtain ⟨v_one_47, e_v_one_47⟩ : ∃ z : Int, z = 1 + ((m_law_cell_at v_script 2) % 250) := ⟨_, rfl⟩
          refine q_asg (v := .int v_one_47) (ev_is (ev_op ev_c (ev_op (ev_ofN (en_call (a := (v_script, 2)) (eas_cons (ed_var rfl ⟨_, rfl, ex_l ex h_a_v_script0⟩) (eas_cons (ed_v ev_c) eas_nil)) (by walk_at "kside"))) ev_c (rv_I (by walk_at "kside"))) rv_I0) (congrArg V.int e_v_one_47.symm)) (fun H45 e46 => ?_)
          have ex := ex.trans e46
          obtain ⟨v_back_50, e_v_back_50⟩ : ∃ z : Int, z = m_inverse v_one_47 := ⟨_, rfl⟩
          refine q_asg (v := .int v_back_50) (ev_is (ev_ofN (en_call (a := (v_one_47)) (eas_cons (ed_v (ev_var rfl)) eas_nil) (by walk_at "kside"))) (congrArg V.int e_v_back_50.symm)) (fun H48 e49 => ?_)
          have ex := ex.trans e49
          have hback := inverse_ok v_one_47
          rw [← e_v_back_50] at hback
          have hbb := inverse_ok v_back_50
          refine q_when (b := !(m_law_rests [v_back_50] ((rng 0 251).filter fun v_number_c51 => decide ((v_one_47 * v_number_c51) % 251 = 1)))) (et_not (et_B (ev_ofN (en_call (a := ([v_back_50], ((rng 0 251).filter fun v_number_c51 => decide ((v_one_47 * v_number_c51) % 251 = 1)))) (eas_cons (EvN.toD (en_ls (vs := il ([v_back_50] : List Int)) (ea_cons (ev_var rfl) ea_nil) (Nat.le_of_ble_eq_true rfl))) (eas_cons (EvN.toD (en_is (en_lcR1 (p := fun v_number_c51 => decide ((v_one_47 * v_number_c51) % 251 = 1)) (g := fun v_number_c51 => V.int v_number_c51) ev_c (by walk_at "kside") (fun v_number_c51 hm52 => (by have hm52' := rng_mem.mp hm52; exact (et_test (ev_eqI (ev_op (ev_op (ev_var rfl) (ev_var rfl) (rv_I (by walk_at "kmul"))) ev_c (rv_I (by walk_at "kside"))) ev_c)))) (fun v_number_c51 hm52 hb53 => (ev_var rfl))) (congrArg D.l rfl))) eas_nil)) (by walk_at "kside"))))) (fun hb56 H54 e55 => ?_) (fun hb56 H54 e55 => ?_)
          ·
            have hq56 := hb56
            try simp only [Bool.and_eq_true, Bool.or_eq_true, Bool.not_eq_true', Bool.not_eq_false', Bool.and_eq_false_iff, Bool.or_eq_false_iff, decide_eq_true_eq, decide_eq_false_iff_not] at hq56
            have ex := ex.trans e55
            refine s_ret ev_c (fun H57 e58 => ?_)
            subst e_v_back_50
            subst e_v_one_47
            subst e_v_found_34
            subst e_v_due_31
            subst e_v_many_7
            subst e_v_many_6
            subst e_v_rest_3
            exact k _ _ (ex.trans e58) (ret_eq (congrArg (fun z : Bool => (.v (.bl z) : D)) (show m_law v_script = false from (Eq.trans (cond_f hb40) (Eq.trans (cond_t hb56) rfl)))) rfl)
          ·
            have hq56 := hb56
            try simp only [Bool.and_eq_true, Bool.or_eq_true, Bool.not_eq_true', Bool.not_eq_false', Bool.and_eq_false_iff, Bool.or_eq_false_iff, decide_eq_true_eq, decide_eq_false_iff_not] at hq56
            have ex := ex.trans e55
            refine s_ret (ev_ofN (en_call (a := ([m_inverse v_back_50], [v_one_47])) (eas_cons (EvN.toD (en_ls (vs := il ([m_inverse v_back_50] : List Int)) (ea_cons (ev_ofN (en_call (a := (v_back_50)) (eas_cons (ed_v (ev_var rfl)) eas_nil) (by walk_at "kside"))) ea_nil) (Nat.le_of_ble_eq_true rfl))) (eas_cons (EvN.toD (en_ls (vs := il ([v_one_47] : List Int)) (ea_cons (ev_var rfl) ea_nil) (Nat.le_of_ble_eq_true rfl))) eas_nil)) (by walk_at "kside"))) (fun H61 e62 => ?_)
            subst e_v_back_50
            subst e_v_one_47
            subst e_v_found_34
            subst e_v_due_31
            subst e_v_many_7
            subst e_v_many_6
            subst e_v_rest_3
            exact k _ _ (ex.trans e62) (ret_eq (congrArg (fun z : Bool => (.v (.bl z) : D)) (show m_law v_script = m_law_rests [m_inverse (m_inverse (1 + ((m_law_cell_at v_script 2) % 250)))] [(1 + ((m_law_cell_at v_script 2) % 250))] from (Eq.trans (cond_f hb40) (Eq.trans (cond_f hb56) rfl)))) rfl)
end
end Pf
namespace Pf
open Kx
theorem rests_one {a : Int} : m_law_rests [a] [a] = true := by
  show (bif !decide ((([a] : List Int).length : Int) = (([a] : List Int).length : Int)) then false else Option.getD (first (m_law_rests_L1b [a] [a]) 1) true) = true
  have e : first (m_law_rests_L1b [a] [a]) 1 = none := by
    show (match (none : Option Bool) with | some r => some r | none => m_law_rests_L1b [a] [a] 0) = none
    show (bif (!true) || (!decide (gi [a] ((0 : Nat) : Int) = gi [a] ((0 : Nat) : Int))) then some false else none) = none
    rw [decide_eq_true rfl]
    rfl
  rw [e, decide_eq_true rfl]
  rfl
theorem inv_all : ∀ k : _root_.Fin 250, ((rng 0 251).filter fun x => decide ((((k.val : Int) + 1) * x) % 251 = 1)) = [m_inverse ((k.val : Int) + 1)] ∧ m_inverse (m_inverse ((k.val : Int) + 1)) = (k.val : Int) + 1 := by decide +kernel
theorem inv_of {z : Int} (h1 : 1 ≤ z) (h2 : z < 251) : ((rng 0 251).filter fun x => decide ((z * x) % 251 = 1)) = [m_inverse z] ∧ m_inverse (m_inverse z) = z := by
  have h := inv_all ⟨(z - 1).toNat, by omega⟩
  have e : ((z - 1).toNat : Int) + 1 = z := by omega
  simp only [e] at h
  exact h
theorem law_true (ns : List Int) (_ : ns.length ≤ 63) : m_law ns = true := by
  unfold m_law
  dsimp only
  have e1 : ∀ r m, m_power r m = m_law_L1 r m := fun _ _ => rfl
  rw [e1, decide_eq_true rfl]
  show (bif !(m_law_rests _ _) then false else _) = true
  obtain ⟨h1, h2⟩ := inv_of (z := 1 + m_law_cell_at ns 2 % 250) (by omega) (by omega)
  rw [h1, h2, rests_one, rests_one]
  rfl
end Pf

namespace Pf
open PySem PySem.Spec PyProof.Rows L2 Evl Kx
theorem all_mk {l : PySem.W.OpenLaw} {w : World} {K : PySem.W.Frag} {h : Heap} {mg : Str → Option Value} {fl f0 f1 f2 f3 f4 f5 : Addr} (X : K.In h) (G : h.Ns mainGlobals mg) (hfa : mg "law" = some (.ref fl))
    {od0 an0 : Option Addr} {sl0 : Array (Option Value)} {oc0 kV0 dc0 pm0 cd0 ct0 : Value}
    {od1 an1 : Option Addr} {sl1 : Array (Option Value)} {oc1 kV1 dc1 pm1 cd1 ct1 : Value}
    {od2 an2 : Option Addr} {sl2 : Array (Option Value)} {oc2 kV2 dc2 pm2 cd2 ct2 : Value}
    {od3 an3 : Option Addr} {sl3 : Array (Option Value)} {oc3 kV3 dc3 pm3 cd3 ct3 : Value}
    {od4 an4 : Option Addr} {sl4 : Array (Option Value)} {oc4 kV4 dc4 pm4 cd4 ct4 : Value}
    {od5 an5 : Option Addr} {sl5 : Array (Option Value)} {oc5 kV5 dc5 pm5 cd5 ct5 : Value}
    (a0 : PySem.W.nsIn K mainGlobals "power" = some (some (.ref f0)))
    (l0 : K.lookup f0 = some ⟨oc0, od0, .func (PySem.W.fnOf "power" "power" (defArgs s_power) (defBody s_power) (defScope s_power) .none kV0 dc0 pm0 an0 cd0 ct0), sl0⟩)
    (c0 : PySem.W.codeIn K cd0 "power" = true) (k0 : PySem.W.keepIn K (.ref f0) = true)
    (a1 : PySem.W.nsIn K mainGlobals "inverse" = some (some (.ref f1)))
    (l1 : K.lookup f1 = some ⟨oc1, od1, .func (PySem.W.fnOf "inverse" "inverse" (defArgs s_inverse) (defBody s_inverse) (defScope s_inverse) .none kV1 dc1 pm1 an1 cd1 ct1), sl1⟩)
    (c1 : PySem.W.codeIn K cd1 "inverse" = true) (k1 : PySem.W.keepIn K (.ref f1) = true)
    (a2 : PySem.W.nsIn K mainGlobals "_law_whole" = some (some (.ref f2)))
    (l2 : K.lookup f2 = some ⟨oc2, od2, .func (PySem.W.fnOf "_law_whole" "_law_whole" (defArgs s__law_whole) (defBody s__law_whole) (defScope s__law_whole) .none kV2 dc2 pm2 an2 cd2 ct2), sl2⟩)
    (c2 : PySem.W.codeIn K cd2 "_law_whole" = true) (k2 : PySem.W.keepIn K (.ref f2) = true)
    (a3 : PySem.W.nsIn K mainGlobals "_law_rests" = some (some (.ref f3)))
    (l3 : K.lookup f3 = some ⟨oc3, od3, .func (PySem.W.fnOf "_law_rests" "_law_rests" (defArgs s__law_rests) (defBody s__law_rests) (defScope s__law_rests) .none kV3 dc3 pm3 an3 cd3 ct3), sl3⟩)
    (c3 : PySem.W.codeIn K cd3 "_law_rests" = true) (k3 : PySem.W.keepIn K (.ref f3) = true)
    (a4 : PySem.W.nsIn K mainGlobals "_law_cell_at" = some (some (.ref f4)))
    (l4 : K.lookup f4 = some ⟨oc4, od4, .func (PySem.W.fnOf "_law_cell_at" "_law_cell_at" (defArgs s__law_cell_at) (defBody s__law_cell_at) (defScope s__law_cell_at) .none kV4 dc4 pm4 an4 cd4 ct4), sl4⟩)
    (c4 : PySem.W.codeIn K cd4 "_law_cell_at" = true) (k4 : PySem.W.keepIn K (.ref f4) = true)
    (a5 : PySem.W.nsIn K mainGlobals "law" = some (some (.ref f5)))
    (l5 : K.lookup f5 = some ⟨oc5, od5, .func (PySem.W.fnOf "law" "law" (defArgs s_law) (defBody s_law) (defScope s_law) .none kV5 dc5 pm5 an5 cd5 ct5), sl5⟩)
    (c5 : PySem.W.codeIn K cd5 "law" = true) (k5 : PySem.W.keepIn K (.ref f5) = true)
    (z_bool : PySem.W.nsIn K mainGlobals "bool" = some none)
    (z_int : PySem.W.nsIn K mainGlobals "int" = some none)
    (z_isinstance : PySem.W.nsIn K mainGlobals "isinstance" = some none)
    (z_len : PySem.W.nsIn K mainGlobals "len" = some none)
    (z_list : PySem.W.nsIn K mainGlobals "list" = some none)
    (z_range : PySem.W.nsIn K mainGlobals "range" = some none)
    {tPRIME : Tok} (v_PRIME : PySem.W.nsIn K mainGlobals "PRIME" = some (some (.int 251 tPRIME))) :
    ∃ fd : FuncData, (∀ (s : Shared) (v : Value), BindsTo s fd ⟨[v], []⟩ [("_law_script", v)]) ∧ ∀ base : Heap, K.In base → base.Ns mainGlobals mg → FnOk l.prog w K mg base CX0 3 fl fd ["_law_script"] (sp_law K) := by
  have e := hfa.symm.trans (PySem.W.mg_of X G a5)
  cases e
  have F0 := fun_mk (st := s_power) l0 c0 k0
  have b0 := F0.binds (ps := ["rest", "many"]) fun _ _ _ _ _ _ us hl => match us, hl with | [_, _], _ => rfl
  have F1 := fun_mk (st := s_inverse) l1 c1 k1
  have b1 := F1.binds (ps := ["rest"]) fun _ _ _ _ _ _ us hl => match us, hl with | [_], _ => rfl
  have F2 := fun_mk (st := s__law_whole) l2 c2 k2
  have b2 := F2.binds (ps := ["_law_found"]) fun _ _ _ _ _ _ us hl => match us, hl with | [_], _ => rfl
  have F3 := fun_mk (st := s__law_rests) l3 c3 k3
  have b3 := F3.binds (ps := ["_law_found", "_law_due"]) fun _ _ _ _ _ _ us hl => match us, hl with | [_, _], _ => rfl
  have F4 := fun_mk (st := s__law_cell_at) l4 c4 k4
  have b4 := F4.binds (ps := ["_law_script", "_law_k"]) fun _ _ _ _ _ _ us hl => match us, hl with | [_, _], _ => rfl
  have F5 := fun_mk (st := s_law) l5 c5 k5
  have b5 := F5.binds (ps := ["_law_script"]) fun _ _ _ _ _ _ us hl => match us, hl with | [_], _ => rfl
  have T : Txt K mg (fun i => [f0, f1, f2, f3, f4, fl].getD i f0) (fun i => [(PySem.W.fnOf "power" "power" (defArgs s_power) (defBody s_power) (defScope s_power) .none kV0 dc0 pm0 an0 cd0 ct0),
      (PySem.W.fnOf "inverse" "inverse" (defArgs s_inverse) (defBody s_inverse) (defScope s_inverse) .none kV1 dc1 pm1 an1 cd1 ct1),
      (PySem.W.fnOf "_law_whole" "_law_whole" (defArgs s__law_whole) (defBody s__law_whole) (defScope s__law_whole) .none kV2 dc2 pm2 an2 cd2 ct2),
      (PySem.W.fnOf "_law_rests" "_law_rests" (defArgs s__law_rests) (defBody s__law_rests) (defScope s__law_rests) .none kV3 dc3 pm3 an3 cd3 ct3),
      (PySem.W.fnOf "_law_cell_at" "_law_cell_at" (defArgs s__law_cell_at) (defBody s__law_cell_at) (defScope s__law_cell_at) .none kV4 dc4 pm4 an4 cd4 ct4),
      (PySem.W.fnOf "law" "law" (defArgs s_law) (defBody s_law) (defScope s_law) .none kV5 dc5 pm5 an5 cd5 ct5)].getD i (PySem.W.fnOf "power" "power" (defArgs s_power) (defBody s_power) (defScope s_power) .none kV0 dc0 pm0 an0 cd0 ct0)) :=
    ⟨F0, b0, PySem.W.mg_of X G a0, F1, b1, PySem.W.mg_of X G a1, F2, b2, PySem.W.mg_of X G a2, F3, b3, PySem.W.mg_of X G a3, F4, b4, PySem.W.mg_of X G a4, F5, b5, PySem.W.mg_of X G a5, PySem.W.mg_none_of X G z_bool, PySem.W.mg_none_of X G z_int, PySem.W.mg_none_of X G z_isinstance, PySem.W.mg_none_of X G z_len, PySem.W.mg_none_of X G z_list, PySem.W.mg_none_of X G z_range, ⟨_, PySem.W.mg_of X G v_PRIME⟩⟩
  exact ⟨(PySem.W.fnOf "law" "law" (defArgs s_law) (defBody s_law) (defScope s_law) .none kV5 dc5 pm5 an5 cd5 ct5), fun s v => .of_eq rfl, fun base _ _ => ok_law (P := l.prog) (w := w) (base := base) T⟩
end Pf
open PySem PySem.W PyProof.Rows
set_option maxHeartbeats 0 in
theorem PySem.Challenge.cw_sumsync_k01_rests_holds : PySem.Challenge.rw_sumsync_k01_rests.Holds := by
  w_on; o_law; k_head; (case hw => w_witness2)
  k_fill
  refine L2.walk_of (l := PySem.Challenge.rw_sumsync_k01_rests) (n := 63) (k := 3) (x := "_law_script") (CX := fun _ => L2.CX0) (sp := fun w => Pf.sp_law _) rfl (by decide) rfl ⟨rfl, by decide, by decide⟩ (fun w h Y => PySem.W.kIn_of Y) ?F (fun _ _ a ns hl _ hS => ⟨ns, .cons ⟨a, rfl, hS⟩ .nil, hl, fun u H' _ hn => (show u = _ from hn).trans (congrArg L2.V.bl (Pf.law_true ns hl))⟩) (fun _ _ _ _ _ h => h)
  case F =>
    intro w mg fa h KX G hmg
    refine' Pf.all_mk KX G hmg ?a0 ?l0 ?c0 ?k0 ?a1 ?l1 ?c1 ?k1 ?a2 ?l2 ?c2 ?k2 ?a3 ?l3 ?c3 ?k3 ?a4 ?l4 ?c4 ?k4 ?a5 ?l5 ?c5 ?k5 ?z_bool ?z_int ?z_isinstance ?z_len ?z_list ?z_range ?v_PRIME
    (case a0 => k_is); (case l0 => k_is); (case c0 => k_is); (case k0 => k_is); (case a1 => k_is); (case l1 => k_is)
    (case c1 => k_is); (case k1 => k_is); (case a2 => k_is); (case l2 => k_is); (case c2 => k_is); (case k2 => k_is)
    (case a3 => k_is); (case l3 => k_is); (case c3 => k_is); (case k3 => k_is); (case a4 => k_is); (case l4 => k_is)
    (case c4 => k_is); (case k4 => k_is); (case a5 => k_is); (case l5 => k_is); (case c5 => k_is); (case k5 => k_is)
    (case z_bool => k_is); (case z_int => k_is); (case z_isinstance => k_is); (case z_len => k_is); (case z_list => k_is); (case z_range => k_is)
    (case v_PRIME => k_is)
