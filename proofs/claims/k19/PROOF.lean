import PyProof.Rows.All
import Wide.All
import OpenK.AllK
import Wide.FinOn
import HandS.ForMost
import HandS.Flow
import HandS.Wide
import HandS.IsInst
import HandS.TupAny
import HandS.Style
import HandS.Walk
import HandS.Zip
import HandS.Star
import HandS.TupMul
import HandS.TupLe
import KE.DataEq
import KE.GoesMore
import PyProof.ReprRoads
import KE.GoesEnum
import KE.KDictZip
import PyProof.ListNew
import KE.GoesZip
import HandS.Ends
import PySem.Challenge.RW_spendtold_k19_annotations_summed_covered
set_option Elab.async false
set_option linter.all false
set_option maxRecDepth 100000
/-! Iv1: plain data D, a store of mutable lists, how both lie in the layer's abstract heap; denotations and what it is to be sound. -/
namespace Iv
open PySem PySem.Spec PyProof.Rows L2

/-- plain data; lst: a list of ours that nobody changes; rol: a list that is only read (the script, a module's); ref: the n-th mutable list of the store -/
inductive D where
  | non | bl (b : Bool) | int (i : Int) | str (x : Str) | tup (xs : List D) | lst (xs : List D) | rol (xs : List D) | ref (n : Nat) | ty (n : String)
  deriving Inhabited
/-- a mutable thing of the store -/
inductive MO where
  | lst (xs : List D)
  | dead
abbrev Sto := List MO
abbrev Rho := List (Option D)
abbrev Den := Rho → Sto → Option (D × Sto)
abbrev Fun1 := List D → Sto → Option (D × Sto)

/-- where the frozen data lie, the store's things, and others that must stay -/
structure Wd where
  F : Hp
  ms : List Addr
  O : Hp := fun _ => none
structure Wd.sub (W W' : Wd) : Prop where
  F : Same W.F W'.F
  ms : W.ms <+: W'.ms
structure Wd.le (W W' : Wd) : Prop where
  F : Same W.F W'.F
  ms : W.ms <+: W'.ms
  O : W'.O = W.O
theorem Wd.le.s {W W' : Wd} (h : W.le W') : W.sub W' := ⟨h.F, h.ms⟩
theorem Wd.sub.trans {A B C : Wd} (h : A.sub B) (k : B.sub C) : A.sub C := ⟨h.F.trans k.F, h.ms.trans k.ms⟩
theorem Wd.le.refl (W : Wd) : W.le W := ⟨Same.refl _, List.prefix_refl _, rfl⟩
theorem Wd.le.trans {A B C : Wd} (h : A.le B) (k : B.le C) : A.le C := ⟨h.F.trans k.F, h.ms.trans k.ms, k.O.trans h.O⟩

section
variable (K : PySem.W.Frag)
mutual
def Rel (W : Wd) : D → V → Prop
  | .non, v => v = .non
  | .bl b, v => v = .bl b
  | .int i, v => v = .int i
  | .str x, v => v = .str x
  | .ty n, v => v = .ty n
  | .ref n, v => ∃ a, W.ms[n]? = some a ∧ v = .ref a
  | .tup ds, v => ∃ a vs, v = .ref a ∧ SqT K W.F a vs ∧ Rels W ds vs
  | .lst ds, v => ∃ a vs, v = .ref a ∧ W.F a = some (.lst vs) ∧ Rels W ds vs
  | .rol ds, v => ∃ a vs, v = .ref a ∧ SqL K W.F a vs ∧ Rels W ds vs
def Rels (W : Wd) : List D → List V → Prop
  | [], vs => vs = []
  | d :: ds, vs => ∃ v r, vs = v :: r ∧ Rel W d v ∧ Rels W ds r
end
end
theorem Same.seqT {K : PySem.W.Frag} {H H' : Hp} {a : Addr} {xs : List V} (e : Same H H') (h : SqT K H a xs) : SqT K H' a xs := by
  rcases h with (h | ⟨o, h⟩) | h
  · exact .inl (.inl (e _ _ h))
  · exact .inl (.inr ⟨o, e _ _ h⟩)
  · exact .inr h
theorem prefix_get {α : Type} {l l' : List α} {n : Nat} {a : α} (h : l <+: l') (e : l[n]? = some a) : l'[n]? = some a := by
  obtain ⟨t, rfl⟩ := h
  have hn : n < l.length := (List.getElem?_eq_some_iff.mp e).1
  rw [List.getElem?_append_left hn]; exact e
section
variable {K : PySem.W.Frag} {W W' : Wd}
mutual
theorem Rel.mono' (h : W.sub W') : ∀ (d : D) (v : V), Rel K W d v → Rel K W' d v
  | .non, _, r => r
  | .bl _, _, r => r
  | .int _, _, r => r
  | .str _, _, r => r
  | .ty _, _, r => r
  | .ref n, v, r => by
    unfold Rel at r ⊢
    obtain ⟨a, e, q⟩ := r
    exact ⟨a, prefix_get h.ms e, q⟩
  | .tup ds, v, r => by
    unfold Rel at r ⊢
    obtain ⟨a, vs, e, s, q⟩ := r
    exact ⟨a, vs, e, Same.seqT h.F s, Rels.mono' h ds vs q⟩
  | .lst ds, v, r => by
    unfold Rel at r ⊢
    obtain ⟨a, vs, e, s, q⟩ := r
    exact ⟨a, vs, e, h.F _ _ s, Rels.mono' h ds vs q⟩
  | .rol ds, v, r => by
    unfold Rel at r ⊢
    obtain ⟨a, vs, e, s, q⟩ := r
    exact ⟨a, vs, e, h.F.seq s, Rels.mono' h ds vs q⟩
theorem Rels.mono' (h : W.sub W') : ∀ (ds : List D) (vs : List V), Rels K W ds vs → Rels K W' ds vs
  | [], _, r => r
  | d :: ds, vs, r => by
    unfold Rels at r ⊢
    obtain ⟨v, t, e, r1, r2⟩ := r
    exact ⟨v, t, e, Rel.mono' h d v r1, Rels.mono' h ds t r2⟩
end
theorem Rel.mono (h : W.le W') (d : D) (v : V) (r : Rel K W d v) : Rel K W' d v := Rel.mono' h.s d v r
theorem Rels.mono (h : W.le W') (ds : List D) (vs : List V) (r : Rels K W ds vs) : Rels K W' ds vs := Rels.mono' h.s ds vs r
theorem Rels.length : ∀ {ds : List D} {vs : List V}, Rels K W ds vs → vs.length = ds.length
  | [], _, r => by unfold Rels at r; rw [r]; rfl
  | d :: ds, _, r => by
    unfold Rels at r
    obtain ⟨v, t, rfl, _, r2⟩ := r
    simp [Rels.length r2]
theorem Rels.nil : Rels K W [] [] := by unfold Rels; rfl
theorem Rels.cons {d : D} {v : V} {ds : List D} {vs : List V} (h : Rel K W d v) (t : Rels K W ds vs) : Rels K W (d :: ds) (v :: vs) := by
  unfold Rels; exact ⟨v, vs, rfl, h, t⟩
theorem Rels.append : ∀ {ds es : List D} {vs us : List V}, Rels K W ds vs → Rels K W es us → Rels K W (ds ++ es) (vs ++ us)
  | [], _, _, _, r, q => by unfold Rels at r; subst r; exact q
  | d :: ds, _, _, _, r, q => by
    unfold Rels at r
    obtain ⟨v, t, rfl, r1, r2⟩ := r
    exact Rels.cons r1 (Rels.append r2 q)
theorem Rels.get : ∀ {ds : List D} {vs : List V} {i : Nat} {d : D}, Rels K W ds vs → ds[i]? = some d → ∃ v, vs[i]? = some v ∧ Rel K W d v
  | [], _, _, _, _, e => by simp at e
  | d :: ds, _, 0, d', r, e => by
    unfold Rels at r
    obtain ⟨v, t, rfl, r1, r2⟩ := r
    simp at e; subst e
    exact ⟨v, rfl, r1⟩
  | d :: ds, _, i + 1, d', r, e => by
    unfold Rels at r
    obtain ⟨v, t, rfl, r1, r2⟩ := r
    obtain ⟨u, h1, h2⟩ := Rels.get (i := i) r2 (by simpa using e)
    exact ⟨u, by simpa using h1, h2⟩
theorem Rels.take : ∀ {ds : List D} {vs : List V} (n : Nat), Rels K W ds vs → Rels K W (ds.take n) (vs.take n)
  | _, _, 0, _ => by simp [Rels.nil]
  | [], _, n + 1, r => by unfold Rels at r; subst r; simp [Rels.nil]
  | d :: ds, _, n + 1, r => by
    unfold Rels at r
    obtain ⟨v, t, rfl, r1, r2⟩ := r
    exact Rels.cons r1 (Rels.take n r2)
theorem Rels.drop : ∀ {ds : List D} {vs : List V} (n : Nat), Rels K W ds vs → Rels K W (ds.drop n) (vs.drop n)
  | _, _, 0, r => by simpa using r
  | [], _, n + 1, r => by unfold Rels at r; subst r; simp [Rels.nil]
  | d :: ds, _, n + 1, r => by
    unfold Rels at r
    obtain ⟨v, t, rfl, r1, r2⟩ := r
    exact Rels.drop n r2
theorem Rels.set {d : D} {v : V} (h : Rel K W d v) : ∀ {ds : List D} {vs : List V} (n : Nat), Rels K W ds vs → Rels K W (ds.set n d) (vs.set n v)
  | [], _, _, r => by unfold Rels at r; subst r; simp [Rels.nil]
  | d' :: ds, _, 0, r => by
    unfold Rels at r
    obtain ⟨v', t, rfl, r1, r2⟩ := r
    exact Rels.cons h r2
  | d' :: ds, _, n + 1, r => by
    unfold Rels at r
    obtain ⟨v', t, rfl, r1, r2⟩ := r
    exact Rels.cons r1 (Rels.set h n r2)
theorem Rels.of_forall : ∀ {ds : List D} {vs : List V}, vs.length = ds.length → (∀ (i : Nat) (d : D) (v : V), ds[i]? = some d → vs[i]? = some v → Rel K W d v) → Rels K W ds vs
  | [], [], _, _ => .nil
  | d :: ds, v :: vs, hl, h => .cons (h 0 d v rfl rfl) (Rels.of_forall (by simpa using hl) fun i a b e1 e2 => h (i + 1) a b (by simpa using e1) (by simpa using e2))
theorem Rels.at {ds : List D} {vs : List V} {i : Nat} {d : D} {v : V} (r : Rels K W ds vs) (e1 : ds[i]? = some d) (e2 : vs[i]? = some v) : Rel K W d v := by
  obtain ⟨u, h1, h2⟩ := r.get e1
  rw [e2] at h1; cases h1; exact h2
/-- ints -/
theorem Rels.ints : ∀ {is : List Int} {vs : List V}, Rels K W (is.map D.int) vs → vs = is.map V.int
  | [], _, r => by unfold Rels at r; exact r
  | i :: is, _, r => by
    rw [List.map_cons] at r
    unfold Rels at r
    obtain ⟨v, t, rfl, r1, r2⟩ := r
    unfold Rel at r1
    rw [r1, Rels.ints r2]; rfl
theorem Rels.of_ints : ∀ (is : List Int), Rels K W (is.map D.int) (is.map V.int)
  | [] => .nil
  | i :: is => .cons (by unfold Rel; rfl) (Rels.of_ints is)
theorem Rels.bools : ∀ {is : List Bool} {vs : List V}, Rels K W (is.map D.bl) vs → vs = is.map V.bl
  | [], _, r => by unfold Rels at r; exact r
  | i :: is, _, r => by
    rw [List.map_cons] at r
    unfold Rels at r
    obtain ⟨v, t, rfl, r1, r2⟩ := r
    unfold Rel at r1
    rw [r1, Rels.bools r2]; rfl
end

/-- the store lies in the heap H -/
structure SI (K : PySem.W.Frag) (H : Hp) (W : Wd) (h : Sto) : Prop where
  sub : Same W.F H
  len : W.ms.length = h.length
  obj : ∀ (n : Nat) (ds : List D), h[n]? = some (MO.lst ds) → ∃ (a : Addr) (vs : List V), W.ms[n]? = some a ∧ H a = some (.lst vs) ∧ Rels K W ds vs
  out : ∀ (n : Nat) (a : Addr) (ds : List D), W.ms[n]? = some a → h[n]? = some (MO.lst ds) → W.F a = none
  inj : ∀ (n m : Nat) (a : Addr), W.ms[n]? = some a → W.ms[m]? = some a → n = m
  oth : Same W.O H
  outO : ∀ (a : Addr) (o : HO), W.O a = some o → W.F a = none ∧ ∀ n : Nat, W.ms[n]? ≠ some a
  gone : ∀ (n : Nat) (a : Addr), W.ms[n]? = some a → h[n]? = some MO.dead → ∃ vs, W.F a = some (.lst vs)
section
variable {K : PySem.W.Frag} {H : Hp} {W : Wd} {h : Sto}
theorem SI.has (S : SI K H W h) {n : Nat} {a : Addr} (e : W.ms[n]? = some a) : ∃ vs, H a = some (.lst vs) := by
  have hn : n < h.length := by rw [← S.len]; exact (List.getElem?_eq_some_iff.mp e).1
  cases q : h[n] with
  | lst ds =>
    obtain ⟨b, vs, e1, e2, _⟩ := S.obj n ds (by rw [List.getElem?_eq_getElem hn, q])
    rw [e] at e1; cases e1
    exact ⟨vs, e2⟩
  | dead =>
    obtain ⟨o, z⟩ := S.gone n a e (by rw [List.getElem?_eq_getElem hn, q])
    exact ⟨o, S.sub a _ z⟩
/-- a new frozen thing -/
theorem SI.frz {p : Addr} {o : HO} (S : SI K H W h) (hp : H p = none) : SI K (upd H p o) ⟨upd W.F p o, W.ms, W.O⟩ h ∧ W.le ⟨upd W.F p o, W.ms, W.O⟩ := by
  have hF : W.F p = none := S.sub.free hp
  have le : W.le ⟨upd W.F p o, W.ms, W.O⟩ := ⟨fun b u e => by
    show upd W.F p o b = some u
    rw [upd_ne (ne_of_none e hF)]; exact e, List.prefix_refl _, rfl⟩
  refine ⟨⟨fun b u e => ?_, S.len, fun n ds e => ?_, fun n a ds e el => ?_, S.inj, fun b u e => ?_, fun b u e => ⟨?_, (S.outO b u e).2⟩, fun n a e el => ?_⟩, le⟩
  · have e' : upd W.F p o b = some u := e
    by_cases hb : b = p
    · subst hb; rw [upd_same] at e' ⊢; exact e'
    · rw [upd_ne hb] at e' ⊢; exact S.sub b u e'
  · obtain ⟨a, vs, e1, e2, r⟩ := S.obj n ds e
    exact ⟨a, vs, e1, by rw [upd_ne (ne_of_none e2 hp)]; exact e2, Rels.mono le _ _ r⟩
  · show upd W.F p o a = none
    obtain ⟨vs, q⟩ := S.has e
    rw [upd_ne (ne_of_none q hp)]; exact S.out n a ds e el
  · rw [upd_ne (ne_of_none (S.oth b u e) hp)]; exact S.oth b u e
  · show upd W.F p o b = none
    rw [upd_ne (ne_of_none (S.oth b u e) hp)]; exact (S.outO b u e).1
  · obtain ⟨o', z⟩ := S.gone n a e el
    exact ⟨o', by show upd W.F p o a = _; rw [upd_ne (ne_of_none z hF)]; exact z⟩
/-- the heap grew by things that are not ours -/
theorem SI.grow {H' : Hp} (S : SI K H W h) (g : Same H H') : SI K H' W h :=
  ⟨S.sub.trans g, S.len, fun n ds e => let ⟨a, vs, e1, e2, r⟩ := S.obj n ds e; ⟨a, vs, e1, g _ _ e2, r⟩, S.out, S.inj, S.oth.trans g, S.outO, S.gone⟩
/-- a new mutable list -/
theorem SI.new {p : Addr} {ds : List D} {vs : List V} (S : SI K H W h) (hp : H p = none) (r : Rels K W ds vs) :
    SI K (upd H p (.lst vs)) ⟨W.F, W.ms ++ [p], W.O⟩ (h ++ [.lst ds]) ∧ W.le ⟨W.F, W.ms ++ [p], W.O⟩ := by
  have le : W.le ⟨W.F, W.ms ++ [p], W.O⟩ := ⟨Same.refl _, List.prefix_append _ _, rfl⟩
  have hF : W.F p = none := S.sub.free hp
  have cs : ∀ (n : Nat) (a : Addr), (W.ms ++ [p])[n]? = some a → W.ms[n]? = some a ∨ (n = W.ms.length ∧ a = p) := fun n a e => by
    rcases Nat.lt_trichotomy n W.ms.length with q | q | q
    · rw [List.getElem?_append_left q] at e; exact .inl e
    · subst q
      rw [List.getElem?_append_right (Nat.le_refl _)] at e
      simp at e
      exact .inr ⟨rfl, e.symm⟩
    · rw [List.getElem?_eq_none (by simp; omega)] at e; cases e
  refine ⟨⟨fun b u e => ?_, by simp [S.len], fun n ds' e => ?_, fun n a ds' e el => ?_, fun n m a e1 e2 => ?_, fun b u e => ?_, fun b u e => ⟨(S.outO b u e).1, fun n q => ?_⟩, fun n a e el => ?_⟩, le⟩
  rotate_left 4
  · rw [upd_ne (ne_of_none (S.oth b u e) hp)]; exact S.oth b u e
  · rcases cs n b q with q | ⟨_, q⟩
    · exact (S.outO b u e).2 n q
    · have := S.oth b u e
      rw [q, hp] at this; cases this
  · have hn : n < h.length := by
      rcases Nat.lt_trichotomy n h.length with q | q | q
      · exact q
      · subst q; rw [List.getElem?_append_right (Nat.le_refl _)] at el; simp at el
      · rw [List.getElem?_eq_none (by simp; omega)] at el; cases el
    rw [List.getElem?_append_left hn] at el
    rcases cs n a e with q | ⟨q, _⟩
    · exact S.gone n a q el
    · rw [S.len] at q; omega
  · rw [upd_ne (ne_of_none (show W.F b = some u from e) hF)]; exact S.sub b u e
  · rcases Nat.lt_trichotomy n h.length with q | q | q
    · rw [List.getElem?_append_left q] at e
      obtain ⟨a, ws, e1, e2, r'⟩ := S.obj n ds' e
      exact ⟨a, ws, prefix_get le.ms e1, by rw [upd_ne (ne_of_none e2 hp)]; exact e2, Rels.mono le _ _ r'⟩
    · subst q
      rw [List.getElem?_append_right (Nat.le_refl _)] at e
      simp at e
      subst e
      refine ⟨p, vs, ?_, upd_same, Rels.mono le _ _ r⟩
      show (W.ms ++ [p])[h.length]? = some p
      rw [← S.len, List.getElem?_append_right (Nat.le_refl _)]; simp
    · rw [List.getElem?_eq_none (by simp; omega)] at e; cases e
  · rcases cs n a e with q | ⟨_, q⟩
    · have hn : n < h.length := by rw [← S.len]; exact (List.getElem?_eq_some_iff.mp q).1
      rw [List.getElem?_append_left hn] at el
      exact S.out n a ds' q el
    · rw [q]; exact hF
  · rcases cs n a e1 with q1 | ⟨q1, z1⟩
    · rcases cs m a e2 with q2 | ⟨q2, z2⟩
      · exact S.inj n m a q1 q2
      · obtain ⟨vs, q⟩ := S.has q1
        rw [z2, hp] at q; cases q
    · rcases cs m a e2 with q2 | ⟨q2, z2⟩
      · obtain ⟨vs, q⟩ := S.has q2
        rw [z1, hp] at q; cases q
      · rw [q1, q2]
/-- a mutable list is changed -/
theorem SI.put {n : Nat} {a : Addr} {ds : List D} {vs : List V} (S : SI K H W h) (e : W.ms[n]? = some a) {ds0 : List D} (el : h[n]? = some (.lst ds0)) (r : Rels K W ds vs) : SI K (upd H a (.lst vs)) W (h.set n (.lst ds)) := by
  have hF : W.F a = none := S.out n a ds0 e el
  refine ⟨fun b u q => ?_, by simp [S.len], fun m ds' q => ?_, fun m b ds' q ql => ?_, S.inj, fun b u q => ?_, S.outO, fun m b q ql => ?_⟩
  rotate_left 2
  · by_cases hm : n = m
    · subst hm
      rw [e] at q; cases q; exact hF
    · rw [List.getElem?_set_ne hm] at ql
      exact S.out m b ds' q ql
  · rw [upd_ne (fun z => (S.outO b u q).2 n (by rw [z]; exact e))]; exact S.oth b u q
  · by_cases hm : n = m
    · subst hm
      have hn : n < h.length := (List.getElem?_eq_some_iff.mp el).1
      rw [List.getElem?_set_self hn] at ql; cases ql
    · rw [List.getElem?_set_ne hm] at ql
      exact S.gone m b q ql
  · rw [upd_ne (ne_of_none q hF)]; exact S.sub b u q
  · by_cases hm : n = m
    · subst hm
      have hn : n < h.length := by rw [← S.len]; exact (List.getElem?_eq_some_iff.mp e).1
      rw [List.getElem?_set_self hn] at q
      cases q
      exact ⟨a, vs, e, upd_same, r⟩
    · rw [List.getElem?_set_ne hm] at q
      obtain ⟨b, ws, e1, e2, r'⟩ := S.obj m ds' q
      have hb : b ≠ a := fun z => hm (S.inj n m a e (z ▸ e1))
      exact ⟨b, ws, e1, by rw [upd_ne hb]; exact e2, r'⟩
/-- a mutable list is done with: from here on nobody changes it -/
theorem SI.kill {n : Nat} {a : Addr} {ds : List D} {vs : List V} (S : SI K H W h) (e : W.ms[n]? = some a) (el : h[n]? = some (.lst ds)) (eh : H a = some (.lst vs)) : SI K H ⟨upd W.F a (.lst vs), W.ms, W.O⟩ (h.set n .dead) ∧ W.le ⟨upd W.F a (.lst vs), W.ms, W.O⟩ := by
  have hF : W.F a = none := S.out n a ds e el
  have hn : n < h.length := (List.getElem?_eq_some_iff.mp el).1
  have le : W.le ⟨upd W.F a (.lst vs), W.ms, W.O⟩ := ⟨fun b u e => by
    show upd W.F a (.lst vs) b = some u
    rw [upd_ne (ne_of_none e hF)]; exact e, List.prefix_refl _, rfl⟩
  refine ⟨⟨fun b u q => ?_, by simp [S.len], fun m ds' q => ?_, fun m b ds' q ql => ?_, S.inj, S.oth, fun b u q => ⟨?_, (S.outO b u q).2⟩, fun m b q ql => ?_⟩, le⟩
  · have q' : upd W.F a (.lst vs) b = some u := q
    by_cases hb : b = a
    · subst hb; rw [upd_same] at q'; cases q'; exact eh
    · rw [upd_ne hb] at q'; exact S.sub b u q'
  · have hm : n ≠ m := fun z => by subst z; rw [List.getElem?_set_self hn] at q; cases q
    rw [List.getElem?_set_ne hm] at q
    obtain ⟨b, ws, e1, e2, r'⟩ := S.obj m ds' q
    exact ⟨b, ws, e1, e2, Rels.mono le _ _ r'⟩
  · have hm : n ≠ m := fun z => by subst z; rw [List.getElem?_set_self hn] at ql; cases ql
    rw [List.getElem?_set_ne hm] at ql
    show upd W.F a (.lst vs) b = none
    rw [upd_ne (fun z => hm (S.inj n m a e (by rw [← z]; exact q)))]; exact S.out m b ds' q ql
  · show upd W.F a (.lst vs) b = none
    rw [upd_ne (fun z => (S.outO b u q).2 n (by rw [z]; exact e))]; exact (S.outO b u q).1
  · by_cases hm : n = m
    · subst hm
      rw [e] at q; cases q
      exact ⟨_, upd_same⟩
    · rw [List.getElem?_set_ne hm] at ql
      obtain ⟨o, z⟩ := S.gone m b q ql
      exact ⟨o, by show upd W.F a (.lst vs) b = _; rw [upd_ne (ne_of_none z hF)]; exact z⟩
end

/-- slots and names -/
structure RelE (K : PySem.W.Frag) (W : Wd) (ρ : Rho) (σ : L2.St) : Prop where
  get : ∀ (i : Nat) (d : D), ρ[i]? = some (some d) → ∃ v, σ[i]? = some (some v) ∧ Rel K W d v
  len : ρ.length = σ.length
theorem RelE.mono' {K : PySem.W.Frag} {W W' : Wd} {ρ : Rho} {σ : L2.St} (r : RelE K W ρ σ) (h : W.sub W') : RelE K W' ρ σ :=
  ⟨fun i d e => let ⟨v, e1, r1⟩ := r.get i d e; ⟨v, e1, Rel.mono' h _ _ r1⟩, r.len⟩
theorem RelE.mono {K : PySem.W.Frag} {W W' : Wd} {ρ : Rho} {σ : L2.St} (r : RelE K W ρ σ) (h : W.le W') : RelE K W' ρ σ := r.mono' h.s
theorem RelE.set {K : PySem.W.Frag} {W : Wd} {ρ : Rho} {σ : L2.St} {d : D} {v : V} (r : RelE K W ρ σ) (h : Rel K W d v) (i : Nat) : RelE K W (ρ.set i (some d)) (σ.set i (some v)) := by
  refine ⟨fun j d' e => ?_, by simp [r.len]⟩
  by_cases hj : i = j
  · subst hj
    by_cases hi : i < ρ.length
    · rw [List.getElem?_set_self hi] at e
      cases e
      exact ⟨v, List.getElem?_set_self (by rw [← r.len]; exact hi), h⟩
    · rw [List.getElem?_eq_none (by simp; omega)] at e; cases e
  · rw [List.getElem?_set_ne hj] at e
    obtain ⟨u, e1, r1⟩ := r.get j d' e
    exact ⟨u, by rw [List.getElem?_set_ne hj]; exact e1, r1⟩
theorem RelE.clear {K : PySem.W.Frag} {W : Wd} {ρ : Rho} {σ : L2.St} (r : RelE K W ρ σ) (i : Nat) (o : Option V) : RelE K W (ρ.set i none) (σ.set i o) := by
  refine ⟨fun j d' e => ?_, by simp [r.len]⟩
  by_cases hj : i = j
  · subst hj
    by_cases hi : i < ρ.length
    · rw [List.getElem?_set_self hi] at e; cases e
    · rw [List.getElem?_eq_none (by simp; omega)] at e; cases e
  · rw [List.getElem?_set_ne hj] at e
    obtain ⟨u, e1, r1⟩ := r.get j d' e
    exact ⟨u, by rw [List.getElem?_set_ne hj]; exact e1, r1⟩

/-! ### denotations and their readings -/
/-- what is wanted of a value -/
def Post (K : PySem.W.Frag) (W : Wd) (d : D) (h' : Sto) (Q : VK) : Prop := ∀ v H' W', W.le W' → SI K H' W' h' → Rel K W' d v → Q v H'
/-- where one stands -/
structure At (K : PySem.W.Frag) (W : Wd) (ρ : Rho) (h : Sto) (σ : L2.St) (H : Hp) : Prop where
  e : RelE K W ρ σ
  s : SI K H W h
def tEv (K : PySem.W.Frag) (φ : Den) : TE := fun σ H Q => ∃ ρ h W d h', At K W ρ h σ H ∧ φ ρ h = some (d, h') ∧ Post K W d h' Q
abbrev DenT := Rho → Sto → Option (Bool × Sto)
def tEvT (K : PySem.W.Frag) (φ : DenT) : TT := fun σ H Q => ∃ ρ h W b h', At K W ρ h σ H ∧ φ ρ h = some (b, h') ∧ ∀ H' W', W.le W' → SI K H' W' h' → Q b H'
abbrev DenL := Rho → Sto → Option (List D × Sto)
def tEvL (K : PySem.W.Frag) (φ : DenL) : TA := fun σ H Q => ∃ ρ h W ds h', At K W ρ h σ H ∧ φ ρ h = some (ds, h') ∧ ∀ vs H' W', W.le W' → SI K H' W' h' → Rels K W' ds vs → Q vs H'
inductive Fl where
  | nx | rt (d : D) | bk | ct
abbrev DenS := Rho → Sto → Option (Fl × Rho × Sto)
def PostS (K : PySem.W.Frag) (W : Wd) (ρ' : Rho) (h' : Sto) (D : Ends) : Fl → Prop
  | .nx => ∀ σ' H' W', W.le W' → At K W' ρ' h' σ' H' → D.nx σ' H'
  | .rt d => ∀ v H' W', W.le W' → SI K H' W' h' → Rel K W' d v → D.rt v H'
  | .bk => ∀ σ' H' W', W.le W' → At K W' ρ' h' σ' H' → D.bk σ' H'
  | .ct => ∀ σ' H' W', W.le W' → At K W' ρ' h' σ' H' → D.ct σ' H'
def tEvS (K : PySem.W.Frag) (φ : DenS) : TS := fun D σ H => ∃ ρ h W f ρ' h', At K W ρ h σ H ∧ φ ρ h = some (f, ρ', h') ∧ PostS K W ρ' h' D f
/-- a target: what is stored there -/
abbrev DenG := D → Rho → Sto → Option (Rho × Sto)
/-- own: the slots that may be stored to -/
def tEvG (K : PySem.W.Frag) (own : List Nat) (γ : DenG) : TG := fun v σ H Q => ∃ d ρ h W ρ' h', At K W ρ h σ H ∧ Rel K W d v ∧ γ d ρ h = some (ρ', h') ∧ ∀ σ' H' W', W.le W' → At K W' ρ' h' σ' H' → wipe σ' own = wipe σ own → Q σ' H'
abbrev DenGs := List D → Rho → Sto → Option (Rho × Sto)
def tEvGs (K : PySem.W.Frag) (own : List Nat) (γ : DenGs) : TGs := fun vs σ H Q => ∃ ds ρ h W ρ' h', At K W ρ h σ H ∧ Rels K W ds vs ∧ γ ds ρ h = some (ρ', h') ∧ ∀ σ' H' W', W.le W' → At K W' ρ' h' σ' H' → wipe σ' own = wipe σ own → Q σ' H'

section
variable {X : Cx}
theorem _root_.L2.PE.impD {e : Expr} {t t' : TE} (p : PE X e t) (i : ∀ σ H Q, t' σ H Q → t σ H Q) : PE X e t' := ⟨fun pins s σ H Q I h => p.run pins s σ H Q I (i σ H Q h)⟩
theorem _root_.L2.PT.impD {e : Expr} {t t' : TT} (p : PT X e t) (i : ∀ σ H Q, t' σ H Q → t σ H Q) : PT X e t' := ⟨fun pins s σ H Q I h => p.run pins s σ H Q I (i σ H Q h)⟩
theorem _root_.L2.PW.impD {e : Expr} {t t' : TT} (p : PW X e t) (i : ∀ σ H Q, t' σ H Q → t σ H Q) : PW X e t' := ⟨fun wh pins s σ H Q I h => p.run wh pins s σ H Q I (i σ H Q h)⟩
theorem _root_.L2.PA.impD {es : List Expr} {t t' : TA} (p : PA X es t) (i : ∀ σ H Q, t' σ H Q → t σ H Q) : PA X es t' := ⟨fun pos pins s σ H Q I h => p.run pos pins s σ H Q I (i σ H Q h)⟩
theorem _root_.L2.PS.impD {st : Stmt} {t t' : TS} (p : PS X st t) (i : ∀ D σ H, t' D σ H → t D σ H) : PS X st t' := ⟨fun pins s σ H D I h => p.run pins s σ H D I (i D σ H h)⟩
theorem _root_.L2.PSs.impD {st : List Stmt} {t t' : TS} (p : PSs X st t) (i : ∀ D σ H, t' D σ H → t D σ H) : PSs X st t' := ⟨fun pins s σ H D I h => p.run pins s σ H D I (i D σ H h)⟩
theorem _root_.L2.PG.impD {e : Expr} {t t' : TG} (p : PG X e t) (i : ∀ v σ H Q, t' v σ H Q → t v σ H Q) : PG X e t' := ⟨fun pins s σ H v u Q I r h => p.run pins s σ H v u Q I r (i v σ H Q h)⟩
theorem _root_.L2.PGs.impD {e : List Expr} {t t' : TGs} (p : PGs X e t) (i : ∀ v σ H Q, t' v σ H Q → t v σ H Q) : PGs X e t' := ⟨fun pins s σ H v u Q I r h => p.run pins s σ H v u Q I r (i v σ H Q h)⟩
theorem _root_.L2.OpR.impD {f : Value → Value → Sem Value} {r r' : R2} (p : OpR X f r) (i : ∀ x y H Q, r' x y H Q → r x y H Q) : OpR X f r' := fun pins s σ H x y v u Q I a b h => p pins s σ H x y v u Q I a b (i x y H Q h)
theorem _root_.L2.OpR.orD {f : Value → Value → Sem Value} {r r' : R2} (p : OpR X f r) (q : OpR X f r') : OpR X f (fun x y H Q => r x y H Q ∨ r' x y H Q) := fun pins s σ H x y v u Q I a b h => h.elim (fun h => p pins s σ H x y v u Q I a b h) fun h => q pins s σ H x y v u Q I a b h
theorem _root_.L2.CallR.impD {f : Value} {r r' : List V → Hp → VK → Prop} (p : CallR X f r) (i : ∀ x H Q, r' x H Q → r x H Q) : CallR X f r' := fun pins s σ H x u Q I a h => p pins s σ H x u Q I a (i x H Q h)
theorem _root_.L2.CallR.orD {f : Value} {r r' : List V → Hp → VK → Prop} (p : CallR X f r) (q : CallR X f r') : CallR X f (fun x H Q => r x H Q ∨ r' x H Q) := fun pins s σ H x u Q I a h => h.elim (fun h => p pins s σ H x u Q I a h) fun h => q pins s σ H x u Q I a h
theorem _root_.L2.IxR.impD {r r' : R2} (p : IxR X r) (i : ∀ x y H Q, r' x y H Q → r x y H Q) : IxR X r' := fun value slice pins s σ H x y v u Q I a b h hs => p value slice pins s σ H x y v u Q I a b (i x y H Q h) hs
theorem _root_.L2.SlR.impD {r r' : V → Option Int → Option Int → Hp → VK → Prop} (p : SlR X r) (i : ∀ x l u H Q, r' x l u H Q → r x l u H Q) : SlR X r' := fun pins s σ H x v vl vu lo hi sl Q I a b c d h => p pins s σ H x v vl vu lo hi sl Q I a b c d (i x lo hi H Q h)
theorem _root_.L2.MtR.impD {id : String} {r r' : V → List V → Hp → VK → Prop} (p : MtR X id r) (i : ∀ x y H Q, r' x y H Q → r x y H Q) : MtR X id r' := fun pins s σ H x xs v us Q I a b h => p pins s σ H x xs v us Q I a b (i x xs H Q h)
end
end Iv
/-! Iv2: expressions. -/
namespace Iv
open PySem PySem.Spec PyProof.Rows L2

section
variable {K : PySem.W.Frag} {W W' : Wd} {ρ : Rho} {h h' : Sto} {σ : L2.St} {H H' : Hp}
theorem At.step (A : At K W ρ h σ H) (le : W.le W') (S : SI K H' W' h') : At K W' ρ h' σ H' := ⟨A.e.mono le, S⟩
theorem Post.of {d : D} {Q : VK} {W0 : Wd} (P : Post K W d h' Q) (le : W.le W0) : Post K W0 d h' Q := fun v H' W' l S r => P v H' W' (le.trans l) S r
end

/-! ### names and constants -/
def dVar (i : Nat) : Den := fun ρ h => match ρ[i]? with | some (some d) => some (d, h) | _ => none
def dC (d : D) : Den := fun _ h => some (d, h)
section
variable {X : Cx} {K : PySem.W.Frag}
theorem v_var (i : Nat) {x : Str} {pos : Pos} (hN : X.N[i]? = some x := by rfl) (hv : Vis X.env.scope x := by first | exact Or.inl rfl | exact Or.inr (Or.inl rfl) | exact Or.inr (Or.inr rfl)) (hd : (x == ("__debug__" : Str)) = false := by decide)
    (hcd : (x == ("__classdict__" : Str)) = false := by decide) : PE X (.Name x pos) (tEv X.K (dVar i)) := (pe_var hN hv hd hcd).impD fun σ H Q h => by
  obtain ⟨ρ, h, W, d, h', A, e, P⟩ := h
  unfold dVar at e
  cases q : ρ[i]? with
  | none => rw [q] at e; cases e
  | some o =>
    cases o with
    | none => rw [q] at e; cases e
    | some d' =>
      rw [q] at e; cases e
      obtain ⟨v, e1, r⟩ := A.e.get i d q
      exact ⟨v, e1, P v H W (.refl _) A.s r⟩
theorem tEv_const {d : D} {v : V} (hr : ∀ W, Rel K W d v) : ∀ σ H Q, tEv K (dC d) σ H Q → tC v σ H Q := fun σ H Q h => by
  obtain ⟨ρ, h, W, d', h', A, e, P⟩ := h
  cases e
  exact P v H W (.refl _) A.s (hr W)
theorem v_int {i : Int} {j : Nat} {pos : Pos} : PE X (.Constant (.int i) j pos) (tEv X.K (dC (.int i))) := pe_int.impD (tEv_const fun _ => by unfold Rel; rfl)
theorem v_bl {b : Bool} {j : Nat} {pos : Pos} : PE X (.Constant (.bool b) j pos) (tEv X.K (dC (.bl b))) := pe_bl.impD (tEv_const fun _ => by unfold Rel; rfl)
theorem v_non {j : Nat} {pos : Pos} : PE X (.Constant .none j pos) (tEv X.K (dC .non)) := pe_non.impD (tEv_const fun _ => by unfold Rel; rfl)
theorem v_str {x : Str} {j : Nat} {pos : Pos} : PE X (.Constant (.str x) j pos) (tEv X.K (dC (.str x))) := pe_str.impD (tEv_const fun _ => by unfold Rel; rfl)
theorem v_ty {n : String} {x : Str} {pos : Pos} (hm : X.mg x = none) (hv : bootBuiltins x = some (.type n)) (hg : Gl X x := by rfl) (hn : x ≠ "__name__" := by decide) (hd : (x == ("__debug__" : Str)) = false := by decide) :
    PE X (.Name x pos) (tEv X.K (dC (.ty n))) := (pe_bltn (v := .ty n) hg hm hv rfl hn hd).impD (tEv_const fun _ => by unfold Rel; rfl)
/-- a module's constant -/
structure IsC (K : PySem.W.Frag) (mg : Str → Option Value) (x : Str) (d : D) : Prop where
  ex : ∃ (v : V) (u : Value), mg x = some u ∧ RelV v u ∧ ∀ W, Rel K W d v
theorem v_glob {x : Str} {d : D} {pos : Pos} (hc : IsC X.K X.mg x d) (hg : Gl X x := by rfl) (hd : (x == ("__debug__" : Str)) = false := by decide) : PE X (.Name x pos) (tEv X.K (dC d)) := by
  obtain ⟨v, u, hm, r, hr⟩ := hc.ex
  exact (pe_glob hg hm r hd).impD (tEv_const hr)

/-! ### operators by data -/
def dOp (g : D → D → Sto → Option (D × Sto)) (a b : Den) : Den := fun ρ h => (a ρ h).bind fun p => (b ρ p.2).bind fun q => g p.1 q.1 q.2
def dUn (g : D → Sto → Option (D × Sto)) (a : Den) : Den := fun ρ h => (a ρ h).bind fun p => g p.1 p.2
def rD (K : PySem.W.Frag) (g : D → D → Sto → Option (D × Sto)) : R2 := fun x y H Q => ∃ W h d1 d2 d h', SI K H W h ∧ Rel K W d1 x ∧ Rel K W d2 y ∧ g d1 d2 h = some (d, h') ∧ Post K W d h' Q
def rU (K : PySem.W.Frag) (g : D → Sto → Option (D × Sto)) : V → Hp → VK → Prop := fun x H Q => ∃ W h d1 d h', SI K H W h ∧ Rel K W d1 x ∧ g d1 h = some (d, h') ∧ Post K W d h' Q
theorem op_imp {g : D → D → Sto → Option (D × Sto)} {φ ψ : Den} : ∀ σ H Q, tEv K (dOp g φ ψ) σ H Q → tOp (rD K g) (tEv K φ) (tEv K ψ) σ H Q := fun σ H Q hh => by
  obtain ⟨ρ, h, W, d, h', A, e, P⟩ := hh
  unfold dOp at e
  obtain ⟨⟨d1, h1⟩, e1, e⟩ := Option.bind_eq_some_iff.mp e
  obtain ⟨⟨d2, h2⟩, e2, e⟩ := Option.bind_eq_some_iff.mp e
  exact ⟨ρ, h, W, d1, h1, A, e1, fun v H1 W1 l1 S1 r1 => ⟨ρ, h1, W1, d2, h2, A.step l1 S1, e2, fun u H2 W2 l2 S2 r2 => ⟨W2, h2, d1, d2, d, h', S2, Rel.mono l2 _ _ r1, r2, e, P.of (l1.trans l2)⟩⟩⟩
theorem un_imp {g : D → Sto → Option (D × Sto)} {φ : Den} {t : TE} {r : V → Hp → VK → Prop} (hr : ∀ x H Q, rU K g x H Q → r x H Q) : ∀ σ H Q, tEv K (dUn g φ) σ H Q → tEv K φ σ H (fun x H1 => r x H1 Q) := fun σ H Q hh => by
  obtain ⟨ρ, h, W, d, h', A, e, P⟩ := hh
  unfold dUn at e
  obtain ⟨⟨d1, h1⟩, e1, e⟩ := Option.bind_eq_some_iff.mp e
  exact ⟨ρ, h, W, d1, h1, A, e1, fun v H1 W1 l1 S1 r1 => hr _ _ _ ⟨W1, h1, d1, d, h', S1, r1, e, P.of l1⟩⟩
variable {a b c e : Expr} {φ ψ χ : Den} {pos : Pos}
theorem v_op {op : Operator} {g : D → D → Sto → Option (D × Sto)} (ho : OpR X (binaryOp op) (rD X.K g)) (ha : PE X a (tEv X.K φ)) (hb : PE X b (tEv X.K ψ)) : PE X (.BinOp a op b pos) (tEv X.K (dOp g φ ψ)) := (pe_op ho ha hb).impD op_imp
theorem v_cmp {op : CmpOp} {g : D → D → Sto → Option (D × Sto)} (ho : OpR X (compareOp op) (rD X.K g)) (ha : PE X a (tEv X.K φ)) (hb : PE X b (tEv X.K ψ)) (hm : behindInMarks op b = false := by rfl) : PE X (.Compare a [op] [b] pos) (tEv X.K (dOp g φ ψ)) := (pe_cmpR ho ha hb hm).impD op_imp

/-! ### tests -/
def dT (φ : Den) : DenT := fun ρ h => match φ ρ h with | some (.bl b, h') => some (b, h') | _ => none
def dNotT (φ : DenT) : DenT := fun ρ h => (φ ρ h).bind fun p => some (!p.1, p.2)
def dAndT (φ ψ : DenT) : DenT := fun ρ h => (φ ρ h).bind fun p => if p.1 = true then ψ ρ p.2 else some (false, p.2)
def dOrT (φ ψ : DenT) : DenT := fun ρ h => (φ ρ h).bind fun p => if p.1 = true then some (true, p.2) else ψ ρ p.2
theorem dT_imp : ∀ σ H Q, tEvT K (dT φ) σ H Q → tEv K φ σ H (fun x H1 => ∃ c, x = .bl c ∧ Q c H1) := fun σ H Q hh => by
  obtain ⟨ρ, h, W, b, h', A, e, P⟩ := hh
  unfold dT at e
  split at e
  · rename_i b' h'' q
    cases e
    exact ⟨ρ, h, W, _, _, A, q, fun v H' W' l S r => ⟨_, by unfold Rel at r; exact r, P H' W' l S⟩⟩
  · cases e
theorem t_val (h : PE X e (tEv X.K φ)) (he : ∀ whole, isTrue e X.env whole = (do let v ← whole; standAt e.pos; holding [v] (truthy v)) := by intro _; rfl) : PT X e (tEvT X.K (dT φ)) := (pt_val h he).impD dT_imp
theorem t_cmp {op : CmpOp} {g : D → D → Sto → Option (D × Sto)} (ho : OpR X (compareOp op) (rD X.K g)) (ha : PE X a (tEv X.K φ)) (hb : PE X b (tEv X.K ψ)) (hm : behindInMarks op b = false := by rfl) : PT X (.Compare a [op] [b] pos) (tEvT X.K (dT (dOp g φ ψ))) :=
  (pt_cmpR ho ha hb hm).impD fun σ H Q h => op_imp σ H _ (dT_imp σ H Q h)
variable {α β : DenT}
theorem t_not (ha : PT X a (tEvT X.K α)) : PT X (.UnaryOp .Not a pos) (tEvT X.K (dNotT α)) := (pt_not ha).impD fun σ H Q hh => by
  obtain ⟨ρ, h, W, b, h', A, e, P⟩ := hh
  unfold dNotT at e
  obtain ⟨⟨d1, h1⟩, e1, e⟩ := Option.bind_eq_some_iff.mp e
  cases e
  exact ⟨ρ, h, W, d1, h1, A, e1, P⟩
variable {rest : List Expr}
theorem w_and1 (ha : PT X a (tEvT X.K α)) : PW X (.BoolOp .And [a] pos) (tEvT X.K α) := pw_and1 ha
theorem w_or1 (ha : PT X a (tEvT X.K α)) : PW X (.BoolOp .Or [a] pos) (tEvT X.K α) := pw_or1 ha
theorem w_and (ha : PT X a (tEvT X.K α)) (hb : PW X (.BoolOp .And (b :: rest) pos) (tEvT X.K β)) : PW X (.BoolOp .And (a :: b :: rest) pos) (tEvT X.K (dAndT α β)) := (pw_and ha hb).impD fun σ H Q hh => by
  obtain ⟨ρ, h, W, d, h', A, e, P⟩ := hh
  unfold dAndT at e
  obtain ⟨⟨d1, h1⟩, e1, e⟩ := Option.bind_eq_some_iff.mp e
  refine ⟨ρ, h, W, d1, h1, A, e1, fun H1 W1 l1 S1 => ?_⟩
  cases d1 with
  | true =>
    rw [if_pos rfl] at e ⊢
    exact ⟨ρ, h1, W1, d, h', A.step l1 S1, e, fun H2 W2 l2 S2 => P H2 W2 (l1.trans l2) S2⟩
  | false =>
    rw [if_neg Bool.false_ne_true] at e ⊢
    cases e
    exact P H1 W1 l1 S1
theorem w_or (ha : PT X a (tEvT X.K α)) (hb : PW X (.BoolOp .Or (b :: rest) pos) (tEvT X.K β)) : PW X (.BoolOp .Or (a :: b :: rest) pos) (tEvT X.K (dOrT α β)) := (pw_or ha hb).impD fun σ H Q hh => by
  obtain ⟨ρ, h, W, d, h', A, e, P⟩ := hh
  unfold dOrT at e
  obtain ⟨⟨d1, h1⟩, e1, e⟩ := Option.bind_eq_some_iff.mp e
  refine ⟨ρ, h, W, d1, h1, A, e1, fun H1 W1 l1 S1 => ?_⟩
  cases d1 with
  | false =>
    rw [if_neg Bool.false_ne_true] at e ⊢
    exact ⟨ρ, h1, W1, d, h', A.step l1 S1, e, fun H2 W2 l2 S2 => P H2 W2 (l1.trans l2) S2⟩
  | true =>
    rw [if_pos rfl] at e ⊢
    cases e
    exact P H1 W1 l1 S1
theorem t_w (h : PW X e (tEvT X.K α)) : PT X e (tEvT X.K α) := h.pt

/-! ### and, or, not, if as values -/
def dAnd (φ ψ : Den) : Den := fun ρ h => (φ ρ h).bind fun p => match p.1 with | .bl b => if b = true then ψ ρ p.2 else some (.bl false, p.2) | _ => none
def dOr (φ ψ : Den) : Den := fun ρ h => (φ ρ h).bind fun p => match p.1 with | .bl b => if b = true then some (.bl true, p.2) else ψ ρ p.2 | _ => none
def dNot (φ : Den) : Den := fun ρ h => (φ ρ h).bind fun p => match p.1 with | .bl b => some (.bl (!b), p.2) | _ => none
def dIf (α : DenT) (φ ψ : Den) : Den := fun ρ h => (α ρ h).bind fun p => if p.1 = true then φ ρ p.2 else ψ ρ p.2
theorem v_one {op : BoolOp} (h : PE X a (tEv X.K φ)) : PE X (.BoolOp op [a] pos) (tEv X.K φ) := pe_one h
theorem v_and (ha : PE X a (tEv X.K φ)) (hb : PE X (.BoolOp .And (b :: rest) pos) (tEv X.K ψ)) : PE X (.BoolOp .And (a :: b :: rest) pos) (tEv X.K (dAnd φ ψ)) := (pe_and ha hb).impD fun σ H Q hh => by
  obtain ⟨ρ, h, W, d, h', A, e, P⟩ := hh
  unfold dAnd at e
  obtain ⟨⟨d1, h1⟩, e1, e⟩ := Option.bind_eq_some_iff.mp e
  refine ⟨ρ, h, W, d1, h1, A, e1, fun v H1 W1 l1 S1 r1 => ?_⟩
  cases d1 with
  | bl k =>
    refine ⟨k, by unfold Rel at r1; exact r1, ?_⟩
    replace e : (if k = true then ψ ρ h1 else some (.bl false, h1)) = some (d, h') := e
    cases k with
    | true =>
      rw [if_pos rfl] at e ⊢
      exact ⟨ρ, h1, W1, d, h', A.step l1 S1, e, P.of l1⟩
    | false =>
      rw [if_neg Bool.false_ne_true] at e ⊢
      cases e
      exact P _ H1 W1 l1 S1 (by unfold Rel; rfl)
  | _ => cases e
theorem v_or (ha : PE X a (tEv X.K φ)) (hb : PE X (.BoolOp .Or (b :: rest) pos) (tEv X.K ψ)) : PE X (.BoolOp .Or (a :: b :: rest) pos) (tEv X.K (dOr φ ψ)) := (pe_or ha hb).impD fun σ H Q hh => by
  obtain ⟨ρ, h, W, d, h', A, e, P⟩ := hh
  unfold dOr at e
  obtain ⟨⟨d1, h1⟩, e1, e⟩ := Option.bind_eq_some_iff.mp e
  refine ⟨ρ, h, W, d1, h1, A, e1, fun v H1 W1 l1 S1 r1 => ?_⟩
  cases d1 with
  | bl k =>
    refine ⟨k, by unfold Rel at r1; exact r1, ?_⟩
    replace e : (if k = true then some (.bl true, h1) else ψ ρ h1) = some (d, h') := e
    cases k with
    | false =>
      rw [if_neg Bool.false_ne_true] at e ⊢
      exact ⟨ρ, h1, W1, d, h', A.step l1 S1, e, P.of l1⟩
    | true =>
      rw [if_pos rfl] at e ⊢
      cases e
      exact P _ H1 W1 l1 S1 (by unfold Rel; rfl)
  | _ => cases e
theorem v_not (ha : PE X a (tEv X.K φ)) : PE X (.UnaryOp .Not a pos) (tEv X.K (dNot φ)) := (pe_not ha).impD fun σ H Q hh => by
  obtain ⟨ρ, h, W, d, h', A, e, P⟩ := hh
  unfold dNot at e
  obtain ⟨⟨d1, h1⟩, e1, e⟩ := Option.bind_eq_some_iff.mp e
  refine ⟨ρ, h, W, d1, h1, A, e1, fun v H1 W1 l1 S1 r1 => ?_⟩
  cases d1 with
  | bl k =>
    cases e
    exact ⟨k, by unfold Rel at r1; exact r1, P _ H1 W1 l1 S1 (by unfold Rel; rfl)⟩
  | _ => cases e
theorem v_if (hc : PT X c (tEvT X.K α)) (ha : PE X a (tEv X.K φ)) (hb : PE X b (tEv X.K ψ)) : PE X (.IfExp c a b pos) (tEv X.K (dIf α φ ψ)) := (pe_ifExp hc ha hb).impD fun σ H Q hh => by
  obtain ⟨ρ, h, W, d, h', A, e, P⟩ := hh
  unfold dIf at e
  obtain ⟨⟨d1, h1⟩, e1, e⟩ := Option.bind_eq_some_iff.mp e
  refine ⟨ρ, h, W, d1, h1, A, e1, fun H1 W1 l1 S1 => ?_⟩
  cases d1 with
  | true =>
    rw [if_pos rfl] at e ⊢
    exact ⟨ρ, h1, W1, d, h', A.step l1 S1, e, P.of l1⟩
  | false =>
    rw [if_neg Bool.false_ne_true] at e ⊢
    exact ⟨ρ, h1, W1, d, h', A.step l1 S1, e, P.of l1⟩

/-! ### a op1 b op2 c -/
def dChain (g g' : D → D → Sto → Option (D × Sto)) (a b c : Den) : Den := fun ρ h => (a ρ h).bind fun p => (b ρ p.2).bind fun q => (g p.1 q.1 q.2).bind fun r =>
  match r.1 with | .bl k => if k = true then (c ρ r.2).bind fun s => g' q.1 s.1 s.2 else some (.bl false, r.2) | _ => none
theorem chain_imp {g g' : D → D → Sto → Option (D × Sto)} : ∀ σ H Q, tEv K (dChain g g' φ ψ χ) σ H Q → tChain (rD K g) (rD K g') (tEv K φ) (tEv K ψ) (tEv K χ) σ H Q := fun σ H Q hh => by
  obtain ⟨ρ, h, W, d, h', A, e, P⟩ := hh
  unfold dChain at e
  obtain ⟨⟨d1, h1⟩, e1, e⟩ := Option.bind_eq_some_iff.mp e
  obtain ⟨⟨d2, h2⟩, e2, e⟩ := Option.bind_eq_some_iff.mp e
  obtain ⟨⟨d3, h3⟩, e3, e⟩ := Option.bind_eq_some_iff.mp e
  refine ⟨ρ, h, W, d1, h1, A, e1, fun v H1 W1 l1 S1 r1 => ⟨ρ, h1, W1, d2, h2, A.step l1 S1, e2, fun u H2 W2 l2 S2 r2 => ⟨W2, h2, d1, d2, d3, h3, S2, Rel.mono l2 _ _ r1, r2, e3, fun w H3 W3 l3 S3 r3 => ?_⟩⟩⟩
  have l := l1.trans (l2.trans l3)
  cases d3 with
  | bl k =>
    refine ⟨k, by unfold Rel at r3; exact r3, ?_⟩
    replace e : (if k = true then (χ ρ h3).bind fun s => g' d2 s.1 s.2 else some (.bl false, h3)) = some (d, h') := e
    cases k with
    | true =>
      rw [if_pos rfl] at e ⊢
      obtain ⟨⟨d4, h4⟩, e4, e⟩ := Option.bind_eq_some_iff.mp e
      exact ⟨ρ, h3, W3, d4, h4, A.step l S3, e4, fun w' H4 W4 l4 S4 r4 => ⟨W4, h4, d2, d4, d, h', S4, Rel.mono (l3.trans l4) _ _ r2, r4, e, P.of (l.trans l4)⟩⟩
    | false =>
      rw [if_neg Bool.false_ne_true] at e ⊢
      cases e
      exact P _ H3 W3 l S3 (by unfold Rel; rfl)
  | _ => cases e
theorem v_chain {op op' : CmpOp} {g g' : D → D → Sto → Option (D × Sto)} (ho : OpR X (compareOp op) (rD X.K g)) (ho' : OpR X (compareOp op') (rD X.K g')) (ha : PE X a (tEv X.K φ)) (hb : PE X b (tEv X.K ψ)) (hc : PE X c (tEv X.K χ))
    (hm : lastMarks [op, op'] [b, c] = false := by with_unfolding_all rfl) : PE X (.Compare a [op, op'] [b, c] pos) (tEv X.K (dChain g g' φ ψ χ)) := (pe_chain ho ho' ha hb hc hm).impD chain_imp
theorem t_chain {op op' : CmpOp} {g g' : D → D → Sto → Option (D × Sto)} (ho : OpR X (compareOp op) (rD X.K g)) (ho' : OpR X (compareOp op') (rD X.K g')) (ha : PE X a (tEv X.K φ)) (hb : PE X b (tEv X.K ψ)) (hc : PE X c (tEv X.K χ))
    (hm : lastMarks [op, op'] [b, c] = false := by with_unfolding_all rfl) : PT X (.Compare a [op, op'] [b, c] pos) (tEvT X.K (dT (dChain g g' φ ψ χ))) := (pt_chain ho ho' ha hb hc hm).impD fun σ H Q h => chain_imp σ H _ (dT_imp σ H Q h)

/-! ### argument lists, displays -/
def lNil : DenL := fun _ h => some ([], h)
def lCons (φ : Den) (l : DenL) : DenL := fun ρ h => (φ ρ h).bind fun p => (l ρ p.2).bind fun q => some (p.1 :: q.1, q.2)
/-- a list's or a tuple's items -/
def itemsOf (h : Sto) : D → Option (List D)
  | .tup ds => some ds
  | .lst ds => some ds
  | .rol ds => some ds
  | .ref n => match h[n]? with | some (.lst ds) => some ds | _ => none
  | _ => none
def lStar (φ : Den) (l : DenL) : DenL := fun ρ h => (φ ρ h).bind fun p => (itemsOf p.2 p.1).bind fun ds => (l ρ p.2).bind fun q => some (ds ++ q.1, q.2)
theorem items_seq {K : PySem.W.Frag} {W : Wd} {h : Sto} {H : Hp} {d : D} {v : V} {ds : List D} (S : SI K H W h) (r : Rel K W d v) (e : itemsOf h d = some ds) : ∃ a vs, v = .ref a ∧ (SqL K H a vs ∨ SqT K H a vs) ∧ Rels K W ds vs := by
  cases d with
  | tup xs =>
    cases e
    unfold Rel at r
    obtain ⟨a, vs, e1, s, q⟩ := r
    exact ⟨a, vs, e1, .inr (Same.seqT S.sub s), q⟩
  | lst xs =>
    cases e
    unfold Rel at r
    obtain ⟨a, vs, e1, s, q⟩ := r
    exact ⟨a, vs, e1, .inl (SqL.of (S.sub _ _ s)), q⟩
  | rol xs =>
    cases e
    unfold Rel at r
    obtain ⟨a, vs, e1, s, q⟩ := r
    exact ⟨a, vs, e1, .inl (S.sub.seq s), q⟩
  | ref n =>
    replace e : (match h[n]? with | some (MO.lst ds) => some ds | _ => none) = some ds := e
    split at e
    · rename_i ds' q
      cases e
      unfold Rel at r
      obtain ⟨a, e1, e2⟩ := r
      obtain ⟨b, vs, f1, f2, f3⟩ := S.obj n _ q
      rw [e1] at f1; cases f1
      exact ⟨a, vs, e2, .inl (SqL.of f2), f3⟩
    · cases e
  | _ => cases e
variable {l : DenL} {es : List Expr}
theorem a_nil : PA X [] (tEvL X.K lNil) := pa_nil.impD fun σ H Q hh => by
  obtain ⟨ρ, h, W, d, h', A, e, P⟩ := hh
  cases e
  exact P [] H W (.refl _) A.s .nil
theorem lcons_imp {t : TA} {Q : List V → Hp → Prop} {σ : L2.St} {H : Hp} : tEvL K (lCons φ l) σ H Q → tEv K φ σ H fun x H1 => tEvL K l σ H1 fun xs H2 => Q (x :: xs) H2 := fun hh => by
  obtain ⟨ρ, h, W, d, h', A, e, P⟩ := hh
  unfold lCons at e
  obtain ⟨⟨d1, h1⟩, e1, e⟩ := Option.bind_eq_some_iff.mp e
  obtain ⟨⟨d2, h2⟩, e2, e⟩ := Option.bind_eq_some_iff.mp e
  cases e
  exact ⟨ρ, h, W, d1, h1, A, e1, fun v H1 W1 l1 S1 r1 => ⟨ρ, h1, W1, d2, h2, A.step l1 S1, e2, fun vs H2 W2 l2 S2 r2 => P _ H2 W2 (l1.trans l2) S2 (.cons (Rel.mono l2 _ _ r1) r2)⟩⟩
theorem a_cons (ha : PE X e (tEv X.K φ)) (hr : PA X es (tEvL X.K l)) (hs : starEach (e :: es) X.env = (false, eval e X.env) :: starEach es X.env := by rfl) : PA X (e :: es) (tEvL X.K (lCons φ l)) := (pa_cons ha hr hs).impD fun σ H Q hh => lcons_imp (t := tNil) hh
theorem a_star {p : Pos} (ha : PE X e (tEv X.K φ)) (hr : PA X es (tEvL X.K l)) (hs : starEach (.Starred e p :: es) X.env = (true, eval e X.env) :: starEach es X.env := by rfl) : PA X (.Starred e p :: es) (tEvL X.K (lStar φ l)) := (StX.pa_star ha hr hs).impD fun σ H Q hh => by
  obtain ⟨ρ, h, W, d, h', A, e, P⟩ := hh
  unfold lStar at e
  obtain ⟨⟨d1, h1⟩, e1, e⟩ := Option.bind_eq_some_iff.mp e
  obtain ⟨ds, e3, e⟩ := Option.bind_eq_some_iff.mp e
  obtain ⟨⟨d2, h2⟩, e2, e⟩ := Option.bind_eq_some_iff.mp e
  cases e
  refine ⟨ρ, h, W, d1, h1, A, e1, fun v H1 W1 l1 S1 r1 => ?_⟩
  obtain ⟨a, vs, rfl, s, q⟩ := items_seq S1 r1 e3
  exact ⟨a, vs, rfl, s.symm, ρ, h1, W1, d2, h2, A.step l1 S1, e2, fun us H2 W2 l2 S2 r2 => P _ H2 W2 (l1.trans l2) S2 ((Rels.mono l2 _ _ q).append r2)⟩

def dTup (l : DenL) : Den := fun ρ h => (l ρ h).bind fun p => if p.1.length ≤ sizeLine then some (.tup p.1, p.2) else none
def dLst (l : DenL) : Den := fun ρ h => (l ρ h).bind fun p => if p.1.length ≤ sizeLine then some (.lst p.1, p.2) else none
/-- a list display that is to be changed -/
def dMut (l : DenL) : Den := fun ρ h => (l ρ h).bind fun p => if p.1.length ≤ sizeLine then some (.ref p.2.length, p.2 ++ [.lst p.1]) else none
theorem Post.tup {W : Wd} {h : Sto} {H : Hp} {ds : List D} {vs : List V} {Q : VK} (S : SI K H W h) (r : Rels K W ds vs) (P : Post K W (.tup ds) h Q) : ∀ p, H p = none → Q (.ref p) (upd H p (.tup vs)) := fun p hp => by
  obtain ⟨S', le⟩ := S.frz (o := .tup vs) hp
  refine P _ _ _ le S' ?_
  unfold Rel
  exact ⟨p, vs, rfl, SqT.of upd_same, Rels.mono le _ _ r⟩
theorem Post.lst {W : Wd} {h : Sto} {H : Hp} {ds : List D} {vs : List V} {Q : VK} (S : SI K H W h) (r : Rels K W ds vs) (P : Post K W (.lst ds) h Q) : ∀ p, H p = none → Q (.ref p) (upd H p (.lst vs)) := fun p hp => by
  obtain ⟨S', le⟩ := S.frz (o := .lst vs) hp
  refine P _ _ _ le S' ?_
  unfold Rel
  exact ⟨p, vs, rfl, upd_same, Rels.mono le _ _ r⟩
theorem Post.mut {W : Wd} {h : Sto} {H : Hp} {ds : List D} {vs : List V} {Q : VK} (S : SI K H W h) (r : Rels K W ds vs) (P : Post K W (.ref h.length) (h ++ [.lst ds]) Q) : ∀ p, H p = none → Q (.ref p) (upd H p (.lst vs)) := fun p hp => by
  obtain ⟨S', le⟩ := S.new hp r
  refine P _ _ _ le S' ?_
  unfold Rel
  refine ⟨p, ?_, rfl⟩
  show (W.ms ++ [p])[h.length]? = some p
  rw [← S.len, List.getElem?_append_right (Nat.le_refl _)]; simp
theorem v_tup {x1 : Nat} (hl : PA X es (tEvL X.K l)) : PE X (.Tuple es x1 pos) (tEv X.K (dTup l)) := (pe_tup hl).impD fun σ H Q hh => by
  obtain ⟨ρ, h, W, d, h', A, e, P⟩ := hh
  unfold dTup at e
  obtain ⟨⟨d1, h1⟩, e1, e⟩ := Option.bind_eq_some_iff.mp e
  replace e : (if d1.length ≤ sizeLine then some (D.tup d1, h1) else none) = some (d, h') := e
  split at e
  · rename_i hz
    cases e
    exact ⟨ρ, h, W, d1, _, A, e1, fun vs H1 W1 l1 S1 r1 => ⟨by rw [r1.length]; exact hz, Post.tup S1 r1 (P.of l1)⟩⟩
  · cases e
theorem v_lst (hl : PA X es (tEvL X.K l)) : PE X (.List es pos) (tEv X.K (dLst l)) := (pe_lst hl).impD fun σ H Q hh => by
  obtain ⟨ρ, h, W, d, h', A, e, P⟩ := hh
  unfold dLst at e
  obtain ⟨⟨d1, h1⟩, e1, e⟩ := Option.bind_eq_some_iff.mp e
  replace e : (if d1.length ≤ sizeLine then some (D.lst d1, h1) else none) = some (d, h') := e
  split at e
  · rename_i hz
    cases e
    exact ⟨ρ, h, W, d1, _, A, e1, fun vs H1 W1 l1 S1 r1 => ⟨by rw [r1.length]; exact hz, Post.lst S1 r1 (P.of l1)⟩⟩
  · cases e
theorem v_mut (hl : PA X es (tEvL X.K l)) : PE X (.List es pos) (tEv X.K (dMut l)) := (pe_lst hl).impD fun σ H Q hh => by
  obtain ⟨ρ, h, W, d, h', A, e, P⟩ := hh
  unfold dMut at e
  obtain ⟨⟨d1, h1⟩, e1, e⟩ := Option.bind_eq_some_iff.mp e
  replace e : (if d1.length ≤ sizeLine then some (D.ref h1.length, h1 ++ [.lst d1]) else none) = some (d, h') := e
  split at e
  · rename_i hz
    cases e
    exact ⟨ρ, h, W, d1, h1, A, e1, fun vs H1 W1 l1 S1 r1 => ⟨by rw [r1.length]; exact hz, Post.mut S1 r1 (P.of l1)⟩⟩
  · cases e

/-! ### calls -/
def dCall (g : Fun1) (l : DenL) : Den := fun ρ h => (l ρ h).bind fun p => g p.1 p.2
def rL (K : PySem.W.Frag) (g : Fun1) : List V → Hp → VK → Prop := fun vs H Q => ∃ W h ds d h', SI K H W h ∧ Rels K W ds vs ∧ g ds h = some (d, h') ∧ Post K W d h' Q
theorem call_imp {g : Fun1} : ∀ σ H Q, tEv K (dCall g l) σ H Q → tCB (rL K g) (tEvL K l) σ H Q := fun σ H Q hh => by
  obtain ⟨ρ, h, W, d, h', A, e, P⟩ := hh
  unfold dCall at e
  obtain ⟨⟨d1, h1⟩, e1, e⟩ := Option.bind_eq_some_iff.mp e
  exact ⟨ρ, h, W, d1, h1, A, e1, fun vs H1 W1 l1 S1 r1 => ⟨W1, h1, d1, d, h', S1, r1, e, P.of l1⟩⟩
theorem v_callB {id : String} {x : Str} {p : Pos} {g : Fun1} (hc : CallR X (.builtin id) (rL X.K g)) (hm : X.mg x = none) (hv : bootBuiltins x = some (.builtin id)) (ha : PA X (e :: es) (tEvL X.K l)) (hg : Gl X x := by rfl) (hn : x ≠ "__name__" := by decide) (hdb : (x == ("__debug__" : Str)) = false := by decide)
    (he : starEach (e :: es) X.env = (false, eval e X.env) :: starEach es X.env := by rfl) (hpl : (backTo pos (starEach es X.env)).any (·.1) = false := by rfl) : PE X (.Call (.Name x p) (e :: es) [] pos) (tEv X.K (dCall g l)) :=
  (pe_callB hc hg hm hv ha hn hdb he hpl).impD call_imp
theorem v_callT {T : String} {x : Str} {p : Pos} {g : Fun1} (hc : CallR X (.type T) (rL X.K g)) (hm : X.mg x = none) (hv : bootBuiltins x = some (.type T)) (ha : PA X (e :: es) (tEvL X.K l)) (hg : Gl X x := by rfl) (hn : x ≠ "__name__" := by decide) (hdb : (x == ("__debug__" : Str)) = false := by decide)
    (he : starEach (e :: es) X.env = (false, eval e X.env) :: starEach es X.env := by rfl) (hpl : (backTo pos (starEach es X.env)).any (·.1) = false := by rfl) : PE X (.Call (.Name x p) (e :: es) [] pos) (tEv X.K (dCall g l)) :=
  (pe_callTy hc hg hm hv ha hn hdb he hpl).impD call_imp
/-- the def named x stands there, and answers as g does, with room for k calls, where no repr is under way -/
structure Has (P : Program) (w : World) (K : PySem.W.Frag) (mg : Str → Option Value) (base : Heap) (k : Nat) (x : Str) (n : Nat) (g : Fun1) : Prop where
  ex : ∃ (f : Addr) (fd : FuncData) (ps : List Str), mg x = some (.ref f) ∧ PySem.W.keepIn K (.ref f) = true ∧ Binds K fd ps [] ∧ ps.length = n ∧
    ∀ (A : Around) (outer : List PySem.Env) (s : Shared) (H : Hp) (args : Args) (us : List Value) (vs : List V) (Q : VK), Room k A → A.guards = some [] → Env0 P w K mg base A outer s H → BindsTo s fd args (ps.zip us) → Vals vs us → vs.length = n → rL K g vs H Q →
      codeAny (model P w) A (.call (.ref f) args) (CR CX0 outer P w H s Q E0) s
theorem v_call {x : Str} {p : Pos} {k n : Nat} {g : Fun1} (G : Has X.prog X.w X.K X.mg X.base k x n g) (gd : X.A.guards = some []) (hr : Room k X.A) (ha : PA X (e :: es) (tEvL X.K l)) (hn : (e :: es).length = n := by rfl) (hl : ∀ ρ h ds h', l ρ h = some (ds, h') → ds.length = n) (hg : Gl X x := by rfl)
    (hdb : (x == ("__debug__" : Str)) = false := by decide) (he : starEach (e :: es) X.env = (false, eval e X.env) :: starEach es X.env := by rfl) (hpl : (backTo pos (starEach es X.env)).any (·.1) = false := by rfl) :
    PE X (.Call (.Name x p) (e :: es) [] pos) (tEv X.K (dCall g l)) := by
  obtain ⟨f, fd, ps, hm, hk, hb, hps, F⟩ := G.ex
  refine ⟨fun pins s σ H Q I hh => ?_⟩
  refine wpAny_Call_Name_kw (ld_glob I hg hm ?_ hdb)
  obtain ⟨ρ, h, W, d, h', A, e, P⟩ := hh
  unfold dCall at e
  obtain ⟨⟨d1, h1⟩, e1, e⟩ := Option.bind_eq_some_iff.mp e
  have step : tEvL X.K l σ H (fun vs H1 => vs.length = n ∧ rL X.K g vs H1 Q) := ⟨ρ, h, W, d1, h1, A, e1, fun vs H1 W1 l1 S1 r1 => ⟨by rw [r1.length]; exact hl _ _ _ _ e1, W1, h1, d1, d, h', S1, r1, e, P.of l1⟩⟩
  refine PySem.W.callWith_K (h₀ := X.base) I.ok.mod.kin hk (thn (ha.run pos pins s σ H _ I step) fun us s1 ⟨vs, H1, I1, r, q⟩ => ⟨I1.kIn, ?_⟩) he hpl
  have lus : (us ++ []).length = ps.length := by rw [List.append_nil, ← r.length, q.1, hps]
  have bt := hb s1 us I1.kIn lus
  rw [List.append_nil] at bt
  refine wpAny_call (codeAny_mono (F X.A X.stack s1 H1 ⟨us, []⟩ us vs Q hr gd I1.env0 bt r q.1 q.2) fun r s' hq => ?_)
  cases r with
  | error e => exact hq.elim
  | ok fl =>
    cases fl with
    | ret u => exact I1.after hq
    | next => exact False.elim hq
    | brk => exact False.elim hq
    | cont => exact False.elim hq
theorem len_nil (ρ : Rho) (h : Sto) (ds : List D) (h' : Sto) (e : lNil ρ h = some (ds, h')) : ds.length = 0 := by cases e; rfl
theorem len_cons {n : Nat} (hl : ∀ ρ h ds h', l ρ h = some (ds, h') → ds.length = n) : ∀ ρ h ds h', lCons φ l ρ h = some (ds, h') → ds.length = n + 1 := fun ρ h ds h' e => by
  unfold lCons at e
  obtain ⟨⟨d1, h1⟩, e1, e⟩ := Option.bind_eq_some_iff.mp e
  obtain ⟨⟨d2, h2⟩, e2, e⟩ := Option.bind_eq_some_iff.mp e
  cases e
  simp [hl _ _ _ _ e2]

/-! ### subscripts, slices -/
theorem v_ix {g : D → D → Sto → Option (D × Sto)} (hr : IxR X (rD X.K g)) (ha : PE X a (tEv X.K φ)) (hb : PE X b (tEv X.K ψ)) (hs : PlainIx b := by exact fun _ _ => rfl) : PE X (.Subscript a b pos) (tEv X.K (dOp g φ ψ)) := (pe_ix hr ha hb hs).impD op_imp
abbrev DenO := Rho → Sto → Option (Option Int × Sto)
def oNone : DenO := fun _ h => some (none, h)
def oSome (φ : Den) : DenO := fun ρ h => match φ ρ h with | some (.int i, h') => some (some i, h') | _ => none
def tEvO (K : PySem.W.Frag) (φ : DenO) : TO := fun σ H Q => ∃ ρ h W o h', At K W ρ h σ H ∧ φ ρ h = some (o, h') ∧ ∀ H' W', W.le W' → SI K H' W' h' → Q o H'
theorem _root_.L2.PO.impD {e : Option Expr} {t t' : TO} (p : PO X e t) (i : ∀ σ H Q, t' σ H Q → t σ H Q) : PO X e t' := ⟨fun pins s σ H Q I h => p.run pins s σ H Q I (i σ H Q h)⟩
theorem o_none : PO X none (tEvO X.K oNone) := po_none.impD fun σ H Q hh => by
  obtain ⟨ρ, h, W, d, h', A, e, P⟩ := hh
  cases e
  exact P H W (.refl _) A.s
theorem o_some (he : PE X e (tEv X.K φ)) : PO X (some e) (tEvO X.K (oSome φ)) := (po_some he).impD fun σ H Q hh => by
  obtain ⟨ρ, h, W, d, h', A, e, P⟩ := hh
  unfold oSome at e
  split at e
  · rename_i i h'' q
    cases e
    exact ⟨ρ, h, W, _, _, A, q, fun v H' W' l S r => ⟨i, by unfold Rel at r; exact r, P H' W' l S⟩⟩
  · cases e
def dSl (g : D → Option Int → Option Int → Sto → Option (D × Sto)) (a : Den) (lo hi : DenO) : Den := fun ρ h => (a ρ h).bind fun p => (lo ρ p.2).bind fun q => (hi ρ q.2).bind fun r => g p.1 q.1 r.1 r.2
def rSl (K : PySem.W.Frag) (g : D → Option Int → Option Int → Sto → Option (D × Sto)) : V → Option Int → Option Int → Hp → VK → Prop := fun x lo hi H Q => ∃ W h d1 d h', SI K H W h ∧ Rel K W d1 x ∧ g d1 lo hi h = some (d, h') ∧ Post K W d h' Q
theorem v_slice {lo hi : Option Expr} {p2 : Pos} {lo' hi' : DenO} {g : D → Option Int → Option Int → Sto → Option (D × Sto)} (hr : SlR X (rSl X.K g)) (he : PE X e (tEv X.K φ)) (hl : PO X lo (tEvO X.K lo')) (hu : PO X hi (tEvO X.K hi')) :
    PE X (.Subscript e (.Slice lo hi none p2) pos) (tEv X.K (dSl g φ lo' hi')) := (pe_slice hr he hl hu).impD fun σ H Q hh => by
  obtain ⟨ρ, h, W, d, h', A, e, P⟩ := hh
  unfold dSl at e
  obtain ⟨⟨d1, h1⟩, e1, e⟩ := Option.bind_eq_some_iff.mp e
  obtain ⟨⟨d2, h2⟩, e2, e⟩ := Option.bind_eq_some_iff.mp e
  obtain ⟨⟨d3, h3⟩, e3, e⟩ := Option.bind_eq_some_iff.mp e
  exact ⟨ρ, h, W, d1, h1, A, e1, fun v H1 W1 l1 S1 r1 => ⟨ρ, h1, W1, d2, h2, A.step l1 S1, e2, fun H2 W2 l2 S2 => ⟨ρ, h2, W2, d3, h3, A.step (l1.trans l2) S2, e3, fun H3 W3 l3 S3 => ⟨W3, h3, d1, d, h', S3, Rel.mono (l2.trans l3) _ _ r1, e, P.of (l1.trans (l2.trans l3))⟩⟩⟩⟩
end
end Iv
/-! Iv3: operators, built-ins, by data. -/
namespace Iv
open PySem PySem.Spec PyProof.Rows L2

section
variable {K : PySem.W.Frag} {W : Wd} {v : V} {h h' : Sto} {H : Hp} {Q : VK} {d : D}
theorem rel_int {i : Int} : Rel K W (.int i) v ↔ v = .int i := by unfold Rel; exact Iff.rfl
theorem rel_bl {i : Bool} : Rel K W (.bl i) v ↔ v = .bl i := by unfold Rel; exact Iff.rfl
theorem rel_str {i : Str} : Rel K W (.str i) v ↔ v = .str i := by unfold Rel; exact Iff.rfl
theorem rel_non : Rel K W .non v ↔ v = .non := by unfold Rel; exact Iff.rfl
theorem rel_ty {n : String} : Rel K W (.ty n) v ↔ v = .ty n := by unfold Rel; exact Iff.rfl
theorem rel_tup {ds : List D} : Rel K W (.tup ds) v ↔ ∃ a vs, v = .ref a ∧ SqT K W.F a vs ∧ Rels K W ds vs := by unfold Rel; exact Iff.rfl
theorem rel_lst {ds : List D} : Rel K W (.lst ds) v ↔ ∃ a vs, v = .ref a ∧ W.F a = some (.lst vs) ∧ Rels K W ds vs := by unfold Rel; exact Iff.rfl
theorem rel_rol {ds : List D} : Rel K W (.rol ds) v ↔ ∃ a vs, v = .ref a ∧ SqL K W.F a vs ∧ Rels K W ds vs := by unfold Rel; exact Iff.rfl
theorem rel_ref {n : Nat} : Rel K W (.ref n) v ↔ ∃ a, W.ms[n]? = some a ∧ v = .ref a := by unfold Rel; exact Iff.rfl
theorem Post.at (P : Post K W d h Q) (S : SI K H W h) (r : Rel K W d v) : Q v H := P v H W (.refl _) S r
/-- a list of ours, changed or not -/
def mlist (h : Sto) : D → Option (List D)
  | .lst ds => some ds
  | .ref n => match h[n]? with | some (.lst ds) => some ds | _ => none
  | _ => none
theorem mlist_seq {ds : List D} (S : SI K H W h) (r : Rel K W d v) (e : mlist h d = some ds) : ∃ a vs, v = .ref a ∧ H a = some (.lst vs) ∧ Rels K W ds vs := by
  cases d with
  | lst xs =>
    cases e
    obtain ⟨a, vs, e1, s, q⟩ := rel_lst.mp r
    exact ⟨a, vs, e1, S.sub _ _ s, q⟩
  | ref n =>
    replace e : (match h[n]? with | some (MO.lst ds) => some ds | _ => none) = some ds := e
    split at e
    · rename_i ds' q
      cases e
      obtain ⟨a, e1, e2⟩ := rel_ref.mp r
      obtain ⟨b, vs, f1, f2, f3⟩ := S.obj n _ q
      rw [e1] at f1; cases f1
      exact ⟨a, vs, e2, f2, f3⟩
    · cases e
  | _ => cases e
end

/-! ### + - * // % ** -/
def addD : D → D → Sto → Option (D × Sto)
  | .int i, .int j, h => some (.int (i + j), h)
  | .str x, .str y, h => if x.length + y.length ≤ sizeLine then some (.str (x ++ y), h) else none
  | .tup a, .tup b, h => if a.length + b.length ≤ sizeLine then some (.tup (a ++ b), h) else none
  | x, y, h => match mlist h x, mlist h y with
    | some a, some b => if a.length + b.length ≤ sizeLine then some (.lst (a ++ b), h) else none
    | _, _ => none
def subD : D → D → Sto → Option (D × Sto)
  | .int i, .int j, h => some (.int (i - j), h)
  | _, _, _ => none
def mulD : D → D → Sto → Option (D × Sto)
  | .int i, .int j, h => if i.natAbs.log2 + j.natAbs.log2 < 1000000 then some (.int (i * j), h) else none
  | .tup a, .int k, h => if a ≠ [] ∧ -1000 ≤ k ∧ k ≤ 1000 ∧ a.length ≤ 1000 then some (.tup (List.replicate k.toNat a).flatten, h) else none
  | x, .int k, h => match mlist h x with
    | some a => if -(2 ^ 63) ≤ k ∧ k < 2 ^ 63 ∧ a.length * k.toNat ≤ sizeLine then some (.lst (List.replicate k.toNat a).flatten, h) else none
    | none => none
  | _, _, _ => none
def fdivD : D → D → Sto → Option (D × Sto)
  | .int i, .int j, h => if 0 < j ∧ j.natAbs.log2 < 9000 then some (.int (i / j), h) else none
  | _, _, _ => none
def modD : D → D → Sto → Option (D × Sto)
  | .int i, .int j, h => if 0 < j then some (.int (i % j), h) else none
  | _, _, _ => none
def powD : D → D → Sto → Option (D × Sto)
  | .int i, .int j, h => if 0 ≤ j ∧ j ≤ 1000000 ∧ i.natAbs < 2 ^ 64 then some (.int (i ^ j.toNat), h) else none
  | _, _, _ => none
def negD : D → Sto → Option (D × Sto)
  | .int i, h => some (.int (-i), h)
  | _, _ => none

theorem Rels.rep {K : PySem.W.Frag} {W : Wd} {ds : List D} {vs : List V} (r : Rels K W ds vs) : ∀ n : Nat, Rels K W (List.replicate n ds).flatten (List.replicate n vs).flatten
  | 0 => .nil
  | n + 1 => by
    rw [List.replicate_succ, List.replicate_succ, List.flatten_cons, List.flatten_cons]
    exact r.append (Rels.rep r n)
/-- t * 1 is t -/
theorem tuple_mul1 (l : Addr) (items : Array Value) (n : Nat) (dd : Option Addr) (sl : Array (Option Value)) (u : Tok) :
    Meets (Builtin.«tuple.__mul__» ⟨[.ref l, .int 1 u], []⟩) (fun _ R s => s.heap.get? l = some { cls := .type "tuple", dict := dd, data := .seq items n, slots := sl } ∧ R (.ok (.ret (Value.ref l))) s) :=
  .of_wp fun prog w A R s h => by
    obtain ⟨hp, g, d, tk, os⟩ := s
    obtain ⟨hl, h⟩ := h
    have f1 := AutoSeq1.idx_int
    wp_walk using wpAny_loadPart' hl
    repeat (first
      | (refine wpAny_ite_false (decide_eq_false (by decide)) ?_; wp_walk using wpAny_loadPart' hl)
      | (refine wpAny_ite_true (decide_eq_true (by simp)) ?_; wp_walk using wpAny_loadPart' hl))
    exact ⟨_, rfl, h⟩
/-- t * k with no room for one t -/
theorem tuple_mul0 (l : Addr) (items : Array Value) (n : Nat) (dd : Option Addr) (sl : Array (Option Value)) (x : Int) (u : Tok) (b0 : (decide (x < -(2 ^ 63)) || decide (x ≥ 2 ^ 63)) = false) (b1 : (items.isEmpty || x == 1) = false) (b2 : (decide (x ≤ 0) || items.isEmpty) = true) :
    Meets (Builtin.«tuple.__mul__» ⟨[.ref l, .int x u], []⟩) (fun _ R s => s.heap.get? l = some { cls := .type "tuple", dict := dd, data := .seq items n, slots := sl } ∧
      R (.ok (.ret (Value.ref s.heap.objs.size))) { s with heap := s.heap.push { cls := Value.type "tuple", data := Data.seq #[] }, toks := s.toks }) :=
  .of_wp fun prog w A R s h => by
    obtain ⟨hp, g, d, tk, os⟩ := s
    obtain ⟨hl, h⟩ := h
    have f1 := AutoSeq1.idx_int
    wp_walk using wpAny_loadPart' hl
    repeat (first
      | (refine wpAny_ite_false (decide_eq_false (by rw [b0]; exact Bool.false_ne_true)) ?_; wp_walk using wpAny_loadPart' hl)
      | (refine wpAny_ite_false (decide_eq_false (by rw [b1]; exact Bool.false_ne_true)) ?_; wp_walk using wpAny_loadPart' hl)
      | (refine wpAny_ite_true (decide_eq_true b2) ?_; wp_walk using wpAny_loadPart' hl)
      | (refine wpAny_ite_false (decide_eq_false (by decide)) ?_; wp_walk using wpAny_loadPart' hl))
    exact ⟨_, rfl, h⟩
def rRep0 (K : PySem.W.Frag) : R2 := fun x y H Q => ∃ l k xs, x = .ref l ∧ y = .int k ∧ SqT K H l xs ∧ xs ≠ [] ∧ k ≤ 0 ∧ -1000 ≤ k ∧ ∀ p, H p = none → Q (.ref p) (upd H p (.tup []))
theorem op_rep0 {X : Cx} : OpR X (binaryOp .Mult) (rRep0 X.K) := by
  intro pins s σ H x y v u Q I rx ry h
  obtain ⟨l, m, xs, rfl, rfl, hT, hne, hk, hk2, q⟩ := h
  cases rx
  obtain ⟨t, rfl⟩ := ry
  have ⟨its, r, ⟨⟨cls, dd, data, sl⟩, ho, hcl, n, hda⟩, hs⟩ := I.tuple hT
  simp only at hcl hda
  subst hcl hda
  have he : its.toArray.isEmpty = false := by
    cases its with
    | nil => exact absurd (List.eq_nil_of_length_eq_zero r.length) hne
    | cons a b => rfl
  have z1 : (decide (m < -(2 ^ 63)) || decide (m ≥ 2 ^ 63)) = false := by rw [decide_eq_false (show ¬ m < -(2 ^ 63) by omega), decide_eq_false (show ¬ m ≥ 2 ^ 63 by omega)]; rfl
  have z2 : (its.toArray.isEmpty || m == 1) = false := by rw [he, Bool.false_or]; exact beq_eq_false_iff_ne.mpr (show m ≠ 1 by omega)
  have z3 : (decide (m ≤ 0) || its.toArray.isEmpty) = true := by rw [decide_eq_true hk]; rfl
  exact wpAny_binaryOp_repeat_ref (T := "tuple") (U := "int") (by decide) ⟨_, ho, rfl⟩ (fun s' => typeIs_int s' m t) noFill_tuple_mul F.fills_int_mul F.slot_int_rmul repeat_tuple F.slot_int_index.lookup
    (call_meets F.slot_int_rmul (typeIs_int s m t) F.entry_int_rmul (F.args_int_rmul_2 _ _) (int_rmul_tuple m t l its.toArray n dd sl)
      ⟨ho, rfl, ⟨_, ho, rfl⟩, call_meets F.slot_tuple_mul ⟨_, ho, rfl⟩ F.entry_tuple_mul (F.args_tuple_mul_2 _ _) (tuple_mul0 l its.toArray n dd sl m t z1 z2 z3)
        ⟨ho, .ref s.heap.objs.size, _, I.laid (t' := s.toks) (o := .tup []) (fun b ob q => Heap.get?_push_of_some _ q) (Nat.le_refl _) ⟨Nat.zero_le _, [], .nil, IsTup.new _ _⟩, rfl, q _ (I.hok.fresh (Nat.le_refl _))⟩⟩)
def rRep1 (K : PySem.W.Frag) : R2 := fun x y H Q => ∃ l xs, x = .ref l ∧ y = .int 1 ∧ SqT K H l xs ∧ Q (.ref l) H
theorem op_rep1 {X : Cx} : OpR X (binaryOp .Mult) (rRep1 X.K) := by
  intro pins s σ H x y v u Q I rx ry h
  obtain ⟨l, xs, rfl, rfl, hT, q⟩ := h
  cases rx
  obtain ⟨t, rfl⟩ := ry
  obtain ⟨its, r, ⟨⟨cls, dd, data, sl⟩, ho, hc, n, hd⟩, hs⟩ := I.tuple hT
  simp only at hc hd
  subst hc hd
  exact wpAny_binaryOp_repeat_ref (T := "tuple") (U := "int") (by decide) ⟨_, ho, rfl⟩ (fun s' => typeIs_int s' 1 t) noFill_tuple_mul F.fills_int_mul F.slot_int_rmul repeat_tuple F.slot_int_index.lookup
    (call_meets F.slot_int_rmul (typeIs_int s 1 t) F.entry_int_rmul (F.args_int_rmul_2 _ _) (int_rmul_tuple 1 t l its.toArray n dd sl)
      ⟨ho, rfl, ⟨_, ho, rfl⟩, call_meets F.slot_tuple_mul ⟨_, ho, rfl⟩ F.entry_tuple_mul (F.args_tuple_mul_2 _ _) (tuple_mul1 l its.toArray n dd sl t) ⟨ho, .ref l, H, I, rfl, q⟩⟩)
section
variable {X : Cx}
theorem o_add : OpR X (binaryOp .Add) (rD X.K addD) := ((op_add.orD op_add_str).orD (op_catA.orD op_cat)).impD fun x y H Q hh => by
  obtain ⟨W, h, d1, d2, d, h', S, r1, r2, e, P⟩ := hh
  have gen : (match mlist h d1, mlist h d2 with
    | some a, some b => if a.length + b.length ≤ sizeLine then some (D.lst (a ++ b), h) else none
    | _, _ => none) = some (d, h') → rCat x y H Q := fun e => by
    split at e
    · rename_i a b e1 e2
      split at e
      · rename_i hz
        cases e
        obtain ⟨p, vs, rfl, f1, q1⟩ := mlist_seq S r1 e1
        obtain ⟨p2, us, rfl, f2, q2⟩ := mlist_seq S r2 e2
        exact ⟨p, p2, vs, us, rfl, rfl, f1, f2, by rw [q1.length, q2.length]; exact hz, Post.lst S (q1.append q2) P⟩
      · cases e
    · cases e
  unfold addD at e
  split at e
  · cases e
    rw [rel_int] at r1 r2
    exact .inl (.inl ⟨_, _, r1, r2, P.at S (rel_int.mpr rfl)⟩)
  · split at e
    · rename_i hz
      cases e
      rw [rel_str] at r1 r2
      exact .inl (.inr ⟨_, _, r1, r2, hz, P.at S (rel_str.mpr rfl)⟩)
    · cases e
  · split at e
    · rename_i hz
      cases e
      obtain ⟨p, vs, rfl, f1, q1⟩ := rel_tup.mp r1
      obtain ⟨p2, us, rfl, f2, q2⟩ := rel_tup.mp r2
      refine .inr (.inl ⟨p, p2, vs, us, rfl, rfl, Same.seqT S.sub f1, Same.seqT S.sub f2, by rw [q1.length, q2.length]; exact hz, fun z => ?_, fun z z2 => ?_, fun z z2 => Post.tup S (q1.append q2) P⟩)
      · refine P.at S (rel_tup.mpr ⟨p2, us, rfl, f2, ?_⟩)
        have := q1.append q2
        rw [z] at this; exact this
      · refine P.at S (rel_tup.mpr ⟨p, vs, rfl, f1, ?_⟩)
        have := q1.append q2
        rw [z2, List.append_nil] at this; exact this
    · cases e
  · exact .inr (.inr (gen e))
theorem o_sub : OpR X (binaryOp .Sub) (rD X.K subD) := op_sub.impD fun x y H Q hh => by
  obtain ⟨W, h, d1, d2, d, h', S, r1, r2, e, P⟩ := hh
  unfold subD at e
  split at e
  · cases e
    rw [rel_int] at r1 r2
    exact ⟨_, _, r1, r2, P.at S (rel_int.mpr rfl)⟩
  · cases e
theorem o_mul : OpR X (binaryOp .Mult) (rD X.K mulD) := ((op_mulW.orD op_rep).orD (op_repT.orD (op_rep1.orD op_rep0))).impD fun x y H Q hh => by
  obtain ⟨W, h, d1, d2, d, h', S, r1, r2, e, P⟩ := hh
  unfold mulD at e
  split at e
  · split at e
    · rename_i hz
      cases e
      rw [rel_int] at r1 r2
      exact .inl (.inl ⟨_, _, r1, r2, hz, P.at S (rel_int.mpr rfl)⟩)
    · cases e
  · split at e
    · rename_i ts k hz
      cases e
      obtain ⟨p, vs, rfl, f1, q1⟩ := rel_tup.mp r1
      rw [rel_int] at r2
      by_cases hk : k = 1
      · subst hk
        refine .inr (.inr (.inl ⟨p, vs, rfl, r2, Same.seqT S.sub f1, P.at S (rel_tup.mpr ⟨p, vs, rfl, f1, ?_⟩)⟩))
        have := q1.rep 1
        simpa using this
      · have hne : vs ≠ [] := fun z => by
          have l := q1.length
          rw [z] at l
          exact hz.1 (List.eq_nil_of_length_eq_zero l.symm)
        by_cases hk0 : k ≤ 0
        · have q2 := q1.rep k.toNat
          rw [show k.toNat = 0 by omega] at q2 P
          exact .inr (.inr (.inr ⟨p, k, vs, rfl, r2, Same.seqT S.sub f1, hne, hk0, hz.2.1, Post.tup S q2 P⟩))
        refine .inr (.inl ⟨p, k, vs, rfl, r2, Same.seqT S.sub f1, hne, by omega, hz.2.2.1, by rw [q1.length]; exact hz.2.2.2, Post.tup S (q1.rep _) P⟩)
    · cases e
  · split at e
    · rename_i a e1
      split at e
      · rename_i hz
        cases e
        rw [rel_int] at r2
        obtain ⟨p, vs, rfl, f1, q1⟩ := mlist_seq S r1 e1
        exact .inl (.inr ⟨p, _, vs, rfl, r2, f1, hz.1, hz.2.1, by rw [q1.length]; exact hz.2.2, Post.lst S (q1.rep _) P⟩)
      · cases e
    · cases e
  · cases e
theorem o_fdiv : OpR X (binaryOp .FloorDiv) (rD X.K fdivD) := op_fdivW.impD fun x y H Q hh => by
  obtain ⟨W, h, d1, d2, d, h', S, r1, r2, e, P⟩ := hh
  unfold fdivD at e
  split at e
  · split at e
    · rename_i hz
      cases e
      rw [rel_int] at r1 r2
      exact ⟨_, _, r1, r2, hz, P.at S (rel_int.mpr rfl)⟩
    · cases e
  · cases e
theorem o_mod : OpR X (binaryOp .Mod) (rD X.K modD) := op_mod.impD fun x y H Q hh => by
  obtain ⟨W, h, d1, d2, d, h', S, r1, r2, e, P⟩ := hh
  unfold modD at e
  split at e
  · split at e
    · rename_i hz
      cases e
      rw [rel_int] at r1 r2
      exact ⟨_, _, r1, r2, hz, P.at S (rel_int.mpr rfl)⟩
    · cases e
  · cases e
theorem o_pow : OpR X (binaryOp .Pow) (rD X.K powD) := op_pow.impD fun x y H Q hh => by
  obtain ⟨W, h, d1, d2, d, h', S, r1, r2, e, P⟩ := hh
  unfold powD at e
  split at e
  · split at e
    · rename_i hz
      cases e
      rw [rel_int] at r1 r2
      exact ⟨_, _, r1, r2, hz, P.at S (rel_int.mpr rfl)⟩
    · cases e
  · cases e
theorem v_neg {e : Expr} {φ : Den} {pos : Pos} (ha : PE X e (tEv X.K φ)) : PE X (.UnaryOp .USub e pos) (tEv X.K (dUn negD φ)) := (pe_un un_neg ha).impD (un_imp (t := tEv X.K φ) fun x H Q hh => by
  obtain ⟨W, h, d1, d, h', S, r1, e, P⟩ := hh
  unfold negD at e
  split at e
  · cases e
    rw [rel_int] at r1
    exact ⟨_, r1, P.at S (rel_int.mpr rfl)⟩
  · cases e)

/-! ### comparisons -/
def cmpI (p : Int → Int → Bool) : D → D → Sto → Option (D × Sto)
  | .int i, .int j, h => some (.bl (p i j), h)
  | _, _, _ => none
abbrev ltD := cmpI fun i j => decide (i < j)
abbrev leD := cmpI fun i j => decide (i ≤ j)
abbrev gtD := cmpI fun i j => decide (j < i)
abbrev geD := cmpI fun i j => decide (j ≤ i)
theorem cmpI_imp {K : PySem.W.Frag} {p : Int → Int → Bool} : ∀ x y H Q, rD K (cmpI p) x y H Q → rI0 (fun i j => .bl (p i j)) x y H Q := fun x y H Q hh => by
  obtain ⟨W, h, d1, d2, d, h', S, r1, r2, e, P⟩ := hh
  unfold cmpI at e
  split at e
  · cases e
    rw [rel_int] at r1 r2
    exact ⟨_, _, r1, r2, P.at S (rel_bl.mpr rfl)⟩
  · cases e
theorem o_lt : OpR X (compareOp .Lt) (rD X.K ltD) := op_lt.impD cmpI_imp
theorem o_le : OpR X (compareOp .LtE) (rD X.K leD) := op_le.impD cmpI_imp
theorem o_gt : OpR X (compareOp .Gt) (rD X.K gtD) := op_gt.impD cmpI_imp
theorem o_ge : OpR X (compareOp .GtE) (rD X.K geD) := op_ge.impD cmpI_imp
end
mutual
/-- as the layer's data -/
def toP : D → Option PyData
  | .non => some .none
  | .bl b => some (.bool b)
  | .int i => some (.int i)
  | .str x => some (.str x)
  | .tup ds => (toPs ds).map .tuple
  | .lst ds => (toPs ds).map .list
  | .rol ds => (toPs ds).map .list
  | .ref _ => none
  | .ty _ => none
def toPs : List D → Option (List PyData)
  | [] => some []
  | d :: ds => (toP d).bind fun p => (toPs ds).map (p :: ·)
end
/-- .. a mutable list of such, too -/
def toPh (h : Sto) : D → Option PyData
  | .ref n => match h[n]? with | some (.lst ds) => (toPs ds).map .list | _ => none
  | d => toP d
section
variable {K : PySem.W.Frag} {W : Wd} {H : Hp} {h : Sto}
mutual
theorem toP_dp (S : SI K H W h) : ∀ (d : D) (v : V) (p : PyData), Rel K W d v → toP d = some p → Dp K H v p
  | .non, v, p, r, e => by cases e; rw [rel_non] at r; subst r; exact .non
  | .bl b, v, p, r, e => by cases e; rw [rel_bl] at r; subst r; exact .bl b
  | .int b, v, p, r, e => by cases e; rw [rel_int] at r; subst r; exact .int b
  | .str b, v, p, r, e => by cases e; rw [rel_str] at r; subst r; exact .str b
  | .tup ds, v, p, r, e => by
    unfold toP at e
    obtain ⟨ps, e1, e2⟩ := Option.map_eq_some_iff.mp e
    subst e2
    obtain ⟨a, vs, rfl, s, q⟩ := rel_tup.mp r
    exact .tup (Same.seqT S.sub s) (toPs_dp S ds vs ps q e1)
  | .lst ds, v, p, r, e => by
    unfold toP at e
    obtain ⟨ps, e1, e2⟩ := Option.map_eq_some_iff.mp e
    subst e2
    obtain ⟨a, vs, rfl, s, q⟩ := rel_lst.mp r
    exact .lst (SqL.of (S.sub _ _ s)) (toPs_dp S ds vs ps q e1)
  | .rol ds, v, p, r, e => by
    unfold toP at e
    obtain ⟨ps, e1, e2⟩ := Option.map_eq_some_iff.mp e
    subst e2
    obtain ⟨a, vs, rfl, s, q⟩ := rel_rol.mp r
    exact .lst (S.sub.seq s) (toPs_dp S ds vs ps q e1)
  | .ref n, v, p, r, e => by cases e
  | .ty n, v, p, r, e => by cases e
theorem toPs_dp (S : SI K H W h) : ∀ (ds : List D) (vs : List V) (ps : List PyData), Rels K W ds vs → toPs ds = some ps → DpAll K H vs ps
  | [], vs, ps, r, e => by
    cases e
    unfold Rels at r
    subst r; exact .nil
  | d :: ds, vs, ps, r, e => by
    unfold toPs at e
    obtain ⟨p, e1, e2⟩ := Option.bind_eq_some_iff.mp e
    obtain ⟨qs, e3, e4⟩ := Option.map_eq_some_iff.mp e2
    subst e4
    unfold Rels at r
    obtain ⟨v, t, rfl, r1, r2⟩ := r
    exact .cons (toP_dp S d v p r1 e1) (toPs_dp S ds t qs r2 e3)
end
theorem toPh_dp (S : SI K H W h) {d : D} {v : V} {p : PyData} (r : Rel K W d v) (e : toPh h d = some p) : Dp K H v p := by
  cases d with
  | ref n =>
    replace e : (match h[n]? with | some (MO.lst ds) => (toPs ds).map PyData.list | _ => none) = some p := e
    split at e
    · rename_i ds q
      obtain ⟨ps, e1, e2⟩ := Option.map_eq_some_iff.mp e
      subst e2
      obtain ⟨a, e3, e4⟩ := rel_ref.mp r
      subst e4
      obtain ⟨b, vs, f1, f2, f3⟩ := S.obj n _ q
      rw [e3] at f1; cases f1
      exact .lst (SqL.of f2) (toPs_dp S ds vs ps f3 e1)
    · cases e
  | _ => exact toP_dp S _ _ _ r e
end
def eqB (h : Sto) (x y : D) : Option Bool := (toPh h x).bind fun p => (toPh h y).bind fun q => if p.plain = true ∧ q.plain = true ∧ p.depth ≤ 64 then some (PyData.eqv p q) else none
def eqD (x y : D) (h : Sto) : Option (D × Sto) := (eqB h x y).map fun b => (.bl b, h)
def neD (x y : D) (h : Sto) : Option (D × Sto) := (eqB h x y).map fun b => (.bl (!b), h)
theorem eqB_dp {K : PySem.W.Frag} {W : Wd} {H : Hp} {h : Sto} {x y : V} {d1 d2 : D} {b : Bool} (S : SI K H W h) (r1 : Rel K W d1 x) (r2 : Rel K W d2 y) (e : eqB h d1 d2 = some b) :
    ∃ p q, Dp K H x p ∧ Dp K H y q ∧ (p.plain = true ∧ q.plain = true ∧ p.depth ≤ 64) ∧ PyData.eqv p q = b := by
  unfold eqB at e
  obtain ⟨p, e1, e⟩ := Option.bind_eq_some_iff.mp e
  obtain ⟨q, e2, e⟩ := Option.bind_eq_some_iff.mp e
  split at e
  · rename_i z
    cases e
    exact ⟨p, q, toPh_dp S r1 e1, toPh_dp S r2 e2, z, rfl⟩
  · cases e
/-- x in c, over the layer's data -/
def inB (h : Sto) (x c : D) : Option Bool := (toPh h x).bind fun p => (toPh h c).bind fun q => match q with
  | .tuple qs => if p.plain = true ∧ PyData.plainAll qs = true ∧ p.depth ≤ 60 then some (qs.any fun y => PyData.eqv y p) else none
  | .list qs => if p.plain = true ∧ PyData.plainAll qs = true ∧ p.depth ≤ 60 then some (qs.any fun y => PyData.eqv y p) else none
  | _ => none
def inD (x c : D) (h : Sto) : Option (D × Sto) := (inB h x c).map fun b => (.bl b, h)
def notInD (x c : D) (h : Sto) : Option (D × Sto) := (inB h x c).map fun b => (.bl (!b), h)
def isNon : D → Bool
  | .non => true
  | _ => false
theorem isNon_rel {K : PySem.W.Frag} {W : Wd} {d : D} {v : V} (r : Rel K W d v) : decide (v = .non) = isNon d := by
  cases d with
  | non => rw [rel_non] at r; subst r; rfl
  | bl _ => rw [rel_bl] at r; subst r; rfl
  | int _ => rw [rel_int] at r; subst r; rfl
  | str _ => rw [rel_str] at r; subst r; rfl
  | ty _ => rw [rel_ty] at r; subst r; rfl
  | tup _ => obtain ⟨a, vs, rfl, _⟩ := rel_tup.mp r; rfl
  | lst _ => obtain ⟨a, vs, rfl, _⟩ := rel_lst.mp r; rfl
  | rol _ => obtain ⟨a, vs, rfl, _⟩ := rel_rol.mp r; rfl
  | ref _ => obtain ⟨a, _, rfl⟩ := rel_ref.mp r; rfl
def isD : D → D → Sto → Option (D × Sto)
  | .bl a, .bl b, h => some (.bl (decide (a = b)), h)
  | x, .non, h => some (.bl (isNon x), h)
  | _, _, _ => none
def isNotD : D → D → Sto → Option (D × Sto)
  | .bl a, .bl b, h => some (.bl (!decide (a = b)), h)
  | x, .non, h => some (.bl (!isNon x), h)
  | _, _, _ => none
section
variable {X : Cx}
theorem o_eq (hu : X.A.units + 64 < cLine) : OpR X (compareOp .Eq) (rD X.K eqD) := fun pins s σ H x y v u Q I rx ry hh => by
  obtain ⟨W, h, d1, d2, d, h', S, r1, r2, e, P⟩ := hh
  obtain ⟨b, e1, e2⟩ := Option.map_eq_some_iff.mp e
  cases e2
  obtain ⟨p, q, a1, a2, z, rfl⟩ := eqB_dp S r1 r2 e1
  have ⟨as, t1⟩ := Dp.reads I p x v a1 rx
  have ⟨bs, t2⟩ := Dp.reads I q y u a2 ry
  exact SeqAt.eq_plain t1 t2 z.1 z.2.1 (by have := z.2.2; omega) ⟨.bl _, H, I, rfl, P.at S (rel_bl.mpr rfl)⟩
theorem o_ne (hu : X.A.units + 64 < cLine) : OpR X (compareOp .NotEq) (rD X.K neD) := fun pins s σ H x y v u Q I rx ry hh => by
  obtain ⟨W, h, d1, d2, d, h', S, r1, r2, e, P⟩ := hh
  obtain ⟨b, e1, e2⟩ := Option.map_eq_some_iff.mp e
  cases e2
  obtain ⟨p, q, a1, a2, z, rfl⟩ := eqB_dp S r1 r2 e1
  have ⟨as, t1⟩ := Dp.reads I p x v a1 rx
  have ⟨bs, t2⟩ := Dp.reads I q y u a2 ry
  exact SeqAt.ne_plain t1 t2 z.1 z.2.1 (by have := z.2.2; omega) ⟨.bl _, H, I, rfl, P.at S (rel_bl.mpr rfl)⟩
theorem in_core {K : PySem.W.Frag} {W : Wd} {H : Hp} {h : Sto} {x y : V} {d1 d2 : D} {b : Bool} (S : SI K H W h) (r1 : Rel K W d1 x) (r2 : Rel K W d2 y) (e : inB h d1 d2 = some b) :
    ∃ p qs, Dp K H x p ∧ (Dp K H y (.tuple qs) ∨ Dp K H y (.list qs)) ∧ p.plain = true ∧ PyData.plainAll qs = true ∧ p.depth ≤ 60 ∧ b = qs.any fun y => PyData.eqv y p := by
  unfold inB at e
  obtain ⟨p, e1, e⟩ := Option.bind_eq_some_iff.mp e
  obtain ⟨q, e2, e⟩ := Option.bind_eq_some_iff.mp e
  have a1 := toPh_dp S r1 e1
  have a2 := toPh_dp S r2 e2
  split at e
  · split at e
    · rename_i z; cases e; exact ⟨p, _, a1, .inl a2, z.1, z.2.1, z.2.2, rfl⟩
    · cases e
  · split at e
    · rename_i z; cases e; exact ⟨p, _, a1, .inr a2, z.1, z.2.1, z.2.2, rfl⟩
    · cases e
  · cases e
theorem o_in (hu : X.A.units + 64 < cLine) : OpR X (compareOp .In) (rD X.K inD) := fun pins s σ H x y v u Q I rx ry hh => by
  obtain ⟨W, h, d1, d2, d, h', S, r1, r2, e, P⟩ := hh
  obtain ⟨b, e1, e2⟩ := Option.map_eq_some_iff.mp e
  cases e2
  obtain ⟨p, qs, a1, a2, z1, z2, z3, rfl⟩ := in_core S r1 r2 e1
  have ⟨as, t1⟩ := Dp.reads I p x v a1 rx
  have fin := P.at S (rel_bl.mpr rfl)
  rcases a2 with a2 | a2
  · have ⟨bs, t2⟩ := Dp.reads I _ y u a2 ry
    exact SeqAt.in_tuple_data t2 t1 z2 z1 (by omega) ⟨.bl _, H, I, rfl, fin⟩
  · have ⟨bs, t2⟩ := Dp.reads I _ y u a2 ry
    exact SeqAt.in_list_data t2 t1 z2 z1 (by omega) ⟨.bl _, H, I, rfl, fin⟩
theorem o_notIn (hu : X.A.units + 64 < cLine) : OpR X (compareOp .NotIn) (rD X.K notInD) := fun pins s σ H x y v u Q I rx ry hh => by
  obtain ⟨W, h, d1, d2, d, h', S, r1, r2, e, P⟩ := hh
  obtain ⟨b, e1, e2⟩ := Option.map_eq_some_iff.mp e
  cases e2
  obtain ⟨p, qs, a1, a2, z1, z2, z3, rfl⟩ := in_core S r1 r2 e1
  have ⟨as, t1⟩ := Dp.reads I p x v a1 rx
  have fin := P.at S (rel_bl.mpr rfl)
  rcases a2 with a2 | a2
  · have ⟨bs, t2⟩ := Dp.reads I _ y u a2 ry
    exact SeqAt.notIn_tuple_data t2 t1 z2 z1 (by omega) ⟨.bl _, H, I, rfl, fin⟩
  · have ⟨bs, t2⟩ := Dp.reads I _ y u a2 ry
    exact SeqAt.notIn_list_data t2 t1 z2 z1 (by omega) ⟨.bl _, H, I, rfl, fin⟩
theorem o_is : OpR X (compareOp .Is) (rD X.K isD) := (op_isBl.orD op_isN).impD fun x y H Q hh => by
  obtain ⟨W, h, d1, d2, d, h', S, r1, r2, e, P⟩ := hh
  unfold isD at e
  split at e
  · cases e
    rw [rel_bl] at r1 r2
    exact .inl ⟨_, _, r1, r2, P.at S (rel_bl.mpr rfl)⟩
  · cases e
    rw [rel_non] at r2
    exact .inr ⟨r2, P.at S (rel_bl.mpr (by rw [isNon_rel r1]))⟩
  · cases e
theorem o_isNot : OpR X (compareOp .IsNot) (rD X.K isNotD) := (op_notBl.orD op_notN).impD fun x y H Q hh => by
  obtain ⟨W, h, d1, d2, d, h', S, r1, r2, e, P⟩ := hh
  unfold isNotD at e
  split at e
  · cases e
    rw [rel_bl] at r1 r2
    exact .inl ⟨_, _, r1, r2, P.at S (rel_bl.mpr rfl)⟩
  · cases e
    rw [rel_non] at r2
    exact .inr ⟨r2, P.at S (rel_bl.mpr (by rw [isNon_rel r1]))⟩
  · cases e
end

/-! ### subscripts and slices -/
def ixD : D → D → Sto → Option (D × Sto)
  | x, .int i, h => (itemsOf h x).bind fun ds => (atI ds i).map fun d => (d, h)
  | _, _, _ => none
theorem Rels.atI {K : PySem.W.Frag} {W : Wd} {ds : List D} {vs : List V} {i : Int} {d : D} (r : Rels K W ds vs) (e : L2.atI ds i = some d) : ∃ v, L2.atI vs i = some v ∧ Rel K W d v := by
  unfold L2.atI at e ⊢
  rw [r.length]
  obtain ⟨j, e1, e2⟩ := Option.bind_eq_some_iff.mp e
  obtain ⟨v, e3, r3⟩ := r.get e2
  exact ⟨v, by rw [e1]; exact e3, r3⟩
def slD : D → Option Int → Option Int → Sto → Option (D × Sto)
  | .tup ds, lo, hi, h => some (.tup ((ds.drop (HT.sIx ds.length 0 lo)).take (HT.sIx ds.length ds.length hi - HT.sIx ds.length 0 lo)), h)
  | .str x, lo, hi, h => if x.length ≤ sizeLine then some (.str (cutS x lo hi), h) else none
  | x, lo, hi, h => (itemsOf h x).map fun ds => (.lst ((ds.drop (HT.sIx ds.length 0 lo)).take (HT.sIx ds.length ds.length hi - HT.sIx ds.length 0 lo)), h)
theorem Rels.cut {K : PySem.W.Frag} {W : Wd} {ds : List D} {vs : List V} (r : Rels K W ds vs) (lo hi : Option Int) : Rels K W ((ds.drop (HT.sIx ds.length 0 lo)).take (HT.sIx ds.length ds.length hi - HT.sIx ds.length 0 lo)) (cutV vs lo hi) := by
  unfold cutV
  rw [r.length]
  exact (r.drop _).take _
section
variable {X : Cx}
theorem i_ix : IxR X (rD X.K ixD) := (ix_list.or ix_tup).impD fun x y H Q hh => by
  obtain ⟨W, h, d1, d2, d, h', S, r1, r2, e, P⟩ := hh
  unfold ixD at e
  split at e
  · obtain ⟨ds, e1, e⟩ := Option.bind_eq_some_iff.mp e
    obtain ⟨d', e2, e3⟩ := Option.map_eq_some_iff.mp e
    cases e3
    rw [rel_int] at r2
    obtain ⟨a, vs, rfl, s, q⟩ := items_seq S r1 e1
    obtain ⟨v, e4, r4⟩ := q.atI e2
    rcases s with s | s
    · exact .inl ⟨a, vs, _, v, rfl, r2, s, e4, P.at S r4⟩
    · exact .inr ⟨a, vs, _, v, rfl, r2, s, e4, P.at S r4⟩
  · cases e
theorem s_sl : SlR X (rSl X.K slD) := (sl_tupA.or (sl_list.or sl_str)).impD fun x lo hi H Q hh => by
  obtain ⟨W, h, d1, d, h', S, r1, e, P⟩ := hh
  unfold slD at e
  split at e
  · rename_i ds
    cases e
    obtain ⟨a, vs, rfl, s, q⟩ := rel_tup.mp r1
    refine .inl ⟨a, vs, rfl, Same.seqT S.sub s, fun z => P.at S (rel_tup.mpr ⟨a, vs, rfl, s, ?_⟩), fun _ => Post.tup S (q.cut lo hi) P⟩
    rw [← q.length, z.1, z.2]
    simp only [List.drop_zero, Nat.sub_zero]
    rw [q.length, List.take_length]
    exact q
  · split at e
    · rename_i hz
      cases e
      rw [rel_str] at r1
      exact .inr (.inr ⟨_, r1, hz, P.at S (rel_str.mpr rfl)⟩)
    · cases e
  · rename_i n1 n2
    obtain ⟨ds, e1, e2⟩ := Option.map_eq_some_iff.mp e
    cases e2
    cases d1 with
    | tup xs => exact absurd rfl (n1 xs)
    | lst xs =>
      cases e1
      obtain ⟨a, vs, rfl, s, q⟩ := rel_lst.mp r1
      exact .inr (.inl ⟨a, vs, rfl, SqL.of (S.sub _ _ s), Post.lst S (q.cut lo hi) P⟩)
    | rol xs =>
      cases e1
      obtain ⟨a, vs, rfl, s, q⟩ := rel_rol.mp r1
      exact .inr (.inl ⟨a, vs, rfl, S.sub.seq s, Post.lst S (q.cut lo hi) P⟩)
    | ref n =>
      obtain ⟨a, vs, rfl, s, q⟩ := mlist_seq (d := .ref n) S r1 e1
      exact .inr (.inl ⟨a, vs, rfl, SqL.of s, Post.lst S (q.cut lo hi) P⟩)
    | _ => cases e1
end
end Iv
/-! Iv4: built-in functions and methods, by data. -/
namespace Iv
open PySem PySem.Spec PyProof.Rows L2

theorem rels1 {K : PySem.W.Frag} {W : Wd} {d : D} {vs : List V} (r : Rels K W [d] vs) : ∃ v, vs = [v] ∧ Rel K W d v := by
  unfold Rels at r
  obtain ⟨v, t, rfl, r1, r2⟩ := r
  unfold Rels at r2
  subst r2
  exact ⟨v, rfl, r1⟩
theorem rels2 {K : PySem.W.Frag} {W : Wd} {d e : D} {vs : List V} (r : Rels K W [d, e] vs) : ∃ v u, vs = [v, u] ∧ Rel K W d v ∧ Rel K W e u := by
  unfold Rels at r
  obtain ⟨v, t, rfl, r1, r2⟩ := r
  obtain ⟨u, rfl, r3⟩ := rels1 r2
  exact ⟨v, u, rfl, r1, r3⟩
/-- a list (no tuple), read -/
def lseq (h : Sto) : D → Option (List D)
  | .lst ds => some ds
  | .rol ds => some ds
  | .ref n => match h[n]? with | some (.lst ds) => some ds | _ => none
  | _ => none
theorem lseq_seq {K : PySem.W.Frag} {W : Wd} {h : Sto} {H : Hp} {d : D} {v : V} {ds : List D} (S : SI K H W h) (r : Rel K W d v) (e : lseq h d = some ds) : ∃ a vs, v = .ref a ∧ SqL K H a vs ∧ Rels K W ds vs := by
  cases d with
  | lst xs =>
    cases e
    obtain ⟨a, vs, e1, s, q⟩ := rel_lst.mp r
    exact ⟨a, vs, e1, SqL.of (S.sub _ _ s), q⟩
  | rol xs =>
    cases e
    obtain ⟨a, vs, e1, s, q⟩ := rel_rol.mp r
    exact ⟨a, vs, e1, S.sub.seq s, q⟩
  | ref n =>
    obtain ⟨a, vs, e1, s, q⟩ := mlist_seq (d := .ref n) S r e
    exact ⟨a, vs, e1, SqL.of s, q⟩
  | _ => cases e
def intsOf : List D → Option (List Int)
  | [] => some []
  | .int i :: r => (intsOf r).map (i :: ·)
  | _ => none
def boolsOf : List D → Option (List Bool)
  | [] => some []
  | .bl i :: r => (boolsOf r).map (i :: ·)
  | _ => none
theorem intsOf_eq : ∀ {ds : List D} {is : List Int}, intsOf ds = some is → ds = is.map D.int
  | [], is, e => by cases e; rfl
  | .int i :: r, is, e => by
    unfold intsOf at e
    obtain ⟨js, e1, e2⟩ := Option.map_eq_some_iff.mp e
    subst e2
    rw [intsOf_eq e1]; rfl
  | .non :: r, is, e => by cases e
  | .bl _ :: r, is, e => by cases e
  | .str _ :: r, is, e => by cases e
  | .tup _ :: r, is, e => by cases e
  | .lst _ :: r, is, e => by cases e
  | .rol _ :: r, is, e => by cases e
  | .ref _ :: r, is, e => by cases e
  | .ty _ :: r, is, e => by cases e
theorem boolsOf_eq : ∀ {ds : List D} {is : List Bool}, boolsOf ds = some is → ds = is.map D.bl
  | [], is, e => by cases e; rfl
  | .bl i :: r, is, e => by
    unfold boolsOf at e
    obtain ⟨js, e1, e2⟩ := Option.map_eq_some_iff.mp e
    subst e2
    rw [boolsOf_eq e1]; rfl
  | .non :: r, is, e => by cases e
  | .int _ :: r, is, e => by cases e
  | .str _ :: r, is, e => by cases e
  | .tup _ :: r, is, e => by cases e
  | .lst _ :: r, is, e => by cases e
  | .rol _ :: r, is, e => by cases e
  | .ref _ :: r, is, e => by cases e
  | .ty _ :: r, is, e => by cases e

def absF : Fun1
  | [.int i], h => some (.int (if i < 0 then -i else i), h)
  | _, _ => none
def intF : Fun1
  | [.int i], h => some (.int i, h)
  | [.bl k], h => some (.int (if k then 1 else 0), h)
  | _, _ => none
def lenF : Fun1
  | [.str x], h => if x.length ≤ sizeLine then some (.int x.length, h) else none
  | [d], h => (itemsOf h d).map fun ds => (.int ds.length, h)
  | _, _ => none
def tupleF : Fun1
  | [.tup ds], h => some (.tup ds, h)
  | [d], h => (lseq h d).map fun ds => (.tup ds, h)
  | _, _ => none
def listF : Fun1
  | [d], h => (itemsOf h d).map fun ds => (.lst ds, h)
  | _, _ => none
def listM : Fun1
  | [d], h => (itemsOf h d).map fun ds => (.ref h.length, h ++ [.lst ds])
  | _, _ => none
def allF : Fun1
  | [d], h => (lseq h d).bind fun ds => (boolsOf ds).map fun bs => (.bl (bs.all id), h)
  | _, _ => none
def anyF : Fun1
  | [d], h => (lseq h d).bind fun ds => (boolsOf ds).map fun bs => (.bl (bs.any id), h)
  | _, _ => none
def sumF : Fun1
  | [d], h => (lseq h d).bind fun ds => (intsOf ds).map fun bs => (.int bs.sum, h)
  | _, _ => none
def max2F : Fun1
  | [.int i, .int j], h => some (.int (if j > i then j else i), h)
  | _, _ => none
def min2F : Fun1
  | [.int i, .int j], h => some (.int (if j < i then j else i), h)
  | _, _ => none
/-- the greatest of some ints -/
def maxL : List Int → Int
  | [] => 0
  | x :: r => r.foldl (fun a b => if a < b then b else a) x
def minL : List Int → Int
  | [] => 0
  | x :: r => r.foldl (fun a b => if b < a then b else a) x
theorem maxfold (r : List Int) : ∀ x : Int, (r.foldl (fun a b => if a < b then b else a) x = x ∨ r.foldl (fun a b => if a < b then b else a) x ∈ r) ∧ x ≤ r.foldl (fun a b => if a < b then b else a) x ∧ ∀ y ∈ r, y ≤ r.foldl (fun a b => if a < b then b else a) x := by
  induction r with
  | nil => intro x; exact ⟨.inl rfl, Int.le_refl _, fun y h => nomatch h⟩
  | cons z r ih =>
    intro x
    rw [List.foldl_cons]
    obtain ⟨h1, h2, h3⟩ := ih (if x < z then z else x)
    have hx : x ≤ (if x < z then z else x) := by split <;> omega
    have hz : z ≤ (if x < z then z else x) := by split <;> omega
    refine ⟨?_, Int.le_trans hx h2, fun y hy => ?_⟩
    · rcases h1 with h1 | h1
      · rw [h1]
        split
        · exact .inr List.mem_cons_self
        · exact .inl rfl
      · exact .inr (List.mem_cons_of_mem _ h1)
    · rcases List.mem_cons.mp hy with rfl | hy
      · exact Int.le_trans hz h2
      · exact h3 y hy
theorem minfold (r : List Int) : ∀ x : Int, (r.foldl (fun a b => if b < a then b else a) x = x ∨ r.foldl (fun a b => if b < a then b else a) x ∈ r) ∧ r.foldl (fun a b => if b < a then b else a) x ≤ x ∧ ∀ y ∈ r, r.foldl (fun a b => if b < a then b else a) x ≤ y := by
  induction r with
  | nil => intro x; exact ⟨.inl rfl, Int.le_refl _, fun y h => nomatch h⟩
  | cons z r ih =>
    intro x
    rw [List.foldl_cons]
    obtain ⟨h1, h2, h3⟩ := ih (if z < x then z else x)
    have hx : (if z < x then z else x) ≤ x := by split <;> omega
    have hz : (if z < x then z else x) ≤ z := by split <;> omega
    refine ⟨?_, Int.le_trans h2 hx, fun y hy => ?_⟩
    · rcases h1 with h1 | h1
      · rw [h1]
        split
        · exact .inr List.mem_cons_self
        · exact .inl rfl
      · exact .inr (List.mem_cons_of_mem _ h1)
    · rcases List.mem_cons.mp hy with rfl | hy
      · exact Int.le_trans h2 hz
      · exact h3 y hy
theorem maxL_eq {ns : List Int} {m : Int} (hm : m ∈ ns) (hl : ∀ y ∈ ns, y ≤ m) : m = maxL ns := by
  cases ns with
  | nil => exact nomatch hm
  | cons x r =>
    obtain ⟨h1, h2, h3⟩ := maxfold r x
    refine Int.le_antisymm ?_ ?_
    · rcases List.mem_cons.mp hm with rfl | hm
      · exact h2
      · exact h3 m hm
    · rcases h1 with h1 | h1
      · show r.foldl _ x ≤ m
        rw [h1]; exact hl x List.mem_cons_self
      · exact hl _ (List.mem_cons_of_mem _ h1)
theorem minL_eq {ns : List Int} {m : Int} (hm : m ∈ ns) (hl : ∀ y ∈ ns, m ≤ y) : m = minL ns := by
  cases ns with
  | nil => exact nomatch hm
  | cons x r =>
    obtain ⟨h1, h2, h3⟩ := minfold r x
    refine Int.le_antisymm ?_ ?_
    · rcases h1 with h1 | h1
      · show m ≤ r.foldl _ x
        rw [h1]; exact hl x List.mem_cons_self
      · exact hl _ (List.mem_cons_of_mem _ h1)
    · rcases List.mem_cons.mp hm with rfl | hm
      · exact h2
      · exact h3 m hm
def maxF : Fun1
  | [d], h => (lseq h d).bind fun ds => (intsOf ds).bind fun ns => if ns = [] then none else some (.int (maxL ns), h)
  | [.int i, .int j], h => some (.int (if j > i then j else i), h)
  | _, _ => none
def minF : Fun1
  | [d], h => (lseq h d).bind fun ds => (intsOf ds).bind fun ns => if ns = [] then none else some (.int (minL ns), h)
  | [.int i, .int j], h => some (.int (if j < i then j else i), h)
  | _, _ => none

section
variable {X : Cx}
theorem c_abs : CallR X (.builtin "abs") (rL X.K absF) := call_abs.impD fun vs H Q hh => by
  obtain ⟨W, h, ds, d, h', S, r, e, P⟩ := hh
  unfold absF at e
  split at e
  · cases e
    obtain ⟨v, rfl, r1⟩ := rels1 r
    rw [rel_int] at r1; subst r1
    exact ⟨_, rfl, P.at S (rel_int.mpr rfl)⟩
  · cases e
theorem c_int : CallR X (.type "int") (rL X.K intF) := call_int1.impD fun vs H Q hh => by
  obtain ⟨W, h, ds, d, h', S, r, e, P⟩ := hh
  unfold intF at e
  split at e
  · cases e
    obtain ⟨v, rfl, r1⟩ := rels1 r
    rw [rel_int] at r1; subst r1
    exact .inl ⟨_, rfl, P.at S (rel_int.mpr rfl)⟩
  · cases e
    obtain ⟨v, rfl, r1⟩ := rels1 r
    rw [rel_bl] at r1; subst r1
    exact .inr ⟨_, rfl, P.at S (rel_int.mpr rfl)⟩
  · cases e
theorem c_len : CallR X (.builtin "len") (rL X.K lenF) := call_len.impD fun vs H Q hh => by
  obtain ⟨W, h, ds, d, h', S, r, e, P⟩ := hh
  unfold lenF at e
  split at e
  · split at e
    · rename_i hz
      cases e
      obtain ⟨v, rfl, r1⟩ := rels1 r
      rw [rel_str] at r1; subst r1
      exact ⟨_, _, rfl, ⟨hz, rfl⟩, P.at S (rel_int.mpr rfl)⟩
    · cases e
  · obtain ⟨es, e1, e2⟩ := Option.map_eq_some_iff.mp e
    cases e2
    obtain ⟨v, rfl, r1⟩ := rels1 r
    obtain ⟨a, vs, rfl, s, q⟩ := items_seq S r1 e1
    refine ⟨_, es.length, rfl, ?_, P.at S (rel_int.mpr rfl)⟩
    rcases s with s | s
    · exact .inl ⟨vs, s, q.length.symm⟩
    · exact .inr ⟨vs, s, q.length.symm⟩
  · cases e
theorem c_tuple : CallR X (.type "tuple") (rL X.K tupleF) := call_tuple_of.impD fun vs H Q hh => by
  obtain ⟨W, h, ds, d, h', S, r, e, P⟩ := hh
  unfold tupleF at e
  split at e
  · cases e
    obtain ⟨v, rfl, r1⟩ := rels1 r
    obtain ⟨a, vs, rfl, s, q⟩ := rel_tup.mp r1
    exact ⟨a, vs, rfl, .inr ⟨Same.seqT S.sub s, P.at S r1⟩⟩
  · obtain ⟨es, e1, e2⟩ := Option.map_eq_some_iff.mp e
    cases e2
    obtain ⟨v, rfl, r1⟩ := rels1 r
    obtain ⟨a, vs, rfl, s, q⟩ := lseq_seq S r1 e1
    exact ⟨a, vs, rfl, .inl ⟨s, Post.tup S q P⟩⟩
  · cases e
theorem c_list : CallR X (.type "list") (rL X.K listF) := call_list_of.impD fun vs H Q hh => by
  obtain ⟨W, h, ds, d, h', S, r, e, P⟩ := hh
  unfold listF at e
  split at e
  · obtain ⟨es, e1, e2⟩ := Option.map_eq_some_iff.mp e
    cases e2
    obtain ⟨v, rfl, r1⟩ := rels1 r
    obtain ⟨a, vs, rfl, s, q⟩ := items_seq S r1 e1
    exact ⟨a, vs, rfl, s, Post.lst S q P⟩
  · cases e
theorem c_listM : CallR X (.type "list") (rL X.K listM) := call_list_of.impD fun vs H Q hh => by
  obtain ⟨W, h, ds, d, h', S, r, e, P⟩ := hh
  unfold listM at e
  split at e
  · obtain ⟨es, e1, e2⟩ := Option.map_eq_some_iff.mp e
    cases e2
    obtain ⟨v, rfl, r1⟩ := rels1 r
    obtain ⟨a, vs, rfl, s, q⟩ := items_seq S r1 e1
    exact ⟨a, vs, rfl, s, Post.mut S q P⟩
  · cases e
theorem c_all (hc : X.calm = true) : CallR X (.builtin "all") (rL X.K allF) := (cr_all hc).impD fun vs H Q hh => by
  obtain ⟨W, h, ds, d, h', S, r, e, P⟩ := hh
  unfold allF at e
  split at e
  · obtain ⟨es, e1, e⟩ := Option.bind_eq_some_iff.mp e
    obtain ⟨bs, e2, e3⟩ := Option.map_eq_some_iff.mp e
    cases e3
    obtain ⟨v, rfl, r1⟩ := rels1 r
    obtain ⟨a, vs, rfl, s, q⟩ := lseq_seq S r1 e1
    rw [boolsOf_eq e2] at q
    rw [q.bools] at s
    exact ⟨a, bs, rfl, s, P.at S (rel_bl.mpr rfl)⟩
  · cases e
theorem c_any (hc : X.calm = true) : CallR X (.builtin "any") (rL X.K anyF) := (cr_any hc).impD fun vs H Q hh => by
  obtain ⟨W, h, ds, d, h', S, r, e, P⟩ := hh
  unfold anyF at e
  split at e
  · obtain ⟨es, e1, e⟩ := Option.bind_eq_some_iff.mp e
    obtain ⟨bs, e2, e3⟩ := Option.map_eq_some_iff.mp e
    cases e3
    obtain ⟨v, rfl, r1⟩ := rels1 r
    obtain ⟨a, vs, rfl, s, q⟩ := lseq_seq S r1 e1
    rw [boolsOf_eq e2] at q
    rw [q.bools] at s
    exact ⟨a, bs, rfl, s, P.at S (rel_bl.mpr rfl)⟩
  · cases e
theorem c_sum (hc : X.calm = true) : CallR X (.builtin "sum") (rL X.K sumF) := (cr_sum hc).impD fun vs H Q hh => by
  obtain ⟨W, h, ds, d, h', S, r, e, P⟩ := hh
  unfold sumF at e
  split at e
  · obtain ⟨es, e1, e⟩ := Option.bind_eq_some_iff.mp e
    obtain ⟨bs, e2, e3⟩ := Option.map_eq_some_iff.mp e
    cases e3
    obtain ⟨v, rfl, r1⟩ := rels1 r
    obtain ⟨a, vs, rfl, s, q⟩ := lseq_seq S r1 e1
    rw [intsOf_eq e2] at q
    rw [q.ints] at s
    exact ⟨a, bs, rfl, s, P.at S (rel_int.mpr rfl)⟩
  · cases e
theorem c_max (hc : X.calm = true) : CallR X (.builtin "max") (rL X.K maxF) := ((cr_max hc).orD (call_max2 hc)).impD fun vs H Q hh => by
  obtain ⟨W, h, ds, d, h', S, r, e, P⟩ := hh
  unfold maxF at e
  split at e
  · obtain ⟨es, e1, e⟩ := Option.bind_eq_some_iff.mp e
    obtain ⟨ns, e2, e⟩ := Option.bind_eq_some_iff.mp e
    split at e
    · cases e
    · rename_i hne
      cases e
      obtain ⟨v, rfl, r1⟩ := rels1 r
      obtain ⟨a, vs, rfl, s, q⟩ := lseq_seq S r1 e1
      rw [intsOf_eq e2] at q
      rw [q.ints] at s
      exact .inl ⟨a, ns, rfl, s, List.length_pos_iff.mpr hne, fun m hm hl => P.at S (rel_int.mpr (by rw [maxL_eq hm hl]))⟩
  · cases e
    obtain ⟨v, u, rfl, r1, r2⟩ := rels2 r
    rw [rel_int] at r1 r2
    subst r1 r2
    exact .inr ⟨_, _, rfl, P.at S (rel_int.mpr rfl)⟩
  · cases e
theorem c_min (hc : X.calm = true) : CallR X (.builtin "min") (rL X.K minF) := ((cr_min hc).orD (call_min2 hc)).impD fun vs H Q hh => by
  obtain ⟨W, h, ds, d, h', S, r, e, P⟩ := hh
  unfold minF at e
  split at e
  · obtain ⟨es, e1, e⟩ := Option.bind_eq_some_iff.mp e
    obtain ⟨ns, e2, e⟩ := Option.bind_eq_some_iff.mp e
    split at e
    · cases e
    · rename_i hne
      cases e
      obtain ⟨v, rfl, r1⟩ := rels1 r
      obtain ⟨a, vs, rfl, s, q⟩ := lseq_seq S r1 e1
      rw [intsOf_eq e2] at q
      rw [q.ints] at s
      exact .inl ⟨a, ns, rfl, s, List.length_pos_iff.mpr hne, fun m hm hl => P.at S (rel_int.mpr (by rw [minL_eq hm hl]))⟩
  · cases e
    obtain ⟨v, u, rfl, r1, r2⟩ := rels2 r
    rw [rel_int] at r1 r2
    subst r1 r2
    exact .inr ⟨_, _, rfl, P.at S (rel_int.mpr rfl)⟩
  · cases e
end

/-! ### isinstance -/
/-- a thing's type, where it is one of those -/
def tyN : D → Option String
  | .non => some "NoneType" | .bl _ => some "bool" | .int _ => some "int" | .str _ => some "str" | .tup _ => some "tuple" | .lst _ => some "list" | .rol _ => some "list" | .ref _ => some "list" | .ty _ => none
/-- is the type T the type n, or below it -/
def subN (T n : String) : Option Bool := if ["bool", "int", "str", "tuple", "list", "dict", "set"].contains n then some (T == n || (T == "bool" && n == "int")) else none
def isiF : Fun1
  | [d, .ty n], h => (tyN d).bind fun T => (subN T n).map fun b => (.bl b, h)
  | _, _ => none
theorem tyN_rel {K : PySem.W.Frag} {W : Wd} {h : Sto} {H : Hp} {d : D} {v : V} {T : String} (S : SI K H W h) (r : Rel K W d v) (e : tyN d = some T) : TyX K H v (.type T) := by
  cases d with
  | non => cases e; rw [rel_non] at r; subst r; exact .base .non
  | bl _ => cases e; rw [rel_bl] at r; subst r; exact .base (.bl _)
  | int _ => cases e; rw [rel_int] at r; subst r; exact .base (.int _)
  | str _ => cases e; rw [rel_str] at r; subst r; exact .base (.str _)
  | tup ds =>
    cases e
    obtain ⟨a, vs, rfl, s, _⟩ := rel_tup.mp r
    rcases Same.seqT S.sub s with (s | ⟨o, s⟩) | ⟨o, its, n, k, c, _⟩
    · exact .base (.tup s)
    · exact .fTuple s
    · exact .kTuple k c
  | lst ds =>
    cases e
    obtain ⟨a, vs, rfl, s, _⟩ := rel_lst.mp r
    exact .base (.lst (S.sub _ _ s))
  | rol ds =>
    cases e
    obtain ⟨a, vs, rfl, s, _⟩ := rel_rol.mp r
    rcases S.sub.seq s with (s | ⟨o, s⟩) | ⟨o, its, n, k, c, _⟩
    · exact .base (.lst s)
    · exact .base (.frz s)
    · exact .kList k c
  | ref n =>
    cases e
    obtain ⟨a, e1, rfl⟩ := rel_ref.mp r
    obtain ⟨vs, q⟩ := S.has e1
    exact .base (.lst q)
  | ty n => cases e
theorem kitOne_of (K : PySem.W.Frag) {d : D} {T n : String} {b : Bool} (e1 : tyN d = some T) (e : subN T n = some b) : PySem.W.kitOne K (.type T) (.type n) = some b := by
  have hT : T = "NoneType" ∨ T = "bool" ∨ T = "int" ∨ T = "str" ∨ T = "tuple" ∨ T = "list" := by
    cases d <;> cases e1 <;> simp
  unfold subN at e
  split at e
  · rename_i hn
    have hn' : n = "bool" ∨ n = "int" ∨ n = "str" ∨ n = "tuple" ∨ n = "list" ∨ n = "dict" ∨ n = "set" := by simpa using hn
    cases e
    rcases hT with rfl | rfl | rfl | rfl | rfl | rfl <;> rcases hn' with rfl | rfl | rfl | rfl | rfl | rfl | rfl <;> kernel_rfl
  · cases e
end Iv
/-! Iv5: isinstance, methods, targets, statements, loops, comprehensions. -/
namespace Iv
open PySem PySem.Spec PyProof.Rows L2

/-! ### isinstance -/
section
variable {X : Cx} {e : Expr} {es : List Expr} {φ : Den} {pos : Pos}
theorem c_isi : CallR X (.builtin "isinstance") (rL X.K isiF) := call_isi.impD fun vs H Q hh => by
  obtain ⟨W, h, ds, d, h', S, r, e, P⟩ := hh
  unfold isiF at e
  split at e
  · obtain ⟨T, e1, e⟩ := Option.bind_eq_some_iff.mp e
    obtain ⟨b, e2, e3⟩ := Option.map_eq_some_iff.mp e
    cases e3
    obtain ⟨v, u, rfl, r1, r2⟩ := rels2 r
    rw [rel_ty] at r2; subst r2
    exact ⟨v, .ty _, _, _, _, rfl, .ty _, tyN_rel S r1 e1, kitOne_of X.K e1 e2, P.at S (rel_bl.mpr rfl)⟩
  · cases e
/-- of several types -/
def subAny (T : String) : List String → Option Bool
  | [] => some false
  | n :: r => match subN T n with
    | some true => some true
    | some false => subAny T r
    | none => none
theorem kitAny_of (K : PySem.W.Frag) {d : D} {T : String} (e1 : tyN d = some T) : ∀ (ns : List String) (b : Bool), subAny T ns = some b → PySem.W.kitAny K (.type T) (ns.map Value.type) = some b
  | [], b, e => by cases e; rfl
  | n :: r, b, e => by
    unfold subAny at e
    rw [List.map_cons]
    unfold PySem.W.kitAny
    cases q : subN T n with
    | none => rw [q] at e; cases e
    | some c =>
      rw [q] at e
      rw [kitOne_of K e1 q]
      cases c with
      | true => cases e; rfl
      | false => exact kitAny_of K e1 r b e
def dIsiT (ns : List String) (φ : Den) : Den := fun ρ h => (φ ρ h).bind fun p => (tyN p.1).bind fun T => (subAny T ns).map fun b => (.bl b, p.2)
/-- names of built-in types -/
structure Tys (X : Cx) (es : List Expr) (ns : List String) : Prop where
  pa : PA X es (fun σ H Q => Q (ns.map V.ty) H)
theorem tys_nil : Tys X [] [] := ⟨pa_nil⟩
theorem tys_cons {n : String} {ns : List String} {x : Str} (h : Tys X es ns) (hm : X.mg x = none) (hv : bootBuiltins x = some (.type n)) (hg : Gl X x := by rfl) (hn : x ≠ "__name__" := by decide) (hd : (x == ("__debug__" : Str)) = false := by decide)
    (hs : starEach (.Name x pos :: es) X.env = (false, eval (.Name x pos) X.env) :: starEach es X.env := by rfl) : Tys X (.Name x pos :: es) (n :: ns) := ⟨pa_cons (pe_bltn (v := .ty n) hg hm hv rfl hn hd) h.pa hs⟩
theorem cls_all : ∀ ns : List String, Paired ClsV (ns.map V.ty) (ns.map Value.type)
  | [] => .nil
  | n :: r => .cons (.ty n) (cls_all r)
theorem v_isiT {ns : List String} {p p2 : Pos} {kk : Nat} (hm : X.mg "isinstance" = none) (he : PE X e (tEv X.K φ)) (ht : Tys X es ns) (hz : ns.length ≤ 100 := by decide) (hg : Gl X "isinstance" := by rfl)
    (hs : starEach [e, .Tuple es kk p2] X.env = (false, eval e X.env) :: starEach [.Tuple es kk p2] X.env := by rfl) (hs2 : starEach [.Tuple es kk p2] X.env = (false, eval (.Tuple es kk p2) X.env) :: starEach [] X.env := by rfl)
    (hpl : (backTo pos (starEach [.Tuple es kk p2] X.env)).any (·.1) = false := by rfl) : PE X (.Call (.Name "isinstance" p) [e, .Tuple es kk p2] [] pos) (tEv X.K (dIsiT ns φ)) :=
  (pe_callB call_isiT hg hm (by decide +kernel) (pa_cons he (pa_cons (pe_tup ht.pa) pa_nil hs2) hs) (by decide) (by decide) hs hpl).impD fun σ H Q hh => by
    obtain ⟨ρ, h, W, d, h', A, e, P⟩ := hh
    unfold dIsiT at e
    obtain ⟨⟨d1, h1⟩, e1, e⟩ := Option.bind_eq_some_iff.mp e
    obtain ⟨T, e2, e⟩ := Option.bind_eq_some_iff.mp e
    obtain ⟨b, e3, e4⟩ := Option.map_eq_some_iff.mp e
    cases e4
    refine ⟨ρ, h, W, d1, _, A, e1, fun v H1 W1 l1 S1 r1 => ⟨?_, fun p hp => ?_⟩⟩
    · rw [List.length_map]; exact Nat.le_trans hz (by decide)
    · obtain ⟨S2, l2⟩ := S1.frz (o := .tup (ns.map V.ty)) hp
      refine ⟨v, p, ns.map V.ty, .type T, ns.map Value.type, b, rfl, upd_same, cls_all ns, tyN_rel S2 (Rel.mono l2 _ _ r1) e2, kitAny_of X.K e2 ns b e3, P _ _ _ (l1.trans l2) S2 (rel_bl.mpr rfl)⟩
end

/-! ### methods of lists -/
def rM (K : PySem.W.Frag) (g : D → List D → Sto → Option (D × Sto)) : V → List V → Hp → VK → Prop := fun x vs H Q => ∃ W h d1 ds d h', SI K H W h ∧ Rel K W d1 x ∧ Rels K W ds vs ∧ g d1 ds h = some (d, h') ∧ Post K W d h' Q
def dMeth (g : D → List D → Sto → Option (D × Sto)) (φ : Den) (l : DenL) : Den := fun ρ h => (φ ρ h).bind fun p => if (lseq p.2 p.1).isSome = true then (l ρ p.2).bind fun q => g p.1 q.1 q.2 else none
def dMeth0 (g : D → List D → Sto → Option (D × Sto)) (φ : Den) : Den := fun ρ h => (φ ρ h).bind fun p => if (lseq p.2 p.1).isSome = true then g p.1 [] p.2 else none
def appendM : D → List D → Sto → Option (D × Sto)
  | .ref n, [d], h => match h[n]? with
    | some (.lst ds) => if ds.length < sizeLine then some (.non, h.set n (.lst (ds ++ [d]))) else none
    | _ => none
  | _, _, _ => none
def extendM : D → List D → Sto → Option (D × Sto)
  | .ref n, [d], h => match h[n]?, mlist h d with
    | some (.lst ds), some es => if ds.length + es.length ≤ sizeLine then some (.non, h.set n (.lst (ds ++ es))) else none
    | _, _ => none
  | _, _, _ => none
def popM : D → List D → Sto → Option (D × Sto)
  | .ref n, [], h => match h[n]? with
    | some (.lst ds) => (ds[ds.length - 1]?).map fun d => (d, h.set n (.lst ds.dropLast))
    | _ => none
  | .ref n, [.int i], h => match h[n]? with
    | some (.lst ds) => if -(2 ^ 63) ≤ i ∧ i < 2 ^ 63 then (seqIndex? i ds.length).bind fun k => (ds[k]?).map fun d => (d, h.set n (.lst (ds.eraseIdx k))) else none
    | _ => none
  | _, _, _ => none
theorem Rels.dropLast {K : PySem.W.Frag} {W : Wd} {ds : List D} {vs : List V} (r : Rels K W ds vs) : Rels K W ds.dropLast vs.dropLast := by
  rw [List.dropLast_eq_take, List.dropLast_eq_take, r.length]
  exact r.take _
theorem Rels.erase {K : PySem.W.Frag} {W : Wd} : ∀ {ds : List D} {vs : List V} (n : Nat), Rels K W ds vs → Rels K W (ds.eraseIdx n) (vs.eraseIdx n)
  | [], _, _, r => by unfold Rels at r; subst r; simp [Rels.nil]
  | d :: ds, _, 0, r => by
    unfold Rels at r
    obtain ⟨v, t, rfl, r1, r2⟩ := r
    exact r2
  | d :: ds, _, n + 1, r => by
    unfold Rels at r
    obtain ⟨v, t, rfl, r1, r2⟩ := r
    exact .cons r1 (Rels.erase n r2)
section
variable {X : Cx} {o e : Expr} {es : List Expr} {φ : Den} {l : DenL} {name : Str} {apos cpos : Pos} {id : String} {g : D → List D → Sto → Option (D × Sto)}
theorem m_append : MtR X "list.append" (rM X.K appendM) := (show MtR X "list.append" rAppend from mt_append).impD fun x vs H Q hh => by
  obtain ⟨W, h, d1, ds, d, h', S, r1, r2, e, P⟩ := hh
  unfold appendM at e
  split at e
  · split at e
    · rename_i n d2 _ xs q
      split at e
      · rename_i hz
        cases e
        obtain ⟨a, e1, rfl⟩ := rel_ref.mp r1
        obtain ⟨b, us, f1, f2, f3⟩ := S.obj _ _ q
        rw [e1] at f1; cases f1
        obtain ⟨v, rfl, r3⟩ := rels1 r2
        exact ⟨a, us, v, rfl, rfl, f2, by rw [f3.length]; exact hz, P.at (S.put e1 q (f3.append (.cons r3 .nil))) (rel_non.mpr rfl)⟩
      · cases e
    · cases e
  · cases e
theorem m_extend : MtR X "list.extend" (rM X.K extendM) := (show MtR X "list.extend" rExtend from mt_extend).impD fun x vs H Q hh => by
  obtain ⟨W, h, d1, ds, d, h', S, r1, r2, e, P⟩ := hh
  unfold extendM at e
  split at e
  · split at e
    · rename_i n d2 h0 _ _ xs ys q q2
      split at e
      · rename_i hz
        cases e
        obtain ⟨a, e1, rfl⟩ := rel_ref.mp r1
        obtain ⟨b, us, f1, f2, f3⟩ := S.obj _ _ q
        rw [e1] at f1; cases f1
        obtain ⟨v, rfl, r3⟩ := rels1 r2
        obtain ⟨c, zs, rfl, g2, g3⟩ := mlist_seq S r3 q2
        exact ⟨a, c, us, zs, rfl, rfl, f2, g2, by rw [f3.length, g3.length]; exact hz, P.at (S.put e1 q (f3.append g3)) (rel_non.mpr rfl)⟩
      · cases e
    · cases e
  · cases e
theorem _root_.L2.MtR.orD {id : String} {r r' : V → List V → Hp → VK → Prop} (p : MtR X id r) (q : MtR X id r') : MtR X id (fun x y H Q => r x y H Q ∨ r' x y H Q) := fun pins s σ H x xs v us Q I a b h => h.elim (fun h => p pins s σ H x xs v us Q I a b h) fun h => q pins s σ H x xs v us Q I a b h
theorem m_pop : MtR X "list.pop" (rM X.K popM) := (L2.MtR.orD (show MtR X "list.pop" rPop from mt_pop) (show MtR X "list.pop" rPopAt from mt_popAt)).impD fun x vs H Q hh => by
  obtain ⟨W, h, d1, ds, d, h', S, r1, r2, e, P⟩ := hh
  unfold popM at e
  split at e
  · split at e
    · rename_i n _ xs q
      obtain ⟨d', e2, e3⟩ := Option.map_eq_some_iff.mp e
      cases e3
      obtain ⟨a, e1, rfl⟩ := rel_ref.mp r1
      obtain ⟨b, us, f1, f2, f3⟩ := S.obj _ _ q
      rw [e1] at f1; cases f1
      unfold Rels at r2
      subst r2
      obtain ⟨v, e4, r4⟩ := f3.get e2
      exact .inl ⟨a, us, v, rfl, rfl, f2, by rw [f3.length]; exact e4, P.at (S.put e1 q f3.dropLast) r4⟩
    · cases e
  · split at e
    · rename_i n i _ xs q
      split at e
      · rename_i hi
        obtain ⟨k, e2, e⟩ := Option.bind_eq_some_iff.mp e
        obtain ⟨d', e3, e4⟩ := Option.map_eq_some_iff.mp e
        cases e4
        obtain ⟨a, e1, rfl⟩ := rel_ref.mp r1
        obtain ⟨b, us, f1, f2, f3⟩ := S.obj _ _ q
        rw [e1] at f1; cases f1
        obtain ⟨v, rfl, r3⟩ := rels1 r2
        rw [rel_int] at r3; subst r3
        obtain ⟨u, e5, r5⟩ := f3.get e3
        exact .inr ⟨a, us, i, k, u, rfl, rfl, f2, hi.1, hi.2, by rw [f3.length]; exact e2, e5, P.at (S.put e1 q (f3.erase k)) r5⟩
      · cases e
    · cases e
  · cases e
theorem tyV_list {K : PySem.W.Frag} {W : Wd} {h : Sto} {H : Hp} {d : D} {v : V} (S : SI K H W h) (r : Rel K W d v) (e : (lseq h d).isSome = true) : tyV K "list" v H := by
  obtain ⟨ds, q⟩ := Option.isSome_iff_exists.mp e
  obtain ⟨a, vs, rfl, s, _⟩ := lseq_seq S r q
  exact .inl ⟨rfl, vs, s⟩
theorem v_meth (slot : Slot "list" name id) (hty : typeOf (.builtin id) = pure (.type "method_descriptor")) (hm : MtR X id (rM X.K g)) (ho : PE X o (tEv X.K φ)) (ha : PA X (e :: es) (tEvL X.K l))
    (hbase : attributeBase o name X.env (eval o X.env) = eval o X.env := by rfl)
    (hfew : ((backTo cpos (starEach (e :: es) X.env)).all (fun x => !x.1) && (backToKw cpos (keywordEach [] X.env)).all (fun x => x.1.isSome)
      && decide ((e :: es).length + ([] : List Keyword).length + (if ([] : List Keyword).isEmpty then 0 else 1) < 30)) = true := by rfl)
    (hline : (apos.endLine == cpos.line) = true := by rfl) (hs : starEach (e :: es) X.env = (false, eval e X.env) :: starEach es X.env := by rfl) (hplain : (backTo cpos (starEach es X.env)).any (·.1) = false := by rfl) :
    PE X (.Call (.Attribute o name apos) (e :: es) [] cpos) (tEv X.K (dMeth g φ l)) :=
  (pe_bm PySem.F.plainAttrs_list slot hty hm ho ha hbase hfew hline hs hplain).impD fun σ H Q hh => by
    obtain ⟨ρ, h, W, d, h', A, e, P⟩ := hh
    unfold dMeth at e
    obtain ⟨⟨d1, h1⟩, e1, e⟩ := Option.bind_eq_some_iff.mp e
    replace e : (if (lseq h1 d1).isSome = true then (l ρ h1).bind fun q => g d1 q.1 q.2 else none) = some (d, h') := e
    split at e
    · rename_i hz
      obtain ⟨⟨ds, h2⟩, e2, e⟩ := Option.bind_eq_some_iff.mp e
      exact ⟨ρ, h, W, d1, h1, A, e1, fun v H1 W1 l1 S1 r1 => ⟨tyV_list S1 r1 hz, ρ, h1, W1, ds, h2, A.step l1 S1, e2, fun vs H2 W2 l2 S2 r2 => ⟨W2, h2, d1, ds, d, h', S2, Rel.mono l2 _ _ r1, r2, e, P.of (l1.trans l2)⟩⟩⟩
    · cases e
theorem v_meth0 (slot : Slot "list" name id) (hty : typeOf (.builtin id) = pure (.type "method_descriptor")) (hm : MtR X id (rM X.K g)) (ho : PE X o (tEv X.K φ))
    (hbase : attributeBase o name X.env (eval o X.env) = eval o X.env := by rfl) (hline : (apos.endLine == cpos.line) = true := by rfl) :
    PE X (.Call (.Attribute o name apos) [] [] cpos) (tEv X.K (dMeth0 g φ)) :=
  (pe_bm0 PySem.F.plainAttrs_list slot hty hm ho hbase hline).impD fun σ H Q hh => by
    obtain ⟨ρ, h, W, d, h', A, e, P⟩ := hh
    unfold dMeth0 at e
    obtain ⟨⟨d1, h1⟩, e1, e⟩ := Option.bind_eq_some_iff.mp e
    replace e : (if (lseq h1 d1).isSome = true then g d1 [] h1 else none) = some (d, h') := e
    split at e
    · rename_i hz
      exact ⟨ρ, h, W, d1, h1, A, e1, fun v H1 W1 l1 S1 r1 => ⟨tyV_list S1 r1 hz, W1, h1, d1, [], d, h', S1, r1, .nil, e, P.of l1⟩⟩
    · cases e
end

/-! ### targets -/
theorem wipe_set {σ : L2.St} {i : Nat} {o : Option V} : ∀ {vs : List Nat}, i ∈ vs → wipe (σ.set i o) vs = wipe σ vs
  | [], h => nomatch h
  | v :: vs, h => by
    unfold wipe
    by_cases hi : i ∈ vs
    · rw [wipe_set hi]
    · have e : i = v := by
        rcases List.mem_cons.mp h with q | q
        · exact q
        · exact absurd q hi
      subst e
      have : ∀ {us : List Nat}, i ∉ us → wipe (σ.set i o) us = (wipe σ us).set i o := by
        intro us
        induction us with
        | nil => intro _; rfl
        | cons u us ih =>
          intro hu
          unfold wipe
          rw [ih (fun z => hu (List.mem_cons_of_mem _ z)), List.set_comm _ _ (fun z => hu (by rw [z]; exact List.mem_cons_self))]
      rw [this hi, List.set_set]
def gVar (i : Nat) : DenG := fun d ρ h => some (ρ.set i (some d), h)
def gN : DenGs := fun ds ρ h => match ds with | [] => some (ρ, h) | _ => none
def gC (g : DenG) (gs : DenGs) : DenGs := fun ds ρ h => match ds with | d :: r => (g d ρ h).bind fun p => gs r p.1 p.2 | [] => none
def gTp (n : Nat) (gs : DenGs) : DenG := fun d ρ h => match d with | .tup ds => if ds.length = n then gs ds ρ h else none | _ => none
section
variable {X : Cx} {pos : Pos} {own : List Nat} {γ : DenG} {γs : DenGs} {e : Expr} {es : List Expr}
theorem g_name (i : Nat) {x : Str} (hN : X.N.Nodup) (ho : i ∈ own) (hi : X.N[i]? = some x := by rfl) (hx : Loc X.env.scope x := by first | exact Or.inl rfl | exact Or.inr rfl) (hf : X.fn x = true ∨ X.env.scope.names.lookup x = some .local := by first | exact .inl rfl | exact .inr rfl | assumption) : PG X (.Name x pos) (tEvG X.K own (gVar i)) :=
  (pg_name hN hi hx hf).impD fun v σ H Q hh => by
    obtain ⟨d, ρ, h, W, ρ', h', A, r, e, P⟩ := hh
    cases e
    exact P _ H W (.refl _) ⟨A.e.set r i, A.s⟩ (wipe_set ho)
theorem g_nil : PGs X [] (tEvGs X.K own gN) := pgs_nil.impD fun vs σ H Q hh => by
  obtain ⟨ds, ρ, h, W, ρ', h', A, r, e, P⟩ := hh
  cases ds with
  | nil =>
    cases e
    unfold Rels at r
    exact ⟨r, P _ H W (.refl _) A rfl⟩
  | cons d r => cases e
theorem g_cons (h1 : PG X e (tEvG X.K own γ)) (h2 : PGs X es (tEvGs X.K own γs)) (hs : (assignEach (e :: es) X.env).map (·.2) = assign e X.env :: (assignEach es X.env).map (·.2) := by rfl) : PGs X (e :: es) (tEvGs X.K own (gC γ γs)) :=
  (pgs_cons h1 h2 hs).impD fun vs σ H Q hh => by
    obtain ⟨ds, ρ, h, W, ρ', h', A, r, e, P⟩ := hh
    cases ds with
    | nil => cases e
    | cons d t =>
      obtain ⟨⟨ρ1, h1⟩, e1, e⟩ := Option.bind_eq_some_iff.mp e
      unfold Rels at r
      obtain ⟨v, vs', rfl, r1, r2⟩ := r
      exact ⟨v, vs', rfl, d, ρ, h, W, ρ1, h1, A, r1, e1, fun σ1 H1 W1 l1 A1 w1 => ⟨t, ρ1, h1, W1, ρ', h', A1, Rels.mono l1 _ _ r2, e, fun σ2 H2 W2 l2 A2 w2 => P σ2 H2 W2 (l1.trans l2) A2 (w2.trans w1)⟩⟩
theorem g_tup {k n : Nat} (hc : X.calm = true) (h : PGs X es (tEvGs X.K own γs)) (hn : (assignEach es X.env).length = n := by rfl) (hst : (assignEach es X.env).findIdx? (·.1) = none := by rfl) : PG X (.Tuple es k pos) (tEvG X.K own (gTp n γs)) :=
  (pg_tup hc h hn hst).impD fun v σ H Q hh => by
    obtain ⟨d, ρ, h, W, ρ', h', A, r, e, P⟩ := hh
    unfold gTp at e
    split at e
    · rename_i ds
      split at e
      · rename_i hl
        obtain ⟨a, vs, rfl, s, q⟩ := rel_tup.mp r
        exact ⟨a, vs, rfl, Same.seqT A.s.sub s, by rw [q.length]; exact hl, ds, ρ, h, W, ρ', h', A, q, e, P⟩
      · cases e
    · cases e
/-- o[i] = v -/
def setM : D → D → D → Sto → Option Sto
  | .ref n, .int i, d, h => match h[n]? with
    | some (.lst ds) => (ixN ds.length i).map fun j => h.set n (.lst (ds.set j d))
    | _ => none
  | _, _, _, _ => none
def gSubD (a b : Den) : DenG := fun d ρ h => (a ρ h).bind fun p => (b ρ p.2).bind fun q => (setM p.1 q.1 d q.2).map fun h' => (ρ, h')
theorem setM_imp {K : PySem.W.Frag} {W : Wd} {H : Hp} {h h' : Sto} {o i v : V} {d1 d2 d3 : D} {Q : Hp → Prop} (S : SI K H W h) (r1 : Rel K W d1 o) (r2 : Rel K W d2 i) (r3 : Rel K W d3 v) (e : setM d1 d2 d3 h = some h') (P : ∀ H', SI K H' W h' → Q H') : rSetL o i v H Q := by
  unfold setM at e
  split at e
  · split at e
    · rename_i n k d _ xs q
      obtain ⟨j, e1, e2⟩ := Option.map_eq_some_iff.mp e
      subst e2
      obtain ⟨a, f0, rfl⟩ := rel_ref.mp r1
      obtain ⟨b, us, f1, f2, f3⟩ := S.obj _ _ q
      rw [f0] at f1; cases f1
      rw [rel_int] at r2
      exact ⟨a, us, _, j, rfl, r2, f2, by rw [f3.length]; exact e1, P _ (S.put f0 q (f3.set r3 j))⟩
    · cases e
  · cases e
theorem g_sub {o i : Expr} {φ ψ : Den} (ho : PE X o (tEv X.K φ)) (hi : PE X i (tEv X.K ψ))
    (ha : ∀ v, assign (.Subscript o i pos) X.env v = (do
      let ov ← holding [v] (eval o X.env)
      let iv ← holding [v, ov] (eval i X.env)
      standAt pos
      holding [v, ov, iv] (setItem ov iv v)
      release [v, ov, iv] []) := by intro _; rfl) : PG X (.Subscript o i pos) (tEvG X.K own (gSubD φ ψ)) :=
  (pg_sub ho hi set_list ha).impD fun v σ H Q hh => by
    obtain ⟨d, ρ, h, W, ρ', h', A, r, e, P⟩ := hh
    unfold gSubD at e
    obtain ⟨⟨d1, h1⟩, e1, e⟩ := Option.bind_eq_some_iff.mp e
    obtain ⟨⟨d2, h2⟩, e2, e⟩ := Option.bind_eq_some_iff.mp e
    obtain ⟨h3, e3, e4⟩ := Option.map_eq_some_iff.mp e
    cases e4
    exact ⟨ρ, h, W, d1, h1, A, e1, fun u H1 W1 l1 S1 r1 => ⟨ρ, h1, W1, d2, h2, A.step l1 S1, e2, fun w H2 W2 l2 S2 r2 => setM_imp S2 (Rel.mono l2 _ _ r1) r2 (Rel.mono (l1.trans l2) _ _ r) e3 fun H3 S3 => P σ H3 W2 (l1.trans l2) (A.step (l1.trans l2) S3) rfl⟩⟩
end
end Iv
/-! Iv6: statements, loops, comprehensions, defs. -/
namespace Iv
open PySem PySem.Spec PyProof.Rows L2

/-- turns of a while, at most -/
def fuel : Nat := 2 ^ 4000
theorem fuel_big {n : Nat} (h : n < 2 ^ 4000) : n < fuel := h

/-! ### statements -/
def sNext : DenS := fun ρ h => some (.nx, ρ, h)
def sSeq (φ ψ : DenS) : DenS := fun ρ h => (φ ρ h).bind fun p => match p.1 with | .nx => ψ p.2.1 p.2.2 | f => some (f, p.2.1, p.2.2)
def sDrop (φ : Den) : DenS := fun ρ h => (φ ρ h).map fun p => (.nx, ρ, p.2)
def sRet (φ : Den) : DenS := fun ρ h => (φ ρ h).map fun p => (.rt p.1, ρ, p.2)
def sRetN : DenS := fun ρ h => some (.rt .non, ρ, h)
def sBrk : DenS := fun ρ h => some (.bk, ρ, h)
def sCnt : DenS := fun ρ h => some (.ct, ρ, h)
def sIf (α : DenT) (φ ψ : DenS) : DenS := fun ρ h => (α ρ h).bind fun p => if p.1 = true then φ ρ p.2 else ψ ρ p.2
def sAsg (φ : Den) (γ : DenG) : DenS := fun ρ h => (φ ρ h).bind fun p => (γ p.1 ρ p.2).map fun q => (.nx, q.1, q.2)
def sPar (i j : Nat) (l : DenL) : DenS := fun ρ h => (l ρ h).bind fun p => match p.1 with | [a, b] => some (.nx, (ρ.set i (some a)).set j (some b), p.2) | _ => none
def sPar3 (i j k : Nat) (l : DenL) : DenS := fun ρ h => (l ρ h).bind fun p => match p.1 with | [a, b, c] => some (.nx, ((ρ.set i (some a)).set j (some b)).set k (some c), p.2) | _ => none
def sAug (i : Nat) (g : D → D → Sto → Option (D × Sto)) (φ : Den) : DenS := fun ρ h => (dOp g (dVar i) φ ρ h).map fun p => (.nx, ρ.set i (some p.1), p.2)
def sAugS (g : D → D → Sto → Option (D × Sto)) (a b φ : Den) : DenS := fun ρ h => (a ρ h).bind fun p => (b ρ p.2).bind fun q => (ixD p.1 q.1 q.2).bind fun x => (φ ρ x.2).bind fun y => (g x.1 y.1 y.2).bind fun z => (setM p.1 q.1 z.1 z.2).map fun h' => (.nx, ρ, h')
def loopW (c : DenT) (b : DenS) : Nat → DenS
  | 0, _, _ => none
  | n + 1, ρ, h => (c ρ h).bind fun p => if p.1 = true then (b ρ p.2).bind fun q => match q.1 with
      | .nx => loopW c b n q.2.1 q.2.2
      | .ct => loopW c b n q.2.1 q.2.2
      | .bk => some (.nx, q.2.1, q.2.2)
      | .rt d => some (.rt d, q.2.1, q.2.2)
    else some (.nx, ρ, p.2)
def sWhile (n : Nat) (c : DenT) (b : DenS) : DenS := loopW c b n
/-- what is walked -/
abbrev DenI := Rho → Sto → Option (List D × Sto)
def loopF (γ : DenG) (b : DenS) : List D → DenS
  | [], ρ, h => some (.nx, ρ, h)
  | d :: ds, ρ, h => (γ d ρ h).bind fun p => (b p.1 p.2).bind fun q => match q.1 with
      | .nx => loopF γ b ds q.2.1 q.2.2
      | .ct => loopF γ b ds q.2.1 q.2.2
      | .bk => some (.nx, q.2.1, q.2.2)
      | .rt d => some (.rt d, q.2.1, q.2.2)
def sFor (ψ : DenI) (γ : DenG) (b : DenS) : DenS := fun ρ h => (ψ ρ h).bind fun p => loopF γ b p.1 ρ p.2

section
variable {X : Cx} {K : PySem.W.Frag} {st : Stmt} {rest : List Stmt} {φs ψs : DenS} {e : Expr} {es : List Expr} {φ ψ : Den} {α : DenT} {γ : DenG} {l : DenL} {own : List Nat} {pos : Pos}
theorem PostS.of {W W0 : Wd} {ρ : Rho} {h : Sto} {D : Ends} {f : Fl} (P : PostS K W ρ h D f) (le : W.le W0) : PostS K W0 ρ h D f := by
  cases f with
  | nx => exact fun σ H W' l A => P σ H W' (le.trans l) A
  | bk => exact fun σ H W' l A => P σ H W' (le.trans l) A
  | ct => exact fun σ H W' l A => P σ H W' (le.trans l) A
  | rt d => exact fun v H W' l S r => P v H W' (le.trans l) S r
theorem b_nil : PSs X [] (tEvS X.K sNext) := pss_nil.impD fun D σ H hh => by
  obtain ⟨ρ, h, W, f, ρ', h', A, e, P⟩ := hh
  cases e
  exact P σ H W (.refl _) A
theorem b_one (h : PS X st (tEvS X.K φs)) : PSs X [st] (tEvS X.K φs) := pss_one h
theorem b_cons (h1 : PS X st (tEvS X.K φs)) (h2 : PSs X rest (tEvS X.K ψs)) : PSs X (st :: rest) (tEvS X.K (sSeq φs ψs)) := (pss_cons h1 h2).impD fun D σ H hh => by
  obtain ⟨ρ, h, W, f, ρ', h', A, e, P⟩ := hh
  unfold sSeq at e
  obtain ⟨⟨f1, ρ1, h1⟩, e1, e⟩ := Option.bind_eq_some_iff.mp e
  refine ⟨ρ, h, W, f1, ρ1, h1, A, e1, ?_⟩
  cases f1 with
  | nx => exact fun σ1 H1 W1 l1 A1 => ⟨ρ1, h1, W1, f, ρ', h', A1, e, P.of l1⟩
  | rt d => cases e; exact P
  | bk => cases e; exact P
  | ct => cases e; exact P
theorem b_pass : PS X (.Pass pos) (tEvS X.K sNext) := ps_pass.impD fun D σ H hh => by
  obtain ⟨ρ, h, W, f, ρ', h', A, e, P⟩ := hh
  cases e
  exact P σ H W (.refl _) A
theorem b_doc {x : Str} {j : Nat} {p2 : Pos} : PS X (.Expr (.Constant (.str x) j pos) p2) (tEvS X.K sNext) := ps_doc.impD fun D σ H hh => by
  obtain ⟨ρ, h, W, f, ρ', h', A, e, P⟩ := hh
  cases e
  exact P σ H W (.refl _) A
theorem b_brk : PS X (.Break pos) (tEvS X.K sBrk) := ps_break.impD fun D σ H hh => by
  obtain ⟨ρ, h, W, f, ρ', h', A, e, P⟩ := hh
  cases e
  exact P σ H W (.refl _) A
theorem b_cnt : PS X (.Continue pos) (tEvS X.K sCnt) := ps_continue.impD fun D σ H hh => by
  obtain ⟨ρ, h, W, f, ρ', h', A, e, P⟩ := hh
  cases e
  exact P σ H W (.refl _) A
theorem b_expr (he : PE X e (tEv X.K φ)) (hs : swapsWith e none pos.line X.env = pure false := by rfl) : PS X (.Expr e pos) (tEvS X.K (sDrop φ)) := (ps_expr he hs).impD fun D σ H hh => by
  obtain ⟨ρ, h, W, f, ρ', h', A, e, P⟩ := hh
  obtain ⟨⟨d, h1⟩, e1, e2⟩ := Option.map_eq_some_iff.mp e
  cases e2
  exact ⟨ρ, h, W, d, _, A, e1, fun v H1 W1 l1 S1 r1 => P σ H1 W1 l1 (A.step l1 S1)⟩
theorem b_ret (he : PE X e (tEv X.K φ)) : PS X (.Return (some e) pos) (tEvS X.K (sRet φ)) := (ps_ret he).impD fun D σ H hh => by
  obtain ⟨ρ, h, W, f, ρ', h', A, e, P⟩ := hh
  obtain ⟨⟨d, h1⟩, e1, e2⟩ := Option.map_eq_some_iff.mp e
  cases e2
  exact ⟨ρ, h, W, d, _, A, e1, P⟩
theorem b_retN : PS X (.Return none pos) (tEvS X.K sRetN) := ps_retN.impD fun D σ H hh => by
  obtain ⟨ρ, h, W, f, ρ', h', A, e, P⟩ := hh
  cases e
  exact P .non H W (.refl _) A.s (rel_non.mpr rfl)
theorem b_if {c : Expr} {a b : List Stmt} (hc : PT X c (tEvT X.K α)) (ha : PSs X a (tEvS X.K φs)) (hb : PSs X b (tEvS X.K ψs)) : PS X (.If c a b pos) (tEvS X.K (sIf α φs ψs)) := (ps_if hc ha hb).impD fun D σ H hh => by
  obtain ⟨ρ, h, W, f, ρ', h', A, e, P⟩ := hh
  unfold sIf at e
  obtain ⟨⟨k, h1⟩, e1, e⟩ := Option.bind_eq_some_iff.mp e
  refine ⟨ρ, h, W, k, h1, A, e1, fun H1 W1 l1 S1 => ?_⟩
  cases k with
  | true =>
    rw [if_pos rfl] at e ⊢
    exact ⟨ρ, h1, W1, f, ρ', h', A.step l1 S1, e, P.of l1⟩
  | false =>
    rw [if_neg Bool.false_ne_true] at e ⊢
    exact ⟨ρ, h1, W1, f, ρ', h', A.step l1 S1, e, P.of l1⟩
theorem asg_imp {D : Ends} {σ : L2.St} {H : Hp} : tEvS K (sAsg φ γ) D σ H → tAsg (tEv K φ) (tEvG K own γ) D σ H := fun hh => by
  obtain ⟨ρ, h, W, f, ρ', h', A, e, P⟩ := hh
  unfold sAsg at e
  obtain ⟨⟨d, h1⟩, e1, e⟩ := Option.bind_eq_some_iff.mp e
  obtain ⟨⟨ρ2, h2⟩, e2, e3⟩ := Option.map_eq_some_iff.mp e
  cases e3
  exact ⟨ρ, h, W, d, h1, A, e1, fun v H1 W1 l1 S1 r1 => ⟨d, ρ, h1, W1, _, _, A.step l1 S1, r1, e2, fun σ2 H2 W2 l2 A2 _ => P σ2 H2 W2 (l1.trans l2) A2⟩⟩
theorem b_asg {tg : Expr} (own : List Nat) (he : PE X e (tEv X.K φ)) (hg : PG X tg (tEvG X.K own γ)) (hs : swapsWithSole [tg] e pos.line X.env = pure false := by rfl) (hw : swappedStores [tg] e X.env = pure none := by rfl)
    (h1 : (assignEach [tg] X.env).map (·.2) = [assign tg X.env] := by rfl) : PS X (.Assign [tg] e pos) (tEvS X.K (sAsg φ γ)) := (ps_asg he hg hs hw h1).impD fun D σ H hh => asg_imp hh
theorem b_set (i : Nat) {x : Str} {p2 : Pos} (hN : X.N.Nodup) (he : PE X e (tEv X.K φ)) (hi : X.N[i]? = some x := by rfl) (hx : Loc X.env.scope x := by first | exact Or.inl rfl | exact Or.inr rfl) (hs : swapsWith e (some (.Name x p2)) pos.line X.env = pure false := by rfl)
    (hf : X.fn x = true ∨ X.env.scope.names.lookup x = some .local := by first | exact .inl rfl | exact .inr rfl | assumption) : PS X (.Assign [.Name x p2] e pos) (tEvS X.K (sAsg φ (gVar i))) := (ps_set hN hi hx he hs hf).impD fun D σ H hh => by
  obtain ⟨ρ, h, W, f, ρ', h', A, e, P⟩ := hh
  unfold sAsg at e
  obtain ⟨⟨d, h1⟩, e1, e⟩ := Option.bind_eq_some_iff.mp e
  obtain ⟨⟨ρ2, h2⟩, e2, e3⟩ := Option.map_eq_some_iff.mp e
  cases e2
  cases e3
  exact ⟨ρ, h, W, d, _, A, e1, fun v H1 W1 l1 S1 r1 => P _ H1 W1 l1 ⟨(A.e.mono l1).set r1 i, S1⟩⟩
theorem b_par (i j : Nat) {x y : Str} {a b : Expr} {px py pt pt2 : Pos} {kt k2 : Nat} (hc : X.calm = true) (hN : X.N.Nodup) (ha : PA X [a, b] (tEvL X.K l)) (hi : X.N[i]? = some x := by rfl) (hj : X.N[j]? = some y := by rfl) (hij : i ≠ j := by decide)
    (hx : X.env.scope.names.lookup x = some .local := by rfl) (hy : X.env.scope.names.lookup y = some .local := by rfl)
    (hw : swappedStores [.Tuple [.Name x px, .Name y py] kt pt] (.Tuple [a, b] k2 pt2) X.env = pure (some [x, y]) := by rfl)
    (hs : swapsWithSole [.Tuple [.Name x px, .Name y py] kt pt] (.Tuple [a, b] k2 pt2) pos.line X.env = pure false := by rfl) :
    PS X (.Assign [.Tuple [.Name x px, .Name y py] kt pt] (.Tuple [a, b] k2 pt2) pos) (tEvS X.K (sPar i j l)) := (ps_par hc hN hi hj hij hx hy ha hw hs).impD fun D σ H hh => by
  obtain ⟨ρ, h, W, f, ρ', h', A, e, P⟩ := hh
  unfold sPar at e
  obtain ⟨⟨ds, h1⟩, e1, e⟩ := Option.bind_eq_some_iff.mp e
  obtain ⟨d1, d2, rfl⟩ : ∃ d1 d2, ds = [d1, d2] := by
    match ds, e with
    | [d1, d2], _ => exact ⟨d1, d2, rfl⟩
  cases e
  refine ⟨ρ, h, W, _, _, A, e1, fun vs H1 W1 l1 S1 r1 => ?_⟩
  obtain ⟨v, u, rfl, r2, r3⟩ := rels2 r1
  exact ⟨v, u, rfl, P _ H1 W1 l1 ⟨((A.e.mono l1).set r2 i).set r3 j, S1⟩⟩
/-- name op= e -/
theorem b_aug (i : Nat) {x : Str} {p2 : Pos} {op : Operator} {g : D → D → Sto → Option (D × Sto)} (hN : X.N.Nodup) (ho : PIp X op (rD X.K g)) (he : PE X e (tEv X.K φ)) (hi : X.N[i]? = some x := by rfl) (hx : Loc X.env.scope x := by first | exact Or.inl rfl | exact Or.inr rfl)
    (hf : X.fn x = true ∨ X.env.scope.names.lookup x = some .local := by first | exact .inl rfl | exact .inr rfl | assumption) : PS X (.AugAssign (.Name x p2) op e pos) (tEvS X.K (sAug i g φ)) := (ps_aug hN hi hx he ho hf).impD fun D σ H hh => by
  obtain ⟨ρ, h, W, f, ρ', h', A, e, P⟩ := hh
  unfold sAug at e
  obtain ⟨⟨d, h1⟩, e1, e2⟩ := Option.map_eq_some_iff.mp e
  cases e2
  unfold dOp at e1
  obtain ⟨⟨d1, h1⟩, f1, e⟩ := Option.bind_eq_some_iff.mp e1
  obtain ⟨⟨d2, h2⟩, f2, e⟩ := Option.bind_eq_some_iff.mp e
  unfold dVar at f1
  cases q : ρ[i]? with
  | none => rw [q] at f1; cases f1
  | some o =>
    cases o with
    | none => rw [q] at f1; cases f1
    | some d' =>
      rw [q] at f1; cases f1
      obtain ⟨v, q1, r⟩ := A.e.get i _ q
      exact ⟨v, q1, ρ, _, W, d2, h2, A, f2, fun u H1 W1 l1 S1 r1 => ⟨W1, h2, _, d2, _, _, S1, Rel.mono l1 _ _ r, r1, e, fun w H2 W2 l2 S2 r2 => P _ H2 W2 (l1.trans l2) ⟨(A.e.mono (l1.trans l2)).set r2 i, S2⟩⟩⟩
def iaddD (x y : D) (h : Sto) : Option (D × Sto) := match x, y with | .int i, .int j => some (.int (i + j), h) | _, _ => none
theorem ip_iadd : PIp X .Add (rD X.K iaddD) := fun pins s σ H x y v u Q I r1 r2 hh => by
  obtain ⟨W, h, d1, d2, d, h', S, q1, q2, e, P⟩ := hh
  unfold iaddD at e
  split at e
  · cases e
    rw [rel_int] at q1 q2
    exact ip_add pins s σ H x y v u Q I r1 r2 ⟨_, _, q1, q2, P.at S (rel_int.mpr rfl)⟩
  · cases e
theorem ip_subD : PIp X .Sub (rD X.K subD) := fun pins s σ H x y v u Q I r1 r2 hh => by
  obtain ⟨W, h, d1, d2, d, h', S, q1, q2, e, P⟩ := hh
  unfold subD at e
  split at e
  · cases e
    rw [rel_int] at q1 q2
    exact ip_sub pins s σ H x y v u Q I r1 r2 ⟨_, _, q1, q2, P.at S (rel_int.mpr rfl)⟩
  · cases e
/-- xs[i], by values -/
theorem get_list : PGet X (rIxL X.K) := by
  intro pins s σ H o i ov iv Q I rx ry h
  obtain ⟨p, xs, k, z, rfl, rfl, hq, he, q⟩ := h
  cases rx
  obtain ⟨t, rfl⟩ := ry
  obtain ⟨its, r, pl, hz⟩ := I.list hq
  obtain ⟨j, h1, h2, h3, h4, h5⟩ := atI_get he
  obtain ⟨w, ew, rw'⟩ := r.get h2
  have hl := r.length
  have hn := line63
  have fin : EP X pins σ Q w s := ⟨z, H, I, rw', q⟩
  by_cases h0 : 0 ≤ k
  · have hj : k.toNat = j := by
      rw [seqIndex_of h0 h5] at h1
      exact Option.some.inj h1
    exact wpAny_getItem_list pl.isList h0 (by omega) (by rw [hj]; simpa using ew) fin
  · have hj : (k + (its.toArray.size : Int)).toNat = j := by
      rw [seqIndex_neg (by omega) h4] at h1
      rw [List.size_toArray, ← hl]
      exact Option.some.inj h1
    exact wpAny_getItem_list_neg pl.isList (by omega) (by rw [List.size_toArray] <;> omega) (by omega) (by rw [hj]; simpa using ew) fin
theorem b_augS {o i : Expr} {χ : Den} {op : Operator} {p2 : Pos} {g : D → D → Sto → Option (D × Sto)} (ho : PE X o (tEv X.K φ)) (hi : PE X i (tEv X.K ψ)) (hp : PIp X op (rD X.K g)) (he : PE X e (tEv X.K χ))
    (ha : ∀ ov iv new, augStore i ov iv new = (do holding [new, ov, iv] (setItem ov iv new); release [new, ov, iv] []; pure .next) := by intros; rfl) : PS X (.AugAssign (.Subscript o i p2) op e pos) (tEvS X.K (sAugS g φ ψ χ)) := (ps_augS ho hi get_list he hp set_list ha).impD fun D σ H hh => by
  obtain ⟨ρ, h, W, f, ρ', h', A, e, P⟩ := hh
  unfold sAugS at e
  obtain ⟨⟨d1, h1⟩, e1, e⟩ := Option.bind_eq_some_iff.mp e
  obtain ⟨⟨d2, h2⟩, e2, e⟩ := Option.bind_eq_some_iff.mp e
  obtain ⟨⟨d3, h3⟩, e3, e⟩ := Option.bind_eq_some_iff.mp e
  obtain ⟨⟨d4, h4⟩, e4, e⟩ := Option.bind_eq_some_iff.mp e
  obtain ⟨⟨d5, h5⟩, e5, e⟩ := Option.bind_eq_some_iff.mp e
  obtain ⟨h6, e6, e7⟩ := Option.map_eq_some_iff.mp e
  cases e7
  have setsRef : ∃ n, d1 = .ref n := by
    cases d1 with
    | ref n => exact ⟨n, rfl⟩
    | _ => cases e6
  obtain ⟨n, rfl⟩ := setsRef
  refine ⟨ρ, h, W, _, h1, A, e1, fun v H1 W1 l1 S1 r1 => ⟨ρ, h1, W1, d2, h2, A.step l1 S1, e2, fun u H2 W2 l2 S2 r2 => ?_⟩⟩
  have l12 := l1.trans l2
  obtain ⟨i0, rfl⟩ : ∃ i0, d2 = .int i0 := by
    cases d2 with
    | int i0 => exact ⟨i0, rfl⟩
    | _ => cases e6
  replace e3 : ((itemsOf h2 (.ref n)).bind fun ds => (L2.atI ds i0).map fun d => (d, h2)) = some (d3, h3) := e3
  · obtain ⟨ds, f1, e3⟩ := Option.bind_eq_some_iff.mp e3
    obtain ⟨d', f2, f3⟩ := Option.map_eq_some_iff.mp e3
    cases f3
    have r1' := Rel.mono l2 _ _ r1
    obtain ⟨a, vs, rfl, s, q⟩ := mlist_seq (d := .ref n) S2 r1' f1
    obtain ⟨w, f4, r4⟩ := q.atI f2
    have r2' := rel_int.mp r2
    refine ⟨a, vs, _, w, rfl, r2', SqL.of s, f4, ρ, _, W2, d4, h4, A.step l12 S2, e4, fun z H3 W3 l3 S3 r3 => ⟨W3, h4, _, d4, d5, h5, S3, Rel.mono l3 _ _ r4, r3, e5, fun y H4 W4 l4 S4 r5 => ?_⟩⟩
    have l := l3.trans l4
    exact setM_imp S4 (Rel.mono l _ _ r1') (Rel.mono l _ _ r2) r5 e6 fun H5 S5 => P σ H5 W4 (l12.trans l) (A.step (l12.trans l) S5)
/-- while -/
theorem b_while {c : Expr} {body : List Stmt} (n : Nat) (hp : PassesOwn (model X.prog X.w) X.A X.env X.xe) (hc : PT X c (tEvT X.K α)) (hb : PSs X body (tEvS X.K φs)) : PS X (.While c body [] pos) (tEvS X.K (sWhile n α φs)) := (ps_while hp hc hb).impD fun D σ H hh => by
  obtain ⟨ρ, h, W, f, ρ', h', A, e, P⟩ := hh
  refine ⟨fun m σ H => ∃ ρ h W0, W.le W0 ∧ At X.K W0 ρ h σ H ∧ loopW α φs m ρ h = some (f, ρ', h'), ⟨n, ρ, h, W, .refl _, A, e⟩, ?_⟩
  rintro m σ H ⟨ρ, h, W0, l0, A, e⟩
  cases m with
  | zero => cases e
  | succ m =>
    unfold loopW at e
    obtain ⟨⟨k, h1⟩, e1, e⟩ := Option.bind_eq_some_iff.mp e
    refine ⟨ρ, h, W0, k, h1, A, e1, fun H1 W1 l1 S1 => ?_⟩
    cases k with
    | false =>
      rw [if_neg Bool.false_ne_true] at e ⊢
      cases e
      exact P σ H1 W1 (l0.trans l1) (A.step l1 S1)
    | true =>
      rw [if_pos rfl] at e ⊢
      obtain ⟨⟨f2, ρ2, h2⟩, e2, e⟩ := Option.bind_eq_some_iff.mp e
      refine ⟨fun σ H => ∃ ρ h W0, W.le W0 ∧ At X.K W0 ρ h σ H ∧ loopW α φs m ρ h = some (f, ρ', h'), fun σ' H' q => ⟨m, Nat.lt_succ_self _, q⟩, ρ, h1, W1, f2, ρ2, h2, A.step l1 S1, e2, ?_⟩
      have l := l0.trans l1
      cases f2 with
      | nx => exact fun σ3 H3 W3 l3 A3 => ⟨ρ2, h2, W3, l.trans l3, A3, e⟩
      | ct => exact fun σ3 H3 W3 l3 A3 => ⟨ρ2, h2, W3, l.trans l3, A3, e⟩
      | bk => cases e; exact fun σ3 H3 W3 l3 A3 => P σ3 H3 W3 (l.trans l3) A3
      | rt d => cases e; exact fun v H3 W3 l3 S3 r3 => P v H3 W3 (l.trans l3) S3 r3
end

/-! ### what is walked -/
/-- J gives just ds, as long as what is frozen in W stays -/
structure WalkD (K : PySem.W.Frag) (J : It) (W : Wd) (ds : List D) : Prop where
  goes : ∀ i H, i < ds.length → Same W.F H → J.go i H
  stops : ∀ H, Same W.F H → J.stop ds.length H
  yields : ∀ i H x H' d, ds[i]? = some d → Same W.F H → J.yld i H x H' → (H' = H ∧ Rel K W d x) ∨ ∃ T xs es, x = .ref T ∧ H T = none ∧ H' = upd H T (.tup xs) ∧ d = .tup es ∧ Rels K W es xs
def tIt (K : PySem.W.Frag) (ψ : DenI) : TI := fun σ H R => ∃ ρ h W ds h', At K W ρ h σ H ∧ ψ ρ h = some (ds, h') ∧ ∀ J H' W', W.le W' → SI K H' W' h' → WalkD K J W' ds → R J H'
theorem WalkD.turn {K : PySem.W.Frag} {J : It} {W W2 : Wd} {ds : List D} {i : Nat} {H H' : Hp} {x : V} {d : D} {h : Sto} (w : WalkD K J W ds) (e : ds[i]? = some d) (S : SI K H W2 h) (l : W.sub W2) (y : J.yld i H x H') : ∃ W3, W2.le W3 ∧ SI K H' W3 h ∧ Rel K W3 d x := by
  rcases w.yields i H x H' d e (l.F.trans S.sub) y with ⟨rfl, r⟩ | ⟨T, xs, es, rfl, hT, rfl, rfl, r⟩
  · exact ⟨W2, .refl _, S, Rel.mono' l _ _ r⟩
  · obtain ⟨S3, l3⟩ := S.frz (o := .tup xs) hT
    exact ⟨_, l3, S3, rel_tup.mpr ⟨T, xs, rfl, SqT.of upd_same, Rels.mono' (l.trans l3.s) _ _ r⟩⟩
section
variable {X : Cx} {K : PySem.W.Frag} {tg iter : Expr} {body : List Stmt} {ψ : DenI} {γ : DenG} {φs : DenS} {pos : Pos}
theorem b_for (own : List Nat) (hp : PassesOwn (model X.prog X.w) X.A X.env X.xe) (hc : X.calm = true) (hi : PI X tg iter (tIt X.K ψ)) (hg : PG X tg (tEvG X.K own γ)) (hb : PSs X body (tEvS X.K φs))
    (hs : ∀ x, foldedSetIterable iter X.env x = pure x := by intro _; rfl) : PS X (.For tg iter body [] pos) (tEvS X.K (sFor ψ γ φs)) := (ps_for hp hc hi hg hb hs).impD fun D σ H hh => by
  obtain ⟨ρ, h, W, f, ρ', h', A, e, P⟩ := hh
  unfold sFor at e
  obtain ⟨⟨ds, h1⟩, e1, e⟩ := Option.bind_eq_some_iff.mp e
  refine ⟨ρ, h, W, ds, h1, A, e1, fun J H1 W1 l1 S1 w => ?_⟩
  refine ⟨fun i m σ H => m = ds.length - i ∧ i ≤ ds.length ∧ ∃ ρ h W0, W1.le W0 ∧ At X.K W0 ρ h σ H ∧ loopF γ φs (ds.drop i) ρ h = some (f, ρ', h'), ⟨ds.length, by simp, Nat.zero_le _, ρ, h1, W1, .refl _, A.step l1 S1, by simpa using e⟩, ?_⟩
  rintro i m σ H ⟨rfl, hi, ρ, h, W0, l0, A, e⟩
  by_cases hlt : i < ds.length
  · refine .inr ⟨w.goes i H hlt (l0.F.trans A.s.sub), fun σ H => ∃ ρ h W0, W1.le W0 ∧ At X.K W0 ρ h σ H ∧ loopF γ φs (ds.drop (i + 1)) ρ h = some (f, ρ', h'), fun σ' H' q => ⟨ds.length - (i + 1), by omega, rfl, hlt, q⟩, fun x H' y => ?_⟩
    obtain ⟨W3, l3, S3, r3⟩ := w.turn (List.getElem?_eq_getElem hlt) A.s l0.s y
    rw [List.drop_eq_getElem_cons hlt] at e
    obtain ⟨⟨ρ4, h4⟩, e4, e⟩ := Option.bind_eq_some_iff.mp e
    obtain ⟨⟨f5, ρ5, h5⟩, e5, e⟩ := Option.bind_eq_some_iff.mp e
    refine ⟨ds[i], ρ, h, W3, ρ4, h4, A.step l3 S3, r3, e4, fun σ4 H4 W4 l4 A4 _ => ⟨ρ4, h4, W4, f5, ρ5, h5, A4, e5, ?_⟩⟩
    have l := l0.trans (l3.trans l4)
    cases f5 with
    | nx => exact fun σ3 H3 W3 l3 A3 => ⟨ρ5, h5, W3, l.trans l3, A3, e⟩
    | ct => exact fun σ3 H3 W3 l3 A3 => ⟨ρ5, h5, W3, l.trans l3, A3, e⟩
    | bk => cases e; exact fun σ3 H3 W3 l3 A3 => P σ3 H3 W3 (l1.trans (l.trans l3)) A3
    | rt d => cases e; exact fun v H3 W3 l3 S3 r3 => P v H3 W3 (l1.trans (l.trans l3)) S3 r3
  · have hn : i = ds.length := by omega
    subst hn
    rw [List.drop_length] at e
    cases e
    exact .inl ⟨w.stops H (l0.F.trans A.s.sub), P σ H W0 (l1.trans l0) A⟩
end

/-! ### list comprehensions -/
def wipeR (ρ : Rho) : List Nat → Rho
  | [] => ρ
  | v :: vs => (wipeR ρ vs).set v none
theorem RelE.wipe {K : PySem.W.Frag} {W : Wd} {ρ : Rho} {σ : L2.St} (r : RelE K W ρ σ) : ∀ vs : List Nat, RelE K W (wipeR ρ vs) (L2.wipe σ vs)
  | [] => r
  | v :: vs => (RelE.wipe r vs).clear v none
def compL (γ : DenG) (τ : DenT) (φ : Den) (ρ : Rho) : List D → Sto → Option (List D × Sto)
  | [], h => some ([], h)
  | d :: ds, h => (γ d ρ h).bind fun p => (τ p.1 p.2).bind fun q => if q.1 = true then (φ p.1 q.2).bind fun r => (compL γ τ φ ρ ds r.2).map fun s => (r.1 :: s.1, s.2) else compL γ τ φ ρ ds q.2
def dComp (own : List Nat) (ψ : DenI) (γ : DenG) (τ : DenT) (φ : Den) : Den := fun ρ h => (ψ ρ h).bind fun p => if p.1.length ≤ sizeLine then (compL γ τ φ (wipeR ρ own) p.1 p.2).map fun q => (.lst q.1, q.2) else none
/-- .. a list that is to be changed -/
def dCompM (own : List Nat) (ψ : DenI) (γ : DenG) (τ : DenT) (φ : Den) : Den := fun ρ h => (ψ ρ h).bind fun p => if p.1.length ≤ sizeLine then (compL γ τ φ (wipeR ρ own) p.1 p.2).map fun q => (.ref q.2.length, q.2 ++ [.lst q.1]) else none
def tauY : DenT := fun _ h => some (true, h)
section
variable {K : PySem.W.Frag} {W : Wd} {H : Hp} {h : Sto} {p : Addr}
theorem Wd.subO (W : Wd) (O' : Hp) : W.sub { W with O := O' } := ⟨Same.refl _, List.prefix_refl _⟩
/-- a thing that is held apart -/
theorem SI.hold {o : HO} (S : SI K H W h) (hp : H p = none) : SI K (upd H p o) { W with O := upd W.O p o } h := by
  have hF : W.F p = none := S.sub.free hp
  refine ⟨fun b u e => ?_, S.len, fun n ds e => ?_, S.out, S.inj, fun b u e => ?_, fun b u e => ?_, S.gone⟩
  · rw [upd_ne (ne_of_none (show W.F b = some u from e) hF)]; exact S.sub b u e
  · obtain ⟨a, vs, e1, e2, r⟩ := S.obj n ds e
    exact ⟨a, vs, e1, by rw [upd_ne (ne_of_none e2 hp)]; exact e2, Rels.mono' (W.subO _) _ _ r⟩
  · have e' : upd W.O p o b = some u := e
    by_cases hb : b = p
    · subst hb; rw [upd_same] at e' ⊢; exact e'
    · rw [upd_ne hb] at e' ⊢; exact S.oth b u e'
  · have e' : upd W.O p o b = some u := e
    by_cases hb : b = p
    · subst hb
      refine ⟨hF, fun n q => ?_⟩
      obtain ⟨vs, z⟩ := S.has q
      rw [hp] at z; cases z
    · rw [upd_ne hb] at e'; exact S.outO b u e'
/-- .. changed -/
theorem SI.hput {O : Hp} {o o' : HO} (S : SI K H { W with O := upd O p o } h) : SI K (upd H p o') { W with O := upd O p o' } h := by
  have hO : upd O p o p = some o := upd_same
  have hp := S.outO p o hO
  refine ⟨fun b u e => ?_, S.len, fun n ds e => ?_, S.out, S.inj, fun b u e => ?_, fun b u e => ?_, S.gone⟩
  · rw [upd_ne (ne_of_none (show W.F b = some u from e) hp.1)]; exact S.sub b u e
  · obtain ⟨a, vs, e1, e2, r⟩ := S.obj n ds e
    have ha : a ≠ p := fun z => hp.2 n (by rw [← z]; exact e1)
    exact ⟨a, vs, e1, by rw [upd_ne ha]; exact e2, Rels.mono' (Wd.subO { W with O := upd O p o } (upd O p o')) _ _ r⟩
  · have e' : upd O p o' b = some u := e
    by_cases hb : b = p
    · subst hb; rw [upd_same] at e' ⊢; exact e'
    · rw [upd_ne hb] at e' ⊢
      exact S.oth b u (by show upd O p o b = some u; rw [upd_ne hb]; exact e')
  · have e' : upd O p o' b = some u := e
    by_cases hb : b = p
    · subst hb; exact hp
    · rw [upd_ne hb] at e'
      exact S.outO b u (by show upd O p o b = some u; rw [upd_ne hb]; exact e')
/-- .. let go -/
theorem SI.unhold {O : Hp} {o : HO} (S : SI K H { W with O := upd O p o } h) (hp : O p = none) : SI K H { W with O := O } h := by
  refine ⟨S.sub, S.len, fun n ds e => ?_, S.out, S.inj, fun b u e => ?_, fun b u e => ?_, S.gone⟩
  · obtain ⟨a, vs, e1, e2, r⟩ := S.obj n ds e
    exact ⟨a, vs, e1, e2, Rels.mono' (Wd.subO { W with O := upd O p o } O) _ _ r⟩
  · have hb := ne_of_none (show O b = some u from e) hp
    exact S.oth b u (by show upd O p o b = some u; rw [upd_ne hb]; exact e)
  · have hb := ne_of_none (show O b = some u from e) hp
    exact S.outO b u (by show upd O p o b = some u; rw [upd_ne hb]; exact e)
/-- a thing of the heap that nobody else holds is frozen -/
theorem SI.adopt {o : HO} (S : SI K H W h) (hp : H p = some o) (hF : W.F p = none) (hm : ∀ n : Nat, W.ms[n]? ≠ some p) (hO : W.O p = none) : SI K H { W with F := upd W.F p o } h ∧ W.le { W with F := upd W.F p o } := by
  have le : W.le { W with F := upd W.F p o } := ⟨fun b u e => by
    show upd W.F p o b = some u
    rw [upd_ne (ne_of_none e hF)]; exact e, List.prefix_refl _, rfl⟩
  refine ⟨⟨fun b u e => ?_, S.len, fun n ds e => ?_, fun n a ds e el => ?_, S.inj, S.oth, fun b u e => ⟨?_, (S.outO b u e).2⟩, fun n a e el => ?_⟩, le⟩
  · have e' : upd W.F p o b = some u := e
    by_cases hb : b = p
    · subst hb; rw [upd_same] at e'; cases e'; exact hp
    · rw [upd_ne hb] at e'; exact S.sub b u e'
  · obtain ⟨a, vs, e1, e2, r⟩ := S.obj n ds e
    exact ⟨a, vs, e1, e2, Rels.mono le _ _ r⟩
  · show upd W.F p o a = none
    rw [upd_ne (fun z => hm n (by rw [← z]; exact e))]; exact S.out n a ds e el
  · show upd W.F p o b = none
    rw [upd_ne (ne_of_none (show W.O b = some u from e) hO)]; exact (S.outO b u e).1
  · obtain ⟨vs, z⟩ := S.gone n a e el
    exact ⟨vs, by show upd W.F p o a = _; rw [upd_ne (ne_of_none z hF)]; exact z⟩
end
section
variable {X : Cx} {tg iter elt : Expr} {ifs : List Expr} {ψ : DenI} {γ : DenG} {τ : DenT} {φ : Den} {scope : Scope} {own : List (Str × Nat)} {pos : Pos}
/-- the loop of a comprehension: what it makes -/
theorem comp_imp {K : PySem.W.Frag} {os : List Nat} {σ : L2.St} {H1 : Hp} {ρ : Rho} {W W1 : Wd} {ds es : List D} {h1 h2 : Sto} {J : It} {Dd : Addr} {Qd : Hp → Prop} (E0 : RelE K W ρ σ) (l1 : W.le W1) (S1 : SI K H1 W1 h1) (w : WalkD K J W1 ds) (hD : H1 Dd = none)
    (hz : ds.length ≤ sizeLine) (e : compL γ τ φ (wipeR ρ os) ds h1 = some (es, h2))
    (P : ∀ H W2 acc, W1.le W2 → SI K H { W2 with O := upd W1.O Dd (.lst acc) } h2 → Rels K W2 es acc → Qd H) :
    ∃ Wf : Nat → Nat → Hp → Prop, (∃ m, Wf 0 m (upd H1 Dd (.lst []))) ∧ ∀ i m H, Wf i m H → (J.stop i H ∧ Qd H) ∨ (J.go i H ∧ ∃ Nx : Hp → Prop, (∀ H', Nx H' → ∃ m', m' < m ∧ Wf (i + 1) m' H') ∧
      ∀ x H', J.yld i H x H' → tEvG K os γ x (L2.wipe σ os) H' fun σ2 H2 => L2.wipe σ2 os = L2.wipe σ os ∧ tEvT K τ σ2 H2 fun b H3 =>
        if b = true then tEv K φ σ2 H3 fun y H4 => ∃ acc, H4 Dd = some (.lst acc) ∧ acc.length < sizeLine ∧ Nx (upd H4 Dd (.lst (acc ++ [y]))) else Nx H3) := by
  have hO1 : W1.O Dd = none := S1.oth.free hD
  refine ⟨fun i m H => m = ds.length - i ∧ i ≤ ds.length ∧ ∃ W2 h acc ee er, W1.le W2 ∧ SI K H { W2 with O := upd W1.O Dd (.lst acc) } h ∧ Rels K W2 ee acc ∧ acc.length ≤ i ∧ compL γ τ φ (wipeR ρ os) (ds.drop i) h = some (er, h2) ∧ ee ++ er = es,
    ⟨ds.length, by simp, Nat.zero_le _, W1, h1, [], [], es, .refl _, S1.hold hD, .nil, Nat.le_refl _, by simpa using e, rfl⟩, ?_⟩
  rintro i m H ⟨rfl, hi, W2, h, acc, ee, er, l2, S2, ra, hl, e, hes⟩
  by_cases hlt : i < ds.length
  · refine .inr ⟨w.goes i H hlt (l2.F.trans S2.sub), fun H => ∃ W2 h acc ee er, W1.le W2 ∧ SI K H { W2 with O := upd W1.O Dd (.lst acc) } h ∧ Rels K W2 ee acc ∧ acc.length ≤ i + 1 ∧ compL γ τ φ (wipeR ρ os) (ds.drop (i + 1)) h = some (er, h2) ∧ ee ++ er = es,
      fun H' q => ⟨ds.length - (i + 1), by omega, rfl, hlt, q⟩, fun x H' y => ?_⟩
    obtain ⟨W3, l3, S3, r3⟩ := w.turn (List.getElem?_eq_getElem hlt) S2 (l2.s.trans (Wd.subO W2 _)) y
    rw [List.drop_eq_getElem_cons hlt] at e
    unfold compL at e
    obtain ⟨⟨ρ4, h4⟩, e4, e⟩ := Option.bind_eq_some_iff.mp e
    obtain ⟨⟨b, h5⟩, e5, e⟩ := Option.bind_eq_some_iff.mp e
    have lE : W.sub W3 := l1.s.trans (l2.s.trans ((Wd.subO W2 _).trans l3.s))
    refine ⟨ds[i], wipeR ρ os, h, W3, ρ4, h4, ⟨(E0.mono' lE).wipe os, S3⟩, r3, e4, fun σ4 H4 W4 l4 A4 w4 => ⟨?_, ρ4, h4, W4, b, h5, A4, e5, fun H5 W5 l5 S5 => ?_⟩⟩
    · rw [w4]
      have idem : ∀ vs : List Nat, ∀ us : List Nat, (∀ v ∈ us, v ∈ vs) → L2.wipe (L2.wipe σ us) vs = L2.wipe σ vs := by
        intro vs us
        induction us with
        | nil => intro _; rfl
        | cons u us ih =>
          intro hu
          show L2.wipe ((L2.wipe σ us).set u none) vs = _
          rw [wipe_set (hu u List.mem_cons_self)]
          exact ih fun v hv => hu v (List.mem_cons_of_mem _ hv)
      exact idem os os fun _ h => h
    have l35 := l3.trans (l4.trans l5)
    have hO5 : W5.O = upd W1.O Dd (.lst acc) := l35.O
    cases b with
    | true =>
      replace e : ((φ ρ4 h5).bind fun r => (compL γ τ φ (wipeR ρ os) (ds.drop (i + 1)) r.2).map fun s => (r.1 :: s.1, s.2)) = some (er, h2) := e
      obtain ⟨⟨d6, h6⟩, e6, e⟩ := Option.bind_eq_some_iff.mp e
      obtain ⟨⟨es7, h7⟩, e7, e8⟩ := Option.map_eq_some_iff.mp e
      cases e8
      refine iteT ?_
      refine ⟨ρ4, h5, W5, d6, h6, A4.step l5 S5, e6, fun v H6 W6 l6 S6 r6 => ?_⟩
      have l36 := l35.trans l6
      have hO6 : W6.O = upd W1.O Dd (.lst acc) := l36.O
      have e6' : W6 = { W6 with O := upd W1.O Dd (.lst acc) } := by rw [← hO6]
      rw [e6'] at S6
      refine ⟨acc, S6.oth Dd _ upd_same, by omega, { W6 with O := W1.O }, h6, acc ++ [v], ee ++ [d6], es7, ⟨l2.F.trans l36.F, l2.ms.trans l36.ms, rfl⟩, ?_, ?_, by simp; omega, e7, by rw [← hes]; simp⟩
      · exact SI.hput (W := { W6 with O := W1.O }) S6
      · refine Rels.append ?_ (.cons ?_ .nil)
        · exact Rels.mono' ((Wd.subO W2 _).trans (l36.s.trans (Wd.subO W6 W1.O))) _ _ ra
        · exact Rel.mono' (Wd.subO W6 W1.O) _ _ r6
    | false =>
      replace e : compL γ τ φ (wipeR ρ os) (ds.drop (i + 1)) h5 = some (er, h2) := e
      refine iteF ?_
      have e5' : W5 = { W5 with O := upd W1.O Dd (.lst acc) } := by rw [← hO5]
      rw [e5'] at S5
      exact ⟨{ W5 with O := W1.O }, h5, acc, ee, er, ⟨l2.F.trans l35.F, l2.ms.trans l35.ms, rfl⟩, S5, Rels.mono' ((Wd.subO W2 _).trans (l35.s.trans (Wd.subO W5 W1.O))) _ _ ra, by omega, e, hes⟩
  · have hn : i = ds.length := by omega
    subst hn
    rw [List.drop_length] at e
    cases e
    rw [List.append_nil] at hes
    subst hes
    exact .inl ⟨w.stops H (l2.F.trans S2.sub), P H W2 acc l2 S2 ra⟩
theorem lc_imp {K : PySem.W.Frag} {os : List Nat} {σ : L2.St} {H : Hp} {Q : VK} (hh : tEv K (dComp os ψ γ τ φ) σ H Q) : tLc (tIt K ψ) (tEvG K os γ) (tEvT K τ) (tEv K φ) os σ H Q := by
  obtain ⟨ρ, h, W, d, h', A, e, P⟩ := hh
  unfold dComp at e
  obtain ⟨⟨ds, h1⟩, e1, e⟩ := Option.bind_eq_some_iff.mp e
  replace e : (if ds.length ≤ sizeLine then (compL γ τ φ (wipeR ρ os) ds h1).map fun q => (D.lst q.1, q.2) else none) = some (d, h') := e
  split at e
  · rename_i hz
    obtain ⟨⟨es, h2⟩, e2, e3⟩ := Option.map_eq_some_iff.mp e
    cases e3
    refine ⟨ρ, h, W, ds, h1, A, e1, fun J H1 W1 l1 S1 w D hD => comp_imp A.e l1 S1 w hD hz e2 fun H W2 acc l2 S2 ra => ?_⟩
    have hO1 : W1.O D = none := S1.oth.free hD
    have hp := S2.outO D _ upd_same
    have S3 := SI.unhold (W := { W2 with O := W1.O }) S2 hO1
    obtain ⟨S4, l4⟩ := S3.adopt (S2.oth D _ upd_same) hp.1 hp.2 hO1
    have l3 : W1.le { W2 with O := W1.O } := ⟨l2.F, l2.ms, rfl⟩
    refine P _ _ _ (l1.trans (l3.trans l4)) S4 (rel_lst.mpr ⟨D, acc, rfl, upd_same, ?_⟩)
    exact Rels.mono l4 _ _ (Rels.mono' (Wd.subO W2 W1.O) _ _ ra)
  · cases e
theorem v_comp (hc : X.calm = true) (hN : X.N.Nodup) (hi : PI X tg iter (tIt X.K ψ)) (ok : BlkOk X.N X.env.scope scope own)
    (hg : ∀ (s : Shared) (H : Hp) (C : Addr) (cl : List (Str × Addr)) (fp : List Addr), PG (X.blk s H scope (compEnvC scope cl C X.env) fp) tg (tEvG X.K (own.map (·.2)) γ)) (ht : ∀ (s : Shared) (H : Hp) (C : Addr) (cl : List (Str × Addr)) (fp : List Addr), PTs (X.blk s H scope (compEnvC scope cl C X.env) fp) ifs (tEvT X.K τ))
    (he : ∀ (s : Shared) (H : Hp) (C : Addr) (cl : List (Str × Addr)) (fp : List Addr), PE (X.blk s H scope (compEnvC scope cl C X.env) fp) elt (tEv X.K φ)) (hs : ∀ x, foldedSetIterable iter X.env x = pure x := by intro _; rfl) :
    PE X (.ListComp elt [⟨tg, iter, ifs, 0⟩] scope pos) (tEv X.K (dComp (own.map (·.2)) ψ γ τ φ)) := (pe_lc hc hN hi ok hg ht he hs).impD fun σ H Q hh => lc_imp hh
theorem b_setLc (i : Nat) {y : Str} {py spos : Pos} (hc : X.calm = true) (hN : X.N.Nodup) (hi : PI X tg iter (tIt X.K ψ)) (ok : BlkOk X.N X.env.scope scope own)
    (hg : ∀ (s : Shared) (H : Hp) (C : Addr) (cl : List (Str × Addr)) (fp : List Addr), PG (X.blk s H scope (compEnvC scope cl C X.env) fp) tg (tEvG X.K (own.map (·.2)) γ)) (ht : ∀ (s : Shared) (H : Hp) (C : Addr) (cl : List (Str × Addr)) (fp : List Addr), PTs (X.blk s H scope (compEnvC scope cl C X.env) fp) ifs (tEvT X.K τ))
    (he : ∀ (s : Shared) (H : Hp) (C : Addr) (cl : List (Str × Addr)) (fp : List Addr), PE (X.blk s H scope (compEnvC scope cl C X.env) fp) elt (tEv X.K φ))
    (hsw : swapsWith (.ListComp elt [⟨tg, iter, ifs, 0⟩] scope pos) (some (.Name y py)) spos.line X.env = pure true) (hy : X.N[i]? = some y := by rfl) (hyl : X.env.scope.names.lookup y = some .local := by rfl) (hs : ∀ x, foldedSetIterable iter X.env x = pure x := by intro _; rfl) :
    PS X (.Assign [.Name y py] (.ListComp elt [⟨tg, iter, ifs, 0⟩] scope pos) spos) (tEvS X.K (sAsg (dComp (own.map (·.2)) ψ γ τ φ) (gVar i))) := (ps_setLc hc hN hy hyl hsw hi ok hg ht he hs).impD fun D σ H hh => by
  obtain ⟨ρ, h, W, f, ρ', h', A, e, P⟩ := hh
  unfold sAsg at e
  obtain ⟨⟨d, h1⟩, e1, e⟩ := Option.bind_eq_some_iff.mp e
  obtain ⟨⟨ρ2, h2⟩, e2, e3⟩ := Option.map_eq_some_iff.mp e
  cases e2
  cases e3
  exact lc_imp ⟨ρ, h, W, d, _, A, e1, fun v H1 W1 l1 S1 r1 => P _ H1 W1 l1 ⟨(A.e.mono l1).set r1 i, S1⟩⟩
theorem ts_nil : PTs X [] (tEvT X.K tauY) := ⟨fun pins s σ H Q I hh => by
  obtain ⟨ρ, h, W, b, h', A, e, P⟩ := hh
  cases e
  exact pts_nil.run pins s σ H Q I (P H W (.refl _) A.s)⟩
theorem ts_one {c : Expr} (h : PT X c (tEvT X.K τ)) : PTs X [c] (tEvT X.K τ) := pts_one h
end

/-! ### sources -/
def iSeq (φ : Den) : DenI := fun ρ h => (φ ρ h).bind fun p => match p.1 with
  | .tup ds => some (ds, p.2)
  | .lst ds => some (ds, p.2)
  | .rol ds => some (ds, p.2)
  | _ => none
def rangeL (lo : Int) (n : Nat) : List D := (List.range n).map fun i => D.int (lo + (i : Nat))
def iRng1 (φ : Den) : DenI := fun ρ h => (φ ρ h).bind fun p => match p.1 with
  | .int j => if j < 2 ^ 62 ∧ -(2 ^ 62) ≤ j then some (rangeL 0 j.toNat, p.2) else none
  | _ => none
def iRng2 (φ ψ : Den) : DenI := fun ρ h => (φ ρ h).bind fun p => (ψ ρ p.2).bind fun q => match p.1, q.1 with
  | .int i, .int j => if -(2 ^ 62) ≤ i ∧ i < 2 ^ 62 ∧ -(2 ^ 62) ≤ j ∧ j < 2 ^ 62 then some (rangeL i (j - i).toNat, q.2) else none
  | _, _ => none
def zipL (xs ys : List D) : List D := (xs.zip ys).map fun p => D.tup [p.1, p.2]
/-- items that stay: of two lists, or of two tuples -/
def fro : D → D → Option (List D × List D)
  | .tup a, .tup b => some (a, b)
  | .lst a, .lst b => some (a, b)
  | .rol a, .rol b => some (a, b)
  | .lst a, .rol b => some (a, b)
  | .rol a, .lst b => some (a, b)
  | _, _ => none
def iZip (φ ψ : Den) : DenI := fun ρ h => (φ ρ h).bind fun p => (ψ ρ p.2).bind fun q => (fro p.1 q.1).map fun r => (zipL r.1 r.2, q.2)
section
variable {X : Cx} {tg : Expr}
theorem _root_.L2.PI.impD {l : Expr} {t t' : TI} (p : PI X tg l t) (i : ∀ σ H R, t' σ H R → t σ H R) : PI X tg l t' := ⟨fun pins s σ H R I h => p.run pins s σ H R I (i σ H R h)⟩
/-- a list or a tuple -/
theorem pi_seq {l : Expr} {tl : TE} (hl : PE X l tl) : PI X tg l (fun σ H R => tl σ H fun x H1 => ∃ a, x = .ref a ∧ (((∃ xs, SqL X.K H1 a xs) ∧ R (Itl X.K a) H1) ∨ ((∃ xs, SqT X.K H1 a xs) ∧ R (Itt X.K a) H1))) := by
  refine ⟨fun pins s σ H R I h => ?_⟩
  refine thn (hl.run pins s σ H _ I h) fun v s1 ⟨x, H1, I1, r1, q1⟩ => ?_
  obtain ⟨a, e, q⟩ := q1
  subst e
  cases r1
  rcases q with ⟨⟨xs, hq⟩, q⟩ | ⟨⟨xs, hq⟩, q⟩
  · obtain ⟨its, rv, p, hz⟩ := I1.list hq
    refine wpAny_pyIter_list p.isList ?_
    refine ⟨s1.heap.objs.size, [s1.heap.objs.size], _, _, H1, rfl, I1.kept (t' := s1.toks) fun b o e => Heap.get?_push_of_some _ e, turn_list a _, ⟨_, Heap.get?_push_size _ rfl, rfl, rfl⟩, fun b hb => ?_, q⟩
    have e : b = s1.heap.objs.size := by simpa using hb
    subst e
    exact I1.fpOk (Nat.le_refl _) (I1.hok.fresh (Nat.le_refl _))
  · obtain ⟨its, rv, p, hz⟩ := I1.tuple hq
    refine wpAny_pyIter_tuple (show s1.heap.IsTuple a its.toArray from p) ?_
    refine ⟨s1.heap.objs.size, [s1.heap.objs.size], _, _, H1, rfl, I1.kept (t' := s1.toks) fun b o e => Heap.get?_push_of_some _ e, turn_tuple a _, ⟨_, Heap.get?_push_size _ rfl, rfl, rfl⟩, fun b hb => ?_, q⟩
    have e : b = s1.heap.objs.size := by simpa using hb
    subst e
    exact I1.fpOk (Nat.le_refl _) (I1.hok.fresh (Nat.le_refl _))
theorem WalkD.ofL {K : PySem.W.Frag} {W : Wd} {a : Addr} {ds : List D} {vs : List V} (s : SqL K W.F a vs) (q : Rels K W ds vs) : WalkD K (Itl K a) W ds where
  goes := fun i H hi g => (walk_list (xs := vs)).goes i H (by rw [q.length]; exact hi) (g.seq s)
  stops := fun H g => by rw [← q.length]; exact (walk_list (xs := vs)).stops H (g.seq s)
  yields := fun i H x H' d e g y => by
    have hi : i < vs.length := by rw [q.length]; exact (List.getElem?_eq_some_iff.mp e).1
    obtain ⟨e1, e2⟩ := (walk_list (xs := vs)).yields i H x H' hi (g.seq s) y
    exact .inl ⟨e1, q.at e e2⟩
theorem WalkD.ofT {K : PySem.W.Frag} {W : Wd} {a : Addr} {ds : List D} {vs : List V} (s : SqT K W.F a vs) (q : Rels K W ds vs) : WalkD K (Itt K a) W ds where
  goes := fun i H hi g => (walk_tup (xs := vs)).goes i H (by rw [q.length]; exact hi) (Same.seqT g s)
  stops := fun H g => by rw [← q.length]; exact (walk_tup (xs := vs)).stops H (Same.seqT g s)
  yields := fun i H x H' d e g y => by
    have hi : i < vs.length := by rw [q.length]; exact (List.getElem?_eq_some_iff.mp e).1
    obtain ⟨e1, e2⟩ := (walk_tup (xs := vs)).yields i H x H' hi (Same.seqT g s) y
    exact .inl ⟨e1, q.at e e2⟩
theorem WalkD.ofR {K : PySem.W.Frag} {W : Wd} {lo : Int} {n : Nat} : WalkD K (Itr lo n) W (rangeL lo n) where
  goes := fun i H hi _ => by
    show i < n
    simpa [rangeL] using hi
  stops := fun H _ => by
    show n ≤ (rangeL lo n).length
    simp [rangeL]
  yields := fun i H x H' d e _ y => by
    obtain ⟨y1, y2⟩ := y
    unfold rangeL at e
    rw [List.getElem?_map] at e
    obtain ⟨j, e1, e2⟩ := Option.map_eq_some_iff.mp e
    have hj : j = i := by
      rw [List.getElem?_range] at e1
      · exact (Option.some.inj e1).symm
      · have := (List.getElem?_eq_some_iff.mp e1).1
        simpa using this
    subst hj
    exact .inl ⟨y1, by rw [← e2, rel_int]; exact y2⟩
theorem p_seq {l : Expr} {φ : Den} (hl : PE X l (tEv X.K φ)) : PI X tg l (tIt X.K (iSeq φ)) := (pi_seq hl).impD fun σ H R hh => by
  obtain ⟨ρ, h, W, ds, h', A, e, P⟩ := hh
  unfold iSeq at e
  obtain ⟨⟨d, h1⟩, e1, e⟩ := Option.bind_eq_some_iff.mp e
  refine ⟨ρ, h, W, d, h1, A, e1, fun v H1 W1 l1 S1 r1 => ?_⟩
  cases d with
  | tup xs =>
    cases e
    obtain ⟨a, vs, rfl, s, q⟩ := rel_tup.mp r1
    exact ⟨a, rfl, .inr ⟨⟨vs, Same.seqT S1.sub s⟩, P _ _ _ l1 S1 (.ofT s q)⟩⟩
  | lst xs =>
    cases e
    obtain ⟨a, vs, rfl, s, q⟩ := rel_lst.mp r1
    exact ⟨a, rfl, .inl ⟨⟨vs, SqL.of (S1.sub _ _ s)⟩, P _ _ _ l1 S1 (.ofL (SqL.of s) q)⟩⟩
  | rol xs =>
    cases e
    obtain ⟨a, vs, rfl, s, q⟩ := rel_rol.mp r1
    exact ⟨a, rfl, .inl ⟨⟨vs, S1.sub.seq s⟩, P _ _ _ l1 S1 (.ofL s q)⟩⟩
  | _ => cases e
theorem p_rng1 {a : Expr} {φ : Den} {p pos : Pos} (hm : X.mg "range" = none) (ha : PE X a (tEv X.K φ)) (hg : Gl X "range" := by rfl) (hs : starEach [a] X.env = [(false, eval a X.env)] := by rfl) : PI X tg (.Call (.Name "range" p) [a] [] pos) (tIt X.K (iRng1 φ)) := (pi_range1 hg hm (a_cons ha a_nil hs) hs).impD fun σ H R hh => by
  obtain ⟨ρ, h, W, ds, h', A, e, P⟩ := hh
  unfold iRng1 at e
  obtain ⟨⟨d, h1⟩, e1, e⟩ := Option.bind_eq_some_iff.mp e
  cases d with
  | int j =>
    replace e : (if j < 2 ^ 62 ∧ -(2 ^ 62) ≤ j then some (rangeL 0 j.toNat, h1) else none) = some (ds, h') := e
    split at e
    · rename_i hj
      cases e
      refine ⟨ρ, h, W, [.int j], _, A, by unfold lCons; rw [e1]; rfl, fun vs H1 W1 l1 S1 r1 => ?_⟩
      obtain ⟨v, rfl, r2⟩ := rels1 r1
      rw [rel_int] at r2; subst r2
      exact ⟨j, rfl, hj.2, hj.1, P _ _ _ l1 S1 .ofR⟩
    · cases e
  | _ => cases e
theorem p_rng2 {a b : Expr} {φ ψ : Den} {p pos : Pos} (hm : X.mg "range" = none) (ha : PE X a (tEv X.K φ)) (hb : PE X b (tEv X.K ψ)) (hg : Gl X "range" := by rfl) (hs : starEach [a, b] X.env = [(false, eval a X.env), (false, eval b X.env)] := by rfl) (hs2 : starEach [b] X.env = [(false, eval b X.env)] := by rfl) : PI X tg (.Call (.Name "range" p) [a, b] [] pos) (tIt X.K (iRng2 φ ψ)) :=
  (pi_range2 hg hm (a_cons ha (a_cons hb a_nil hs2) (by rw [hs, hs2])) hs hs2).impD fun σ H R hh => by
  obtain ⟨ρ, h, W, ds, h', A, e, P⟩ := hh
  unfold iRng2 at e
  obtain ⟨⟨d, h1⟩, e1, e⟩ := Option.bind_eq_some_iff.mp e
  obtain ⟨⟨d2, h2⟩, e2, e⟩ := Option.bind_eq_some_iff.mp e
  cases d with
  | int i =>
    cases d2 with
    | int j =>
      replace e : (if -(2 ^ 62) ≤ i ∧ i < 2 ^ 62 ∧ -(2 ^ 62) ≤ j ∧ j < 2 ^ 62 then some (rangeL i (j - i).toNat, h2) else none) = some (ds, h') := e
      split at e
      · rename_i hj
        cases e
        refine ⟨ρ, h, W, [.int i, .int j], _, A, by unfold lCons; rw [e1]; show ((lCons ψ lNil ρ h1).bind _) = _; unfold lCons; rw [e2]; rfl, fun vs H1 W1 l1 S1 r1 => ?_⟩
        obtain ⟨v, u, rfl, r2, r3⟩ := rels2 r1
        rw [rel_int] at r2 r3; subst r2 r3
        exact ⟨i, j, rfl, hj, P _ _ _ l1 S1 .ofR⟩
      · cases e
    | _ => cases e
  | _ => cases e
end
end Iv
/-! Iv7: zip, enumerate as sources; defs. -/
namespace PySem
open Sem (wp)
open AutoSeq1 (wpAny_loadPart')
set_option maxHeartbeats 1000000 in
theorem iv_enum_newT (l : Addr) (items : Array Value) :
    Meets (Builtin.«enumerate.__new__» ⟨[.type "enumerate", .ref l], []⟩) (fun _ R s => s.heap.IsTuple l items ∧
      R (.ok (.ret (.ref (s.heap.push { cls := .type "tuple_iterator", data := .fields #[.ref l, .int 0 0] }).objs.size)))
        { s with heap := (s.heap.push { cls := .type "tuple_iterator", data := .fields #[.ref l, .int 0 0] }).push { cls := .type "enumerate", data := .fields #[.none, .bool false, .ref s.heap.objs.size, rawInt 0, .none, .none] } }) :=
  .of_wp fun prog w A R s h => by
    obtain ⟨hp, g, d, tk, os⟩ := s; obtain ⟨h1, h⟩ := h
    have hsub := sub_enumerate
    have q1 : ∀ {A' : Around} {E : Value → Shared → Prop} {Q : Value → Shared → Prop}, Q (.ref hp.objs.size) ⟨hp.push { cls := .type "tuple_iterator", data := .fields #[.ref l, .int 0 0] }, g, d, tk, os⟩ → wpAny (model prog w) A' (pyIter (.ref l)) Q E ⟨hp, g, d, tk, os⟩ :=
      fun q => wpAny_pyIter_tuple h1 q
    wp_walk using q1
    refine wpAny_stack_any fun st => wpAny_pure ?_
    split
    · rename_i c _ _ _ _ _
      cases (c == Value.type "enumerate")
      · wp_walk using q1
        exact ⟨_, rfl, h⟩
      · wp_walk using q1
        exact ⟨_, rfl, h⟩
    · wp_walk using q1
      exact ⟨_, rfl, h⟩
theorem iv_enum_tup {prog : Program} {w : World} {A : Around} {E : Value → Shared → Prop} {s : Shared} {l : Addr} {items : Array Value} {Q : Value → Shared → Prop} (hL : s.heap.IsTuple l items)
    (h : ∀ h', IsEnum h' (s.heap.objs.size + 1) s.heap.objs.size 0 .none → h'.IsTupleIter s.heap.objs.size l 0 → h'.objs.size = s.heap.objs.size + 2 →
      (∀ b o, s.heap.get? b = some o → h'.get? b = some o) → Q (.ref (s.heap.objs.size + 1)) { s with heap := h' }) :
    wpAny (model prog w) A (call (.type "enumerate") [.ref l]) Q E s := by
  refine callType_new F.called_enumerate (by decide) (F.typeCall_enumerate_1 _) (F.newCall_enumerate_1 _) (fun obj => F.args_object_init_2 obj _) F.entry_enumerate_new
    (iv_enum_newT l items) ⟨hL, ?_⟩
  have hz : (s.heap.push { cls := .type "tuple_iterator", data := .fields #[.ref l, .int 0 0] }).objs.size = s.heap.objs.size + 1 := Heap.size_push ..
  show _ ∧ _
  rw [hz]
  have he : IsEnum ((s.heap.push { cls := .type "tuple_iterator", data := .fields #[.ref l, .int 0 0] }).push
      { cls := .type "enumerate", data := .fields #[.none, .bool false, .ref s.heap.objs.size, rawInt 0, .none, .none] }) (s.heap.objs.size + 1) s.heap.objs.size 0 .none := by
    have := Heap.get?_push_size (s.heap.push { cls := .type "tuple_iterator", data := .fields #[.ref l, .int 0 0] })
      (o := { cls := .type "enumerate", data := .fields #[.none, .bool false, .ref s.heap.objs.size, rawInt 0, .none, .none] }) rfl
    rw [hz] at this; exact this
  refine ⟨⟨_, he, rfl⟩, h _ he ⟨_, Heap.get?_push_of_some _ (Heap.get?_push_size _ rfl), rfl, rfl⟩ (by rw [Heap.size_push, hz]) fun b o y => Heap.get?_push_of_some _ (Heap.get?_push_of_some _ y)⟩
end PySem
namespace Iv
open PySem PySem.Spec PyProof.Rows L2

/-! ### enumerate of a tuple -/
def IteT (K : PySem.W.Frag) (a : Addr) : It :=
  ⟨fun i H => ∃ (xs : List V) (x : V), SqT K H a xs ∧ xs[i]? = some x, fun i H v H' => ∃ T x, v = .ref T ∧ H T = none ∧ H' = upd H T (.tup [.int (i : Nat), x]) ∧ ∀ xs, SqT K H a xs → xs[i]? = some x, fun i H => ∃ xs : List V, SqT K H a xs ∧ xs.length ≤ i⟩
theorem turn_enumT {P : Program} {w : World} {K : PySem.W.Frag} {elts : List Expr} {kk : Nat} {tpos : Pos} (a e it : Addr) :
    Turn P w K (.Tuple elts kk tpos) (IteT K a) [e, it] e (fun i h => (∃ old, IsEnum h e it ((i : Nat) : Int) old) ∧ h.IsTupleIter it a i ∧ e ≠ it ∧ e ≠ a ∧ a ≠ it) where
  mem := by simp
  obj := fun i h st b hb => by
    obtain ⟨⟨old, he⟩, ⟨o, ho, hc, hd⟩, _⟩ := st
    have e' : b = e ∨ b = it := by simpa using hb
    rcases e' with z | z
    · rw [z]; exact ⟨_, he, fun v q => nomatch q⟩
    · rw [z]; exact ⟨o, ho, fun v q => by rw [hd] at q; cases q⟩
  keep := fun i h h' st k => let ⟨⟨old, he⟩, hi, hne⟩ := st; ⟨⟨old, k e (by simp) _ he⟩, hi.at fun o q => k it (by simp) o q, hne⟩
  item := by
    intro X hP hw hK hc i pins s σ H E I hf st hg
    subst hP hw hK
    obtain ⟨⟨old, he⟩, hit, hne, hea, hai⟩ := st
    obtain ⟨xs, x, hq, hx⟩ := hg
    obtain ⟨its, rv, p, hz⟩ := I.tuple hq
    have hel : e < s.heap.objs.size := Heap.lt_size he
    have hil : it < s.heap.objs.size := by obtain ⟨_, q, _⟩ := hit; exact Heap.lt_size q
    have hlt : i < its.toArray.size := by
      rw [List.size_toArray, ← rv.length]; exact (List.getElem?_eq_some_iff.mp hx).1
    refine wpAny_pyNext_enum_itemD (Draws.tuple (prog := X.prog) (w := X.w) (A := X.A.in1) (show X.A.in1.handled = none from I.ok.hd hc) it a hai its.toArray) he ⟨hit, p⟩ hlt hne (by simp [hne, hea]) fun u h' tk hu ho hit' hT hsz hk => ?_
    have ru : RelV x u := by
      obtain ⟨u', hu', r'⟩ := rv.get hx
      have : its.toArray[i]? = some u' := by simpa using hu'
      rw [this] at hu; cases hu; exact r'
    refine ⟨_, rfl, wpAny_letOwnedTupleGo_enum (s := { s with heap := h', toks := tk + 1 }) ho fun h'' he' sb => ?_⟩
    have hT2 : h''.get? s.heap.objs.size = some { cls := .type "tuple", data := .seq #[.int i tk, u] } := (sb.2 _ (Nat.ne_of_gt hel)).trans hT
    have new : ObjOk X.prog X.w (upd H s.heap.objs.size (.tup [.int (i : Nat), x])) h'' s.heap.objs.size (.tup [.int (i : Nat), x]) :=
      ⟨by show 2 ≤ sizeLine; decide, [.int i tk, u], .cons ⟨_, rfl⟩ (.cons ru .nil), ⟨_, hT2, rfl, _, rfl⟩⟩
    have I1 : Inv X pins σ (upd H s.heap.objs.size (.tup [.int (i : Nat), x])) { s with heap := h'', toks := tk + 1 } :=
      I.turnedNew (ch := [e, it]) (fun b ob hb q => (sb.2 b (fun z => hb (by simp [z]))).trans (hk b ob (fun z => hb (by simp [z])) (fun z => hb (by simp [z])) q)) hf (Nat.le_refl _) new
    refine ⟨.ref s.heap.objs.size, _, I1, rfl, ⟨_, x, rfl, I.hok.fresh (Nat.le_refl _), rfl, fun ys hy => by rw [I.tuple_inj hy hq]; exact hx⟩, ⟨⟨u, ?_⟩, hit'.1.at fun o q => (sb.2 it (Ne.symm hne)).trans q, hne, hea, hai⟩, fun b hb => ?_⟩
    · have e1 : ((i + 1 : Nat) : Int) = (i : Int) + 1 := by omega
      rw [e1]; exact he'
    · have hb' : b < s.heap.objs.size := by
        have e' : b = e ∨ b = it := by simpa using hb
        rcases e' with z | z
        · rw [z]; exact hel
        · rw [z]; exact hil
      rw [upd_ne (Nat.ne_of_lt hb')]
      exact (hf b hb).1
  done := by
    intro X hP hw hK hc i pins s σ H E I hf st hg
    subst hP hw hK
    obtain ⟨⟨old, he⟩, hit, hne, hea, hai⟩ := st
    obtain ⟨xs, hq, hx⟩ := hg
    obtain ⟨its, rv, p, hz⟩ := I.tuple hq
    obtain ⟨f0, f1, f2, f3, f4, f5⟩ := hf it (by simp)
    have hl := rv.length
    obtain ⟨o, hoi, hci, hdi⟩ := hit
    have hh := I.ok.hd hc
    have hT : s.TypeIs (.ref e) "enumerate" := ⟨_, he, rfl⟩
    unfold pyNext
    refine wpAny_bind (wpAny_attempt (wpAny_callSpecial?_slot (name := Str.ofString "__next__") hT F.slot_enumerate_next
      (wpAny_call_entry F.slot_enumerate_next hT F.entry_enumerate_next ?_ (F.args_enumerate_next_1 _))))
    show wpAny _ _ (field (.ref e) 2 >>= _) _ _ _
    refine wpAny_bind (wpAny_field he rfl (x := .ref it) rfl ?_)
    refine wpAny_bind (wpAny_nextOf_tuple_end hh ⟨o, hoi, hci, hdi⟩ (show s.heap.IsTuple a its.toArray from p) (by simp; omega) fun h' x he' hx' => ?_)
    obtain ⟨o, ho, hc⟩ := hx'
    refine wpAny_bind (wpAny_isInstance (T := "StopIteration") (b := true) ⟨o, ho, hc⟩ isSubtype_stop ?_)
    exact wpAny_pure ⟨rfl, I.turned (t' := s.toks) (fun b o hb q => he' b o hb q) f0 f1 f3 f4 f5⟩
  self := fun A i s Q E st h => let ⟨⟨_, he⟩, _⟩ := st; wpAny_pyIter_enum he h
def iEnumA (K : PySem.W.Frag) (ta : TA) : TI := fun σ H R => ta σ H fun vs H1 => ∃ a xs, vs = [.ref a] ∧ ((SqL K H1 a xs ∧ R (Ite K a) H1) ∨ (SqT K H1 a xs ∧ R (IteT K a) H1))
theorem pi_enumA {X : Cx} {e : Expr} {ta : TA} {p pos tpos : Pos} {elts : List Expr} {kk : Nat} (hg : Gl X "enumerate") (hm : X.mg "enumerate" = none) (ha : PA X [e] ta) (hs : starEach [e] X.env = [(false, eval e X.env)] := by rfl) :
    PI X (.Tuple elts kk tpos) (.Call (.Name "enumerate" p) [e] [] pos) (iEnumA X.K ta) := by
  refine ⟨fun pins s σ H R I h => ?_⟩
  refine Call_ (ld_blt I hg hm boot_enumerate (PyProof.Rows.callWith_type1 (thn (ha.run pos pins s σ H _ I h) fun us s1 ⟨vs, H1, I1, r1, q1⟩ => ?_) hs rfl))
  obtain ⟨a, xs, ex, q⟩ := q1
  subst ex
  cases r1 with
  | cons r rr =>
    cases rr
    cases r
    have fr : ∀ b, b ∈ [s1.heap.objs.size + 1, s1.heap.objs.size] → FpOk X pins H1 b := fun b hb => by
      have e' : b = s1.heap.objs.size + 1 ∨ b = s1.heap.objs.size := by simpa using hb
      have hle : s1.heap.objs.size ≤ b := by
        rcases e' with z | z
        · rw [z]; exact Nat.le_add_right _ _
        · rw [z]; exact Nat.le_refl _
      exact I1.fpOk hle (I1.hok.fresh hle)
    rcases q with ⟨hq, q⟩ | ⟨hq, q⟩
    · obtain ⟨its, rv, p', hz⟩ := I1.list hq
      refine call_enumerate_list p'.isList fun h' he hit hsz hk => wpAny_pyIter_enum he ?_
      have I2 : Inv X pins σ H1 { s1 with heap := h' } := I1.kept (t' := s1.toks) hk
      exact ⟨s1.heap.objs.size + 1, [s1.heap.objs.size + 1, s1.heap.objs.size], _, _, H1, rfl, I2, turn_enum a (s1.heap.objs.size + 1) s1.heap.objs.size, ⟨⟨.none, he⟩, hit, Nat.succ_ne_self _⟩, fr, q⟩
    · obtain ⟨its, rv, p', hz⟩ := I1.tuple hq
      have hlt : a < s1.heap.objs.size := by obtain ⟨o, ho, _⟩ := id p'; exact Heap.lt_size ho
      refine iv_enum_tup (show s1.heap.IsTuple a its.toArray from p') fun h' he hit hsz hk => wpAny_pyIter_enum he ?_
      have I2 : Inv X pins σ H1 { s1 with heap := h' } := I1.kept (t' := s1.toks) hk
      exact ⟨s1.heap.objs.size + 1, [s1.heap.objs.size + 1, s1.heap.objs.size], _, _, H1, rfl, I2, turn_enumT a (s1.heap.objs.size + 1) s1.heap.objs.size, ⟨⟨.none, he⟩, hit, Nat.succ_ne_self _, Nat.ne_of_gt (Nat.lt_succ_of_lt hlt), Nat.ne_of_lt hlt⟩, fr, q⟩

/-! ### sources -/
def enumL (ds : List D) : List D := (List.range ds.length).zipWith (fun i d => D.tup [.int (i : Nat), d]) ds
def iEnum (φ : Den) : DenI := fun ρ h => (φ ρ h).bind fun p => match p.1 with
  | .tup ds => some (enumL ds, p.2)
  | .lst ds => some (enumL ds, p.2)
  | .rol ds => some (enumL ds, p.2)
  | _ => none
theorem enumL_get {ds : List D} {i : Nat} {d : D} (e : (enumL ds)[i]? = some d) : ∃ c, ds[i]? = some c ∧ d = .tup [.int (i : Nat), c] := by
  unfold enumL at e
  rw [List.getElem?_zipWith] at e
  by_cases hi : i < ds.length
  · rw [List.getElem?_range hi, List.getElem?_eq_getElem hi] at e
    exact ⟨ds[i], List.getElem?_eq_getElem hi, (Option.some.inj e).symm⟩
  · rw [List.getElem?_eq_none (by simpa using hi)] at e
    cases e
theorem enumL_length (ds : List D) : (enumL ds).length = ds.length := by unfold enumL; simp
theorem zipL_get {xs ys : List D} {i : Nat} {d : D} (e : (zipL xs ys)[i]? = some d) : ∃ a b, xs[i]? = some a ∧ ys[i]? = some b ∧ d = .tup [a, b] := by
  unfold zipL at e
  rw [List.getElem?_map] at e
  obtain ⟨⟨a, b⟩, e1, e2⟩ := Option.map_eq_some_iff.mp e
  obtain ⟨h1, h2⟩ := List.getElem?_zip_eq_some.mp e1
  exact ⟨a, b, h1, h2, e2.symm⟩
theorem zipL_length (xs ys : List D) : (zipL xs ys).length = min xs.length ys.length := by unfold zipL; simp
section
variable {K : PySem.W.Frag} {W : Wd} {a b : Addr} {ds es : List D} {vs us : List V}
theorem WalkD.ofEL (s : SqL K W.F a vs) (q : Rels K W ds vs) : WalkD K (Ite K a) W (enumL ds) where
  goes := fun i H hi g => (walk_enum (xs := vs)).goes i H (by rw [q.length]; rw [enumL_length] at hi; exact hi) (g.seq s)
  stops := fun H g => by rw [enumL_length, ← q.length]; exact (walk_enum (xs := vs)).stops H (g.seq s)
  yields := fun i H x H' d e g y => by
    obtain ⟨c, e1, rfl⟩ := enumL_get e
    have hi : i < vs.length := by rw [q.length]; exact (List.getElem?_eq_some_iff.mp e1).1
    obtain ⟨T, x1, x2, rfl, hT, rfl, e2, e3⟩ := (walk_enum (xs := vs)).yields i H x H' hi (g.seq s) y
    cases e2
    exact .inr ⟨T, _, _, rfl, hT, rfl, rfl, .cons (rel_int.mpr rfl) (.cons (q.at e1 e3) .nil)⟩
theorem WalkD.ofET (s : SqT K W.F a vs) (q : Rels K W ds vs) : WalkD K (IteT K a) W (enumL ds) where
  goes := fun i H hi g => by
    rw [enumL_length, ← q.length] at hi
    exact ⟨vs, vs[i], Same.seqT g s, by simp [hi]⟩
  stops := fun H g => by rw [enumL_length, ← q.length]; exact ⟨vs, Same.seqT g s, Nat.le_refl _⟩
  yields := fun i H x H' d e g y => by
    obtain ⟨c, e1, rfl⟩ := enumL_get e
    obtain ⟨T, x2, rfl, hT, rfl, e3⟩ := y
    exact .inr ⟨T, _, _, rfl, hT, rfl, rfl, .cons (rel_int.mpr rfl) (.cons (q.at e1 (e3 vs (Same.seqT g s))) .nil)⟩
theorem WalkD.ofZL (s : SqL K W.F a vs) (q : Rels K W ds vs) (s2 : SqL K W.F b us) (q2 : Rels K W es us) : WalkD K (Itz K a b) W (zipL ds es) where
  goes := fun i H hi g => (walk_zip (xs := vs) (ys := us) rfl).goes i H (by rw [q.length, q2.length]; rw [zipL_length] at hi; exact hi) ⟨g.seq s, g.seq s2⟩
  stops := fun H g => by rw [zipL_length, ← q.length, ← q2.length]; exact (walk_zip (xs := vs) (ys := us) rfl).stops H ⟨g.seq s, g.seq s2⟩
  yields := fun i H x H' d e g y => by
    obtain ⟨c1, c2, e1, e1', rfl⟩ := zipL_get e
    have hi : i < min vs.length us.length := by
      have h1 := (List.getElem?_eq_some_iff.mp e1).1
      have h2 := (List.getElem?_eq_some_iff.mp e1').1
      rw [q.length, q2.length]; omega
    obtain ⟨T, x1, x2, rfl, hT, rfl, e2, e3⟩ := (walk_zip (xs := vs) (ys := us) rfl).yields i H x H' hi ⟨g.seq s, g.seq s2⟩ y
    exact .inr ⟨T, _, _, rfl, hT, rfl, rfl, .cons (q.at e1 e2) (.cons (q2.at e1' e3) .nil)⟩
theorem WalkD.ofZT (s : SqT K W.F a vs) (q : Rels K W ds vs) (s2 : SqT K W.F b us) (q2 : Rels K W es us) : WalkD K (RZ.ItzT K a b) W (zipL ds es) where
  goes := fun i H hi g => by
    rw [zipL_length, ← q.length, ← q2.length] at hi
    have h1 : i < vs.length := by omega
    have h2 : i < us.length := by omega
    exact ⟨vs, us, vs[i], us[i], Same.seqT g s, Same.seqT g s2, by simp [h1], by simp [h2]⟩
  stops := fun H g => by
    rw [zipL_length, ← q.length, ← q2.length]
    exact ⟨vs, us, Same.seqT g s, Same.seqT g s2, by omega⟩
  yields := fun i H x H' d e g y => by
    obtain ⟨c1, c2, e1, e1', rfl⟩ := zipL_get e
    obtain ⟨T, x1, x2, rfl, hT, rfl, e2, e3⟩ := y
    exact .inr ⟨T, _, _, rfl, hT, rfl, rfl, .cons (q.at e1 (e2 vs (Same.seqT g s))) (.cons (q2.at e1' (e3 us (Same.seqT g s2))) .nil)⟩
end
section
variable {X : Cx} {e e2 : Expr} {φ ψ : Den} {p pos tpos : Pos} {elts : List Expr} {kk : Nat}
theorem p_enum (hm : X.mg "enumerate" = none) (ha : PE X e (tEv X.K φ)) (hg : Gl X "enumerate" := by rfl) (hs : starEach [e] X.env = [(false, eval e X.env)] := by rfl) : PI X (.Tuple elts kk tpos) (.Call (.Name "enumerate" p) [e] [] pos) (tIt X.K (iEnum φ)) :=
  (pi_enumA hg hm (a_cons ha a_nil hs) hs).impD fun σ H R hh => by
  obtain ⟨ρ, h, W, ds, h', A, e, P⟩ := hh
  unfold iEnum at e
  obtain ⟨⟨d, h1⟩, e1, e⟩ := Option.bind_eq_some_iff.mp e
  have el : lCons φ lNil ρ h = some ([d], h1) := by unfold lCons; rw [e1]; rfl
  refine ⟨ρ, h, W, [d], h1, A, el, fun vs H1 W1 l1 S1 r1 => ?_⟩
  obtain ⟨v, rfl, r2⟩ := rels1 r1
  cases d with
  | tup xs =>
    cases e
    obtain ⟨a, vs, rfl, s, q⟩ := rel_tup.mp r2
    exact ⟨a, vs, rfl, .inr ⟨Same.seqT S1.sub s, P _ _ _ l1 S1 (.ofET s q)⟩⟩
  | lst xs =>
    cases e
    obtain ⟨a, vs, rfl, s, q⟩ := rel_lst.mp r2
    exact ⟨a, vs, rfl, .inl ⟨SqL.of (S1.sub _ _ s), P _ _ _ l1 S1 (.ofEL (SqL.of s) q)⟩⟩
  | rol xs =>
    cases e
    obtain ⟨a, vs, rfl, s, q⟩ := rel_rol.mp r2
    exact ⟨a, vs, rfl, .inl ⟨S1.sub.seq s, P _ _ _ l1 S1 (.ofEL s q)⟩⟩
  | _ => cases e
/-- lists of ours that stay -/
def frl : D → Option (List D)
  | .lst a => some a
  | .rol a => some a
  | _ => none
theorem frl_seq {K : PySem.W.Frag} {W : Wd} {d : D} {v : V} {ds : List D} (r : Rel K W d v) (e : frl d = some ds) : ∃ a vs, v = .ref a ∧ SqL K W.F a vs ∧ Rels K W ds vs := by
  cases d with
  | lst xs =>
    cases e
    obtain ⟨a, vs, e1, s, q⟩ := rel_lst.mp r
    exact ⟨a, vs, e1, SqL.of s, q⟩
  | rol xs =>
    cases e
    exact rel_rol.mp r
  | _ => cases e
theorem fro_cases {d1 d2 : D} {a b : List D} (e : fro d1 d2 = some (a, b)) : (d1 = .tup a ∧ d2 = .tup b) ∨ (frl d1 = some a ∧ frl d2 = some b) := by
  unfold fro at e
  split at e <;> first
    | (cases e; exact .inl ⟨rfl, rfl⟩)
    | (cases e; exact .inr ⟨rfl, rfl⟩)
    | cases e
theorem p_zip (hm : X.mg "zip" = none) (ha : PE X e (tEv X.K φ)) (hb : PE X e2 (tEv X.K ψ)) (hg : Gl X "zip" := by rfl) (hs : starEach [e, e2] X.env = (false, eval e X.env) :: starEach [e2] X.env := by rfl) (hs2 : starEach [e2] X.env = (false, eval e2 X.env) :: starEach [] X.env := by rfl)
    (hpl : (backTo pos (starEach [e2] X.env)).any (·.1) = false := by rfl) : PI X (.Tuple elts kk tpos) (.Call (.Name "zip" p) [e, e2] [] pos) (tIt X.K (iZip φ ψ)) :=
  (RZ.pi_zipA hg hm (a_cons ha (a_cons hb a_nil hs2) hs) hs hpl).impD fun σ H R hh => by
  obtain ⟨ρ, h, W, ds, h', A, e, P⟩ := hh
  unfold iZip at e
  obtain ⟨⟨d, h1⟩, e1, e⟩ := Option.bind_eq_some_iff.mp e
  obtain ⟨⟨d2, h2⟩, e2, e⟩ := Option.bind_eq_some_iff.mp e
  obtain ⟨⟨xs, ys⟩, e3, e4⟩ := Option.map_eq_some_iff.mp e
  cases e4
  have el : lCons φ (lCons ψ lNil) ρ h = some ([d, d2], h2) := by
    unfold lCons; rw [e1]
    show ((lCons ψ lNil ρ h1).bind _) = _
    unfold lCons; rw [e2]; rfl
  refine ⟨ρ, h, W, [d, d2], h2, A, el, fun vs H1 W1 l1 S1 r1 => ?_⟩
  obtain ⟨v, u, rfl, r2, r3⟩ := rels2 r1
  rcases fro_cases e3 with ⟨rfl, rfl⟩ | ⟨f1, f2⟩
  · obtain ⟨a, vs, rfl, s, q⟩ := rel_tup.mp r2
    obtain ⟨b, us, rfl, s', q'⟩ := rel_tup.mp r3
    exact ⟨a, b, vs, us, rfl, .inr ⟨Same.seqT S1.sub s, Same.seqT S1.sub s', P _ _ _ l1 S1 (.ofZT s q s' q')⟩⟩
  · obtain ⟨a, vs, rfl, s, q⟩ := frl_seq r2 f1
    obtain ⟨b, us, rfl, s', q'⟩ := frl_seq r3 f2
    exact ⟨a, b, vs, us, rfl, .inl ⟨S1.sub.seq s, S1.sub.seq s', P _ _ _ l1 S1 (.ofZL s q s' q')⟩⟩
end

/-! ### defs -/
/-- what a body answers -/
def bodyF (n : Nat) (φ : DenS) : Fun1 := fun ds h => (φ (ds.map some ++ List.replicate (n - ds.length) none) h).bind fun p => match p.1 with
  | .nx => some (.non, p.2.2)
  | .rt d => some (d, p.2.2)
  | _ => none
theorem start_rel {K : PySem.W.Frag} {W : Wd} {N : List Str} {ds : List D} {vs : List V} (r : Rels K W ds vs) : RelE K W (ds.map some ++ List.replicate (N.length - ds.length) none) (L2.start N vs) := by
  have hl := r.length
  refine ⟨fun i d e => ?_, ?_⟩
  · by_cases hi : i < ds.length
    · rw [List.getElem?_append_left (by simpa using hi), List.getElem?_map] at e
      cases q : ds[i]? with
      | none => rw [q] at e; cases e
      | some d' =>
        rw [q] at e; cases e
        obtain ⟨v, e1, r1⟩ := r.get q
        refine ⟨v, ?_, r1⟩
        unfold L2.start
        rw [List.getElem?_append_left (by simpa [hl] using hi), List.getElem?_map, e1]; rfl
    · rw [List.getElem?_append_right (by simpa using Nat.le_of_not_lt hi), List.getElem?_replicate] at e
      split at e <;> cases e
  · unfold L2.start
    simp [hl]
/-- a def of the text answers as its body's denotation does -/
theorem has_of {P : Program} {w : World} {K : PySem.W.Frag} {mg : Str → Option Value} {base : Heap} {x : Str} {st : Stmt} {f : Addr} {fd : FuncData} {N ps : List Str} {k : Nat} {φ : DenS} (F : Fun K x x st f fd) (hm : mg x = some (.ref f)) (S : FnScope N ps (defScope st)) (hb : Binds K fd ps [])
    (h : ∀ (cdv : Value) (A : Around) (outer : List PySem.Env) (s : Shared) (H : Hp), Room k (A.deeper (envOfC x (defScope st) s.heap.objs.size f cdv)) → (A.deeper (envOfC x (defScope st) s.heap.objs.size f cdv)).guards = some [] →
      PSs (cxOf CX0 P w K mg base N x (defScope st) f cdv A outer s H E0).nox (defBody st) (tEvS K φ)) :
    Has P w K mg base (k + 1) x ps.length (bodyF N.length φ) := by
  refine ⟨f, fd, ps, hm, F.kp, hb, rfl, fun A outer s H args us vs Q hr hgd e0 bt rv hl hsp => ?_⟩
  obtain ⟨oc, od, kV, doc, pm, an, cdv, ct, osl, rfl, lk, hcd⟩ := F.ex
  have KX : K.In s.heap := e0.mod.kin.keeps fun b o e => (e0.bs b o e).1
  have lim : s.heap.NoLimit := e0.mod.nolimit.keeps fun b o e => (e0.bs b o e).1
  have kinds : ∀ y ∈ ps.zip us, (defScope st).names.lookup y.1 = some .local ∨ ((defScope st).names.lookup y.1 = some .cell ∧ ((cellsFrom (s.heap.objs.size + 1) (defScope st).names []).lookup y.1).isSome = true) := fun ⟨n, v⟩ hy =>
    (S.par n (List.of_mem_zip hy).1).imp id fun q => ⟨q, PySem.W.cellsFrom_some _ _ _ (.inl q)⟩
  refine codeAny_call_function hr.depth (KX _ _ lk) rfl S.co S.gen rfl (PySem.W.codeRec_of KX hcd) (bt _ _ _ _ ?_)
  refine wpAny_newFunctionEnv_cells S.kind kinds fun env he s1 x1 => ?_
  subst he
  refine ⟨lim.keeps x1.toInCall.keep, codeAny_func ?_⟩
  have I := inv_start (CX := CX0) (P := P) (w := w) (mg := mg) (base := base) (E := E0) S hr.hd e0 hl rv x1
  have body := (h cdv A outer s H (hr.deeper _) hgd).nox
  obtain ⟨W, h0, ds, d, h', SS, r, e, PP⟩ := hsp
  unfold bodyF at e
  obtain ⟨⟨f1, ρ1, h1⟩, e1, e⟩ := Option.bind_eq_some_iff.mp e
  have want : tEvS K φ { nx := fun _ H' => Q .non H', rt := Q } (L2.start N vs) H := by
    refine ⟨_, h0, W, f1, ρ1, h1, ⟨start_rel r, SS⟩, e1, ?_⟩
    cases f1 with
    | nx => cases e; exact fun σ' H' W' l A => PP _ H' W' l A.s (rel_non.mpr rfl)
    | rt d' => cases e; exact fun v H' W' l S r => PP v H' W' l S r
    | bk => cases e
    | ct => cases e
  refine wpAny_mono (body.run [] s1 (L2.start N vs) H _ I want) (fun fl s' hs => ?_) fun e s' hs => hs
  cases fl with
  | ret u =>
    obtain ⟨v, σ', H', J, rv, q⟩ := hs
    exact ⟨v, H', J.os, J.bare, J.base, J.hok, rv, q⟩
  | next =>
    obtain ⟨σ', H', J, q⟩ := hs
    exact ⟨V.non, H', J.os, J.bare, J.base, J.hok, rfl, q⟩
  | brk =>
    obtain ⟨_, _, _, q⟩ := hs
    exact False.elim q
  | cont =>
    obtain ⟨_, _, _, q⟩ := hs
    exact False.elim q
theorem Has.mono {P : Program} {w : World} {K : PySem.W.Frag} {mg : Str → Option Value} {base : Heap} {j k : Nat} {x : Str} {n : Nat} {g : Fun1} (h : Has P w K mg base j x n g) (hk : j ≤ k) : Has P w K mg base k x n g :=
  let ⟨f, fd, ps, a, b, c, l, d⟩ := h.ex; ⟨f, fd, ps, a, b, c, l, fun A outer s H args us vs Q hr => d A outer s H args us vs Q (hr.mono hk)⟩
end Iv
/-! Iv8: repr of lists and tuples. -/
namespace Iv
open PySem PySem.Spec PyProof.Rows L2

def isSeq : D → Bool
  | .tup _ | .lst _ | .rol _ | .ref _ => true
  | _ => false
def reprF : Fun1
  | [d], h => if isSeq d = true then (toPh h d).bind fun p => if SeqAt.shaped p = true ∧ p.depth ≤ 60 ∧ p.showable = true ∧ p.shown.length ≤ sizeLine then some (.str p.shown, h) else none else none
  | _, _ => none
theorem isSeq_ref {K : PySem.W.Frag} {W : Wd} {d : D} {v : V} (r : Rel K W d v) (e : isSeq d = true) : ∃ a, v = .ref a := by
  cases d with
  | tup ds => obtain ⟨a, vs, rfl, _⟩ := rel_tup.mp r; exact ⟨a, rfl⟩
  | lst ds => obtain ⟨a, vs, rfl, _⟩ := rel_lst.mp r; exact ⟨a, rfl⟩
  | rol ds => obtain ⟨a, vs, rfl, _⟩ := rel_rol.mp r; exact ⟨a, rfl⟩
  | ref n => obtain ⟨a, _, rfl⟩ := rel_ref.mp r; exact ⟨a, rfl⟩
  | _ => cases e
theorem c_repr {X : Cx} (gd : X.A.guards = some []) (hu : X.A.units + 64 < cLine) : CallR X (.builtin "repr") (rL X.K reprF) := by
  intro pins s σ H xs us Q I r hh
  obtain ⟨W, h, ds, d, h', S, q, e, P⟩ := hh
  unfold reprF at e
  split at e
  · split at e
    · rename_i hs
      obtain ⟨p, e1, e⟩ := Option.bind_eq_some_iff.mp e
      split at e
      · rename_i hp
        cases e
        obtain ⟨v, rfl, r1⟩ := rels1 q
        obtain ⟨a, rfl⟩ := isSeq_ref r1 hs
        have dp := toPh_dp S r1 e1
        cases r with
        | cons ra rr =>
          cases rr
          obtain ⟨as, rd⟩ := Dp.reads I _ _ _ dp ra
          cases ra
          refine repr_of_reads' rd hp.2.2.1 (PyData.noDict_hsm (PyData.hasDict_of_canLay _ (SeqAt.canLay_of_shaped hp.1))) gd (by have := hp.2.1; omega) (fun _ _ e => e) (fun h2 u tk hk => ?_) hp.2.2.2
          exact ⟨.str _, H, I.kept (h' := h2) (t' := tk) hk, ⟨u, rfl⟩, P.at S (rel_str.mpr rfl)⟩
      · cases e
    · cases e
  · cases e
end Iv
/-! Iv9: list(zip(a, b)), of lists and of tuples. -/
namespace PySem
open Sem (wp)
section
variable {prog : Program} {w : World} {A : Around} {E : Value → Shared → Prop} {s : Shared} {z TI TO i1 i2 T : Addr} {f : Bool} {oT : Obj} {fp1 fp2 : List Addr} {n1 n2 i : Nat} {P1 P2 : Nat → Value → Prop} {St1 St2 : Nat → Heap → Prop}
/-- next of a zip whose last tuple is held -/
theorem iv_zip_item {Q : Value → Shared → Prop} (S : ZipSep2 z TI TO i1 i2 fp1 fp2) (D1 : Draws prog w A i1 fp1 n1 P1 St1) (D2 : Draws prog w A i2 fp2 n2 P2 St2)
    (hz : IsZipHeld s.heap z TI TO T f) (hT : s.heap.get? T = some oT) (hTI : IsTupOf2 s.heap TI (.ref i1) (.ref i2)) (st1 : St1 i s.heap) (st2 : St2 i s.heap) (hlt1 : i < n1) (hlt2 : i < n2)
    (hQ : ∀ x y h' tk, P1 i x → P2 i y → IsZipHeld h' z TI TO T true → St1 (i + 1) h' → St2 (i + 1) h' → IsTupOf2 h' s.heap.objs.size x y → h'.objs.size = s.heap.objs.size + 1 →
      (∀ c o, c ≠ z → c ≠ i1 → c ≠ i2 → s.heap.get? c = some o → h'.get? c = some o) → Q (.ref s.heap.objs.size) { s with heap := h', toks := tk }) :
    wpAny (model prog w) A (Builtin.«zip.__next__» ⟨[.ref z], []⟩) (fun fin s' => ∃ v, fin = .done (.ret v) ∧ Q v s') E s := by
  obtain ⟨hp, g, d, tk0, os⟩ := s
  show wpAny _ _ (field (.ref z) 2 >>= _) _ _ _
  refine wpAny_bind (wpAny_field hz rfl (x := .bool false) rfl ?_)
  show wpAny _ _ (field (.ref z) 3 >>= _) _ _ _
  refine wpAny_bind (wpAny_field hz rfl (x := .ref TI) rfl ?_)
  refine wpAny_bind (wpAny_seqItems hTI rfl ?_)
  show wpAny _ _ (Builtin.SmallTypes.ownedTupleIsFree (.ref z) >>= _) _ _ _
  refine wpAny_bind (wpAny_tupleHeld_zip hz hT fun k1 hz1 sb1 => ?_)
  replace sb1 : Heap.SameBut z hp k1 := sb1
  simp only [Bool.false_eq_true, if_false]
  refine wpAny_bind ?_
  rw [← Array.forIn_toList]
  simp only [List.forIn_cons, List.forIn_nil]
  refine wpAny_bind (wpAny_bind (wpAny_holding ?_))
  show wpAny _ _ (Builtin.SmallTypes.nextOf (.ref i1) >>= _) _ _ _
  refine wpAny_bind (D1.item i ⟨k1, g, d, tk0, os⟩ _ _ hlt1 (D1.over st1 sb1 S.zf1) fun x k2 tk1 p1 st1' sb2 => wpAny_pure ?_)
  replace sb2 : Heap.SameBut i1 k1 k2 := sb2
  refine wpAny_pure ?_
  refine wpAny_bind (wpAny_bind (wpAny_holding ?_))
  show wpAny _ _ (Builtin.SmallTypes.nextOf (.ref i2) >>= _) _ _ _
  refine wpAny_bind (D2.item i ⟨k2, g, d, tk1, os⟩ _ _ hlt2 (D2.over (D2.over st2 sb1 S.zf2) sb2 S.sep1_2) fun y k3 tk2 p2 st2' sb3 => wpAny_pure ?_)
  replace sb3 : Heap.SameBut i2 k2 k3 := sb3
  refine wpAny_pure (wpAny_pure ?_)
  show wpAny _ _ (newTuple [x, y] >>= _) _ _ _
  refine wpAny_bind (wpAny_newTuple ?_)
  have hsz : k3.objs.size = hp.objs.size := by rw [sb3.1, sb2.1, sb1.1]
  have hz3 : IsZipHeld k3 z TI TO T true := sb3.extBut _ _ S.zi2 (sb2.extBut _ _ S.zi1 hz1)
  have hk : ∀ c o, c ≠ z → c ≠ i1 → c ≠ i2 → hp.get? c = some o → k3.get? c = some o := fun c o c1 c2 c3 e => sb3.extBut _ _ c3 (sb2.extBut _ _ c2 (sb1.extBut _ _ c1 e))
  have st13 := D1.over st1' sb3 S.sep2_1
  refine wpAny_pure ⟨_, rfl, ?_⟩
  show Q (.ref k3.objs.size) _
  have hq : IsTupOf2 (k3.push { cls := .type "tuple", data := .seq #[x, y] }) k3.objs.size x y := Heap.get?_push_size _ rfl
  have hz4 : (k3.push { cls := .type "tuple", data := .seq #[x, y] }).objs.size = k3.objs.size + 1 := Heap.size_push ..
  rw [hsz] at hq hz4 ⊢
  exact hQ x y _ tk2 p1 p2 (Heap.get?_push_of_some _ hz3) (D1.frame _ _ _ st13 fun b _ o e => Heap.get?_push_of_some _ e) (D2.frame _ _ _ st2' fun b _ o e => Heap.get?_push_of_some _ e) hq hz4 fun c o c1 c2 c3 e => Heap.get?_push_of_some _ (hk c o c1 c2 c3 e)
theorem iv_zip_end {Q : Fin → Shared → Prop} (S : ZipSep2 z TI TO i1 i2 fp1 fp2) (D1 : Draws prog w A i1 fp1 n1 P1 St1) (D2 : Draws prog w A i2 fp2 n2 P2 St2)
    (hz : IsZipHeld s.heap z TI TO T f) (hT : s.heap.get? T = some oT) (hTI : IsTupOf2 s.heap TI (.ref i1) (.ref i2)) (st1 : St1 i s.heap) (st2 : St2 i s.heap) (hle1 : i ≤ n1) (hend : i = n1 ∨ i = n2)
    (hE : ∀ h' tk e, (∀ c o, c ≠ z → c ≠ i1 → c ≠ i2 → s.heap.get? c = some o → h'.get? c = some o) → (∃ o, h'.get? e = some o ∧ o.cls = .type "StopIteration") → E (.ref e) { s with heap := h', toks := tk }) :
    wpAny (model prog w) A (Builtin.«zip.__next__» ⟨[.ref z], []⟩) Q E s := by
  obtain ⟨hp, g, d, tk0, os⟩ := s
  show wpAny _ _ (field (.ref z) 2 >>= _) _ _ _
  refine wpAny_bind (wpAny_field hz rfl (x := .bool false) rfl ?_)
  show wpAny _ _ (field (.ref z) 3 >>= _) _ _ _
  refine wpAny_bind (wpAny_field hz rfl (x := .ref TI) rfl ?_)
  refine wpAny_bind (wpAny_seqItems hTI rfl ?_)
  show wpAny _ _ (Builtin.SmallTypes.ownedTupleIsFree (.ref z) >>= _) _ _ _
  refine wpAny_bind (wpAny_tupleHeld_zip hz hT fun k1 hz1 sb1 => ?_)
  replace sb1 : Heap.SameBut z hp k1 := sb1
  simp only [Bool.false_eq_true, if_false]
  refine wpAny_bind ?_
  rw [← Array.forIn_toList]
  simp only [List.forIn_cons, List.forIn_nil]
  refine wpAny_bind (wpAny_bind (wpAny_holding ?_))
  show wpAny _ _ (Builtin.SmallTypes.nextOf (.ref i1) >>= _) _ _ _
  by_cases h1 : i < n1
  · have h2 : i = n2 := by rcases hend with h | h; omega; exact h
    subst h2
    refine wpAny_bind (D1.item i ⟨k1, g, d, tk0, os⟩ _ _ h1 (D1.over st1 sb1 S.zf1) fun x k2 tk1 p1 st1' sb2 => wpAny_pure ?_)
    replace sb2 : Heap.SameBut i1 k1 k2 := sb2
    refine wpAny_pure ?_
    refine wpAny_bind (wpAny_bind (wpAny_holding ?_))
    show wpAny _ _ (Builtin.SmallTypes.nextOf (.ref i2) >>= _) _ _ _
    refine wpAny_bind (D2.done ⟨k2, g, d, tk1, os⟩ _ _ (D2.over (D2.over st2 sb1 S.zf2) sb2 S.sep1_2) fun k3 e sb3 he => ?_)
    exact hE k3 tk1 e (fun c o c1 c2 c3 x => sb3 _ _ c3 (sb2.extBut _ _ c2 (sb1.extBut _ _ c1 x))) he
  · have h2 : i = n1 := by omega
    subst h2
    refine wpAny_bind (D1.done ⟨k1, g, d, tk0, os⟩ _ _ (D1.over st1 sb1 S.zf1) fun k2 e sb2 he => ?_)
    exact hE k2 tk0 e (fun c o c1 c2 _ x => sb2 _ _ c2 (sb1.extBut _ _ c1 x)) he
/-- a zip that is walked by hand: not begun, or its last tuple is held by others -/
def IvZip (h : Heap) (z TI TO i1 i2 : Addr) : Prop := IsTupOf2 h TI (.ref i1) (.ref i2) ∧ ((IsZip h z TI TO .none ∧ ∃ a b, IsTupOf2 h TO a b) ∨ ∃ T f oT, IsZipHeld h z TI TO T f ∧ h.get? T = some oT ∧ T ≠ z ∧ T ≠ i1 ∧ T ≠ i2 ∧ T ≠ TO)
theorem iv_next_item {Q : Option Value → Shared → Prop} (S : ZipSep2 z TI TO i1 i2 fp1 fp2) (D1 : Draws prog w A.in1 i1 fp1 n1 P1 St1) (D2 : Draws prog w A.in1 i2 fp2 n2 P2 St2)
    (hz : IvZip s.heap z TI TO i1 i2) (st1 : St1 i s.heap) (st2 : St2 i s.heap) (hlt1 : i < n1) (hlt2 : i < n2)
    (hQ : ∀ x y h' tk, P1 i x → P2 i y → IvZip h' z TI TO i1 i2 → St1 (i + 1) h' → St2 (i + 1) h' → IsTupOf2 h' s.heap.objs.size x y → h'.objs.size = s.heap.objs.size + 1 →
      (∀ c o, c ≠ z → c ≠ TO → c ≠ i1 → c ≠ i2 → s.heap.get? c = some o → h'.get? c = some o) → Q (some (.ref s.heap.objs.size)) { s with heap := h', toks := tk }) :
    wpAny (model prog w) A (pyNext (.ref z)) Q E s := by
  obtain ⟨hTI, hz⟩ := hz
  have lt : ∀ {c o}, s.heap.get? c = some o → s.heap.objs.size ≠ c := fun e => Nat.ne_of_gt (Heap.lt_size e)
  have l1 : s.heap.objs.size ≠ i1 := let ⟨_, e⟩ := D1.live _ _ st1; lt e
  have l2 : s.heap.objs.size ≠ i2 := let ⟨_, e⟩ := D2.live _ _ st2; lt e
  rcases hz with ⟨hz, a, b, hTO⟩ | ⟨T, f, oT, hz, hT, r1, r2, r3, r4⟩
  · refine wpAny_pyNext_zipD2_item S D1 D2 hz hTI hTO st1 st2 hlt1 hlt2 fun x y h' tk p1 p2 a1 a2 s1 s2 a5 a6 hk => ?_
    exact hQ x y h' tk p1 p2 ⟨hk _ _ S.TIz S.TITO S.TIi1 S.TIi2 hTI, .inr ⟨s.heap.objs.size, false, _, a1, a5, lt hz, l1, l2, lt hTO⟩⟩ s1 s2 a5 a6 hk
  · have hTy : s.TypeIs (.ref z) "zip" := ⟨_, hz, rfl⟩
    unfold pyNext
    refine wpAny_bind (wpAny_attempt (wpAny_callSpecial?_slot (name := Str.ofString "__next__") hTy F.slot_zip_next
      (wpAny_call_entry F.slot_zip_next hTy F.entry_zip_next (iv_zip_item S D1 D2 hz hT hTI st1 st2 hlt1 hlt2 fun x y h' tk p1 p2 a1 s1 s2 a5 a6 hk => wpAny_pure ?_) (F.args_zip_next_1 _))))
    exact hQ x y h' tk p1 p2 ⟨hk _ _ S.TIz S.TIi1 S.TIi2 hTI, .inr ⟨T, true, oT, a1, hk _ _ r1 r2 r3 hT, r1, r2, r3, r4⟩⟩ s1 s2 a5 a6 fun c o c1 _ c2 c3 e => hk c o c1 c2 c3 e
theorem iv_next_end {Q : Option Value → Shared → Prop} (S : ZipSep2 z TI TO i1 i2 fp1 fp2) (D1 : Draws prog w A.in1 i1 fp1 n1 P1 St1) (D2 : Draws prog w A.in1 i2 fp2 n2 P2 St2)
    (hz : IvZip s.heap z TI TO i1 i2) (st1 : St1 i s.heap) (st2 : St2 i s.heap) (hle1 : i ≤ n1) (hle2 : i ≤ n2) (hend : i = n1 ∨ i = n2)
    (hQ : ∀ h' tk, (∀ c o, c ≠ z → c ≠ TO → c ≠ i1 → c ≠ i2 → s.heap.get? c = some o → h'.get? c = some o) → Q none { s with heap := h', toks := tk }) : wpAny (model prog w) A (pyNext (.ref z)) Q E s := by
  obtain ⟨hTI, hz⟩ := hz
  rcases hz with ⟨hz, a, b, hTO⟩ | ⟨T, f, oT, hz, hT, r1, r2, r3, r4⟩
  · exact wpAny_pyNext_zipD2_end S D1 D2 hz hTI hTO st1 st2 hle1 hle2 hend hQ
  · have hTy : s.TypeIs (.ref z) "zip" := ⟨_, hz, rfl⟩
    unfold pyNext
    refine wpAny_bind (wpAny_attempt (wpAny_callSpecial?_slot (name := Str.ofString "__next__") hTy F.slot_zip_next
      (wpAny_call_entry F.slot_zip_next hTy F.entry_zip_next (iv_zip_end S D1 D2 hz hT hTI st1 st2 hle1 hend fun h' tk e hk he => ?_) (F.args_zip_next_1 _))))
    obtain ⟨o, ho, hc⟩ := he
    refine wpAny_bind (wpAny_isInstance (T := "StopIteration") (b := true) ⟨o, ho, hc⟩ isSubtype_stop ?_)
    exact wpAny_pure (hQ _ _ fun c o c1 _ c2 c3 e => hk c o c1 c2 c3 e)
end

/-- the tuples at Ts are the pairs of what was drawn -/
def IvPairs (P1 P2 : Nat → Value → Prop) (h : Heap) (Ts : List Addr) : Prop := ∀ (j : Nat) (T : Addr), Ts[j]? = some T → ∃ x y, P1 j x ∧ P2 j y ∧ IsTupOf2 h T x y
section
variable {prog : Program} {w : World} {A : Around} {R : Result → Shared → Prop} {z TI TO i1 i2 : Addr} {fp1 fp2 : List Addr} {n1 n2 : Nat} {P1 P2 : Nat → Value → Prop} {St1 St2 : Nat → Heap → Prop}
/-- the loop that fills the list at L from the zip -/
theorem iv_fill (S : ZipSep2 z TI TO i1 i2 fp1 fp2) (D1 : Draws prog w A.in1.in1 i1 fp1 n1 P1 St1) (D2 : Draws prog w A.in1.in1 i2 fp2 n2 P2 St2) (hn : min n1 n2 ≤ sizeLine) (L : Addr) (L1 : L ∉ fp1) (L2 : L ∉ fp2) (Lz : L ≠ z) (LI : L ≠ TI) (LO : L ≠ TO) (N0 : Nat) (res : Value) (base : Heap)
    (bL : ∀ b ∈ [z, TI, TO, i1, i2, L], b < N0) :
    ∀ (k i : Nat) (s : Shared) (Ts : List Addr) (c : Nat), min n1 n2 - i = k → i ≤ min n1 n2 → IvZip s.heap z TI TO i1 i2 → St1 i s.heap → St2 i s.heap → N0 ≤ s.heap.objs.size →
    s.heap.get? L = some { cls := .type "list", dict := none, data := .seq (Ts.map Value.ref).toArray c, slots := #[] } → Ts.length = i → IvPairs P1 P2 s.heap Ts → (∀ T ∈ Ts, N0 ≤ T) → Ts.Nodup → (∀ T ∈ Ts, T < s.heap.objs.size) →
    (∀ b o, b ≠ z → b ≠ TO → b ≠ i1 → b ≠ i2 → b ≠ L → base.get? b = some o → s.heap.get? b = some o) →
    (∀ h' tk Ts' c', (∀ b o, b ≠ z → b ≠ TO → b ≠ i1 → b ≠ i2 → b ≠ L → base.get? b = some o → h'.get? b = some o) → h'.get? L = some { cls := .type "list", dict := none, data := .seq (Ts'.map Value.ref).toArray c', slots := #[] } →
      Ts'.length = min n1 n2 → IvPairs P1 P2 h' Ts' → (∀ T ∈ Ts', N0 ≤ T) → Ts'.Nodup → R (.ok (.ret res)) { s with heap := h', toks := tk }) →
    codeAny (model prog w) A (.builtin "list.extend.loop" ⟨[.ref L, .ref z, res], []⟩) R s := by
  intro k
  induction k with
  | zero =>
    intro i s Ts c hk hi hz st1 st2 hN hL hl hp hge hnd hlt hb hR
    have hin : i = min n1 n2 := by omega
    refine codeAny_builtin F.entry_extend_loop ?_
    rw [Around.under_plainId F.plain_extend_loop _]
    show wpAny _ A.in1 (pyNext (.ref z) >>= _) _ _ s
    refine wpAny_bind (iv_next_end S D1 D2 hz st1 st2 (by omega) (by omega) (by omega) fun h' tk hk' => ?_)
    refine wpAny_pure (hR h' tk Ts c (fun b o e1 e2 e3 e4 e5 e => hk' b o e1 e2 e3 e4 (hb b o e1 e2 e3 e4 e5 e)) (hk' _ _ Lz LO (fun e => L1 (by rw [e]; exact S.mem1)) (fun e => L2 (by rw [e]; exact S.mem2)) hL) (by omega) (fun j T e => ?_) hge hnd)
    obtain ⟨x, y, p1, p2, t⟩ := hp j T e
    have hT := hge T (List.mem_of_getElem? e)
    have ne : ∀ b ∈ [z, TI, TO, i1, i2, L], T ≠ b := fun b hb' => Nat.ne_of_gt (Nat.lt_of_lt_of_le (bL b hb') hT)
    exact ⟨x, y, p1, p2, hk' _ _ (ne z (by simp)) (ne TO (by simp)) (ne i1 (by simp)) (ne i2 (by simp)) t⟩
  | succ k ih =>
    intro i s Ts c hk hi hz st1 st2 hN hL hl hp hge hnd hlt hb hR
    have hil : i < min n1 n2 := by omega
    refine codeAny_builtin F.entry_extend_loop ?_
    rw [Around.under_plainId F.plain_extend_loop _]
    show wpAny _ A.in1 (pyNext (.ref z) >>= _) _ _ s
    refine wpAny_bind (iv_next_item S D1 D2 hz st1 st2 (by omega) (by omega) fun x y h' tk p1 p2 hz' st1' st2' hT hsz hk' => ?_)
    have Li1 : L ≠ i1 := fun e => L1 (by rw [e]; exact S.mem1)
    have Li2 : L ≠ i2 := fun e => L2 (by rw [e]; exact S.mem2)
    have hL' := hk' _ _ Lz LO Li1 Li2 hL
    have hLs : L < s.heap.objs.size := Heap.lt_size hL
    show wpAny _ A.in1 (updateSeq L (·.push _) >>= _) _ _ _
    refine wpAny_bind ?_
    have eq : ((Ts.map Value.ref).toArray.push (.ref s.heap.objs.size)) = ((Ts ++ [s.heap.objs.size]).map Value.ref).toArray := by simp
    have oth : ∀ b o, b ≠ L → h'.get? b = some o → (h'.update L (Obj.mapSeq (·.push (.ref s.heap.objs.size)))).get? b = some o := fun b o hb e => (Heap.get?_update_other _ _ (Ne.symm hb)).trans e
    obtain ⟨c0, hLn⟩ : ∃ c0, (h'.update L (Obj.mapSeq (·.push (.ref s.heap.objs.size)))).get? L = some { cls := .type "list", dict := none, data := .seq ((Ts ++ [s.heap.objs.size]).map Value.ref).toArray c0, slots := #[] } := by
      rw [← eq]
      exact ⟨_, Heap.get?_update_self _ hL' rfl⟩
    refine wpAny_updateSeq hL' rfl (wpAny_pure ⟨plainId_quiet F.plain_extend_loop _, ih (i + 1) _ (Ts ++ [s.heap.objs.size]) c0 (by omega) hil ?_ (D1.frame _ _ _ st1' fun b hb' o e => oth b o (fun e => L1 (e ▸ hb')) e) (D2.frame _ _ _ st2' fun b hb' o e => oth b o (fun e => L2 (e ▸ hb')) e) ?_ ?_ (by simp [hl]) ?_ ?_ ?_ ?_ ?_ ?_⟩)
      (by simp; omega) (by show ((Ts.map Value.ref).toArray.push _).size ≤ sizeLine + 1; simp; omega)
    · obtain ⟨a1, a2⟩ := hz'
      refine ⟨oth _ _ (Ne.symm LI) a1, ?_⟩
      rcases a2 with ⟨a2, a, b, a3⟩ | ⟨T, f, oT, a2, a3, r1, r2, r3, r4⟩
      · exact .inl ⟨oth _ _ (Ne.symm Lz) a2, a, b, oth _ _ (Ne.symm LO) a3⟩
      · by_cases hTL : T = L
        · subst hTL
          exact .inr ⟨T, f, _, oth _ _ (Ne.symm Lz) a2, Heap.get?_update_self _ hL' rfl, r1, r2, r3, r4⟩
        · exact .inr ⟨T, f, oT, oth _ _ (Ne.symm Lz) a2, oth _ _ hTL a3, r1, r2, r3, r4⟩
    · show N0 ≤ (h'.update L _).objs.size
      rw [Heap.size_update, hsz]; omega
    · exact hLn
    · intro j T e
      by_cases hj : j < Ts.length
      · rw [List.getElem?_append_left hj] at e
        obtain ⟨x', y', q1, q2, t⟩ := hp j T e
        have hT' := hge T (List.mem_of_getElem? e)
        have ne : ∀ b ∈ [z, TI, TO, i1, i2, L], T ≠ b := fun b hb' => Nat.ne_of_gt (Nat.lt_of_lt_of_le (bL b hb') hT')
        exact ⟨x', y', q1, q2, oth _ _ (ne L (by simp)) (hk' _ _ (ne z (by simp)) (ne TO (by simp)) (ne i1 (by simp)) (ne i2 (by simp)) t)⟩
      · rw [List.getElem?_append_right (by omega)] at e
        have hj0 : j - Ts.length = 0 := by
          have := (List.getElem?_eq_some_iff.mp e).1
          simp at this; omega
        rw [hj0] at e
        cases e
        have hje : j = i := by omega
        subst hje
        exact ⟨x, y, p1, p2, oth _ _ (Nat.ne_of_gt hLs) hT⟩
    · intro T hT'
      rcases List.mem_append.mp hT' with hT' | hT'
      · exact hge T hT'
      · rw [List.mem_singleton.mp hT']; exact hN
    · refine List.nodup_append.mpr ⟨hnd, by simp, fun a ha b hb' e => ?_⟩
      rw [List.mem_singleton.mp hb'] at e
      exact absurd (e ▸ hlt a ha) (Nat.lt_irrefl _)
    · intro T hT'
      show T < (h'.update L _).objs.size
      rw [Heap.size_update, hsz]
      rcases List.mem_append.mp hT' with hT' | hT'
      · exact Nat.lt_succ_of_lt (hlt T hT')
      · rw [List.mem_singleton.mp hT']; exact Nat.lt_succ_self _
    · intro b o e1 e2 e3 e4 e5 e
      exact oth b o e5 (hk' b o e1 e2 e3 e4 (hb b o e1 e2 e3 e4 e5 e))
    · intro h2 tk2 Ts2 c2 a1 a2 a3 a4 a5 a6
      exact hR h2 tk2 Ts2 c2 a1 a2 a3 a4 a5 a6
end
theorem iv_zip_no_len : typeLookup (.type "zip") "__len__" = pure none := am_miss_of_fast (by decide +kernel)
theorem iv_zip_no_hint : typeLookup (.type "zip") "__length_hint__" = pure none := am_miss_of_fast (by decide +kernel)

section
variable {prog : Program} {w : World} {A : Around} {z TI TO i1 i2 : Addr} {fp1 fp2 : List Addr} {n1 n2 : Nat} {P1 P2 : Nat → Value → Prop} {St1 St2 : Nat → Heap → Prop}
/-- list(z), z a zip that is not begun -/
theorem iv_list_zip {E : Value → Shared → Prop} {s : Shared} {Q : Value → Shared → Prop} {a b : Value} (S : ZipSep2 z TI TO i1 i2 fp1 fp2) (D1 : Draws prog w A.in1.in1.in1 i1 fp1 n1 P1 St1) (D2 : Draws prog w A.in1.in1.in1 i2 fp2 n2 P2 St2) (hn : min n1 n2 ≤ sizeLine)
    (hz : IsZip s.heap z TI TO .none) (hTI : IsTupOf2 s.heap TI (.ref i1) (.ref i2)) (hTO : IsTupOf2 s.heap TO a b) (st1 : St1 0 s.heap) (st2 : St2 0 s.heap) (hf1 : ∀ c ∈ fp1, c < s.heap.objs.size) (hf2 : ∀ c ∈ fp2, c < s.heap.objs.size)
    (hQ : ∀ h' tk Ts c, (∀ b o, b ≠ z → b ≠ TO → b ≠ i1 → b ≠ i2 → s.heap.get? b = some o → h'.get? b = some o) → h'.get? s.heap.objs.size = some { cls := .type "list", dict := none, data := .seq (Ts.map Value.ref).toArray c, slots := #[] } →
      Ts.length = min n1 n2 → IvPairs P1 P2 h' Ts → (∀ T ∈ Ts, s.heap.objs.size < T) → Ts.Nodup → Q (.ref s.heap.objs.size) { s with heap := h', toks := tk }) :
    wpAny (model prog w) A (call (.type "list") [.ref z]) Q E s := by
  have i1l : i1 < s.heap.objs.size := hf1 _ S.mem1
  have i2l : i2 < s.heap.objs.size := hf2 _ S.mem2
  have zl : z < s.heap.objs.size := Heap.lt_size hz
  have TIl : TI < s.heap.objs.size := Heap.lt_size hTI
  have TOl : TO < s.heap.objs.size := Heap.lt_size hTO
  refine callType_codes (Q₁ := fun obj s₁ => obj = .ref s.heap.objs.size ∧ s₁ = { s with heap := s.heap.push { cls := .type "list", data := .seq #[] } }) F.called_list (F.typeCall_list_1 _) F.entry_list_init
    (code_list_new _ ⟨rfl, rfl⟩) fun obj s₁ h₁ => ?_
  obtain ⟨rfl, rfl⟩ := h₁
  have hS : (s.heap.push { cls := .type "list", data := .seq #[] }).get? s.heap.objs.size = some { cls := .type "list", data := .seq #[] } := Heap.get?_push_size _ rfl
  refine ⟨⟨_, hS, rfl⟩, F.args_list_init_2 _ _, ?_⟩
  show wpAny _ A.in1.in1 (do let old ← Builtin.List.listItems (.ref s.heap.objs.size); Builtin.List.listUpdate (.ref s.heap.objs.size) (fun _ => #[]); letGo old.toList.reverse; Builtin.List.listExtendWith (.ref s.heap.objs.size) (.ref z) .none) _ _ _
  refine wpAny_bind ?_
  unfold Builtin.List.listItems
  refine wpAny_bind (wpAny_seqItems hS rfl (wpAny_pure ?_))
  show wpAny _ A.in1.in1 (updateSeq s.heap.objs.size (fun _ => #[]) >>= fun _ => letGo (#[] : Array Value).toList.reverse >>= fun _ => Builtin.List.listExtendWith (.ref s.heap.objs.size) (.ref z) .none) _ _ _
  refine wpAny_bind (wpAny_updateSeq hS rfl ?_)
  have hS2 := Heap.get?_update_self (Obj.mapSeq (fun _ => (#[] : Array Value))) hS rfl
  have oth2 : ∀ b o, s.heap.get? b = some o → ((s.heap.push { cls := .type "list", data := .seq #[] }).update s.heap.objs.size (Obj.mapSeq (fun _ => (#[] : Array Value)))).get? b = some o :=
    fun b o e => (Heap.get?_update_other _ _ (Nat.ne_of_gt (Heap.lt_size e))).trans (Heap.get?_push_of_some _ e)
  have sz2 : ((s.heap.push { cls := .type "list", data := .seq #[] }).update s.heap.objs.size (Obj.mapSeq (fun _ => (#[] : Array Value)))).objs.size = s.heap.objs.size + 1 := by rw [Heap.size_update, Heap.size_push]
  generalize (s.heap.push { cls := .type "list", data := .seq #[] }).update s.heap.objs.size (Obj.mapSeq (fun _ => (#[] : Array Value))) = g2 at hS2 oth2 sz2 ⊢
  refine wpAny_bind (wpAny_letGo ?_)
  have hTy : (⟨g2, s.gens, s.drawn, s.toks, s.os⟩ : Shared).TypeIs (.ref z) "zip" := ⟨_, oth2 _ _ hz, rfl⟩
  have Lz : s.heap.objs.size ≠ z := Nat.ne_of_gt zl
  show wpAny _ A.in1.in1 (Builtin.List.listExtendWith (.ref s.heap.objs.size) (.ref z) .none) _ _ ⟨g2, s.gens, s.drawn, s.toks, s.os⟩
  unfold Builtin.List.listExtendWith
  refine wpAny_bind (wpAny_typeOf hTy ?_)
  have h1 : Builtin.List.listSameRef (.ref s.heap.objs.size) (.ref z) = false := by simp [Builtin.List.listSameRef, Lz]
  have h2 : (Value.type "zip" == Value.type "list") = false := by decide
  have h3 : (Value.type "zip" == Value.type "tuple") = false := by decide
  simp only [h1, h2, h3, Bool.or_false, Bool.false_eq_true, if_false]
  refine wpAny_bind (wpAny_pyIter_zip (oth2 _ _ hz) ?_)
  refine wpAny_bind (wpAny_holding ?_)
  unfold Builtin.List.listLengthHint
  refine wpAny_bind (wpAny_specialOf hTy iv_zip_no_len ?_)
  show wpAny _ A.in1.in1 (specialOf (Value.ref z) (Str.ofString "__length_hint__") >>= _) _ _ _
  refine wpAny_bind (wpAny_specialOf hTy iv_zip_no_hint ?_)
  refine wpAny_pure ?_
  show wpAny _ A.in1.in1 (rule "list.extend.makes-room" >>= fun _ => Builtin.List.listTouch (.ref s.heap.objs.size) >>= fun _ =>
    again (.builtin "list.extend.loop" ⟨[.ref s.heap.objs.size, .ref z, .none], []⟩)) _ _ _
  refine wpAny_bind (wpAny_rule ?_)
  refine wpAny_bind ?_
  show wpAny _ A.in1.in1 (updateSeq s.heap.objs.size (·.push .none) >>= fun _ => updateSeq s.heap.objs.size (·.pop)) _ _ _
  refine wpAny_bind (wpAny_updateSeq hS2 rfl ?_)
  have hS3 := Heap.get?_update_self (Obj.mapSeq (·.push Value.none)) hS2 rfl
  refine wpAny_updateSeq (hz := by seq_fits) hS3 rfl ?_
  have hS4 := Heap.get?_update_self (Obj.mapSeq (·.pop)) hS3 rfl
  have oth : ∀ b o, s.heap.get? b = some o → ((g2.update s.heap.objs.size (Obj.mapSeq (·.push Value.none))).update s.heap.objs.size (Obj.mapSeq (·.pop))).get? b = some o :=
    fun b o e => (Heap.get?_update_other _ _ (Nat.ne_of_gt (Heap.lt_size e))).trans ((Heap.get?_update_other _ _ (Nat.ne_of_gt (Heap.lt_size e))).trans (oth2 b o e))
  have szz : ((g2.update s.heap.objs.size (Obj.mapSeq (·.push Value.none))).update s.heap.objs.size (Obj.mapSeq (·.pop))).objs.size = s.heap.objs.size + 1 := by rw [Heap.size_update, Heap.size_update, sz2]
  refine wpAny_pure ⟨plainId_quiet F.plain_extend_loop _, iv_fill S D1 D2 hn s.heap.objs.size (fun e => Nat.lt_irrefl _ (hf1 _ e)) (fun e => Nat.lt_irrefl _ (hf2 _ e)) Lz (Nat.ne_of_gt TIl) (Nat.ne_of_gt TOl) (s.heap.objs.size + 1) .none s.heap ?_ _ 0 _ [] _ rfl (Nat.zero_le _)
    ⟨oth _ _ hTI, .inl ⟨oth _ _ hz, a, b, oth _ _ hTO⟩⟩ (D1.frame _ _ _ st1 fun b _ o e => oth b o e) (D2.frame _ _ _ st2 fun b _ o e => oth b o e) (Nat.le_of_eq szz.symm) hS4 rfl (fun j T e => by simp at e) (fun T e => nomatch e) List.nodup_nil (fun T e => nomatch e)
    (fun b o _ _ _ _ _ e => oth b o e) fun h' tk Ts c a1 a2 a3 a4 a5 a6 => ⟨rfl, ?_⟩⟩
  · intro b hb
    have : b = z ∨ b = TI ∨ b = TO ∨ b = i1 ∨ b = i2 ∨ b = s.heap.objs.size := by simpa using hb
    rcases this with r | r | r | r | r | r <;> rw [r]
    · exact Nat.lt_succ_of_lt zl
    · exact Nat.lt_succ_of_lt TIl
    · exact Nat.lt_succ_of_lt TOl
    · exact Nat.lt_succ_of_lt i1l
    · exact Nat.lt_succ_of_lt i2l
    · exact Nat.lt_succ_self _
  · exact hQ h' tk Ts c (fun b o e1 e2 e3 e4 e => a1 b o e1 e2 e3 e4 (Nat.ne_of_lt (Heap.lt_size e)) e) a2 a3 a4 a5 a6
end
end PySem
namespace Iv
open PySem PySem.Spec PyProof.Rows L2

section
variable {X : Cx} {pins : List (Addr × Obj)} {σ : L2.St} {H : Hp} {s : Shared}
/-- a thing of the heap, younger than the entry, is tracked from now on -/
theorem _root_.L2.Inv.trackD {a : Addr} {o : HO} {ob : Obj} (I : Inv X pins σ H s) (e : s.heap.get? a = some ob) (hn : H a = none) (hs : X.s_0.heap.objs.size ≤ a) (hl : a ≠ X.env.locals) (hc : ∀ x c, X.env.cells.lookup x = some c → c ≠ a) (hp : ∀ p ∈ X.pn ++ pins, p.1 ≠ a)
    (new : ObjOk X.prog X.w (upd H a o) s.heap a o) : Inv X pins σ (upd H a o) s := by
  refine I.step (h' := s.heap) (g' := s.gens) (t' := s.toks) (d' := s.drawn) (ch := [a]) (fun b hb => ?_) (fun b u _ _ _ e _ => e) (fun b u _ _ _ e _ => ⟨u.slots, e⟩) (fun b u hb e n => ?_) (fun b u _ e => ⟨u, e⟩) (fun b xs q => ?_) (fun b u v q => ?_) (fun b ps q => ?_) (fun m h => h) (fun b u q => ?_) I.bare
  · rw [List.mem_singleton.mp hb]; exact ⟨.inr hs, hl, hc, hp⟩
  · rw [upd_ne (fun z => hb (List.mem_singleton.mpr z))]; exact n
  · rw [upd_ne (ne_of_none q hn)]; exact q
  · rw [upd_ne (ne_of_none q hn)]; exact q
  · exact ⟨#[], by rw [upd_ne (ne_of_none q hn), q]; simp⟩
  · by_cases hb : b = a
    · subst hb; rw [upd_same] at q; cases q; exact new
    · rw [upd_ne hb] at q
      exact (I.hok b u q).stay (fun c v _ e => e) (fun c q => by rw [upd_ne (ne_of_none q hn)]; exact q) fun c xs q => by rw [upd_ne (ne_of_none q hn)]; exact q
end

/-- two lists, or two tuples -/
def pairUp (h : Sto) : D → D → Option (List D × List D)
  | .tup a, .tup b => some (a, b)
  | x, y => (lseq h x).bind fun a => (lseq h y).map fun b => (a, b)
def dListZip (φ ψ : Den) : Den := fun ρ h => (φ ρ h).bind fun p => (ψ ρ p.2).bind fun q => (pairUp q.2 p.1 q.1).map fun r => (.lst (zipL r.1 r.2), q.2)
section
variable {X : Cx} {pins : List (Addr × Obj)} {σ : L2.St}
/-- new pairs are tracked, and frozen -/
theorem track_pairs {s : Shared} {h : Sto} : ∀ (Ts : List Addr) (H : Hp) (W : Wd) (ps : List (D × D)) (vs : List (V × V)), Inv X pins σ H s → SI X.K H W h → Ts.length = ps.length → vs.length = ps.length →
    (∀ (j : Nat) (d : D × D) (v : V × V), ps[j]? = some d → vs[j]? = some v → Rel X.K W d.1 v.1 ∧ Rel X.K W d.2 v.2) →
    (∀ (j : Nat) (T : Addr) (v : V × V), Ts[j]? = some T → vs[j]? = some v → H T = none ∧ FpOk X pins H T ∧ X.s_0.heap.objs.size ≤ T ∧ ∃ x y, RelV v.1 x ∧ RelV v.2 y ∧ IsTupOf2 s.heap T x y) → Ts.Nodup →
    ∃ H' W', Inv X pins σ H' s ∧ SI X.K H' W' h ∧ W.le W' ∧ Rels X.K W' (ps.map fun p => D.tup [p.1, p.2]) (Ts.map V.ref) ∧ ∀ a, a ∉ Ts → H' a = H a
  | [], H, W, ps, vs, I, S, l1, l2, r, t, nd => by
    have : ps = [] := List.eq_nil_of_length_eq_zero l1.symm
    subst this
    exact ⟨H, W, I, S, .refl _, .nil, fun _ _ => rfl⟩
  | T :: Ts, H, W, [], vs, I, S, l1, l2, r, t, nd => by simp at l1
  | T :: Ts, H, W, p :: ps, [], I, S, l1, l2, r, t, nd => by simp at l2
  | T :: Ts, H, W, p :: ps, v :: vs, I, S, l1, l2, r, t, nd => by
    obtain ⟨hn, hf, hs, x, y, rx, ry, hT⟩ := t 0 T v rfl rfl
    obtain ⟨ra, rb⟩ := r 0 p v rfl rfl
    have I2 : Inv X pins σ (upd H T (.tup [v.1, v.2])) s := I.trackD hT hn hs hf.2.1 hf.2.2.2.2.1 hf.2.2.2.2.2 ⟨by show 2 ≤ sizeLine; decide, [x, y], .cons rx (.cons ry .nil), ⟨_, hT, rfl, _, rfl⟩⟩
    obtain ⟨S2, le2⟩ := S.frz (o := .tup [v.1, v.2]) hn
    have nd' := List.nodup_cons.mp nd
    obtain ⟨H', W', I3, S3, le3, r3, out⟩ := track_pairs Ts _ _ ps vs I2 S2 (by simpa using l1) (by simpa using l2) (fun j d u e1 e2 => let q := r (j + 1) d u (by simpa using e1) (by simpa using e2); ⟨Rel.mono le2 _ _ q.1, Rel.mono le2 _ _ q.2⟩)
      (fun j T' u e1 e2 => by
        obtain ⟨hn', hf', hs', q⟩ := t (j + 1) T' u (by simpa using e1) (by simpa using e2)
        have ne : T' ≠ T := fun e => nd'.1 (e ▸ List.mem_of_getElem? e1)
        exact ⟨by rw [upd_ne ne]; exact hn', ⟨by rw [upd_ne ne]; exact hn', hf'.2⟩, hs', q⟩) nd'.2
    refine ⟨H', W', I3, S3, le2.trans le3, ?_, fun a ha => ?_⟩
    · rw [List.map_cons, List.map_cons]
      refine .cons (rel_tup.mpr ⟨T, [v.1, v.2], rfl, ?_, Rels.mono (le2.trans le3) _ _ (.cons ra (.cons rb .nil))⟩) r3
      exact Same.seqT le3.F (SqT.of upd_same)
    · rw [out a (fun z => ha (List.mem_cons_of_mem _ z)), upd_ne (fun z => ha (by rw [z]; exact List.mem_cons_self))]
theorem vals_refs : ∀ Ts : List Addr, Vals (Ts.map V.ref) (Ts.map Value.ref)
  | [] => .nil
  | T :: Ts => .cons rfl (vals_refs Ts)
theorem run_listZip {H : Hp} {s : Shared} {W : Wd} {h : Sto} {ds es : List D} {vs us : List V} {its its2 : List Value} {Q : VK} {z TI TO i1 i2 : Addr} {fp1 fp2 : List Addr} {St1 St2 : Nat → Heap → Prop} {a b : Value}
    (I : Inv X pins σ H s) (S : SI X.K H W h) (r1 : Rels X.K W ds vs) (r2 : Rels X.K W es us) (v1 : Vals vs its) (v2 : Vals us its2) (hsz : its.length ≤ sizeLine) (P : Post X.K W (.lst (zipL ds es)) h Q)
    (Sp : ZipSep2 z TI TO i1 i2 fp1 fp2) (D1 : Draws X.prog X.w X.A.in1.in1.in1 i1 fp1 its.length (fun i v => its[i]? = some v) St1) (D2 : Draws X.prog X.w X.A.in1.in1.in1 i2 fp2 its2.length (fun i v => its2[i]? = some v) St2)
    (hz : IsZip s.heap z TI TO .none) (hTI : IsTupOf2 s.heap TI (.ref i1) (.ref i2)) (hTO : IsTupOf2 s.heap TO a b) (st1 : St1 0 s.heap) (st2 : St2 0 s.heap) (hf1 : ∀ c ∈ fp1, c < s.heap.objs.size) (hf2 : ∀ c ∈ fp2, c < s.heap.objs.size)
    (fz : FpOk X pins H z) (fO : FpOk X pins H TO) (f1 : FpOk X pins H i1) (f2 : FpOk X pins H i2) :
    wpAny (model X.prog X.w) X.A (call (.type "list") [.ref z]) (EP X pins σ Q) X.xe s := by
  have lv := v1.length
  have lu := v2.length
  have ld := r1.length
  have le := r2.length
  have hmin : min its.length its2.length ≤ sizeLine := Nat.le_trans (Nat.min_le_left _ _) hsz
  refine iv_list_zip Sp D1 D2 hmin hz hTI hTO st1 st2 hf1 hf2 fun h' tk Ts c hk hL hl hp hge hnd => ?_
  have I2 : Inv X pins σ H { s with heap := h', toks := tk } := I.turnedL (ch := [z, TO, i1, i2]) (fun b o hb e => hk b o (fun q => hb (by simp [q])) (fun q => hb (by simp [q])) (fun q => hb (by simp [q])) (fun q => hb (by simp [q])) e) (fun b hb => by
    have : b = z ∨ b = TO ∨ b = i1 ∨ b = i2 := by simpa using hb
    rcases this with r | r | r | r <;> rw [r] <;> assumption)
  have fresh : ∀ T, s.heap.objs.size ≤ T → H T = none := fun T hT => I.hok.fresh hT
  have lz : ∀ j : Nat, j < min ds.length es.length → j < ds.length ∧ j < es.length := fun j hj => by omega
  obtain ⟨H', W', I3, S3, le3, r3, out⟩ := track_pairs (X := X) (pins := pins) (σ := σ) (s := { s with heap := h', toks := tk }) Ts H W (ds.zip es) (vs.zip us) I2 S (by simp; omega) (by simp; omega)
    (fun j d v e1 e2 => by
      obtain ⟨a1, a2⟩ := List.getElem?_zip_eq_some.mp e1
      obtain ⟨b1, b2⟩ := List.getElem?_zip_eq_some.mp e2
      exact ⟨r1.at a1 b1, r2.at a2 b2⟩)
    (fun j T v e1 e2 => by
      have hT := hge T (List.mem_of_getElem? e1)
      have hn := fresh T (Nat.le_of_lt hT)
      obtain ⟨b1, b2⟩ := List.getElem?_zip_eq_some.mp e2
      obtain ⟨x, y, p1, p2, t⟩ := hp j T e1
      obtain ⟨x', q1, rx⟩ := v1.get b1
      obtain ⟨y', q2, ry⟩ := v2.get b2
      rw [q1] at p1; cases p1
      rw [q2] at p2; cases p2
      exact ⟨hn, I.fpOk (Nat.le_of_lt hT) hn, Nat.le_trans I.sz (Nat.le_of_lt hT), _, _, rx, ry, t⟩) hnd
  have hLT : s.heap.objs.size ∉ Ts := fun z => Nat.lt_irrefl _ (hge _ z)
  have hnL : H' s.heap.objs.size = none := by rw [out _ hLT]; exact fresh _ (Nat.le_refl _)
  have fL := I.fpOk (pins := pins) (H' := H) (Nat.le_refl s.heap.objs.size) (fresh _ (Nat.le_refl _))
  have zle : (Ts.map V.ref).length ≤ sizeLine := by rw [List.length_map, hl]; exact hmin
  have I4 := I3.trackD (o := .lst (Ts.map V.ref)) hL hnL I.sz fL.2.1 fL.2.2.2.2.1 fL.2.2.2.2.2 ⟨zle, Ts.map Value.ref, c, vals_refs Ts, hL⟩
  obtain ⟨S4, le4⟩ := S3.frz (o := .lst (Ts.map V.ref)) hnL
  exact ⟨.ref s.heap.objs.size, _, I4, rfl, P _ _ _ (le3.trans le4) S4 (rel_lst.mpr ⟨_, _, rfl, upd_same, Rels.mono le4 _ _ r3⟩)⟩
theorem v_listZip {a b : Expr} {φ ψ : Den} {pl pz p2 pos : Pos} (hml : X.mg "list" = none) (hmz : X.mg "zip" = none) (ha : PE X a (tEv X.K φ)) (hb : PE X b (tEv X.K ψ)) (hc : X.calm = true := by rfl) (hgl : Gl X "list" := by rfl) (hgz : Gl X "zip" := by rfl)
    (hs : starEach [a, b] X.env = (false, eval a X.env) :: starEach [b] X.env := by rfl) (hs2 : starEach [b] X.env = (false, eval b X.env) :: starEach [] X.env := by rfl) (hpl : (backTo p2 (starEach [b] X.env)).any (·.1) = false := by rfl)
    (na : starEach [.Call (.Name "zip" pz) [a, b] [] p2] X.env = (false, eval (.Call (.Name "zip" pz) [a, b] [] p2) X.env) :: starEach [] X.env := by rfl) :
    PE X (.Call (.Name "list" pl) [.Call (.Name "zip" pz) [a, b] [] p2] [] pos) (tEv X.K (dListZip φ ψ)) := by
  refine ⟨fun pins s σ H Q I hh => ?_⟩
  obtain ⟨ρ, h, W, d, h', A, e, P⟩ := hh
  unfold dListZip at e
  obtain ⟨⟨d1, h1⟩, e1, e⟩ := Option.bind_eq_some_iff.mp e
  obtain ⟨⟨d2, h2⟩, e2, e⟩ := Option.bind_eq_some_iff.mp e
  obtain ⟨⟨ds, es⟩, e3, e4⟩ := Option.map_eq_some_iff.mp e
  cases e4
  have el : lCons φ (lCons ψ lNil) ρ h = some ([d1, d2], h2) := by
    unfold lCons; rw [e1]
    show ((lCons ψ lNil ρ h1).bind _) = _
    unfold lCons; rw [e2]; rfl
  have PAab : PA X [a, b] (tEvL X.K (lCons φ (lCons ψ lNil))) := a_cons ha (a_cons hb a_nil hs2) hs
  have step : tEvL X.K (lCons φ (lCons ψ lNil)) σ H (fun vs H1 => ∃ W1, W.le W1 ∧ SI X.K H1 W1 h2 ∧ Rels X.K W1 [d1, d2] vs) := ⟨ρ, h, W, _, h2, A, el, fun vs H1 W1 l1 S1 r1 => ⟨W1, l1, S1, r1⟩⟩
  refine Call_ (ld_blt I hgl hml PyProof.Rows.boot_list (PyProof.Rows.callWith_type1 (args_cons ?_ na) na))
  refine Call_ (ld_blt I hgz hmz PyProof.Rows.boot_zip (PyProof.Rows.callWith_type1 (thn (PAab.run p2 pins s σ H _ I step) fun us s1 ⟨vs, H1, I1, rv, W1, l1, S1, r1⟩ => ?_) hs hpl))
  obtain ⟨v1, v2, rfl, q1, q2⟩ := rels2 r1
  obtain ⟨u1, u2, rfl, t1, t2⟩ := vals2 rv
  have hh : X.A.in1.in1.in1.handled = none := I1.ok.hd hc
  have fp : ∀ k : Nat, ∀ (h2 : Heap), FpOk X pins H1 (s1.heap.objs.size + k) := fun k _ => I1.fpOk (Nat.le_add_right _ _) (I1.hok.fresh (Nat.le_add_right _ _))
  have P1 : Post X.K W1 (.lst (zipL ds es)) h2 Q := P.of l1
  have sep : ∀ (a1 b1 : Addr), a1 < s1.heap.objs.size → b1 < s1.heap.objs.size → ZipSep2 (s1.heap.objs.size + 4) (s1.heap.objs.size + 2) (s1.heap.objs.size + 3) s1.heap.objs.size (s1.heap.objs.size + 1) [s1.heap.objs.size, a1] [s1.heap.objs.size + 1, b1] := fun a1 b1 k1 k2 =>
    zip_sep2 (N := s1.heap.objs.size) (fp1 := [a1]) (fp2 := [b1]) (fun b hb => by rw [List.mem_singleton.mp hb]; exact k1) (fun b hb => by rw [List.mem_singleton.mp hb]; exact k2)
  have cases2 : (d1 = .tup ds ∧ d2 = .tup es) ∨ (lseq h2 d1 = some ds ∧ lseq h2 d2 = some es) := by
    have gen : ((lseq h2 d1).bind fun a => (lseq h2 d2).map fun b => (a, b)) = some (ds, es) → (d1 = .tup ds ∧ d2 = .tup es) ∨ (lseq h2 d1 = some ds ∧ lseq h2 d2 = some es) := fun e3 => by
      obtain ⟨x, f1, e3⟩ := Option.bind_eq_some_iff.mp e3
      obtain ⟨y, f2, f3⟩ := Option.map_eq_some_iff.mp e3
      cases f3
      exact .inr ⟨f1, f2⟩
    cases d1 with
    | tup xs =>
      cases d2 with
      | tup ys =>
        have e3' : some (xs, ys) = some (ds, es) := e3
        cases e3'
        exact .inl ⟨rfl, rfl⟩
      | _ => exact gen e3
    | _ => exact gen e3
  rcases cases2 with ⟨rfl, rfl⟩ | ⟨f1, f2⟩
  · obtain ⟨a1, vs, rfl, s', q⟩ := rel_tup.mp q1
    obtain ⟨b1, us, rfl, s'', q'⟩ := rel_tup.mp q2
    cases t1
    cases t2
    obtain ⟨its, w1, p1, z1⟩ := I1.tuple (Same.seqT S1.sub s')
    obtain ⟨its2, w2, p2, z2⟩ := I1.tuple (Same.seqT S1.sub s'')
    have k1 : a1 < s1.heap.objs.size := let ⟨o, ho, _⟩ := p1; Heap.lt_size ho
    have k2 : b1 < s1.heap.objs.size := let ⟨o, ho, _⟩ := p2; Heap.lt_size ho
    refine RZ.call_zipT (show s1.heap.IsTuple a1 its.toArray from p1) (show s1.heap.IsTuple b1 its2.toArray from p2) fun h3 hz hTI hTO i1 i2 hsz hk => args_nil ?_
    have I2 : Inv X pins σ H1 { s1 with heap := h3 } := I1.kept (t' := s1.toks) hk
    have lt : ∀ k, k < 5 → s1.heap.objs.size + k < h3.objs.size := fun k hk => by rw [hsz]; exact Nat.add_lt_add_left hk _
    refine run_listZip (St1 := fun i h => h.IsTupleIter s1.heap.objs.size a1 i ∧ h.IsTuple a1 its.toArray) (St2 := fun i h => h.IsTupleIter (s1.heap.objs.size + 1) b1 i ∧ h.IsTuple b1 its2.toArray) I2 S1 q q' w1 w2 (by rw [← w1.length]; exact z1) P1 (sep a1 b1 k1 k2)
      (by simpa using Draws.tuple (prog := X.prog) (w := X.w) (A := X.A.in1.in1.in1) hh s1.heap.objs.size a1 (Nat.ne_of_lt k1) its.toArray) (by simpa using Draws.tuple (prog := X.prog) (w := X.w) (A := X.A.in1.in1.in1) hh (s1.heap.objs.size + 1) b1 (Nat.ne_of_lt (Nat.lt_succ_of_lt k2)) its2.toArray)
      hz hTI hTO ⟨i1, (show s1.heap.IsTuple a1 its.toArray from p1).at fun o e => hk _ _ e⟩ ⟨i2, (show s1.heap.IsTuple b1 its2.toArray from p2).at fun o e => hk _ _ e⟩ (fun c hc => ?_) (fun c hc => ?_) (fp 4 h3) (fp 3 h3) (fp 0 h3) (fp 1 h3)
    · have : c = s1.heap.objs.size ∨ c = a1 := by simpa using hc
      rcases this with r | r <;> rw [r]
      · exact lt 0 (by decide)
      · exact Nat.lt_trans k1 (lt 0 (by decide))
    · have : c = s1.heap.objs.size + 1 ∨ c = b1 := by simpa using hc
      rcases this with r | r <;> rw [r]
      · exact lt 1 (by decide)
      · exact Nat.lt_trans k2 (lt 0 (by decide))
  · obtain ⟨a1, vs, rfl, s', q⟩ := lseq_seq S1 q1 f1
    obtain ⟨b1, us, rfl, s'', q'⟩ := lseq_seq S1 q2 f2
    cases t1
    cases t2
    obtain ⟨its, w1, p1, z1⟩ := I1.list s'
    obtain ⟨its2, w2, p2, z2⟩ := I1.list s''
    have k1 : a1 < s1.heap.objs.size := p1.lt
    have k2 : b1 < s1.heap.objs.size := p2.lt
    refine call_zip_2 p1.isList p2.isList fun h3 hz hTI hTO i1 i2 hsz hk => args_nil ?_
    have I2 : Inv X pins σ H1 { s1 with heap := h3 } := I1.kept (t' := s1.toks) hk
    have lt : ∀ k, k < 5 → s1.heap.objs.size + k < h3.objs.size := fun k hk => by rw [hsz]; exact Nat.add_lt_add_left hk _
    refine run_listZip (St1 := fun i h => h.IsListIter s1.heap.objs.size a1 i ∧ h.IsList a1 its.toArray) (St2 := fun i h => h.IsListIter (s1.heap.objs.size + 1) b1 i ∧ h.IsList b1 its2.toArray) I2 S1 q q' w1 w2 (by rw [← w1.length]; exact z1) P1 (sep a1 b1 k1 k2)
      (by simpa using Draws.list (prog := X.prog) (w := X.w) (A := X.A.in1.in1.in1) hh s1.heap.objs.size a1 (Nat.ne_of_lt k1) its.toArray) (by simpa using Draws.list (prog := X.prog) (w := X.w) (A := X.A.in1.in1.in1) hh (s1.heap.objs.size + 1) b1 (Nat.ne_of_lt (Nat.lt_succ_of_lt k2)) its2.toArray)
      hz hTI hTO ⟨i1, Heap.IsList.at p1.isList fun o e => hk _ _ e⟩ ⟨i2, Heap.IsList.at p2.isList fun o e => hk _ _ e⟩ (fun c hc => ?_) (fun c hc => ?_) (fp 4 h3) (fp 3 h3) (fp 0 h3) (fp 1 h3)
    · have : c = s1.heap.objs.size ∨ c = a1 := by simpa using hc
      rcases this with r | r <;> rw [r]
      · exact lt 0 (by decide)
      · exact Nat.lt_trans k1 (lt 0 (by decide))
    · have : c = s1.heap.objs.size + 1 ∨ c = b1 := by simpa using hc
      rcases this with r | r <;> rw [r]
      · exact lt 1 (by decide)
      · exact Nat.lt_trans k2 (lt 0 (by decide))
end
end Iv
/-! Iv13: enumerate from a count; defs that call themselves. -/
namespace Iv
open PySem PySem.Spec PyProof.Rows L2
def IteC (K : PySem.W.Frag) (a : Addr) (c : Int) : It :=
  ⟨fun i H => ∃ (xs : List V) (x : V), SqT K H a xs ∧ xs[i]? = some x, fun i H v H' => ∃ T x, v = .ref T ∧ H T = none ∧ H' = upd H T (.tup [.int (c + (i : Nat)), x]) ∧ ∀ xs, SqT K H a xs → xs[i]? = some x, fun i H => ∃ xs : List V, SqT K H a xs ∧ xs.length ≤ i⟩
theorem turn_enumC {P : Program} {w : World} {K : PySem.W.Frag} {elts : List Expr} {kk : Nat} {tpos : Pos} (a e it : Addr) (c : Int) :
    Turn P w K (.Tuple elts kk tpos) (IteC K a c) [e, it] e (fun i h => (∃ old, IsEnum h e it (c + ((i : Nat) : Int)) old) ∧ h.IsTupleIter it a i ∧ e ≠ it ∧ e ≠ a ∧ a ≠ it) where
  mem := by simp
  obj := fun i h st b hb => by
    obtain ⟨⟨old, he⟩, ⟨o, ho, hc, hd⟩, _⟩ := st
    have e' : b = e ∨ b = it := by simpa using hb
    rcases e' with z | z
    · rw [z]; exact ⟨_, he, fun v q => nomatch q⟩
    · rw [z]; exact ⟨o, ho, fun v q => by rw [hd] at q; cases q⟩
  keep := fun i h h' st k => let ⟨⟨old, he⟩, hi, hne⟩ := st; ⟨⟨old, k e (by simp) _ he⟩, hi.at fun o q => k it (by simp) o q, hne⟩
  item := by
    intro X hP hw hK hcc i pins s σ H E I hf st hg
    subst hP hw hK
    obtain ⟨⟨old, he⟩, hit, hne, hea, hai⟩ := st
    obtain ⟨xs, x, hq, hx⟩ := hg
    obtain ⟨its, rv, p, hz⟩ := I.tuple hq
    have hel : e < s.heap.objs.size := Heap.lt_size he
    have hil : it < s.heap.objs.size := by obtain ⟨_, q, _⟩ := hit; exact Heap.lt_size q
    have hlt : i < its.toArray.size := by
      rw [List.size_toArray, ← rv.length]; exact (List.getElem?_eq_some_iff.mp hx).1
    refine wpAny_pyNext_enum_itemC (Draws.tuple (prog := X.prog) (w := X.w) (A := X.A.in1) (show X.A.in1.handled = none from I.ok.hd hcc) it a hai its.toArray) he ⟨hit, p⟩ hlt hne (by simp [hne, hea]) fun u h' tk hu ho hit' hT hsz hk => ?_
    have ru : RelV x u := by
      obtain ⟨u', hu', r'⟩ := rv.get hx
      have : its.toArray[i]? = some u' := by simpa using hu'
      rw [this] at hu; cases hu; exact r'
    refine ⟨_, rfl, wpAny_letOwnedTupleGo_enum (s := { s with heap := h', toks := tk + 1 }) ho fun h'' he' sb => ?_⟩
    have hT2 : h''.get? s.heap.objs.size = some { cls := .type "tuple", data := .seq #[.int (c + (i : Nat)) tk, u] } := (sb.2 _ (Nat.ne_of_gt hel)).trans hT
    have new : ObjOk X.prog X.w (upd H s.heap.objs.size (.tup [.int (c + (i : Nat)), x])) h'' s.heap.objs.size (.tup [.int (c + (i : Nat)), x]) :=
      ⟨by show 2 ≤ sizeLine; decide, [.int (c + (i : Nat)) tk, u], .cons ⟨_, rfl⟩ (.cons ru .nil), ⟨_, hT2, rfl, _, rfl⟩⟩
    have I1 : Inv X pins σ (upd H s.heap.objs.size (.tup [.int (c + (i : Nat)), x])) { s with heap := h'', toks := tk + 1 } :=
      I.turnedNew (ch := [e, it]) (fun b ob hb q => (sb.2 b (fun z => hb (by simp [z]))).trans (hk b ob (fun z => hb (by simp [z])) (fun z => hb (by simp [z])) q)) hf (Nat.le_refl _) new
    refine ⟨.ref s.heap.objs.size, _, I1, rfl, ⟨_, x, rfl, I.hok.fresh (Nat.le_refl _), rfl, fun ys hy => by rw [I.tuple_inj hy hq]; exact hx⟩, ⟨⟨u, ?_⟩, hit'.1.at fun o q => (sb.2 it (Ne.symm hne)).trans q, hne, hea, hai⟩, fun b hb => ?_⟩
    · have e1 : c + ((i + 1 : Nat) : Int) = c + (i : Int) + 1 := by omega
      rw [e1]; exact he'
    · have hb' : b < s.heap.objs.size := by
        have e' : b = e ∨ b = it := by simpa using hb
        rcases e' with z | z
        · rw [z]; exact hel
        · rw [z]; exact hil
      rw [upd_ne (Nat.ne_of_lt hb')]
      exact (hf b hb).1
  done := by
    intro X hP hw hK hcc i pins s σ H E I hf st hg
    subst hP hw hK
    obtain ⟨⟨old, he⟩, hit, hne, hea, hai⟩ := st
    obtain ⟨xs, hq, hx⟩ := hg
    obtain ⟨its, rv, p, hz⟩ := I.tuple hq
    obtain ⟨f0, f1, f2, f3, f4, f5⟩ := hf it (by simp)
    have hl := rv.length
    obtain ⟨o, hoi, hci, hdi⟩ := hit
    have hh := I.ok.hd hcc
    have hT : s.TypeIs (.ref e) "enumerate" := ⟨_, he, rfl⟩
    unfold pyNext
    refine wpAny_bind (wpAny_attempt (wpAny_callSpecial?_slot (name := Str.ofString "__next__") hT F.slot_enumerate_next
      (wpAny_call_entry F.slot_enumerate_next hT F.entry_enumerate_next ?_ (F.args_enumerate_next_1 _))))
    show wpAny _ _ (field (.ref e) 2 >>= _) _ _ _
    refine wpAny_bind (wpAny_field he rfl (x := .ref it) rfl ?_)
    refine wpAny_bind (wpAny_nextOf_tuple_end hh ⟨o, hoi, hci, hdi⟩ (show s.heap.IsTuple a its.toArray from p) (by simp; omega) fun h' x he' hx' => ?_)
    obtain ⟨o, ho, hc⟩ := hx'
    refine wpAny_bind (wpAny_isInstance (T := "StopIteration") (b := true) ⟨o, ho, hc⟩ isSubtype_stop ?_)
    exact wpAny_pure ⟨rfl, I.turned (t' := s.toks) (fun b o hb q => he' b o hb q) f0 f1 f3 f4 f5⟩
  self := fun A i s Q E st h => let ⟨⟨_, he⟩, _⟩ := st; wpAny_pyIter_enum he h

def iEnumCA (K : PySem.W.Frag) (ta : TA) : TI := fun σ H R => ta σ H fun vs H1 => ∃ a xs c, vs = [.ref a, .int c] ∧ (-(2 ^ 63) ≤ c ∧ c < 2 ^ 63) ∧ SqT K H1 a xs ∧ R (IteC K a c) H1
theorem pi_enumCA {X : Cx} {e e2 : Expr} {ta : TA} {p pos tpos : Pos} {elts : List Expr} {kk : Nat} (hg : Gl X "enumerate") (hm : X.mg "enumerate" = none) (ha : PA X [e, e2] ta) (hs : starEach [e, e2] X.env = (false, eval e X.env) :: starEach [e2] X.env := by rfl) (hp : (backTo pos (starEach [e2] X.env)).any (·.1) = false := by rfl) :
    PI X (.Tuple elts kk tpos) (.Call (.Name "enumerate" p) [e, e2] [] pos) (iEnumCA X.K ta) := by
  refine ⟨fun pins s σ H R I h => ?_⟩
  refine Call_ (ld_blt I hg hm boot_enumerate (PyProof.Rows.callWith_type1 (thn (ha.run pos pins s σ H _ I h) fun us s1 ⟨vs, H1, I1, r1, q1⟩ => ?_) hs hp))
  obtain ⟨a, xs, c, ex, hc, hq, q⟩ := q1
  subst ex
  cases r1 with
  | cons r rr =>
    cases rr with
    | cons r' rr =>
      cases rr
      cases r
      obtain ⟨t, rfl⟩ := r'
      have fr : ∀ b, b ∈ [s1.heap.objs.size + 1, s1.heap.objs.size] → FpOk X pins H1 b := fun b hb => by
        have hle : s1.heap.objs.size ≤ b := by
          rcases (show b = s1.heap.objs.size + 1 ∨ b = s1.heap.objs.size by simpa using hb) with z | z
          · rw [z]; exact Nat.le_add_right _ _
          · rw [z]; exact Nat.le_refl _
        exact I1.fpOk hle (I1.hok.fresh hle)
      have ⟨its, rv, pT, hz⟩ := I1.tuple hq
      have hlt : a < s1.heap.objs.size := by obtain ⟨o, ho, _⟩ := id pT; exact Heap.lt_size ho
      refine enum_begins (begins_tuple a its.toArray) (show s1.heap.IsTuple a its.toArray from pT) hc.1 hc.2 fun h' he hit hsz hk => wpAny_pyIter_enum he ?_
      have I2 : Inv X pins σ H1 { s1 with heap := h' } := I1.kept (t' := s1.toks) hk
      exact ⟨s1.heap.objs.size + 1, [s1.heap.objs.size + 1, s1.heap.objs.size], _, _, H1, rfl, I2, turn_enumC a (s1.heap.objs.size + 1) s1.heap.objs.size c,
        ⟨⟨.none, by rw [show c + ((0 : Nat) : Int) = c by omega]; exact he⟩, ⟨_, hit, rfl, rfl⟩, Nat.succ_ne_self _, Nat.ne_of_gt (Nat.lt_succ_of_lt hlt), Nat.ne_of_lt hlt⟩, fr, q⟩
def enumCL (c : Int) (ds : List D) : List D := (List.range ds.length).zipWith (fun i d => D.tup [.int (c + (i : Nat)), d]) ds
def iEnumC (φ ψ : Den) : DenI := fun ρ h => (φ ρ h).bind fun p => (ψ ρ p.2).bind fun q => match p.1, q.1 with
  | .tup ds, .int c => if -(2 ^ 63) ≤ c ∧ c < 2 ^ 63 then some (enumCL c ds, q.2) else none
  | _, _ => none
theorem enumCL_get {c : Int} {ds : List D} {i : Nat} {d : D} (e : (enumCL c ds)[i]? = some d) : ∃ z, ds[i]? = some z ∧ d = .tup [.int (c + (i : Nat)), z] := by
  unfold enumCL at e
  rw [List.getElem?_zipWith] at e
  by_cases hi : i < ds.length
  · rw [List.getElem?_range hi, List.getElem?_eq_getElem hi] at e
    exact ⟨ds[i], List.getElem?_eq_getElem hi, (Option.some.inj e).symm⟩
  · rw [List.getElem?_eq_none (by simpa using hi)] at e
    cases e
theorem enumCL_length (c : Int) (ds : List D) : (enumCL c ds).length = ds.length := by unfold enumCL; simp
theorem WalkD.ofEC {K : PySem.W.Frag} {W : Wd} {a : Addr} {c : Int} {ds : List D} {vs : List V} (s : SqT K W.F a vs) (q : Rels K W ds vs) : WalkD K (IteC K a c) W (enumCL c ds) where
  goes := fun i H hi g => by
    rw [enumCL_length, ← q.length] at hi
    exact ⟨vs, vs[i], Same.seqT g s, by simp [hi]⟩
  stops := fun H g => by rw [enumCL_length, ← q.length]; exact ⟨vs, Same.seqT g s, Nat.le_refl _⟩
  yields := fun i H x H' d e g y => by
    obtain ⟨z, e1, rfl⟩ := enumCL_get e
    obtain ⟨T, x2, rfl, hT, rfl, e3⟩ := y
    exact .inr ⟨T, _, _, rfl, hT, rfl, rfl, .cons (rel_int.mpr rfl) (.cons (q.at e1 (e3 vs (Same.seqT g s))) .nil)⟩
theorem p_enumC {X : Cx} {e e2 : Expr} {φ ψ : Den} {p pos tpos : Pos} {elts : List Expr} {kk : Nat} (hm : X.mg "enumerate" = none) (ha : PE X e (tEv X.K φ)) (hb : PE X e2 (tEv X.K ψ)) (hg : Gl X "enumerate" := by rfl)
    (hs : starEach [e, e2] X.env = (false, eval e X.env) :: starEach [e2] X.env := by rfl) (hs2 : starEach [e2] X.env = (false, eval e2 X.env) :: starEach [] X.env := by rfl) (hp : (backTo pos (starEach [e2] X.env)).any (·.1) = false := by rfl) : PI X (.Tuple elts kk tpos) (.Call (.Name "enumerate" p) [e, e2] [] pos) (tIt X.K (iEnumC φ ψ)) :=
  (pi_enumCA hg hm (a_cons ha (a_cons hb a_nil hs2) hs) hs hp).impD fun σ H R hh => by
  obtain ⟨ρ, h, W, ds, h', A, e, P⟩ := hh
  unfold iEnumC at e
  obtain ⟨⟨d, h1⟩, e1, e⟩ := Option.bind_eq_some_iff.mp e
  obtain ⟨⟨d2, h2⟩, e2, e⟩ := Option.bind_eq_some_iff.mp e
  dsimp only at e2
  have el : lCons φ (lCons ψ lNil) ρ h = some ([d, d2], h2) := by unfold lCons; rw [e1]; show ((ψ ρ h1).bind _).bind _ = _; rw [e2]; rfl
  refine ⟨ρ, h, W, [d, d2], h2, A, el, fun vs H1 W1 l1 S1 r1 => ?_⟩
  obtain ⟨v, v2, rfl, r2, r3⟩ := rels2 r1
  dsimp only at e
  split at e
  · split at e
    · rename_i hc
      cases e
      obtain ⟨a, vs, rfl, s, q⟩ := rel_tup.mp r2
      obtain rfl := rel_int.mp r3
      exact ⟨a, vs, _, rfl, hc, Same.seqT S1.sub s, P _ _ _ l1 S1 (.ofEC s q)⟩
    · cases e
  · cases e
/-- a def that stands there, told nothing of its answer -/
theorem Has.none {P : Program} {w : World} {K : PySem.W.Frag} {mg : Str → Option Value} {base : Heap} {x : Str} {st : Stmt} {f : Addr} {fd : FuncData} {ps : List Str} {k : Nat} (F : Fun K x x st f fd) (hm : mg x = some (.ref f)) (hb : Binds K fd ps []) :
    Has P w K mg base k x ps.length (fun _ _ => .none) :=
  ⟨f, fd, ps, hm, F.kp, hb, rfl, fun A outer s H args us vs Q hr hgd e0 bt rv hl hsp => by
    obtain ⟨_, _, _, _, _, _, _, e, _⟩ := hsp
    cases e⟩
/-- a def that calls itself, so many times deep -/
def recF (n : Nat) (φ : Fun1 → DenS) : Nat → Fun1
  | 0 => fun _ _ => .none
  | r + 1 => bodyF n (φ (recF n φ r))
theorem rels3 {K : PySem.W.Frag} {W : Wd} {d e f : D} {vs : List V} (r : Rels K W [d, e, f] vs) : ∃ v u t, vs = [v, u, t] ∧ Rel K W d v ∧ Rel K W e u ∧ Rel K W f t := by
  unfold Rels at r
  obtain ⟨v, t, rfl, r1, r2⟩ := r
  obtain ⟨u, t, rfl, r3, r4⟩ := rels2 r2
  exact ⟨v, u, t, rfl, r1, r3, r4⟩
theorem b_par3 {X : Cx} {l : DenL} {pos : Pos} (i j n : Nat) {x y z : Str} {a b c : Expr} {p1 p2 p3 q1 q2 : Pos} {kq k2 : Nat} (hc : X.calm = true) (hN : X.N.Nodup) (ha : PA X [a, b, c] (tEvL X.K l)) (hi : X.N[i]? = some x := by rfl) (hj : X.N[j]? = some y := by rfl) (hn : X.N[n]? = some z := by rfl)
    (hij : i ≠ j := by decide) (hin : i ≠ n := by decide) (hjn : j ≠ n := by decide)
    (hx : X.env.scope.names.lookup x = some .local := by rfl) (hy : X.env.scope.names.lookup y = some .local := by rfl) (hz : X.env.scope.names.lookup z = some .local := by rfl)
    (hw : swappedStores [.Tuple [.Name x p1, .Name y p2, .Name z p3] kq q1] (.Tuple [a, b, c] k2 q2) X.env = pure (some [x, y, z]) := by rfl)
    (hs : swapsWithSole [.Tuple [.Name x p1, .Name y p2, .Name z p3] kq q1] (.Tuple [a, b, c] k2 q2) pos.line X.env = pure false := by rfl) :
    PS X (.Assign [.Tuple [.Name x p1, .Name y p2, .Name z p3] kq q1] (.Tuple [a, b, c] k2 q2) pos) (tEvS X.K (sPar3 i j n l)) := (ps_par3 hc hN hi hj hn hij hin hjn hx hy hz ha hw hs).impD fun D σ H hh => by
  obtain ⟨ρ, h, W, f, ρ', h', A, e, P⟩ := hh
  unfold sPar3 at e
  obtain ⟨⟨ds, h1⟩, e1, e⟩ := Option.bind_eq_some_iff.mp e
  obtain ⟨d1, d2, d3, rfl⟩ : ∃ d1 d2 d3, ds = [d1, d2, d3] := by
    match ds, e with
    | [d1, d2, d3], _ => exact ⟨d1, d2, d3, rfl⟩
  cases e
  refine ⟨ρ, h, W, _, _, A, e1, fun vs H1 W1 l1 S1 r1 => ?_⟩
  obtain ⟨v, u, t, rfl, r2, r3, r4⟩ := rels3 r1
  exact ⟨v, u, t, rfl, P _ H1 W1 l1 ⟨(((A.e.mono l1).set r2 i).set r3 j).set r4 n, S1⟩⟩
/-- what is answered is a list of ours that nobody changes any more -/
def frzD : D → Sto → Option (D × Sto)
  | .ref n, h => match h[n]? with
    | some (.lst ds) => some (.lst ds, h.set n .dead)
    | _ => none
  | d, h => some (d, h)
def dFrz (φ : Den) : Den := fun ρ h => (φ ρ h).bind fun p => frzD p.1 p.2
theorem v_frz {X : Cx} {e : Expr} {φ : Den} (ha : PE X e (tEv X.K φ)) : PE X e (tEv X.K (dFrz φ)) := ha.impD fun σ H Q hh => by
  obtain ⟨ρ, h, W, d, h', A, e, P⟩ := hh
  unfold dFrz at e
  obtain ⟨⟨d1, h1⟩, e1, e⟩ := Option.bind_eq_some_iff.mp e
  refine ⟨ρ, h, W, d1, h1, A, e1, fun v H' W' l S r => ?_⟩
  dsimp only at e
  unfold frzD at e
  split at e
  · split at e
    · rename_i n _ ds q
      cases e
      obtain ⟨a, z1, rfl⟩ := rel_ref.mp r
      obtain ⟨b, vs, f1, f2, f3⟩ := S.obj _ _ q
      rw [z1] at f1; cases f1
      obtain ⟨S2, l2⟩ := S.kill z1 q f2
      exact P _ _ _ (l.trans l2) S2 (rel_lst.mpr ⟨a, vs, rfl, upd_same, Rels.mono l2 _ _ f3⟩)
    · cases e
  · cases e
    exact P _ _ _ l S r
/-! ### zip of a tuple with a list -/
def ItzM (K : PySem.W.Frag) (a b : Addr) : It :=
  ⟨fun i H => ∃ (xs ys : List V) (x y : V), SqT K H a xs ∧ SqL K H b ys ∧ xs[i]? = some x ∧ ys[i]? = some y,
    fun i H v H' => ∃ T x y, v = .ref T ∧ H T = none ∧ H' = upd H T (.tup [x, y]) ∧ (∀ xs, SqT K H a xs → xs[i]? = some x) ∧ ∀ ys, SqL K H b ys → ys[i]? = some y,
    fun i H => ∃ xs ys : List V, SqT K H a xs ∧ SqL K H b ys ∧ i ≤ xs.length ∧ i ≤ ys.length ∧ (i = xs.length ∨ i = ys.length)⟩
theorem turn_zipM {P : Program} {w : World} {K : PySem.W.Frag} {elts : List Expr} {kk : Nat} {tpos : Pos} {a b z TI TO i1 i2 : Addr} (D : ZipSep2 z TI TO i1 i2 [i1, a] [i2, b]) (n1 : a ≠ i1) (n2 : b ≠ i2) :
    Turn P w K (.Tuple elts kk tpos) (ItzM K a b) [z, TI, TO, i1, i2] z (fun i h => IsZip h z TI TO .none ∧ IsTupOf2 h TI (.ref i1) (.ref i2) ∧ (∃ x y, IsTupOf2 h TO x y) ∧ h.IsTupleIter i1 a i ∧ h.IsListIter i2 b i) where
  mem := by simp
  obj := fun i h st c hc => by
    obtain ⟨hz, hTI, ⟨x, y, hTO⟩, ⟨o1, e1, _, d1⟩, ⟨o2, e2, _, d2⟩⟩ := st
    rcases (show c = z ∨ c = TI ∨ c = TO ∨ c = i1 ∨ c = i2 by simpa using hc) with q | q | q | q | q
    · rw [q]; exact ⟨_, hz, fun v q => nomatch q⟩
    · rw [q]; exact ⟨_, hTI, fun v q => nomatch q⟩
    · rw [q]; exact ⟨_, hTO, fun v q => nomatch q⟩
    · rw [q]; exact ⟨o1, e1, fun v q => by rw [d1] at q; cases q⟩
    · rw [q]; exact ⟨o2, e2, fun v q => by rw [d2] at q; cases q⟩
  keep := fun i h h' st k => by
    obtain ⟨hz, hTI, ⟨x, y, hTO⟩, h1, h2⟩ := st
    exact ⟨k z (by simp) _ hz, k TI (by simp) _ hTI, ⟨x, y, k TO (by simp) _ hTO⟩, h1.at fun o q => k i1 (by simp) o q, h2.at fun o q => k i2 (by simp) o q⟩
  item := by
    intro X hP hw hK hcc i pins s σ H E I hf st hg
    subst hP hw hK
    obtain ⟨hz, hTI, ⟨x0, y0, hTO⟩, h1, h2⟩ := st
    obtain ⟨xs, ys, x, y, hqx, hqy, hx, hy⟩ := hg
    obtain ⟨its, rv, p, _⟩ := I.tuple hqx
    obtain ⟨its2, rv2, p2, _⟩ := I.list hqy
    obtain ⟨u, hu, ru⟩ := rv.get hx
    obtain ⟨u2, hu2, ru2⟩ := rv2.get hy
    have hzl : z < s.heap.objs.size := Heap.lt_size hz
    have g1 := (List.getElem?_eq_some_iff.mp hu).1
    have g2 := (List.getElem?_eq_some_iff.mp hu2).1
    refine wpAny_pyNext_zipD2_item D (Draws.tuple (prog := X.prog) (w := X.w) (A := X.A.in1) (show X.A.in1.handled = none from I.ok.hd hcc) i1 a n1 its.toArray) (Draws.list (prog := X.prog) (w := X.w) (A := X.A.in1) (show X.A.in1.handled = none from I.ok.hd hcc) i2 b n2 its2.toArray)
      hz hTI hTO ⟨h1, p⟩ ⟨h2, p2.isList⟩ (by simpa using g1) (by simpa using g2) fun v1 v2 h' tk hv1 hv2 z' TO' h1' h2' hT hsz hk => ?_
    have hv1 : u = v1 := by
      have : its[i]? = some v1 := by simpa using hv1
      rw [hu] at this; exact Option.some.inj this
    have hv2 : u2 = v2 := by
      have : its2[i]? = some v2 := by simpa using hv2
      rw [hu2] at this; exact Option.some.inj this
    subst hv1 hv2
    refine ⟨_, rfl, wpAny_letOwnedTupleGo_zip (s := { s with heap := h', toks := tk }) z' fun h'' z'' sb => ?_⟩
    have hT2 : h''.get? s.heap.objs.size = some { cls := .type "tuple", data := .seq #[u, u2] } := (sb.2 _ (Nat.ne_of_gt hzl)).trans hT
    have new : ObjOk X.prog X.w (upd H s.heap.objs.size (.tup [x, y])) h'' s.heap.objs.size (.tup [x, y]) :=
      ⟨by show 2 ≤ sizeLine; decide, [u, u2], .cons ru (.cons ru2 .nil), ⟨_, hT2, rfl, _, rfl⟩⟩
    have I1 : Inv X pins σ (upd H s.heap.objs.size (.tup [x, y])) { s with heap := h'', toks := tk } :=
      I.turnedNew (t' := tk) (ch := [z, TI, TO, i1, i2]) (fun c o hb q => (sb.2 c (fun q' => hb (by simp [q']))).trans (hk c o (fun q' => hb (by simp [q'])) (fun q' => hb (by simp [q'])) (fun q' => hb (by simp [q'])) (fun q' => hb (by simp [q'])) q)) hf (Nat.le_refl _) new
    refine ⟨.ref s.heap.objs.size, _, I1, rfl, ⟨_, x, y, rfl, I.hok.fresh (Nat.le_refl _), rfl, fun l hl => by rw [I.tuple_inj hl hqx]; exact hx, fun l hl => by rw [I.list_inj hl hqy]; exact hy⟩, ⟨z'', ?_, ⟨u, u2, ?_⟩, ?_, ?_⟩, fun c hcm => ?_⟩
    · exact (sb.2 _ D.TIz).trans (hk _ _ D.TIz D.TITO D.TIi1 D.TIi2 hTI)
    · exact (sb.2 _ D.TOz).trans TO'
    · exact h1'.1.at fun o q => (sb.2 _ (fun e => D.zf1 (by simp [e]))).trans q
    · exact h2'.1.at fun o q => (sb.2 _ (fun e => D.zf2 (by simp [e]))).trans q
    · have hlt : c < s.heap.objs.size := by
        rcases (show c = z ∨ c = TI ∨ c = TO ∨ c = i1 ∨ c = i2 by simpa using hcm) with q | q | q | q | q
        · rw [q]; exact hzl
        · rw [q]; exact Heap.lt_size hTI
        · rw [q]; exact Heap.lt_size hTO
        · rw [q]; obtain ⟨_, e1, _⟩ := h1; exact Heap.lt_size e1
        · rw [q]; obtain ⟨_, e2, _⟩ := h2; exact Heap.lt_size e2
      rw [upd_ne (Nat.ne_of_lt hlt)]
      exact (hf c hcm).1
  done := by
    intro X hP hw hK hcc i pins s σ H E I hf st hg
    subst hP hw hK
    obtain ⟨hz, hTI, ⟨x0, y0, hTO⟩, h1, h2⟩ := st
    obtain ⟨xs, ys, hqx, hqy, le1, le2, hend⟩ := hg
    obtain ⟨its, rv, p, _⟩ := I.tuple hqx
    obtain ⟨its2, rv2, p2, _⟩ := I.list hqy
    have l1 := rv.length
    have l2 := rv2.length
    exact wpAny_pyNext_zipD2_end D (Draws.tuple (prog := X.prog) (w := X.w) (A := X.A.in1) (show X.A.in1.handled = none from I.ok.hd hcc) i1 a n1 its.toArray) (Draws.list (prog := X.prog) (w := X.w) (A := X.A.in1) (show X.A.in1.handled = none from I.ok.hd hcc) i2 b n2 its2.toArray)
      hz hTI hTO ⟨h1, p⟩ ⟨h2, p2.isList⟩ (by simp; omega) (by simp; omega) (by simp; omega) fun h' tk hk => ⟨rfl, I.turnedL (t' := tk) (ch := [z, TI, TO, i1, i2]) (fun c o hb q =>
      hk c o (fun q' => hb (by simp [q'])) (fun q' => hb (by simp [q'])) (fun q' => hb (by simp [q'])) (fun q' => hb (by simp [q'])) q) hf⟩
  self := fun A i s Q E st h => wpAny_pyIter_zip st.1 h
theorem sepM (N a b : Nat) (h1 : a < N) (h2 : b < N) : ZipSep2 (N + 4) (N + 2) (N + 3) N (N + 1) [N, a] [N + 1, b] := by
  have m : ∀ {x y z : Nat}, x ≠ y → x ≠ z → x ∉ [y, z] := fun h1 h2 h => by
    rcases List.mem_cons.mp h with h | h
    · exact h1 h
    · exact h2 (List.mem_singleton.mp h)
  exact ⟨(show N + 2 ≠ N + 4 by omega), (show N + 3 ≠ N + 4 by omega), (show N + 2 ≠ N + 3 by omega), (show N + 2 ≠ N by omega), List.mem_cons_self, m (show N + 4 ≠ N by omega) (show N + 4 ≠ a by omega), m (show N + 3 ≠ N by omega) (show N + 3 ≠ a by omega),
    (show N + 2 ≠ N + 1 by omega), List.mem_cons_self, m (show N + 4 ≠ N + 1 by omega) (show N + 4 ≠ b by omega), m (show N + 3 ≠ N + 1 by omega) (show N + 3 ≠ b by omega), m (show N ≠ N + 1 by omega) (show N ≠ b by omega), m (show N + 1 ≠ N by omega) (show N + 1 ≠ a by omega)⟩
def iZipMA (K : PySem.W.Frag) (ta : TA) : TI := fun σ H R => ta σ H fun vs H1 => ∃ a b xs ys, vs = [.ref a, .ref b] ∧ SqT K H1 a xs ∧ SqL K H1 b ys ∧ R (ItzM K a b) H1
theorem pi_zipMA {X : Cx} {e e2 : Expr} {ta : TA} {p pos tpos : Pos} {elts : List Expr} {kk : Nat} (hg : Gl X "zip") (hm : X.mg "zip" = none) (ha : PA X [e, e2] ta)
    (hs : starEach [e, e2] X.env = (false, eval e X.env) :: starEach [e2] X.env := by rfl) (hpl : (backTo pos (starEach [e2] X.env)).any (·.1) = false := by rfl) :
    PI X (.Tuple elts kk tpos) (.Call (.Name "zip" p) [e, e2] [] pos) (iZipMA X.K ta) := by
  refine ⟨fun pins s σ H R I h => ?_⟩
  refine Call_ (ld_blt I hg hm PyProof.Rows.boot_zip (PyProof.Rows.callWith_type1 (thn (ha.run pos pins s σ H _ I h) fun us s1 ⟨vs, H1, I1, r1, q1⟩ => ?_) hs hpl))
  obtain ⟨a, b, xs, ys, ex, hqx, hqy, q⟩ := q1
  subst ex
  cases r1 with
  | cons r rr =>
    cases rr with
    | cons r' rr =>
      cases rr
      cases r
      cases r'
      obtain ⟨its, rv, pT, _⟩ := I1.tuple hqx
      obtain ⟨its2, rv2, pL, _⟩ := I1.list hqy
      have lt1 : a < s1.heap.objs.size := by obtain ⟨o, ho, _⟩ := id pT; exact Heap.lt_size ho
      have lt2 : b < s1.heap.objs.size := pL.lt
      have fr5 : ∀ c, c ∈ [s1.heap.objs.size + 4, s1.heap.objs.size + 2, s1.heap.objs.size + 3, s1.heap.objs.size, s1.heap.objs.size + 1] → FpOk X pins H1 c := fun c hcm => by
        have hle : s1.heap.objs.size ≤ c := by
          rcases (show c = s1.heap.objs.size + 4 ∨ c = s1.heap.objs.size + 2 ∨ c = s1.heap.objs.size + 3 ∨ c = s1.heap.objs.size ∨ c = s1.heap.objs.size + 1 by simpa using hcm) with z | z | z | z | z <;> omega
        exact I1.fpOk hle (I1.hok.fresh hle)
      refine zip_begins2 (begins_tuple a its.toArray) (begins_list b its2.toArray) (show s1.heap.IsTuple a its.toArray from pT) pL.isList fun h' hz hTI hTO h1 h2 hsz hk => wpAny_pyIter_zip hz ?_
      have I2 : Inv X pins σ H1 { s1 with heap := h' } := I1.kept (t' := s1.toks) hk
      have D : ZipSep2 (s1.heap.objs.size + 4) (s1.heap.objs.size + 2) (s1.heap.objs.size + 3) s1.heap.objs.size (s1.heap.objs.size + 1) [s1.heap.objs.size, a] [s1.heap.objs.size + 1, b] := by
        exact sepM _ _ _ lt1 lt2
      exact ⟨s1.heap.objs.size + 4, [s1.heap.objs.size + 4, s1.heap.objs.size + 2, s1.heap.objs.size + 3, s1.heap.objs.size, s1.heap.objs.size + 1], _, _, H1, rfl, I2, turn_zipM D (Nat.ne_of_lt lt1) (Nat.ne_of_lt (Nat.lt_succ_of_lt lt2)),
        ⟨hz, hTI, ⟨_, _, hTO⟩, ⟨_, h1, rfl, rfl⟩, ⟨_, h2, rfl, rfl⟩⟩, fr5, q⟩
theorem WalkD.ofZM {K : PySem.W.Frag} {W : Wd} {a b : Addr} {ds es : List D} {vs us : List V} (s : SqT K W.F a vs) (q : Rels K W ds vs) (s2 : SqL K W.F b us) (q2 : Rels K W es us) : WalkD K (ItzM K a b) W (zipL ds es) where
  goes := fun i H hi g => by
    rw [zipL_length, ← q.length, ← q2.length] at hi
    have h1 : i < vs.length := by omega
    have h2 : i < us.length := by omega
    exact ⟨vs, us, vs[i], us[i], Same.seqT g s, g.seq s2, by simp [h1], by simp [h2]⟩
  stops := fun H g => by
    rw [zipL_length, ← q.length, ← q2.length]
    exact ⟨vs, us, Same.seqT g s, g.seq s2, by omega, by omega, by omega⟩
  yields := fun i H x H' d e g y => by
    obtain ⟨c1, c2, e1, e1', rfl⟩ := zipL_get e
    obtain ⟨T, x1, x2, rfl, hT, rfl, e2, e3⟩ := y
    exact .inr ⟨T, _, _, rfl, hT, rfl, rfl, .cons (q.at e1 (e2 vs (Same.seqT g s))) (.cons (q2.at e1' (e3 us (g.seq s2))) .nil)⟩
/-- two lists, two tuples, or a tuple and a list that stay -/
def froX : D → D → Option (List D × List D)
  | .tup a, .lst b => some (a, b)
  | x, y => fro x y
def iZipX (φ ψ : Den) : DenI := fun ρ h => (φ ρ h).bind fun p => (ψ ρ p.2).bind fun q => (froX p.1 q.1).map fun r => (zipL r.1 r.2, q.2)
theorem PI.orX {X : Cx} {tg l : Expr} {t t' : TI} (p : PI X tg l t) (q : PI X tg l t') : PI X tg l (fun σ H R => t σ H R ∨ t' σ H R) := ⟨fun pins s σ H R I h => h.elim (p.run pins s σ H R I) (q.run pins s σ H R I)⟩
theorem p_zipX {X : Cx} {e e2 : Expr} {φ ψ : Den} {p pos tpos : Pos} {elts : List Expr} {kk : Nat} (hm : X.mg "zip" = none) (ha : PE X e (tEv X.K φ)) (hb : PE X e2 (tEv X.K ψ)) (hg : Gl X "zip" := by rfl) (hs : starEach [e, e2] X.env = (false, eval e X.env) :: starEach [e2] X.env := by rfl) (hs2 : starEach [e2] X.env = (false, eval e2 X.env) :: starEach [] X.env := by rfl)
    (hpl : (backTo pos (starEach [e2] X.env)).any (·.1) = false := by rfl) : PI X (.Tuple elts kk tpos) (.Call (.Name "zip" p) [e, e2] [] pos) (tIt X.K (iZipX φ ψ)) :=
  (PI.orX (p_zip (X := X) hm ha hb hg hs hs2 hpl) (pi_zipMA hg hm (a_cons ha (a_cons hb a_nil hs2) hs) hs hpl)).impD fun σ H R hh => by
  obtain ⟨ρ, h, W, ds, h', A, e, P⟩ := hh
  unfold iZipX at e
  obtain ⟨⟨d, h1⟩, e1, e⟩ := Option.bind_eq_some_iff.mp e
  obtain ⟨⟨d2, h2⟩, e2, e⟩ := Option.bind_eq_some_iff.mp e
  obtain ⟨⟨xs, ys⟩, e3, e4⟩ := Option.map_eq_some_iff.mp e
  dsimp only at e2 e3
  unfold froX at e3
  split at e3
  · cases e3
    cases e4
    right
    have el : lCons φ (lCons ψ lNil) ρ h = some ([.tup xs, .lst ys], h2) := by
      unfold lCons; rw [e1]
      show ((lCons ψ lNil ρ h1).bind _) = _
      unfold lCons; rw [e2]; rfl
    refine ⟨ρ, h, W, _, h2, A, el, fun vs H1 W1 l1 S1 r1 => ?_⟩
    obtain ⟨v, u, rfl, r2, r3⟩ := rels2 r1
    obtain ⟨a, vs, rfl, s, q⟩ := rel_tup.mp r2
    obtain ⟨b, us, rfl, s', q'⟩ := rel_lst.mp r3
    exact ⟨a, b, vs, us, rfl, Same.seqT S1.sub s, SqL.of (S1.sub _ _ s'), P _ _ _ l1 S1 (.ofZM s q (SqL.of s') q')⟩
  · left
    refine ⟨ρ, h, W, ds, h', A, ?_, P⟩
    unfold iZip
    rw [e1]; show ((ψ ρ h1).bind _) = _
    rw [e2]; show ((fro _ _).map _) = _
    rw [e3]; exact congrArg some e4
end Iv
/-! Iv10: what the top leaves; a law's end. -/
namespace Iv
open PySem PySem.Spec PyProof.Rows L2

/-- the def named x of the text stands under its name -/
structure Stands (K : PySem.W.Frag) (mg : Str → Option Value) (x : Str) (st : Stmt) : Prop where
  ex : ∃ (f : Addr) (fd : FuncData), Fun K x x st f fd ∧ mg x = some (.ref f)
section
variable {K : PySem.W.Frag} {mg : Str → Option Value} {hp : Heap} {x : Str}
theorem stands_mk {st : Stmt} {f : Addr} {oc : Value} {od an : Option Addr} {osl : Array (Option Value)} {kV doc pm cdv ct : Value} (X : K.In hp) (G : hp.Ns mainGlobals mg) (a : PySem.W.nsIn K mainGlobals x = some (some (.ref f)))
    (l : K.lookup f = some ⟨oc, od, .func (PySem.W.fnOf x x (defArgs st) (defBody st) (defScope st) .none kV doc pm an cdv ct), osl⟩) (c : PySem.W.codeIn K cdv x = true) (k : PySem.W.keepIn K (.ref f) = true) : Stands K mg x st :=
  ⟨f, _, fun_mk l c k, PySem.W.mg_of X G a⟩
theorem none_mk (X : K.In hp) (G : hp.Ns mainGlobals mg) (e : PySem.W.nsIn K mainGlobals x = some Option.none) : mg x = Option.none := PySem.W.mg_none_of X G e
theorem isc_int {i : Int} {t : Tok} (X : K.In hp) (G : hp.Ns mainGlobals mg) (e : PySem.W.nsIn K mainGlobals x = some (some (.int i t))) : IsC K mg x (.int i) :=
  ⟨.int i, _, PySem.W.mg_of X G e, ⟨t, rfl⟩, fun _ => rel_int.mpr rfl⟩
theorem isc_str {s : Str} {t : Tok} (X : K.In hp) (G : hp.Ns mainGlobals mg) (e : PySem.W.nsIn K mainGlobals x = some (some (.str s t))) : IsC K mg x (.str s) :=
  ⟨.str s, _, PySem.W.mg_of X G e, ⟨t, rfl⟩, fun _ => rel_str.mpr rfl⟩
/-- flat constants in a written tuple -/
inductive Flat : List D → List Value → Prop
  | nil : Flat [] []
  | int {i : Int} {t : Tok} {ds : List D} {us : List Value} : Flat ds us → Flat (.int i :: ds) (.int i t :: us)
  | str {i : Str} {t : Tok} {ds : List D} {us : List Value} : Flat ds us → Flat (.str i :: ds) (.str i t :: us)
  | non {ds : List D} {us : List Value} : Flat ds us → Flat (.non :: ds) (.none :: us)
  | bl {b : Bool} {ds : List D} {us : List Value} : Flat ds us → Flat (.bl b :: ds) (.bool b :: us)
theorem Flat.vals {W : Wd} : ∀ {ds : List D} {us : List Value}, Flat ds us → ∃ vs, Vals vs us ∧ Rels K W ds vs
  | _, _, .nil => ⟨[], .nil, .nil⟩
  | _, _, .int (i := i) h => let ⟨vs, a, b⟩ := Flat.vals h; ⟨.int i :: vs, .cons ⟨_, rfl⟩ a, .cons (rel_int.mpr rfl) b⟩
  | _, _, .str (i := i) h => let ⟨vs, a, b⟩ := Flat.vals h; ⟨.str i :: vs, .cons ⟨_, rfl⟩ a, .cons (rel_str.mpr rfl) b⟩
  | _, _, .non h => let ⟨vs, a, b⟩ := Flat.vals h; ⟨.non :: vs, .cons rfl a, .cons (rel_non.mpr rfl) b⟩
  | _, _, .bl (b := c) h => let ⟨vs, a, b⟩ := Flat.vals h; ⟨.bl c :: vs, .cons rfl a, .cons (rel_bl.mpr rfl) b⟩
theorem isc_tup {a : Addr} {dd : Option Addr} {us : List Value} {n : Nat} {sl : Array (Option Value)} {ds : List D} (X : K.In hp) (G : hp.Ns mainGlobals mg) (e : PySem.W.nsIn K mainGlobals x = some (some (.ref a))) (l : K.lookup a = some ⟨.type "tuple", dd, .seq us.toArray n, sl⟩) (f : Flat ds us) (hz : us.length ≤ sizeLine) : IsC K mg x (.tup ds) := by
  refine ⟨.ref a, _, PySem.W.mg_of X G e, rfl, fun W => ?_⟩
  obtain ⟨vs, v, r⟩ := f.vals (K := K) (W := W)
  exact rel_tup.mpr ⟨a, vs, rfl, .inr ⟨_, us.toArray, n, l, rfl, rfl, by simpa using hz, by simpa using v⟩, r⟩
end
/-- the script, read -/
def scrD (ns : List Int) : D := .rol (ns.map D.int)
/-- a law's call, from what its def answers -/
theorem law_runs {P : Program} {w : World} {K : PySem.W.Frag} {mg mb : Str → Option Value} {k : Nat} {fa a : Addr} {x : Str} {g : Fun1} {s : Shared} {vs : List Value} {ns : List Int}
    (KX : K.In s.heap) (hns : s.heap.Ns mainGlobals mg) (hb : s.heap.Ns builtinsNs mb) (hbb : ∀ x : Str, x ≠ "__name__" → mb x = bootBuiltins x) (hlim : s.heap.NoLimit) (hg : s.gens = #[])
    (ha : s.heap.get? a = some { cls := .type "list", data := .seq vs.toArray }) (hi : IntsAre vs ns) (hl : ns.length ≤ sizeLine) (hr : Room k callerA) (hmg : mg x = some (.ref fa))
    (F : ∀ base : Heap, K.In base → base.Ns mainGlobals mg → Has P w K mg base k x 1 g) (M : ∃ h', g [scrD ns] [] = some (.bl true, h')) :
    codeAny (model P w) callerA (.call (.ref fa) ⟨[.ref a], []⟩) (fun r s' => r = .ok (.ret (.bool true)) ∧ OldK s.heap s'.heap ∧ s'.os = s.os ∧ AllBare s'.gens) s := by
  have rv := vals_ints hi
  have core : ∀ H : Hp, Only H → SqL K H a (ns.map V.int) → HOk P w H s.heap → (∀ b, H b ≠ none → b = a) → (H a ≠ none → K.lookup a = none) →
      codeAny (model P w) callerA (.call (.ref fa) ⟨[.ref a], []⟩) (fun r s' => r = .ok (.ret (.bool true)) ∧ OldK s.heap s'.heap ∧ s'.os = s.os ∧ AllBare s'.gens) s := by
    intro H hO hS hok hA hK
    have below : ∀ {b : Addr} {o : Obj}, s.heap.get? b = some o → H b = none → (hidT s.heap H).get? b = some o := fun e n => hidT_get e n
    have dictFree : ∀ {b : Addr} {o : Obj} {es : Array DictEntry} {ep : Nat}, s.heap.get? b = some o → o.data = .dict es ep → H b = none := fun {b o es ep} e d => by
      by_cases q : H b = none
      · exact q
      · have e' := hA b q
        subst e'
        rw [ha] at e; cases e
        cases (show Data.seq vs.toArray _ = Data.dict es ep from d)
    have spaces : ∀ {b : Addr} {m : Str → Option Value}, s.heap.Ns b m → (hidT s.heap H).Ns b m := fun {b m} ⟨o, es, ep, e, d, r⟩ => ⟨o, es, ep, below e (dictFree e d), d, r⟩
    have kb : K.In (hidT s.heap H) := fun b o e => below (KX b o e) (by
      by_cases q : H b = none
      · exact q
      · have e' := hA b q
        subst e'
        rw [hK q] at e; cases e)
    have md : Mod K mg (hidT s.heap H) := ⟨kb, spaces hns, ⟨mb, spaces hb, hbb⟩, let ⟨mc, h1, h2⟩ := hlim; ⟨mc, spaces h1, h2⟩⟩
    have e0 : Env0 P w K mg (hidT s.heap H) callerA [] s H := ⟨rfl, md, fun b o e => of_hidT e, Nat.le_of_eq (hidT_size _ _), trivial, fun b hb => absurd (show b ∈ ([] : List Addr) from hb) (by simp), hok, .of_eq hg⟩
    obtain ⟨f, fd, ps, hm, hk, hbd, hps, run⟩ := (F _ kb (spaces hns)).ex
    rw [hmg] at hm
    cases hm
    have bt := hbd s [.ref a] KX (by rw [List.append_nil, hps]; rfl)
    rw [List.append_nil] at bt
    obtain ⟨h', hM⟩ := M
    have W0 : SI K H ⟨H, [], fun _ => none⟩ [] := ⟨Same.refl _, rfl, fun n ds e => (by simp at e), fun n b ds e => (by simp at e), fun n m b e => (by simp at e), fun b o e => (by cases (show (none : Option HO) = some o from e)), fun b o e => (by cases (show (none : Option HO) = some o from e)), fun n b e => (by simp at e)⟩
    have wish : rL K g [.ref a] H (fun v _ => v = .bl true) := ⟨_, _, _, _, h', W0, .cons (rel_rol.mpr ⟨a, _, rfl, hS, Rels.of_ints ns⟩) .nil, hM, fun v H' W' _ _ r => rel_bl.mp r⟩
    refine codeAny_mono (run callerA [] s H ⟨[.ref a], []⟩ [.ref a] [.ref a] _ hr rfl e0 bt (.cons rfl .nil) rfl wish) fun r s' h => ?_
    cases r with
    | error e => exact h.elim
    | ok fl =>
      cases fl with
      | next => exact False.elim h
      | brk => exact False.elim h
      | cont => exact False.elim h
      | ret u =>
        obtain ⟨v, H', os, bare, un, hok', r', q⟩ := h
        obtain rfl : v = .bl true := q
        obtain rfl : u = Value.bool true := r'
        refine ⟨rfl, OldK.of_keep fun b o e => ?_, os, bare⟩
        rcases hO b with z | ⟨ob, xs, z⟩
        · exact un.keep b o e z (by intro z; exact absurd (show b ∈ ([] : List Addr) from z) (by simp)) (by simp)
        · obtain ⟨e1, _⟩ := hok b _ z
          obtain ⟨e2, _⟩ := hok' b _ (un.frzs b ob _ z)
          rw [e] at e1; cases e1
          exact e2
  cases hk : K.lookup a with
  | some o =>
    have e := KX a o hk
    rw [ha] at e
    cases e
    exact core (fun _ => none) (fun _ => .inl rfl) (.inr ⟨_, vs.toArray, _, hk, rfl, rfl, rfl, by rw [List.size_toArray, hi.length]; exact hl, by simpa using rv⟩) (fun b u z => by cases (show (none : Option HO) = some u from z)) (fun b z => absurd rfl z) fun z => absurd rfl z
  | none =>
    refine core (fun b => if b = a then some (.frz { cls := .type "list", data := .seq vs.toArray } (.lst (ns.map V.int))) else none) (fun b => ?_) (.inl (.inr ⟨_, if_pos rfl⟩)) (fun b u z => ?_) (fun b z => ?_) fun _ => hk
    · by_cases hb : b = a
      · exact .inr ⟨_, _, if_pos hb⟩
      · exact .inl (if_neg hb)
    · by_cases hb : b = a
      · cases (if_pos hb).symm.trans z
        subst hb
        exact ⟨ha, by rw [List.length_map]; exact hl, vs, _, rv, ha⟩
      · cases (if_neg hb).symm.trans z
    · by_cases hb : b = a
      · exact hb
      · exact absurd (if_neg hb) z
/-- the goal that the head leaves, from what the law's def answers -/
theorem walk_has {l : PySem.W.OpenLaw} {n k : Nat} {q : Program} {loose : List Str} {XP : (Str → Option Value) → Heap → Prop} {YP : World → Heap → Prop} {d : DefRec} {K : Params → PySem.W.Frag} {g : Fun1}
    (hn : l.most = some n) (hn2 : n ≤ sizeLine) (hdf : d.params.defaults = []) (hr : Room k callerA) (hY : ∀ (w : World) (h : Heap), YP w h → (K w.params).In h)
    (F : ∀ (w : World) (mg : Str → Option Value) (h : Heap), (K w.params).In h → h.Ns mainGlobals mg → ∀ base : Heap, (K w.params).In base → base.Ns mainGlobals mg → Has l.prog w (K w.params) mg base k d.name 1 g)
    (M : ∀ ns : List Int, ns.length ≤ n → ∃ h', g [scrD ns] [] = some (.bl true, h')) :
    PySem.W.WalkO q loose XP YP l.row.toRowW d [] (fun f vs => PySem.call f vs) := by
  refine Att.attach_call hn hdf fun w s0 s1 mg mb fa o pm cd doc a vs ns G Y ho hd hcd hmg hobj hints hlen hg => ?_
  exact law_runs (hY w _ Y) G.T.g G.T.b G.T.builtins G.T.nolimit hg hobj hints (Nat.le_trans hlen hn2) hr hmg (F w mg _ (hY w _ Y) G.T.g) (M ns hlen)
end Iv
/-! Iv11: what holds of what denotations answer: rules for rewriting, head first. No program in sight. -/
namespace Iv
open PySem PySem.Spec PyProof.Rows L2

/-- what depends on it in its type is left alone by the rewriter -/
abbrev Rz {α : Sort u} (_ : α) : Type := Prop
def Ev {α : Type} (o : Option (α × Sto)) (Q : α → Sto → Prop) : Rz Q := ∃ a h, o = some (a, h) ∧ Q a h
def EvS (o : Option (Fl × Rho × Sto)) (Q : Fl → Rho → Sto → Prop) : Rz Q := ∃ f ρ h, o = some (f, ρ, h) ∧ Q f ρ h
/-- one of two ways -/
def Br (k : Bool) (A B : Prop) : Rz (A, B) := if k = true then A else B
def AsB (x : D) (h : Sto) (Q : Bool → Sto → Prop) : Rz (h, Q) := ∃ b, x = .bl b ∧ Q b h
def AsI (x : D) (h : Sto) (Q : Int → Sto → Prop) : Rz (h, Q) := ∃ b, x = .int b ∧ Q b h
def AsV (o : Option (Option D)) (Q : D → Prop) : Rz Q := ∃ d, o = some (some d) ∧ Q d
def An {α : Type} (o : Option α) (Q : α → Prop) : Rz Q := ∃ d, o = some d ∧ Q d
def StE (ρ : Rho) (Q : Rho → Prop) : Rz Q := Q ρ
def StL (ρ : List D) (Q : List D → Prop) : Rz Q := Q ρ
def StH (ρ : Sto) (Q : Sto → Prop) : Rz Q := Q ρ
def Sq (f : Fl) (ρ : Rho) (h : Sto) (k : Rho → Sto → Prop) (Q : Fl → Rho → Sto → Prop) : Rz (ρ, h, k, Q) := match f with
  | .nx => k ρ h
  | f => Q f ρ h
def Aft (f : Fl) (ρ : Rho) (h : Sto) (k : Rho → Sto → Prop) (Q : Fl → Rho → Sto → Prop) : Rz (ρ, h, k, Q) := match f with
  | .nx => k ρ h
  | .ct => k ρ h
  | .bk => Q .nx ρ h
  | .rt d => Q (.rt d) ρ h
def Rt (f : Fl) (h : Sto) (Q : D → Sto → Prop) : Rz (h, Q) := match f with
  | .nx => Q .non h
  | .rt d => Q d h
  | _ => False
def padR : Nat → List D → Rho
  | 0, ds => ds.map some
  | n + 1, [] => none :: padR n []
  | n + 1, d :: ds => some d :: padR n ds
theorem padR_nil : ∀ n, padR n [] = List.replicate n none
  | 0 => rfl
  | n + 1 => by unfold padR; rw [padR_nil n]; rfl
theorem padR_eq : ∀ (n : Nat) (ds : List D), padR n ds = ds.map some ++ List.replicate (n - ds.length) none
  | 0, ds => by simp [padR]
  | n + 1, [] => by rw [padR_nil]; simp
  | n + 1, d :: ds => by unfold padR; rw [padR_eq n ds]; simp
section
variable {α β : Type}
def Pr (p : Prop) : Prop := p
theorem e_pr {p : Prop} : Pr p ↔ p := Iff.rfl
theorem Ev.mono {o : Option (α × Sto)} {Q Q' : α → Sto → Prop} (H : Ev o Q') (i : ∀ d h, Q' d h → Pr (Q d h)) : Ev o Q := let ⟨d, h, e, q⟩ := H; ⟨d, h, e, i d h q⟩
theorem EvS.mono {o : Option (Fl × Rho × Sto)} {Q Q' : Fl → Rho → Sto → Prop} (H : EvS o Q') (i : ∀ f ρ h, Q' f ρ h → Pr (Q f ρ h)) : EvS o Q := let ⟨d, r, h, e, q⟩ := H; ⟨d, r, h, e, i d r h q⟩
theorem Ev_some {a : α} {h : Sto} {Q : α → Sto → Prop} : Ev (some (a, h)) Q ↔ Q a h := ⟨fun ⟨_, _, e, q⟩ => by cases e; exact q, fun q => ⟨_, _, rfl, q⟩⟩
theorem Ev_bind {o : Option (α × Sto)} {f : α × Sto → Option (β × Sto)} {Q : β → Sto → Prop} : Ev (o.bind f) Q ↔ Ev o fun a h => Ev (f (a, h)) Q := by
  cases o with
  | none => exact ⟨fun ⟨_, _, e, _⟩ => (by cases e), fun ⟨_, _, e, _⟩ => by cases e⟩
  | some p => obtain ⟨a, h⟩ := p; rw [Ev_some]; exact Iff.rfl
theorem Ev_map {o : Option (α × Sto)} {f : α × Sto → β × Sto} {Q : β → Sto → Prop} : Ev (o.map f) Q ↔ Ev o fun a h => Q (f (a, h)).1 (f (a, h)).2 := by
  cases o with
  | none => exact ⟨fun ⟨_, _, e, _⟩ => (by cases e), fun ⟨_, _, e, _⟩ => by cases e⟩
  | some p => obtain ⟨a, h⟩ := p; rw [Ev_some]; exact Ev_some (Q := Q)
theorem Ev_none {Q : α → Sto → Prop} : Ev (none : Option (α × Sto)) Q ↔ False := ⟨fun ⟨_, _, e, _⟩ => (by cases e), False.elim⟩
theorem Ev_if {c : Prop} [Decidable c] {o : Option (α × Sto)} {Q : α → Sto → Prop} : Ev (if c then o else none) Q ↔ c ∧ Ev o Q := by
  by_cases hc : c
  · rw [if_pos hc]; exact ⟨fun q => ⟨hc, q⟩, fun q => q.2⟩
  · rw [if_neg hc, Ev_none]; exact ⟨False.elim, fun q => hc q.1⟩
theorem Ev_br {k : Bool} {o o' : Option (α × Sto)} {Q : α → Sto → Prop} : Ev (if k = true then o else o') Q ↔ Br k (Ev o Q) (Ev o' Q) := by cases k <;> exact Iff.rfl
theorem EvS_some {f : Fl} {ρ : Rho} {h : Sto} {Q : Fl → Rho → Sto → Prop} : EvS (some (f, ρ, h)) Q ↔ Q f ρ h := ⟨fun ⟨_, _, _, e, q⟩ => by cases e; exact q, fun q => ⟨_, _, _, rfl, q⟩⟩
theorem EvS_none {Q : Fl → Rho → Sto → Prop} : EvS none Q ↔ False := ⟨fun ⟨_, _, _, e, _⟩ => (by cases e), False.elim⟩
theorem EvS_bind {o : Option (α × Sto)} {f : α × Sto → Option (Fl × Rho × Sto)} {Q : Fl → Rho → Sto → Prop} : EvS (o.bind f) Q ↔ Ev o fun a h => EvS (f (a, h)) Q := by
  cases o with
  | none => exact ⟨fun ⟨_, _, _, e, _⟩ => (by cases e), fun ⟨_, _, e, _⟩ => by cases e⟩
  | some p => obtain ⟨a, h⟩ := p; rw [Ev_some]; exact Iff.rfl
theorem EvS_bindS {o : Option (Fl × Rho × Sto)} {f : Fl × Rho × Sto → Option (Fl × Rho × Sto)} {Q : Fl → Rho → Sto → Prop} : EvS (o.bind f) Q ↔ EvS o fun a r h => EvS (f (a, r, h)) Q := by
  cases o with
  | none => exact ⟨fun ⟨_, _, _, e, _⟩ => (by cases e), fun ⟨_, _, _, e, _⟩ => by cases e⟩
  | some p => obtain ⟨a, r, h⟩ := p; rw [EvS_some]; exact Iff.rfl
theorem Ev_bindS {o : Option (Fl × Rho × Sto)} {f : Fl × Rho × Sto → Option (α × Sto)} {Q : α → Sto → Prop} : Ev (o.bind f) Q ↔ EvS o fun a r h => Ev (f (a, r, h)) Q := by
  cases o with
  | none => exact ⟨fun ⟨_, _, e, _⟩ => (by cases e), fun ⟨_, _, _, e, _⟩ => by cases e⟩
  | some p => obtain ⟨a, r, h⟩ := p; rw [EvS_some]; exact Iff.rfl
theorem EvS_map {o : Option (α × Sto)} {f : α × Sto → Fl × Rho × Sto} {Q : Fl → Rho → Sto → Prop} : EvS (o.map f) Q ↔ Ev o fun a h => Q (f (a, h)).1 (f (a, h)).2.1 (f (a, h)).2.2 := by
  cases o with
  | none => exact ⟨fun ⟨_, _, _, e, _⟩ => (by cases e), fun ⟨_, _, e, _⟩ => by cases e⟩
  | some p => obtain ⟨a, h⟩ := p; rw [Ev_some]; exact EvS_some (Q := Q)
theorem EvS_br {k : Bool} {o o' : Option (Fl × Rho × Sto)} {Q : Fl → Rho → Sto → Prop} : EvS (if k = true then o else o') Q ↔ Br k (EvS o Q) (EvS o' Q) := by cases k <;> exact Iff.rfl
theorem An_some {a : α} {Q : α → Prop} : An (some a) Q ↔ Q a := ⟨fun ⟨_, e, q⟩ => by cases e; exact q, fun q => ⟨_, rfl, q⟩⟩
theorem Ev_obind {o : Option β} {f : β → Option (α × Sto)} {Q : α → Sto → Prop} : Ev (o.bind f) Q ↔ An o fun a => Ev (f a) Q := by
  cases o with
  | none => exact ⟨fun ⟨_, _, e, _⟩ => (by cases e), fun ⟨_, e, _⟩ => by cases e⟩
  | some p => rw [An_some]; exact Iff.rfl
theorem Ev_omap {o : Option β} {f : β → α × Sto} {Q : α → Sto → Prop} : Ev (o.map f) Q ↔ An o fun a => Q (f a).1 (f a).2 := by
  cases o with
  | none => exact ⟨fun ⟨_, _, e, _⟩ => (by cases e), fun ⟨_, e, _⟩ => by cases e⟩
  | some p => rw [An_some]; exact Ev_some (Q := Q)
theorem EvS_omap {o : Option β} {f : β → Fl × Rho × Sto} {Q : Fl → Rho → Sto → Prop} : EvS (o.map f) Q ↔ An o fun a => Q (f a).1 (f a).2.1 (f a).2.2 := by
  cases o with
  | none => exact ⟨fun ⟨_, _, _, e, _⟩ => (by cases e), fun ⟨_, e, _⟩ => by cases e⟩
  | some p => rw [An_some]; exact EvS_some (Q := Q)
theorem bE {o : Option (α × Sto)} {f : α × Sto → Option (β × Sto)} {Q : β → Sto → Prop} {Q' : α → Sto → Prop} (i : ∀ a h, Ev (f (a, h)) Q ↔ Q' a h) : Ev (o.bind f) Q ↔ Ev o Q' := Ev_bind.trans (iff_of_eq (congrArg _ (funext fun a => funext fun h => propext (i a h))))
theorem bS {o : Option (α × Sto)} {f : α × Sto → Option (Fl × Rho × Sto)} {Q : Fl → Rho → Sto → Prop} {Q' : α → Sto → Prop} (i : ∀ a h, EvS (f (a, h)) Q ↔ Q' a h) : EvS (o.bind f) Q ↔ Ev o Q' := EvS_bind.trans (iff_of_eq (congrArg _ (funext fun a => funext fun h => propext (i a h))))
theorem bO {o : Option β} {f : β → Option (α × Sto)} {Q : α → Sto → Prop} {Q' : β → Prop} (i : ∀ a, Ev (f a) Q ↔ Q' a) : Ev (o.bind f) Q ↔ An o Q' := Ev_obind.trans (iff_of_eq (congrArg _ (funext fun a => propext (i a))))
theorem bIf {c : Prop} [Decidable c] {a : α} {h : Sto} {Q : α → Sto → Prop} : Ev (if c then some (a, h) else none) Q ↔ c ∧ Q a h := Ev_if.trans (and_congr_right fun _ => Ev_some)
theorem bBr {k : Bool} {o o' : Option (α × Sto)} {Q : α → Sto → Prop} {A B : Prop} (i : Ev o Q ↔ A) (j : Ev o' Q ↔ B) : Ev (if k = true then o else o') Q ↔ Br k A B := by cases k <;> assumption
theorem e_some {a : α} {h : Sto} {Q : α → Sto → Prop} : Ev (some (a, h)) Q ↔ Q a h := Ev_some
theorem e_an {a : α} {Q : α → Prop} : An (some a) Q ↔ Q a := An_some
end
section
variable {ρ : Rho} {h : Sto} {Q : D → Sto → Prop} {QL : List D → Sto → Prop} {QT : Bool → Sto → Prop} {QG : Rho → Sto → Prop} {QS : Fl → Rho → Sto → Prop} {QO : Option Int → Sto → Prop} {a b c φ ψ : Den} {α β : DenT} {l : DenL} {φs ψs : DenS} {γ : DenG} {γs : DenGs} {ι : DenI} {d x y : D} {i j k : Nat} {ds es : List D} {m n : Int}
theorem e_brT {A B : Prop} : Br true A B ↔ A := Iff.rfl
theorem e_brF {A B : Prop} : Br false A B ↔ B := by unfold Br; simp
theorem Br_both {k : Bool} {A B : Prop} (H1 : k = true → A) (H2 : k = false → B) : Br k A B := by cases k; exact e_brF.mpr (H2 rfl); exact H1 rfl
theorem e_asB {b : Bool} : AsB (.bl b) h QT ↔ QT b h := ⟨fun ⟨_, e, q⟩ => by cases e; exact q, fun q => ⟨_, rfl, q⟩⟩
theorem e_asI {b : Int} {QI : Int → Sto → Prop} : AsI (.int b) h QI ↔ QI b h := ⟨fun ⟨_, e, q⟩ => by cases e; exact q, fun q => ⟨_, rfl, q⟩⟩
theorem e_asV {P : D → Prop} : AsV (some (some d)) P ↔ P d := ⟨fun ⟨_, e, q⟩ => by cases e; exact q, fun q => ⟨_, rfl, q⟩⟩
theorem e_stE {o : Option D} {P : Rho → Prop} : StE (o :: ρ) P ↔ P (o :: ρ) := Iff.rfl
theorem e_stE0 {P : Rho → Prop} : StE [] P ↔ P [] := Iff.rfl
theorem e_stL {P : List D → Prop} : StL (d :: ds) P ↔ P (d :: ds) := Iff.rfl
theorem e_stL0 {P : List D → Prop} : StL [] P ↔ P [] := Iff.rfl
theorem e_sqN {kk : Rho → Sto → Prop} : Sq .nx ρ h kk QS ↔ kk ρ h := Iff.rfl
theorem e_sqR {kk : Rho → Sto → Prop} : Sq (.rt d) ρ h kk QS ↔ QS (.rt d) ρ h := Iff.rfl
theorem e_sqB {kk : Rho → Sto → Prop} : Sq .bk ρ h kk QS ↔ QS .bk ρ h := Iff.rfl
theorem e_sqC {kk : Rho → Sto → Prop} : Sq .ct ρ h kk QS ↔ QS .ct ρ h := Iff.rfl
theorem e_afN {kk : Rho → Sto → Prop} : Aft .nx ρ h kk QS ↔ kk ρ h := Iff.rfl
theorem e_afR {kk : Rho → Sto → Prop} : Aft (.rt d) ρ h kk QS ↔ QS (.rt d) ρ h := Iff.rfl
theorem e_afB {kk : Rho → Sto → Prop} : Aft .bk ρ h kk QS ↔ QS .nx ρ h := Iff.rfl
theorem e_afC {kk : Rho → Sto → Prop} : Aft .ct ρ h kk QS ↔ kk ρ h := Iff.rfl
theorem e_rtN : Rt .nx h Q ↔ Q .non h := Iff.rfl
theorem e_rtR : Rt (.rt d) h Q ↔ Q d h := Iff.rfl
-- expressions
theorem e_var : Ev (dVar i ρ h) Q ↔ AsV ρ[i]? fun d => Q d h := by
  unfold dVar AsV
  constructor
  · rintro ⟨d, h1, e, q⟩
    split at e
    · rename_i d' z; cases e; exact ⟨_, z, q⟩
    · cases e
  · rintro ⟨d, e, q⟩; exact ⟨d, h, by rw [e], q⟩
theorem e_c : Ev (dC d ρ h) Q ↔ Q d h := Ev_some
theorem e_op {g : D → D → Sto → Option (D × Sto)} : Ev (dOp g a b ρ h) Q ↔ Ev (a ρ h) fun x h1 => Ev (b ρ h1) fun y h2 => Ev (g x y h2) Q := bE fun _ _ => bE fun _ _ => .rfl
theorem e_un {g : D → Sto → Option (D × Sto)} : Ev (dUn g a ρ h) Q ↔ Ev (a ρ h) fun x h1 => Ev (g x h1) Q := bE fun _ _ => .rfl
theorem e_t : Ev (dT a ρ h) QT ↔ Ev (a ρ h) fun x h1 => AsB x h1 QT := by
  unfold dT
  constructor
  · rintro ⟨b, h1, e, q⟩
    split at e
    · rename_i z; cases e; exact ⟨_, _, z, _, rfl, q⟩
    · cases e
  · rintro ⟨b, h1, e, k, rfl, q⟩; exact ⟨k, h1, by rw [e], q⟩
theorem e_nt : Ev (dNotT α ρ h) QT ↔ Ev (α ρ h) fun b h1 => QT (!b) h1 := bE fun _ _ => Ev_some
theorem e_anT : Ev (dAndT α β ρ h) QT ↔ Ev (α ρ h) fun b h1 => Br b (Ev (β ρ h1) QT) (QT false h1) := bE fun _ _ => bBr .rfl Ev_some
theorem e_orT : Ev (dOrT α β ρ h) QT ↔ Ev (α ρ h) fun b h1 => Br b (QT true h1) (Ev (β ρ h1) QT) := bE fun _ _ => bBr Ev_some .rfl
theorem Ev_asB {x : D} {f : Bool → Option (D × Sto)} {QT : Bool → Sto → Prop} (i : ∀ b, Ev (f b) Q ↔ QT b h) : Ev (match x with | .bl b => f b | _ => none) Q ↔ AsB x h QT := by
  cases x <;> first | exact (i _).trans e_asB.symm | (exact ⟨fun ⟨_, _, e, _⟩ => (by cases e), fun ⟨_, e, _⟩ => by cases e⟩)
theorem e_and : Ev (dAnd a b ρ h) Q ↔ Ev (a ρ h) fun x h1 => AsB x h1 fun k h2 => Br k (Ev (b ρ h2) Q) (Q (.bl false) h2) := bE fun _ _ => Ev_asB fun _ => bBr .rfl Ev_some
theorem e_or : Ev (dOr a b ρ h) Q ↔ Ev (a ρ h) fun x h1 => AsB x h1 fun k h2 => Br k (Q (.bl true) h2) (Ev (b ρ h2) Q) := bE fun _ _ => Ev_asB fun _ => bBr Ev_some .rfl
theorem e_not : Ev (dNot a ρ h) Q ↔ Ev (a ρ h) fun x h1 => AsB x h1 fun k h2 => Q (.bl (!k)) h2 := bE fun _ _ => Ev_asB fun _ => Ev_some
theorem e_ite : Ev (dIf α a b ρ h) Q ↔ Ev (α ρ h) fun k h1 => Br k (Ev (a ρ h1) Q) (Ev (b ρ h1) Q) := bE fun _ _ => bBr .rfl .rfl
theorem e_ch {g g' : D → D → Sto → Option (D × Sto)} : Ev (dChain g g' a b c ρ h) Q ↔ Ev (a ρ h) fun x h1 => Ev (b ρ h1) fun y h2 => Ev (g x y h2) fun z h3 => AsB z h3 fun k h4 => Br k (Ev (c ρ h4) fun w h5 => Ev (g' y w h5) Q) (Q (.bl false) h4) := bE fun _ _ => bE fun _ _ => bE fun _ _ => Ev_asB fun _ => bBr (bE fun _ _ => .rfl) Ev_some
theorem e_nil : Ev (lNil ρ h) QL ↔ QL [] h := Ev_some
theorem e_cons : Ev (lCons a l ρ h) QL ↔ Ev (a ρ h) fun x h1 => Ev (l ρ h1) fun ds h2 => QL (x :: ds) h2 := bE fun _ _ => bE fun _ _ => Ev_some
theorem e_star : Ev (lStar a l ρ h) QL ↔ Ev (a ρ h) fun x h1 => An (itemsOf h1 x) fun es => Ev (l ρ h1) fun ds h2 => QL (es ++ ds) h2 := bE fun _ _ => bO fun _ => bE fun _ _ => Ev_some
theorem e_tup : Ev (dTup l ρ h) Q ↔ Ev (l ρ h) fun ds h1 => ds.length ≤ sizeLine ∧ Q (.tup ds) h1 := bE fun _ _ => bIf
theorem e_lst : Ev (dLst l ρ h) Q ↔ Ev (l ρ h) fun ds h1 => ds.length ≤ sizeLine ∧ Q (.lst ds) h1 := bE fun _ _ => bIf
theorem e_mut : Ev (dMut l ρ h) Q ↔ Ev (l ρ h) fun ds h1 => ds.length ≤ sizeLine ∧ Q (.ref h1.length) (h1 ++ [.lst ds]) := bE fun _ _ => bIf
theorem e_call {g : Fun1} : Ev (dCall g l ρ h) Q ↔ Ev (l ρ h) fun ds h1 => Ev (g ds h1) Q := bE fun _ _ => .rfl
theorem e_isiT {ns : List String} : Ev (dIsiT ns a ρ h) Q ↔ Ev (a ρ h) fun x h1 => An (tyN x) fun T => An (subAny T ns) fun b => Q (.bl b) h1 := bE fun _ _ => bO fun _ => Ev_omap
theorem e_lz : Ev (dListZip a b ρ h) Q ↔ Ev (a ρ h) fun x h1 => Ev (b ρ h1) fun y h2 => An (pairUp h2 x y) fun r => Q (.lst (zipL r.1 r.2)) h2 := bE fun _ _ => bE fun _ _ => Ev_omap
theorem e_meth {g : D → List D → Sto → Option (D × Sto)} : Ev (dMeth g a l ρ h) Q ↔ Ev (a ρ h) fun x h1 => (lseq h1 x).isSome = true ∧ Ev (l ρ h1) fun ds h2 => Ev (g x ds h2) Q := bE fun _ _ => Ev_if.trans (and_congr_right fun _ => bE fun _ _ => .rfl)
theorem e_meth0 {g : D → List D → Sto → Option (D × Sto)} : Ev (dMeth0 g a ρ h) Q ↔ Ev (a ρ h) fun x h1 => (lseq h1 x).isSome = true ∧ Ev (g x [] h1) Q := bE fun _ _ => Ev_if
theorem e_oN : Ev (oNone ρ h) QO ↔ QO none h := Ev_some
theorem e_oS : Ev (oSome a ρ h) QO ↔ Ev (a ρ h) fun x h1 => AsI x h1 fun i h2 => QO (some i) h2 := by
  unfold oSome
  constructor
  · rintro ⟨b, h1, e, q⟩
    split at e
    · rename_i z; cases e; exact ⟨_, _, z, _, rfl, q⟩
    · cases e
  · rintro ⟨b, h1, e, k, rfl, q⟩; exact ⟨_, h1, by rw [e], q⟩
theorem e_sl {g : D → Option Int → Option Int → Sto → Option (D × Sto)} {lo hi : DenO} : Ev (dSl g a lo hi ρ h) Q ↔ Ev (a ρ h) fun x h1 => Ev (lo ρ h1) fun u h2 => Ev (hi ρ h2) fun v h3 => Ev (g x u v h3) Q := bE fun _ _ => bE fun _ _ => bE fun _ _ => .rfl
-- targets
theorem e_gVar : Ev (gVar i d ρ h) QG ↔ StE (ρ.set i (some d)) fun ρ1 => QG ρ1 h := Ev_some
theorem e_gSub : Ev (gSubD a b d ρ h) QG ↔ Ev (a ρ h) fun x h1 => Ev (b ρ h1) fun y h2 => An (setM x y d h2) fun h3 => QG ρ h3 := bE fun _ _ => bE fun _ _ => Ev_omap
theorem e_gTp {n : Nat} : Ev (gTp n γs (.tup ds) ρ h) QG ↔ ds.length = n ∧ Ev (γs ds ρ h) QG := Ev_if
theorem e_gN : Ev (gN [] ρ h) QG ↔ QG ρ h := Ev_some
theorem e_gC : Ev (gC γ γs (d :: ds) ρ h) QG ↔ Ev (γ d ρ h) fun ρ1 h1 => Ev (γs ds ρ1 h1) QG := Ev_bind
-- statements
theorem e_next : EvS (sNext ρ h) QS ↔ QS .nx ρ h := EvS_some
theorem e_seq : EvS (sSeq φs ψs ρ h) QS ↔ EvS (φs ρ h) fun f ρ1 h1 => Sq f ρ1 h1 (fun ρ2 h2 => EvS (ψs ρ2 h2) QS) QS := by
  unfold sSeq; rw [EvS_bindS]
  constructor
  · rintro ⟨f, r, h1, e, q⟩
    refine ⟨f, r, h1, e, ?_⟩
    cases f with
    | nx => exact q
    | _ => exact EvS_some.mp q
  · rintro ⟨f, r, h1, e, q⟩
    refine ⟨f, r, h1, e, ?_⟩
    cases f with
    | nx => exact q
    | _ => exact EvS_some.mpr q
theorem e_drop : EvS (sDrop a ρ h) QS ↔ Ev (a ρ h) fun _ h1 => QS .nx ρ h1 := by unfold sDrop; rw [EvS_map]
theorem e_ret : EvS (sRet a ρ h) QS ↔ Ev (a ρ h) fun x h1 => QS (.rt x) ρ h1 := by unfold sRet; rw [EvS_map]
theorem e_retN : EvS (sRetN ρ h) QS ↔ QS (.rt .non) ρ h := EvS_some
theorem e_brk : EvS (sBrk ρ h) QS ↔ QS .bk ρ h := EvS_some
theorem e_cnt : EvS (sCnt ρ h) QS ↔ QS .ct ρ h := EvS_some
theorem e_if : EvS (sIf α φs ψs ρ h) QS ↔ Ev (α ρ h) fun k h1 => Br k (EvS (φs ρ h1) QS) (EvS (ψs ρ h1) QS) := bS fun _ _ => EvS_br
theorem e_asg : EvS (sAsg a γ ρ h) QS ↔ Ev (a ρ h) fun x h1 => Ev (γ x ρ h1) fun ρ2 h2 => QS .nx ρ2 h2 := bS fun _ _ => EvS_map
def As2 (ds : List D) (P : D → D → Prop) : Rz P := ∃ u v, ds = [u, v] ∧ P u v
theorem e_as2 {P : D → D → Prop} : As2 [x, y] P ↔ P x y := ⟨fun ⟨_, _, e, q⟩ => by cases e; exact q, fun q => ⟨_, _, rfl, q⟩⟩
def As3 (ds : List D) (P : D → D → D → Prop) : Rz P := ∃ u v w, ds = [u, v, w] ∧ P u v w
theorem e_as3 {z : D} {P : D → D → D → Prop} : As3 [x, y, z] P ↔ P x y z := ⟨fun ⟨_, _, _, e, q⟩ => by cases e; exact q, fun q => ⟨_, _, _, rfl, q⟩⟩
theorem e_par : EvS (sPar i j l ρ h) QS ↔ Ev (l ρ h) fun ds h1 => As2 ds fun u v => StE ((ρ.set i (some u)).set j (some v)) fun ρ1 => QS .nx ρ1 h1 := by
  unfold sPar; rw [EvS_bind]
  constructor
  · rintro ⟨f, h1, e, q⟩
    refine ⟨f, h1, e, ?_⟩
    rcases f with _ | ⟨u, _ | ⟨v, _ | ⟨w, t⟩⟩⟩
    · exact (EvS_none.mp q).elim
    · exact (EvS_none.mp q).elim
    · exact ⟨u, v, rfl, EvS_some.mp q⟩
    · exact (EvS_none.mp q).elim
  · rintro ⟨f, h1, e, u, v, rfl, q⟩
    exact ⟨_, h1, e, EvS_some.mpr q⟩
theorem e_aug {g : D → D → Sto → Option (D × Sto)} : EvS (sAug i g a ρ h) QS ↔ Ev (dOp g (dVar i) a ρ h) fun x h1 => StE (ρ.set i (some x)) fun ρ1 => QS .nx ρ1 h1 := by unfold sAug; rw [EvS_map]; rfl
theorem e_augS {g : D → D → Sto → Option (D × Sto)} : EvS (sAugS g a b φ ρ h) QS ↔ Ev (a ρ h) fun o h1 => Ev (b ρ h1) fun k h2 => Ev (ixD o k h2) fun x h3 => Ev (φ ρ h3) fun y h4 => Ev (g x y h4) fun z h5 => An (setM o k z h5) fun h6 => QS .nx ρ h6 := bS fun _ _ => bS fun _ _ => bS fun _ _ => bS fun _ _ => bS fun _ _ => EvS_omap
theorem e_for : EvS (sFor ι γ φs ρ h) QS ↔ Ev (ι ρ h) fun ds h1 => EvS (loopF γ φs ds ρ h1) QS := bS fun _ _ => .rfl
theorem e_f0 : EvS (loopF γ φs [] ρ h) QS ↔ QS .nx ρ h := EvS_some
theorem Aft_iff {f : Fl} {ρ : Rho} {h : Sto} {k : DenS} {p : Fl × Rho × Sto} (e : p = (f, ρ, h)) : EvS (match p.1 with
      | .nx => k p.2.1 p.2.2
      | .ct => k p.2.1 p.2.2
      | .bk => some (.nx, p.2.1, p.2.2)
      | .rt d => some (.rt d, p.2.1, p.2.2)) QS ↔ Aft f ρ h (fun r h => EvS (k r h) QS) QS := by
  subst e
  cases f with
  | nx => exact Iff.rfl
  | ct => exact Iff.rfl
  | bk => exact EvS_some
  | rt d => exact EvS_some
theorem f1 : EvS (loopF γ φs (d :: ds) ρ h) QS ↔ Ev (γ d ρ h) fun ρ1 h1 => EvS (φs ρ1 h1) fun f ρ2 h2 => Aft f ρ2 h2 (fun ρ3 h3 => EvS (loopF γ φs ds ρ3 h3) QS) QS := by
  conv => lhs; unfold loopF
  rw [EvS_bind]
  refine iff_of_eq (congrArg _ (funext fun r => funext fun h1 => propext ?_))
  rw [EvS_bindS]
  exact iff_of_eq (congrArg _ (funext fun f => funext fun r2 => funext fun h2 => propext (Aft_iff (k := loopF γ φs ds) rfl)))
theorem e_f1 : EvS (loopF γ φs (d :: ds) ρ h) QS ↔ Ev (γ d ρ h) fun ρ1 h1 => EvS (φs ρ1 h1) fun f ρ2 h2 => Aft f ρ2 h2 (fun ρ3 h3 => EvS (loopF γ φs ds ρ3 h3) QS) QS := f1
theorem e_while {n : Nat} : EvS (sWhile n α φs ρ h) QS ↔ EvS (loopW α φs n ρ h) QS := Iff.rfl
theorem w1 {n : Nat} : EvS (loopW α φs (n + 1) ρ h) QS ↔ Ev (α ρ h) fun k h1 => Br k (EvS (φs ρ h1) fun f ρ2 h2 => Aft f ρ2 h2 (fun ρ3 h3 => EvS (loopW α φs n ρ3 h3) QS) QS) (QS .nx ρ h1) := by
  conv => lhs; unfold loopW
  rw [EvS_bind]
  refine iff_of_eq (congrArg _ (funext fun k => funext fun h1 => propext ?_))
  rw [EvS_br, EvS_bindS, EvS_some]
  refine iff_of_eq (congrArg (fun z => Br k z _) ?_)
  exact (congrArg _ (funext fun f => funext fun r2 => funext fun h2 => propext (Aft_iff (k := loopW α φs n) rfl)))
-- sources
def AsS (x : D) (P : List D → Prop) : Rz P := (∃ ds, x = .tup ds ∧ P ds) ∨ (∃ ds, x = .lst ds ∧ P ds) ∨ ∃ ds, x = .rol ds ∧ P ds
theorem e_asS1 {P : List D → Prop} : AsS (.tup ds) P ↔ P ds := by simp [AsS]
theorem e_asS2 {P : List D → Prop} : AsS (.lst ds) P ↔ P ds := by simp [AsS]
theorem e_asS3 {P : List D → Prop} : AsS (.rol ds) P ↔ P ds := by simp [AsS]
theorem Ev_asS {f : List D → List D × Sto} : Ev (match x with | .tup ds => some (f ds) | .lst ds => some (f ds) | .rol ds => some (f ds) | _ => none) QL ↔ AsS x fun ds => QL (f ds).1 (f ds).2 := by
  cases x with
  | tup ds => rw [e_asS1]; exact Ev_some
  | lst ds => rw [e_asS2]; exact Ev_some
  | rol ds => rw [e_asS3]; exact Ev_some
  | _ => exact ⟨fun ⟨_, _, e, _⟩ => (by cases e), fun q => by rcases q with ⟨_, e, _⟩ | ⟨_, e, _⟩ | ⟨_, e, _⟩ <;> cases e⟩
theorem e_iSeq : Ev (iSeq a ρ h) QL ↔ Ev (a ρ h) fun x h1 => AsS x fun ds => QL ds h1 := by
  unfold iSeq; rw [Ev_bind]
  exact iff_of_eq (congrArg _ (funext fun x => funext fun h1 => propext (Ev_asS (f := fun ds => (ds, h1)))))
theorem e_enum : Ev (iEnum a ρ h) QL ↔ Ev (a ρ h) fun x h1 => AsS x fun ds => QL (enumL ds) h1 := by
  unfold iEnum; rw [Ev_bind]
  exact iff_of_eq (congrArg _ (funext fun x => funext fun h1 => propext (Ev_asS (f := fun ds => (enumL ds, h1)))))
def AsTI (x y : D) (P : List D → Int → Prop) : Rz P := ∃ ds c, x = .tup ds ∧ y = .int c ∧ P ds c
theorem e_asTI {P : List D → Int → Prop} : AsTI (.tup ds) (.int m) P ↔ P ds m := ⟨fun ⟨_, _, e1, e2, q⟩ => by cases e1; cases e2; exact q, fun q => ⟨_, _, rfl, rfl, q⟩⟩
theorem e_enumC : Ev (iEnumC a b ρ h) QL ↔ Ev (a ρ h) fun x h1 => Ev (b ρ h1) fun y h2 => AsTI x y fun ds c => (-(2 ^ 63) ≤ c ∧ c < 2 ^ 63) ∧ QL (enumCL c ds) h2 := by
  refine bE fun x h1 => bE fun y h2 => ?_
  cases x with
  | tup ds =>
    cases y with
    | int c => rw [e_asTI]; exact bIf
    | _ => exact ⟨fun ⟨_, _, e, _⟩ => (by cases e), fun ⟨_, _, _, e, _⟩ => by cases e⟩
  | _ => exact ⟨fun ⟨_, _, e, _⟩ => (by cases e), fun ⟨_, _, e, _⟩ => by cases e⟩
theorem e_rng1 : Ev (iRng1 a ρ h) QL ↔ Ev (a ρ h) fun x h1 => AsI x h1 fun j h2 => (j < 2 ^ 62 ∧ -(2 ^ 62) ≤ j) ∧ QL (rangeL 0 j.toNat) h2 := by
  unfold iRng1; rw [Ev_bind]
  refine iff_of_eq (congrArg _ (funext fun x => funext fun h1 => propext ?_))
  cases x <;> first | (rw [e_asI]; exact Ev_if.trans (and_congr_right fun _ => Ev_some)) | (exact ⟨fun ⟨_, _, e, _⟩ => (by cases e), fun ⟨_, e, _⟩ => by cases e⟩)
theorem e_zip : Ev (iZip a b ρ h) QL ↔ Ev (a ρ h) fun x h1 => Ev (b ρ h1) fun y h2 => An (fro x y) fun r => QL (zipL r.1 r.2) h2 := bE fun _ _ => bE fun _ _ => Ev_omap
theorem e_zipX : Ev (iZipX a b ρ h) QL ↔ Ev (a ρ h) fun x h1 => Ev (b ρ h1) fun y h2 => An (froX x y) fun r => QL (zipL r.1 r.2) h2 := bE fun _ _ => bE fun _ _ => Ev_omap
theorem e_comp {own : List Nat} : Ev (dComp own ι γ α φ ρ h) Q ↔ Ev (ι ρ h) fun ds h1 => ds.length ≤ sizeLine ∧ StE (wipeR ρ own) fun ρ1 => Ev (compL γ α φ ρ1 ds h1) fun es h2 => Q (.lst es) h2 := bE fun _ _ => Ev_if.trans (and_congr_right fun _ => Ev_map)
theorem e_c0 : Ev (compL γ α φ ρ [] h) QL ↔ QL [] h := Ev_some
theorem c1 : Ev (compL γ α φ ρ (d :: ds) h) QL ↔ Ev (γ d ρ h) fun ρ1 h1 => Ev (α ρ1 h1) fun k h2 => Br k (Ev (φ ρ1 h2) fun x h3 => Ev (compL γ α φ ρ ds h3) fun es h4 => QL (x :: es) h4) (Ev (compL γ α φ ρ ds h2) QL) := by
  conv => lhs; unfold compL
  exact bE fun _ _ => bE fun _ _ => bBr (bE fun _ _ => Ev_map) .rfl
theorem e_c1 : Ev (compL γ α φ ρ (d :: ds) h) QL ↔ Ev (γ d ρ h) fun ρ1 h1 => Ev (α ρ1 h1) fun k h2 => Br k (Ev (φ ρ1 h2) fun x h3 => Ev (compL γ α φ ρ ds h3) fun es h4 => QL (x :: es) h4) (Ev (compL γ α φ ρ ds h2) QL) := c1
theorem e_y : Ev (tauY ρ h) QT ↔ QT true h := Ev_some
theorem e_body {n : Nat} : Ev (bodyF n φs ds h) Q ↔ StE (padR n ds) fun ρ => EvS (φs ρ h) fun f _ h1 => Rt f h1 Q := by
  unfold bodyF StE; rw [← padR_eq, Ev_bindS]
  refine iff_of_eq (congrArg _ (funext fun f => funext fun r => funext fun h1 => propext ?_))
  cases f with
  | nx => exact Ev_some
  | rt d => exact Ev_some
  | bk => exact Ev_none
  | ct => exact Ev_none

/-! ### the operations, by the forms of their data -/
theorem e_addI : Ev (addD (.int m) (.int n) h) Q ↔ Q (.int (m + n)) h := Ev_some
theorem e_addT {p q : List D} : Ev (addD (.tup p) (.tup q) h) Q ↔ p.length + q.length ≤ sizeLine ∧ Q (.tup (p ++ q)) h := Ev_if.trans (and_congr_right fun _ => Ev_some)
theorem e_addL {p q : List D} : Ev (addD (.lst p) (.lst q) h) Q ↔ p.length + q.length ≤ sizeLine ∧ Q (.lst (p ++ q)) h := Ev_if.trans (and_congr_right fun _ => Ev_some)
theorem e_subI : Ev (subD (.int m) (.int n) h) Q ↔ Q (.int (m - n)) h := Ev_some
theorem e_iadd : Ev (iaddD (.int m) (.int n) h) Q ↔ Q (.int (m + n)) h := Ev_some
/-- two numbers that may be multiplied -/
def MulOk (m n : Int) : Prop := m.natAbs.log2 + n.natAbs.log2 < 1000000
def DivOk (n : Int) : Prop := 0 < n ∧ n.natAbs.log2 < 9000
theorem log2_of_lt {m k : Nat} (e : m < 2 ^ (k + 1)) : m.log2 ≤ k := by
  by_cases z : m = 0
  · subst z; simp
  · exact Nat.le_of_lt_succ ((Nat.log2_lt z).mpr e)
theorem MulOk.of {m n : Int} {k : Nat} (z : k ≤ 400000) (e1 : m.natAbs < 2 ^ (k + 1)) (e2 : n.natAbs < 2 ^ (k + 1)) : MulOk m n := by
  have a := log2_of_lt e1
  have b := log2_of_lt e2
  unfold MulOk; omega
theorem DivOk.of {n : Int} {k : Nat} (z : k ≤ 8000) (e1 : 0 < n) (e2 : n.natAbs < 2 ^ (k + 1)) : DivOk n := ⟨e1, by have a := log2_of_lt e2; omega⟩
theorem MulOk.s {m n : Int} (e1 : -(2 ^ 200) < m) (e2 : m < 2 ^ 200) (e3 : -(2 ^ 200) < n) (e4 : n < 2 ^ 200) : MulOk m n := .of (k := 199) (by decide) (by omega) (by omega)
theorem DivOk.s {n : Int} (e1 : 0 < n) (e2 : n < 2 ^ 200) : DivOk n := .of (k := 199) (by decide) e1 (by omega)
theorem e_mulI : Ev (mulD (.int m) (.int n) h) Q ↔ MulOk m n ∧ Q (.int (m * n)) h := Ev_if.trans (and_congr_right fun _ => Ev_some)
theorem e_divI : Ev (fdivD (.int m) (.int n) h) Q ↔ DivOk n ∧ Q (.int (m / n)) h := Ev_if.trans (and_congr_right fun _ => Ev_some)
theorem e_modI : Ev (modD (.int m) (.int n) h) Q ↔ 0 < n ∧ Q (.int (m % n)) h := Ev_if.trans (and_congr_right fun _ => Ev_some)
theorem e_powI : Ev (powD (.int m) (.int n) h) Q ↔ (0 ≤ n ∧ n ≤ 1000000 ∧ m.natAbs < 2 ^ 64) ∧ Q (.int (m ^ n.toNat)) h := Ev_if.trans (and_congr_right fun _ => Ev_some)
theorem e_negI : Ev (negD (.int m) h) Q ↔ Q (.int (-m)) h := Ev_some
theorem e_mulT {p : List D} : Ev (mulD (.tup p) (.int m) h) Q ↔ (p ≠ [] ∧ -1000 ≤ m ∧ m ≤ 1000 ∧ p.length ≤ 1000) ∧ Q (.tup (List.replicate m.toNat p).flatten) h := Ev_if.trans (and_congr_right fun _ => Ev_some)
theorem e_mulL {p : List D} : Ev (mulD (.lst p) (.int m) h) Q ↔ (-(2 ^ 63) ≤ m ∧ m < 2 ^ 63 ∧ p.length * m.toNat ≤ sizeLine) ∧ Q (.lst (List.replicate m.toNat p).flatten) h := Ev_if.trans (and_congr_right fun _ => Ev_some)
theorem e_cmp {p : Int → Int → Bool} : Ev (cmpI p (.int m) (.int n) h) Q ↔ Q (.bl (p m n)) h := Ev_some
theorem e_eq : Ev (eqD x y h) Q ↔ An (eqB h x y) fun b => Q (.bl b) h := Ev_omap
theorem e_ne : Ev (neD x y h) Q ↔ An (eqB h x y) fun b => Q (.bl (!b)) h := Ev_omap
theorem e_isN : Ev (isD x .non h) Q ↔ Q (.bl (isNon x)) h := by cases x <;> exact Ev_some
theorem e_isB {p q : Bool} : Ev (isD (.bl p) (.bl q) h) Q ↔ Q (.bl (decide (p = q))) h := Ev_some
theorem e_isNotN : Ev (isNotD x .non h) Q ↔ Q (.bl (!isNon x)) h := by cases x <;> exact Ev_some
theorem e_isNotB {p q : Bool} : Ev (isNotD (.bl p) (.bl q) h) Q ↔ Q (.bl (!decide (p = q))) h := Ev_some
theorem e_ix : Ev (ixD x (.int m) h) Q ↔ An (itemsOf h x) fun ds => An (atI ds m) fun d => Q d h := by
  show Ev ((itemsOf h x).bind fun ds => (atI ds m).map fun d => (d, h)) Q ↔ _
  exact bO fun _ => Ev_omap
theorem e_abs : Ev (absF [.int m] h) Q ↔ Q (.int (if m < 0 then -m else m)) h := Ev_some
theorem e_toI : Ev (intF [.int m] h) Q ↔ Q (.int m) h := Ev_some
theorem e_toB1 : Ev (intF [.bl true] h) Q ↔ Q (.int 1) h := Ev_some
theorem e_toB0 : Ev (intF [.bl false] h) Q ↔ Q (.int 0) h := Ev_some
def mget (h : Sto) (n : Nat) : Option (List D) := match h[n]? with | some (.lst ds) => some ds | _ => none
theorem e_lenT : Ev (lenF [.tup ds] h) Q ↔ Q (.int ds.length) h := Ev_some
theorem e_lenL : Ev (lenF [.lst ds] h) Q ↔ Q (.int ds.length) h := Ev_some
theorem e_lenRo : Ev (lenF [.rol ds] h) Q ↔ Q (.int ds.length) h := Ev_some
theorem e_lenR {n : Nat} : Ev (lenF [.ref n] h) Q ↔ An (mget h n) fun ds => Q (.int ds.length) h := by show Ev ((mget h n).map _) Q ↔ _; rw [Ev_omap]
theorem e_tupT : Ev (tupleF [.tup ds] h) Q ↔ Q (.tup ds) h := Ev_some
theorem e_tupL : Ev (tupleF [.lst ds] h) Q ↔ Q (.tup ds) h := Ev_some
theorem e_tupR {n : Nat} : Ev (tupleF [.ref n] h) Q ↔ An (mget h n) fun ds => Q (.tup ds) h := by show Ev ((mget h n).map _) Q ↔ _; rw [Ev_omap]
theorem e_lstT : Ev (listF [.tup ds] h) Q ↔ Q (.lst ds) h := Ev_some
theorem e_lstL : Ev (listF [.lst ds] h) Q ↔ Q (.lst ds) h := Ev_some
theorem boolsOf_map : ∀ bs : List Bool, boolsOf (bs.map D.bl) = some bs
  | [] => rfl
  | b :: bs => by rw [List.map_cons]; unfold boolsOf; rw [boolsOf_map bs]; rfl
theorem intsOf_map : ∀ bs : List Int, intsOf (bs.map D.int) = some bs
  | [] => rfl
  | b :: bs => by rw [List.map_cons]; unfold intsOf; rw [intsOf_map bs]; rfl
theorem x_all : Ev (allF [.lst ds] h) Q ↔ An (boolsOf ds) fun bs => Q (.bl (bs.all id)) h := by show Ev ((boolsOf ds).map _) Q ↔ _; rw [Ev_omap]
theorem e_allM {g : D → Bool} : Ev (allF [.lst (ds.map fun d => .bl (g d))] h) Q ↔ Q (.bl (ds.all g)) h := by
  rw [x_all]
  have : boolsOf (ds.map fun d => .bl (g d)) = some (ds.map g) := by
    have := boolsOf_map (ds.map g)
    rwa [List.map_map] at this
  rw [this, An_some, List.all_map]; rfl
theorem e_in : Ev (inD x y h) Q ↔ An (inB h x y) fun b => Q (.bl b) h := Ev_omap
theorem e_notIn : Ev (notInD x y h) Q ↔ An (inB h x y) fun b => Q (.bl (!b)) h := Ev_omap
theorem e_sum : Ev (sumF [.lst ds] h) Q ↔ An (intsOf ds) fun is => Q (.int is.sum) h := by
  show Ev ((intsOf ds).map _) Q ↔ _
  rw [Ev_omap]
theorem e_max : Ev (maxF [.int m, .int n] h) Q ↔ Q (.int (if n > m then n else m)) h := Ev_some
theorem e_par3 {k : Nat} : EvS (sPar3 i j k l ρ h) QS ↔ Ev (l ρ h) fun ds h1 => As3 ds fun u v w => StE (((ρ.set i (some u)).set j (some v)).set k (some w)) fun ρ1 => QS .nx ρ1 h1 := by
  refine bS fun f h1 => ?_
  rcases f with _ | ⟨u, _ | ⟨v, _ | ⟨w, _ | ⟨t, r⟩⟩⟩⟩
  · exact ⟨fun q => (EvS_none.mp q).elim, fun ⟨_, _, _, e, _⟩ => by cases e⟩
  · exact ⟨fun q => (EvS_none.mp q).elim, fun ⟨_, _, _, e, _⟩ => by cases e⟩
  · exact ⟨fun q => (EvS_none.mp q).elim, fun ⟨_, _, _, e, _⟩ => by cases e⟩
  · rw [e_as3]; exact EvS_some
  · exact ⟨fun q => (EvS_none.mp q).elim, fun ⟨_, _, _, e, _⟩ => by cases e⟩
theorem e_pop {n : Nat} : Ev (popM (.ref n) [] h) Q ↔ An (mget h n) fun ds => An ds[ds.length - 1]? fun d => Q d (h.set n (.lst ds.dropLast)) := by
  show Ev (match h[n]? with | some (MO.lst ds) => (ds[ds.length - 1]?).map fun d => (d, h.set n (.lst ds.dropLast)) | _ => none) Q ↔ An (match h[n]? with | some (MO.lst ds) => some ds | _ => none) _
  cases h[n]? with
  | none => exact ⟨fun ⟨_, _, e, _⟩ => (by cases e), fun ⟨_, e, _⟩ => by cases e⟩
  | some o => cases o with
    | dead => exact ⟨fun ⟨_, _, e, _⟩ => (by cases e), fun ⟨_, e, _⟩ => by cases e⟩
    | lst ds => rw [An_some]; exact Ev_omap
theorem e_frz : Ev (dFrz a ρ h) Q ↔ Ev (a ρ h) fun x h1 => Ev (frzD x h1) Q := bE fun _ _ => .rfl
theorem e_frzR {n : Nat} : Ev (frzD (.ref n) h) Q ↔ An (mget h n) fun ds => Q (.lst ds) (h.set n .dead) := by
  show Ev (match h[n]? with | some (MO.lst ds) => some (D.lst ds, h.set n .dead) | _ => none) Q ↔ An (match h[n]? with | some (MO.lst ds) => some ds | _ => none) _
  cases h[n]? with
  | none => exact ⟨fun ⟨_, _, e, _⟩ => (by cases e), fun ⟨_, e, _⟩ => by cases e⟩
  | some o => cases o with
    | dead => exact ⟨fun ⟨_, _, e, _⟩ => (by cases e), fun ⟨_, e, _⟩ => by cases e⟩
    | lst ds => rw [An_some]; exact Ev_some
theorem e_isi {n : String} : Ev (isiF [x, .ty n] h) Q ↔ An (tyN x) fun T => An (subN T n) fun b => Q (.bl b) h := by
  show Ev ((tyN x).bind fun T => (subN T n).map fun b => (D.bl b, h)) Q ↔ _
  exact bO fun _ => Ev_omap
theorem e_slT {lo hi : Option Int} : Ev (slD (.tup ds) lo hi h) Q ↔ Q (.tup ((ds.drop (HT.sIx ds.length 0 lo)).take (HT.sIx ds.length ds.length hi - HT.sIx ds.length 0 lo))) h := Ev_some
theorem e_slL {lo hi : Option Int} : Ev (slD (.lst ds) lo hi h) Q ↔ Q (.lst ((ds.drop (HT.sIx ds.length 0 lo)).take (HT.sIx ds.length ds.length hi - HT.sIx ds.length 0 lo))) h := Ev_some
theorem e_slRo {lo hi : Option Int} : Ev (slD (.rol ds) lo hi h) Q ↔ Q (.lst ((ds.drop (HT.sIx ds.length 0 lo)).take (HT.sIx ds.length ds.length hi - HT.sIx ds.length 0 lo))) h := Ev_some
theorem e_app {n : Nat} : Ev (appendM (.ref n) [d] h) Q ↔ An (mget h n) fun ds => ds.length < sizeLine ∧ Q .non (h.set n (.lst (ds ++ [d]))) := by
  show Ev (match h[n]? with | some (MO.lst ds) => if ds.length < sizeLine then _ else none | _ => none) Q ↔ An (match h[n]? with | some (MO.lst ds) => some ds | _ => none) _
  cases h[n]? with
  | none => exact ⟨fun ⟨_, _, e, _⟩ => (by cases e), fun ⟨_, e, _⟩ => by cases e⟩
  | some o => cases o with
    | dead => exact ⟨fun ⟨_, _, e, _⟩ => (by cases e), fun ⟨_, e, _⟩ => by cases e⟩
    | lst ds => rw [An_some]; exact Ev_if.trans (and_congr_right fun _ => Ev_some)
theorem e_ext {n : Nat} : Ev (extendM (.ref n) [x] h) Q ↔ An (mget h n) fun ds => An (mlist h x) fun es => ds.length + es.length ≤ sizeLine ∧ Q .non (h.set n (.lst (ds ++ es))) := by
  show Ev (match h[n]?, mlist h x with | some (MO.lst ds), some es => if ds.length + es.length ≤ sizeLine then _ else none | _, _ => none) Q ↔ An (match h[n]? with | some (MO.lst ds) => some ds | _ => none) _
  cases h[n]? with
  | none => exact ⟨fun ⟨_, _, e, _⟩ => (by cases e), fun ⟨_, e, _⟩ => by cases e⟩
  | some o => cases o with
    | dead => cases mlist h x <;> exact ⟨fun ⟨_, _, e, _⟩ => (by cases e), fun ⟨_, e, _⟩ => by cases e⟩
    | lst ds =>
      rw [An_some]
      cases mlist h x with
      | none => exact ⟨fun ⟨_, _, e, _⟩ => (by cases e), fun ⟨_, e, _⟩ => by cases e⟩
      | some es => rw [An_some]; exact Ev_if.trans (and_congr_right fun _ => Ev_some)
theorem e_setM {n : Nat} {P : Sto → Prop} : An (setM (.ref n) (.int m) d h) P ↔ An (mget h n) fun ds => An (ixN ds.length m) fun j => P (h.set n (.lst (ds.set j d))) := by
  show An (match h[n]? with | some (MO.lst ds) => (ixN ds.length m).map _ | _ => none) P ↔ An (match h[n]? with | some (MO.lst ds) => some ds | _ => none) _
  cases h[n]? with
  | none => exact ⟨fun ⟨_, e, _⟩ => (by cases e), fun ⟨_, e, _⟩ => by cases e⟩
  | some o => cases o with
    | dead => exact ⟨fun ⟨_, e, _⟩ => (by cases e), fun ⟨_, e, _⟩ => by cases e⟩
    | lst ds =>
      rw [An_some]
      show An ((ixN ds.length m).map _) P ↔ _
      cases ixN ds.length m with
      | none => exact ⟨fun ⟨_, e, _⟩ => (by cases e), fun ⟨_, e, _⟩ => by cases e⟩
      | some es => rw [An_some]; exact An_some
-- readings
theorem r_it1 : itemsOf h (.tup ds) = some ds := rfl
theorem r_it2 : itemsOf h (.lst ds) = some ds := rfl
theorem r_it3 : itemsOf h (.rol ds) = some ds := rfl
theorem r_it4 {n : Nat} : itemsOf h (.ref n) = mget h n := rfl
theorem r_ls2 : lseq h (.lst ds) = some ds := rfl
theorem r_ls3 {n : Nat} : lseq h (.ref n) = mget h n := rfl
theorem r_ml2 : mlist h (.lst ds) = some ds := rfl
theorem r_ml3 {n : Nat} : mlist h (.ref n) = mget h n := rfl
theorem r_mg0 {t : Sto} : mget (.lst ds :: t) 0 = some ds := rfl
theorem r_mgn {t : Sto} {o : MO} {n : Nat} : mget (o :: t) (n + 1) = mget t n := rfl
theorem atI_nat {α : Type} {ds : List α} {j : Nat} {d : α} (e : ds[j]? = some d) : atI ds (j : Int) = some d := by
  have hj : j < ds.length := (List.getElem?_eq_some_iff.mp e).1
  unfold atI ixN
  rw [if_pos (by omega), if_pos (by omega)]
  exact e
theorem atI_int {α : Type} {ds : List α} {j : Int} {d : α} (h0 : 0 ≤ j) (e : ds[j.toNat]? = some d) : atI ds j = some d := by
  have := atI_nat e
  rwa [Int.toNat_of_nonneg h0] at this
theorem r_at0 : atI (x :: ds) 0 = some x := atI_nat (j := 0) rfl
theorem r_at1 : atI (x :: d :: ds) 1 = some d := atI_nat (j := 1) rfl
theorem r_at2 : atI (x :: y :: d :: ds) 2 = some d := atI_nat (j := 2) rfl
theorem r_at3 {z : D} : atI (x :: y :: z :: d :: ds) 3 = some d := atI_nat (j := 3) rfl
theorem r_ix0 {n : Nat} : ixN (n + 1) 0 = some 0 := by unfold ixN; rw [if_pos (by decide), if_pos (by omega)]; rfl
theorem r_ix1 {n : Nat} : ixN (n + 2) 1 = some 1 := by unfold ixN; rw [if_pos (by decide), if_pos (by omega)]; rfl
theorem r_ix2 {n : Nat} : ixN (n + 3) 2 = some 2 := by unfold ixN; rw [if_pos (by decide), if_pos (by omega)]; rfl
theorem r_ty1 {b : Bool} : tyN (.bl b) = some "bool" := rfl
theorem r_ty2 : tyN (.int m) = some "int" := rfl
theorem r_ty3 {s : Str} : tyN (.str s) = some "str" := rfl
theorem r_ty4 : tyN (.tup ds) = some "tuple" := rfl
theorem r_ty5 : tyN (.lst ds) = some "list" := rfl
theorem r_ty6 : tyN (.rol ds) = some "list" := rfl
theorem r_ty7 {n : Nat} : tyN (.ref n) = some "list" := rfl
theorem r_ty8 : tyN .non = some "NoneType" := rfl
theorem r_sNt : subN "NoneType" "tuple" = some false := rfl
theorem r_sNi : subN "NoneType" "int" = some false := rfl
theorem r_sNb : subN "NoneType" "bool" = some false := rfl
theorem r_sNs : subN "NoneType" "str" = some false := rfl
theorem r_sbt : subN "bool" "tuple" = some false := rfl
theorem r_sbi : subN "bool" "int" = some true := rfl
theorem r_sbb : subN "bool" "bool" = some true := rfl
theorem r_sbs : subN "bool" "str" = some false := rfl
theorem r_sit : subN "int" "tuple" = some false := rfl
theorem r_sii : subN "int" "int" = some true := rfl
theorem r_sib : subN "int" "bool" = some false := rfl
theorem r_sis : subN "int" "str" = some false := rfl
theorem r_sst : subN "str" "tuple" = some false := rfl
theorem r_ssi : subN "str" "int" = some false := rfl
theorem r_ssb : subN "str" "bool" = some false := rfl
theorem r_sss : subN "str" "str" = some true := rfl
theorem r_stt : subN "tuple" "tuple" = some true := rfl
theorem r_sti : subN "tuple" "int" = some false := rfl
theorem r_stb : subN "tuple" "bool" = some false := rfl
theorem r_sts : subN "tuple" "str" = some false := rfl
theorem r_slt : subN "list" "tuple" = some false := rfl
theorem r_sli : subN "list" "int" = some false := rfl
theorem r_slb : subN "list" "bool" = some false := rfl
theorem r_sls : subN "list" "str" = some false := rfl
theorem r_aN : subAny "NoneType" ["tuple", "list"] = some false := rfl
theorem r_ab : subAny "bool" ["tuple", "list"] = some false := rfl
theorem r_ai : subAny "int" ["tuple", "list"] = some false := rfl
theorem r_as : subAny "str" ["tuple", "list"] = some false := rfl
theorem r_at : subAny "tuple" ["tuple", "list"] = some true := rfl
theorem r_al : subAny "list" ["tuple", "list"] = some true := rfl
theorem r_eqI : eqB h (.int m) (.int n) = some (decide (m = n)) := by
  show (if (PyData.int m).plain = true ∧ (PyData.int n).plain = true ∧ (PyData.int m).depth ≤ 64 then some (PyData.eqv (.int m) (.int n)) else none) = _
  rw [if_pos ⟨rfl, rfl, Nat.zero_le _⟩]
  show some (m == n) = _
  congr 1
theorem r_eqB {p q : Bool} : eqB h (.bl p) (.bl q) = some (p == q) := by
  show (if (PyData.bool p).plain = true ∧ (PyData.bool q).plain = true ∧ (PyData.bool p).depth ≤ 64 then some (PyData.eqv (.bool p) (.bool q)) else none) = _
  rw [if_pos ⟨rfl, rfl, Nat.zero_le _⟩]
  cases p <;> cases q <;> rfl
theorem r_eqS {s t : Str} : eqB h (.str s) (.str t) = some (s == t) := by
  show (if (PyData.str s).plain = true ∧ (PyData.str t).plain = true ∧ (PyData.str s).depth ≤ 64 then some (PyData.eqv (.str s) (.str t)) else none) = _
  rw [if_pos ⟨rfl, rfl, Nat.zero_le _⟩]
  simp only [PyData.eqv]
theorem r_pu1 {es : List D} : pairUp h (.tup ds) (.tup es) = some (ds, es) := rfl
theorem r_pu2 {es : List D} : pairUp h (.lst ds) (.lst es) = some (ds, es) := rfl
theorem r_eqN : eqB h .non .non = some true := rfl
theorem r_fr1 {es : List D} : fro (.tup ds) (.tup es) = some (ds, es) := rfl
theorem r_fx1 {es : List D} : froX (.tup ds) (.tup es) = some (ds, es) := rfl
theorem r_fx2 {es : List D} : froX (.lst ds) (.lst es) = some (ds, es) := rfl
theorem r_fx3 {es : List D} : froX (.tup ds) (.lst es) = some (ds, es) := rfl
theorem r_bo0 : boolsOf [] = some [] := rfl
theorem r_bo1 {b : Bool} {bs : List Bool} (e : boolsOf ds = some bs) : boolsOf (.bl b :: ds) = some (b :: bs) := by unfold boolsOf; rw [e]; rfl
theorem r_c0 : ((0 : Nat) : Int) = 0 := rfl
theorem r_c1 : ((1 : Nat) : Int) = 1 := rfl
theorem r_c2 : ((2 : Nat) : Int) = 2 := rfl
theorem r_c3 : ((3 : Nat) : Int) = 3 := rfl
theorem r_c4 : ((4 : Nat) : Int) = 4 := rfl
theorem r_c5 : ((5 : Nat) : Int) = 5 := rfl
theorem r_c6 : ((6 : Nat) : Int) = 6 := rfl
theorem r_c7 : ((7 : Nat) : Int) = 7 := rfl
theorem r_c8 : ((8 : Nat) : Int) = 8 := rfl
theorem r_c9 : ((9 : Nat) : Int) = 9 := rfl
theorem r_c10 : ((10 : Nat) : Int) = 10 := rfl
theorem r_c11 : ((11 : Nat) : Int) = 11 := rfl
theorem r_c12 : ((12 : Nat) : Int) = 12 := rfl
theorem r_pd0 : padR 0 [] = [] := rfl
theorem r_pd1 {n : Nat} : padR (n + 1) [] = none :: padR n [] := rfl
theorem r_pd2 {n : Nat} : padR (n + 1) (d :: ds) = some d :: padR n ds := rfl
theorem r_wi0 : wipeR ρ [] = ρ := rfl
theorem r_wi1 {v : Nat} {vs : List Nat} : wipeR ρ (v :: vs) = (wipeR ρ vs).set v none := rfl
end
end Iv
/-! Iv12: what defs that many laws share compute (their bodies as gen.py printed them). -/
namespace Sh
open Iv PySem PySem.Spec PyProof.Rows L2
def b_is_integer : DenS := (sRet (dAnd (dCall isiF (lCons (dVar 0) (lCons (dC (D.ty "int")) lNil))) (dNot (dCall isiF (lCons (dVar 0) (lCons (dC (D.ty "bool")) lNil))))))
def d_is_integer : Fun1 := bodyF 1 b_is_integer
def b_common : DenS := (sSeq (sWhile fuel (dT (dOp neD (dVar 1) (dC (D.int 0)))) (sPar 0 1 (lCons (dVar 1) (lCons (dOp modD (dVar 0) (dVar 1)) lNil)))) (sRet (dVar 0)))
def d_common : Fun1 := bodyF 2 b_common
def b_is_less : DenS := (sRet (dOp ltD (dOp mulD (dOp ixD (dVar 0) (dC (D.int 0))) (dOp ixD (dVar 1) (dC (D.int 1)))) (dOp mulD (dOp ixD (dVar 1) (dC (D.int 0))) (dOp ixD (dVar 0) (dC (D.int 1))))))
def d_is_less : Fun1 := bodyF 2 b_is_less
def b_whole : DenS := (sRet (dTup (lCons (dVar 0) (lCons (dC (D.int 1)) lNil))))
def d_whole : Fun1 := bodyF 1 b_whole
def b_law_take : DenS := (sSeq (sIf (dT (dOp eqD (dOp ixD (dVar 0) (dC (D.int 0))) (dC (D.int 0)))) (sSeq (sAsg (dOp ixD (dOp addD (dSl slD (dOp ixD (dVar 0) (dC (D.int 3))) (oSome (dOp ixD (dVar 0) (dC (D.int 2)))) oNone) (dLst (lCons (dC (D.int 0)) lNil))) (dC (D.int 0))) (gVar 4)) (sSeq (sAugS iaddD (dVar 0) (dC (D.int 2)) (dC (D.int 1))) (sSeq (sIf (dT (dOp geD (dVar 4) (dOp powD (dC (D.int 10)) (dC (D.int 18))))) (sAsg (dVar 4) (gSubD (dVar 0) (dC (D.int 0)))) sNext) (sSeq (sAsg (dOp addD (dOp addD (dOp mulD (dOp ixD (dVar 0) (dC (D.int 1))) (dC (D.int 48271))) (dOp modD (dCall intF (lCons (dVar 4) lNil)) (dC (D.int 2147483647)))) (dOp mulD (dC (D.int 7919)) (dOp ixD (dVar 0) (dC (D.int 2))))) (gVar 5)) (sAsg (dOp modD (dCall intF (lCons (dVar 5) lNil)) (dC (D.int 2147483647))) (gSubD (dVar 0) (dC (D.int 1)))))))) sNext) (sSeq (sIf (dT (dOp gtD (dOp ixD (dVar 0) (dC (D.int 0))) (dC (D.int 0)))) (sSeq (sAsg (dOp modD (dCall intF (lCons (dOp ixD (dVar 0) (dC (D.int 0))) lNil)) (dVar 1)) (gVar 6)) (sSeq (sAsg (dOp fdivD (dCall intF (lCons (dOp ixD (dVar 0) (dC (D.int 0))) lNil)) (dVar 1)) (gSubD (dVar 0) (dC (D.int 0)))) (sRet (dVar 6)))) sNext) (sSeq (sAsg (dOp modD (dCall intF (lCons (dOp mulD (dOp addD (dOp ixD (dVar 0) (dC (D.int 1))) (dC (D.int 1))) (dC (D.int 39373))) lNil)) (dC (D.int 1000000007))) (gVar 2)) (sSeq (sAsg (dOp modD (dCall intF (lCons (dOp mulD (dOp modD (dCall intF (lCons (dOp mulD (dVar 2) (dVar 2)) lNil)) (dC (D.int 998244353))) (dC (D.int 30011))) lNil)) (dC (D.int 998244353))) (gVar 3)) (sRet (dOp modD (dCall intF (lCons (dOp fdivD (dVar 3) (dC (D.int 7))) lNil)) (dVar 1)))))))
def d_law_take : Fun1 := bodyF 7 b_law_take
def b_law_made : DenS := (sSeq (sPar 2 3 (lCons (dCall absF (lCons (dVar 0) lNil)) (lCons (dCall absF (lCons (dVar 1) lNil)) lNil))) (sSeq (sWhile fuel (dT (dOp gtD (dVar 3) (dC (D.int 0)))) (sPar 2 3 (lCons (dVar 3) (lCons (dOp modD (dCall intF (lCons (dVar 2) lNil)) (dVar 3)) lNil)))) (sSeq (sAsg (dIf (dT (dOp gtD (dVar 1) (dC (D.int 0)))) (dVar 2) (dUn negD (dVar 2))) (gVar 2)) (sRet (dTup (lCons (dOp fdivD (dCall intF (lCons (dVar 0) lNil)) (dVar 2)) (lCons (dOp fdivD (dCall intF (lCons (dVar 1) lNil)) (dVar 2)) lNil)))))))
def d_law_made : Fun1 := bodyF 4 b_law_made
def b_law_is_int : DenS := (sRet (dAnd (dCall isiF (lCons (dVar 0) (lCons (dC (D.ty "int")) lNil))) (dNot (dCall isiF (lCons (dVar 0) (lCons (dC (D.ty "bool")) lNil))))))
def d_law_is_int : Fun1 := bodyF 1 b_law_is_int
def b_law_bag : DenS := (sRet (dMut (lCons (dC (D.int 0)) (lCons (dC (D.int 1234567891)) (lCons (dC (D.int 0)) (lCons (dComp [1] (iSeq (dSl slD (dVar 0) oNone (oSome (dC (D.int 63))))) (gVar 1) tauY (dCall absF (lCons (dVar 1) lNil))) lNil))))))
def d_law_bag : Fun1 := bodyF 2 b_law_bag
def b_law_alike : DenS := (sSeq (sPar 2 3 (lCons (dMut (lCons (dTup (lCons (dVar 0) (lCons (dVar 1) lNil))) lNil)) (lCons (dC (D.int 0)) lNil))) (sSeq (sWhile fuel (dT (dOp ltD (dVar 3) (dCall lenF (lCons (dVar 2) lNil)))) (sSeq (sAsg (dOp ixD (dVar 2) (dVar 3)) (gTp 2 (gC (gVar 4) (gC (gVar 5) gN)))) (sSeq (sAug 3 iaddD (dC (D.int 1))) (sSeq (sIf (dOrT (dT (dOp neD (dCall isiF (lCons (dVar 4) (lCons (dC (D.ty "bool")) lNil))) (dCall isiF (lCons (dVar 5) (lCons (dC (D.ty "bool")) lNil))))) (dT (dOp neD (dCall isiF (lCons (dVar 4) (lCons (dC (D.ty "str")) lNil))) (dCall isiF (lCons (dVar 5) (lCons (dC (D.ty "str")) lNil)))))) (sRet (dC (D.bl false))) sNext) (sSeq (sIf (dT (dOp neD (dIsiT ["tuple", "list"] (dVar 4)) (dIsiT ["tuple", "list"] (dVar 5)))) (sRet (dC (D.bl false))) sNext) (sIf (dT (dIsiT ["tuple", "list"] (dVar 4))) (sSeq (sIf (dOrT (dT (dOp neD (dCall isiF (lCons (dVar 4) (lCons (dC (D.ty "tuple")) lNil))) (dCall isiF (lCons (dVar 5) (lCons (dC (D.ty "tuple")) lNil))))) (dT (dOp neD (dCall lenF (lCons (dVar 4) lNil)) (dCall lenF (lCons (dVar 5) lNil))))) (sRet (dC (D.bl false))) sNext) (sDrop (dMeth extendM (dVar 2) (lCons (dListZip (dVar 4) (dVar 5)) lNil)))) (sIf (dT (dOp neD (dVar 4) (dVar 5))) (sRet (dC (D.bl false))) sNext))))))) (sRet (dC (D.bl true)))))
def d_law_alike : Fun1 := bodyF 6 b_law_alike
def b_is_within : DenS := (sRet (dAnd (dCall d_is_integer (lCons (dVar 0) lNil)) (dChain leD leD (dVar 1) (dVar 0) (dVar 2))))
def d_is_within : Fun1 := bodyF 3 b_is_within
def b_is_fraction : DenS := (sSeq (sIf (dOrT (dNotT (dT (dCall isiF (lCons (dVar 0) (lCons (dC (D.ty "tuple")) lNil))))) (dOrT (dT (dOp neD (dCall lenF (lCons (dVar 0) lNil)) (dC (D.int 2)))) (dOrT (dNotT (dT (dCall d_is_integer (lCons (dOp ixD (dVar 0) (dC (D.int 0))) lNil)))) (dNotT (dT (dCall d_is_integer (lCons (dOp ixD (dVar 0) (dC (D.int 1))) lNil))))))) (sRet (dC (D.bl false))) sNext) (sRet (dAnd (dOp gtD (dOp ixD (dVar 0) (dC (D.int 1))) (dC (D.int 0))) (dOp eqD (dCall d_common (lCons (dCall absF (lCons (dOp ixD (dVar 0) (dC (D.int 0))) lNil)) (lCons (dOp ixD (dVar 0) (dC (D.int 1))) lNil))) (dC (D.int 1))))))
def d_is_fraction : Fun1 := bodyF 1 b_is_fraction
def b_made : DenS := (sSeq (sIf (dT (dOp ltD (dVar 1) (dC (D.int 0)))) (sPar 0 1 (lCons (dOp subD (dC (D.int 0)) (dVar 0)) (lCons (dOp subD (dC (D.int 0)) (dVar 1)) lNil))) sNext) (sSeq (sAsg (dCall d_common (lCons (dCall absF (lCons (dVar 0) lNil)) (lCons (dVar 1) lNil))) (gVar 2)) (sRet (dTup (lCons (dOp fdivD (dVar 0) (dVar 2)) (lCons (dOp fdivD (dVar 1) (dVar 2)) lNil))))))
def d_made : Fun1 := bodyF 3 b_made
def b_law_some : DenS := (sRet (dOp ixD (dVar 1) (dCall d_law_take (lCons (dVar 0) (lCons (dCall lenF (lCons (dVar 1) lNil)) lNil)))))
def d_law_some : Fun1 := bodyF 2 b_law_some
def b_law_add : DenS := (sRet (dCall d_law_made (lCons (dOp addD (dOp mulD (dOp ixD (dVar 0) (dC (D.int 0))) (dOp ixD (dVar 1) (dC (D.int 1)))) (dOp mulD (dOp ixD (dVar 1) (dC (D.int 0))) (dOp ixD (dVar 0) (dC (D.int 1))))) (lCons (dOp mulD (dOp ixD (dVar 0) (dC (D.int 1))) (dOp ixD (dVar 1) (dC (D.int 1)))) lNil))))
def d_law_add : Fun1 := bodyF 2 b_law_add
def b_law_mul : DenS := (sRet (dCall d_law_made (lCons (dOp mulD (dOp ixD (dVar 0) (dC (D.int 0))) (dOp ixD (dVar 1) (dC (D.int 0)))) (lCons (dOp mulD (dOp ixD (dVar 0) (dC (D.int 1))) (dOp ixD (dVar 1) (dC (D.int 1)))) lNil))))
def d_law_mul : Fun1 := bodyF 2 b_law_mul
def b_law_sub : DenS := (sRet (dCall d_law_made (lCons (dOp subD (dOp mulD (dOp ixD (dVar 0) (dC (D.int 0))) (dOp ixD (dVar 1) (dC (D.int 1)))) (dOp mulD (dOp ixD (dVar 1) (dC (D.int 0))) (dOp ixD (dVar 0) (dC (D.int 1))))) (lCons (dOp mulD (dOp ixD (dVar 0) (dC (D.int 1))) (dOp ixD (dVar 1) (dC (D.int 1)))) lNil))))
def d_law_sub : Fun1 := bodyF 2 b_law_sub
def b_plus : DenS := (sRet (dCall d_made (lCons (dOp addD (dOp mulD (dOp ixD (dVar 0) (dC (D.int 0))) (dOp ixD (dVar 1) (dC (D.int 1)))) (dOp mulD (dOp ixD (dVar 1) (dC (D.int 0))) (dOp ixD (dVar 0) (dC (D.int 1))))) (lCons (dOp mulD (dOp ixD (dVar 0) (dC (D.int 1))) (dOp ixD (dVar 1) (dC (D.int 1)))) lNil))))
def d_plus : Fun1 := bodyF 2 b_plus
def b_minus : DenS := (sRet (dCall d_made (lCons (dOp subD (dOp mulD (dOp ixD (dVar 0) (dC (D.int 0))) (dOp ixD (dVar 1) (dC (D.int 1)))) (dOp mulD (dOp ixD (dVar 1) (dC (D.int 0))) (dOp ixD (dVar 0) (dC (D.int 1))))) (lCons (dOp mulD (dOp ixD (dVar 0) (dC (D.int 1))) (dOp ixD (dVar 1) (dC (D.int 1)))) lNil))))
def d_minus : Fun1 := bodyF 2 b_minus
def b_times : DenS := (sRet (dCall d_made (lCons (dOp mulD (dOp ixD (dVar 0) (dC (D.int 0))) (dOp ixD (dVar 1) (dC (D.int 0)))) (lCons (dOp mulD (dOp ixD (dVar 0) (dC (D.int 1))) (dOp ixD (dVar 1) (dC (D.int 1)))) lNil))))
def d_times : Fun1 := bodyF 2 b_times
def b_summed : DenS := (sSeq (sAsg (dC (D.tup [(D.int 0), (D.int 1)])) (gVar 1)) (sSeq (sFor (iSeq (dVar 0)) (gVar 2) (sAsg (dCall d_plus (lCons (dVar 1) (lCons (dVar 2) lNil))) (gVar 1))) (sRet (dVar 1))))
def d_summed : Fun1 := bodyF 3 b_summed
theorem Ev_eq {o : Option (D × Sto)} {v : D} {h : Sto} (e : Ev o fun d h' => d = v ∧ h' = h) : o = some (v, h) := by
  obtain ⟨_, _, e, rfl, rfl⟩ := e; exact e
theorem Ev_iff {α : Type} {o : Option (α × Sto)} {v : α} {h : Sto} {Q : α → Sto → Prop} (e : o = some (v, h)) : Ev o Q ↔ Q v h := by rw [e]; exact Ev_some
/-! ### fractions -/
theorem gcd_step (a b : Int) : Int.gcd b (a % b) = Int.gcd a b := by
  rw [Int.emod_def, Int.gcd_sub_mul_left_right, Int.gcd_comm]
/-- of at most so many bits -/
def Lt3 (b : Int) : Prop := b.natAbs ≤ 2 ^ 3000
theorem Lt3.of {b : Int} {k : Nat} (h : b.natAbs ≤ 2 ^ k) (z : k ≤ 3000) : Lt3 b := Nat.le_trans h (Nat.pow_le_pow_right (by decide) z)
theorem Lt3.lt {b : Int} (h : b.natAbs < 2 ^ 200) : Lt3 b := .of (Nat.le_of_lt h) (by decide)
theorem Lt3.le {a b : Int} (h0 : 0 ≤ a) (h : a ≤ b) (z : Lt3 b) : Lt3 a := Nat.le_trans (show a.natAbs ≤ b.natAbs by omega) z
theorem lt_pow {b k m : Nat} (h : b ≤ 2 ^ k) (z : k < m) : b < 2 ^ m := Nat.lt_of_le_of_lt h (Nat.pow_lt_pow_right (by decide) z)
theorem fuel_gt {b : Int} (z : Lt3 b) : b.toNat < fuel := lt_pow (Nat.le_trans (show b.toNat ≤ b.natAbs by omega) z) (by decide)
theorem DivOk.l {n : Int} (h : 0 < n) (z : Lt3 n) : DivOk n := .of (k := 3000) (by decide) h (lt_pow z (by decide))
theorem common_loop {h : Sto} : ∀ (n : Nat) (a b : Int), 0 ≤ a → 0 ≤ b → b.toNat < n →
    EvS (loopW (dT (dOp neD (dVar 1) (dC (D.int 0)))) (sPar 0 1 (lCons (dVar 1) (lCons (dOp modD (dVar 0) (dVar 1)) lNil))) n [some (.int a), some (.int b)] h)
      fun f ρ h' => f = .nx ∧ ρ = [some (.int (Int.gcd a b)), some (.int 0)] ∧ h' = h := by
  intro n
  induction n with
  | zero => intro a b _ _ z; omega
  | succ n ih =>
    intro a b ha hb z
    rw [w1]
    by_cases hz : b = 0
    · subst hz
      simp (config := {dsimp := false}) only [↓e_pr, ↓e_some, ↓e_an, ↓e_brT, ↓e_brF, ↓e_asB, ↓e_asI, ↓e_asV, ↓e_stE, ↓e_stE0, ↓e_stL, ↓e_stL0, ↓e_sqN, ↓e_sqR, ↓e_sqB, ↓e_sqC, ↓e_afN, ↓e_afR, ↓e_afB, ↓e_afC, ↓e_rtN, ↓e_rtR, ↓e_var, ↓e_c, ↓e_op, ↓e_un, ↓e_t, ↓e_nt, ↓e_anT, ↓e_orT, ↓e_and, ↓e_or, ↓e_not, ↓e_ite, ↓e_ch, ↓e_nil, ↓e_cons, ↓e_star, ↓e_tup, ↓e_lst, ↓e_mut, ↓e_call, ↓e_isiT, ↓e_lz, ↓e_meth, ↓e_meth0, ↓e_oN, ↓e_oS, ↓e_sl, ↓e_gVar, ↓e_gSub, ↓e_gTp, ↓e_gN, ↓e_gC, ↓e_next, ↓e_seq, ↓e_drop, ↓e_ret, ↓e_retN, ↓e_brk, ↓e_cnt, ↓e_if, ↓e_asg, ↓e_as2, ↓e_as3, ↓e_par, ↓e_aug, ↓e_augS, ↓e_for, ↓e_f0, ↓e_f1, ↓e_while, ↓e_asS1, ↓e_asS2, ↓e_asS3, ↓e_iSeq, ↓e_enum, ↓e_asTI, ↓e_enumC, ↓e_rng1, ↓e_zip, ↓e_zipX, ↓e_comp, ↓e_c0, ↓e_c1, ↓e_y, ↓e_body, ↓e_addI, ↓e_addT, ↓e_addL, ↓e_subI, ↓e_iadd, ↓e_mulI, ↓e_divI, ↓e_modI, ↓e_powI, ↓e_negI, ↓e_mulT, ↓e_mulL, ↓e_cmp, ↓e_eq, ↓e_ne, ↓e_isN, ↓e_isB, ↓e_isNotN, ↓e_isNotB, ↓e_ix, ↓e_abs, ↓e_toI, ↓e_toB1, ↓e_toB0, ↓e_lenT, ↓e_lenL, ↓e_lenRo, ↓e_lenR, ↓e_tupT, ↓e_tupL, ↓e_tupR, ↓e_lstT, ↓e_lstL, ↓e_allM, ↓e_in, ↓e_notIn, ↓e_sum, ↓e_max, ↓e_par3, ↓e_pop, ↓e_frz, ↓e_frzR, ↓e_isi, ↓e_slT, ↓e_slL, ↓e_slRo, ↓e_app, ↓e_ext, ↓e_setM, r_it1, r_it2, r_it3, r_it4, r_ls2, r_ls3, r_ml2, r_ml3, r_mg0, r_mgn, r_at0, r_at1, r_at2, r_at3, r_ix0, r_ix1, r_ix2, r_ty1, r_ty2, r_ty3, r_ty4, r_ty5, r_ty6, r_ty7, r_ty8, r_sNt, r_sNi, r_sNb, r_sNs, r_sbt, r_sbi, r_sbb, r_sbs, r_sit, r_sii, r_sib, r_sis, r_sst, r_ssi, r_ssb, r_sss, r_stt, r_sti, r_stb, r_sts, r_slt, r_sli, r_slb, r_sls, r_aN, r_ab, r_ai, r_as, r_at, r_al, r_eqI, r_eqB, r_eqS, r_pu1, r_pu2, r_eqN, r_fr1, r_fx1, r_fx2, r_fx3, r_bo0, r_bo1, r_c0, r_c1, r_c2, r_c3, r_c4, r_c5, r_c6, r_c7, r_c8, r_c9, r_c10, r_c11, r_c12, r_pd0, r_pd1, r_pd2, r_wi0, r_wi1, List.set_cons_zero, List.set_cons_succ, List.getElem?_cons_zero, List.getElem?_cons_succ, ↓reduceIte, List.length_cons, List.length_nil, Nat.zero_add, Nat.reduceAdd, and_true, true_and, decide_true, decide_false, eq_self, beq_self_eq_true, Bool.true_beq, Bool.false_beq, Bool.not_true, Bool.not_false, Int.reduceEq, Int.reduceLT, Int.reduceLE, Int.reduceAdd, Int.reduceSub, Int.reduceMul, Int.reduceNeg, Bool.not_not, List.append_nil, List.nil_append, List.cons_append]
      simp [Int.natAbs_of_nonneg ha, ha]
    · simp (config := {dsimp := false}) only [↓e_pr, ↓e_some, ↓e_an, ↓e_brT, ↓e_brF, ↓e_asB, ↓e_asI, ↓e_asV, ↓e_stE, ↓e_stE0, ↓e_stL, ↓e_stL0, ↓e_sqN, ↓e_sqR, ↓e_sqB, ↓e_sqC, ↓e_afN, ↓e_afR, ↓e_afB, ↓e_afC, ↓e_rtN, ↓e_rtR, ↓e_var, ↓e_c, ↓e_op, ↓e_un, ↓e_t, ↓e_nt, ↓e_anT, ↓e_orT, ↓e_and, ↓e_or, ↓e_not, ↓e_ite, ↓e_ch, ↓e_nil, ↓e_cons, ↓e_star, ↓e_tup, ↓e_lst, ↓e_mut, ↓e_call, ↓e_isiT, ↓e_lz, ↓e_meth, ↓e_meth0, ↓e_oN, ↓e_oS, ↓e_sl, ↓e_gVar, ↓e_gSub, ↓e_gTp, ↓e_gN, ↓e_gC, ↓e_next, ↓e_seq, ↓e_drop, ↓e_ret, ↓e_retN, ↓e_brk, ↓e_cnt, ↓e_if, ↓e_asg, ↓e_as2, ↓e_as3, ↓e_par, ↓e_aug, ↓e_augS, ↓e_for, ↓e_f0, ↓e_f1, ↓e_while, ↓e_asS1, ↓e_asS2, ↓e_asS3, ↓e_iSeq, ↓e_enum, ↓e_asTI, ↓e_enumC, ↓e_rng1, ↓e_zip, ↓e_zipX, ↓e_comp, ↓e_c0, ↓e_c1, ↓e_y, ↓e_body, ↓e_addI, ↓e_addT, ↓e_addL, ↓e_subI, ↓e_iadd, ↓e_mulI, ↓e_divI, ↓e_modI, ↓e_powI, ↓e_negI, ↓e_mulT, ↓e_mulL, ↓e_cmp, ↓e_eq, ↓e_ne, ↓e_isN, ↓e_isB, ↓e_isNotN, ↓e_isNotB, ↓e_ix, ↓e_abs, ↓e_toI, ↓e_toB1, ↓e_toB0, ↓e_lenT, ↓e_lenL, ↓e_lenRo, ↓e_lenR, ↓e_tupT, ↓e_tupL, ↓e_tupR, ↓e_lstT, ↓e_lstL, ↓e_allM, ↓e_in, ↓e_notIn, ↓e_sum, ↓e_max, ↓e_par3, ↓e_pop, ↓e_frz, ↓e_frzR, ↓e_isi, ↓e_slT, ↓e_slL, ↓e_slRo, ↓e_app, ↓e_ext, ↓e_setM, r_it1, r_it2, r_it3, r_it4, r_ls2, r_ls3, r_ml2, r_ml3, r_mg0, r_mgn, r_at0, r_at1, r_at2, r_at3, r_ix0, r_ix1, r_ix2, r_ty1, r_ty2, r_ty3, r_ty4, r_ty5, r_ty6, r_ty7, r_ty8, r_sNt, r_sNi, r_sNb, r_sNs, r_sbt, r_sbi, r_sbb, r_sbs, r_sit, r_sii, r_sib, r_sis, r_sst, r_ssi, r_ssb, r_sss, r_stt, r_sti, r_stb, r_sts, r_slt, r_sli, r_slb, r_sls, r_aN, r_ab, r_ai, r_as, r_at, r_al, r_eqI, r_eqB, r_eqS, r_pu1, r_pu2, r_eqN, r_fr1, r_fx1, r_fx2, r_fx3, r_bo0, r_bo1, r_c0, r_c1, r_c2, r_c3, r_c4, r_c5, r_c6, r_c7, r_c8, r_c9, r_c10, r_c11, r_c12, r_pd0, r_pd1, r_pd2, r_wi0, r_wi1, List.set_cons_zero, List.set_cons_succ, List.getElem?_cons_zero, List.getElem?_cons_succ, ↓reduceIte, List.length_cons, List.length_nil, Nat.zero_add, Nat.reduceAdd, and_true, true_and, decide_true, decide_false, eq_self, beq_self_eq_true, Bool.true_beq, Bool.false_beq, Bool.not_true, Bool.not_false, Int.reduceEq, Int.reduceLT, Int.reduceLE, Int.reduceAdd, Int.reduceSub, Int.reduceMul, Int.reduceNeg, Bool.not_not, List.append_nil, List.nil_append, List.cons_append, decide_eq_false hz]
      have hb' : 0 < b := by omega
      refine ⟨hb', ?_⟩
      have := ih b (a % b) hb (Int.emod_nonneg _ hz) (by have := Int.emod_lt_of_pos a hb'; omega)
      rwa [gcd_step] at this
theorem sp_common {a b : Int} {h : Sto} (ha : 0 ≤ a) (hb : 0 ≤ b) (hz : Lt3 b) : d_common [.int a, .int b] h = some (.int (Int.gcd a b), h) := by
  refine Ev_eq ?_
  unfold d_common b_common
  simp (config := {dsimp := false}) only [↓e_pr, ↓e_some, ↓e_an, ↓e_brT, ↓e_brF, ↓e_asB, ↓e_asI, ↓e_asV, ↓e_stE, ↓e_stE0, ↓e_stL, ↓e_stL0, ↓e_sqN, ↓e_sqR, ↓e_sqB, ↓e_sqC, ↓e_afN, ↓e_afR, ↓e_afB, ↓e_afC, ↓e_rtN, ↓e_rtR, ↓e_var, ↓e_c, ↓e_op, ↓e_un, ↓e_t, ↓e_nt, ↓e_anT, ↓e_orT, ↓e_and, ↓e_or, ↓e_not, ↓e_ite, ↓e_ch, ↓e_nil, ↓e_cons, ↓e_star, ↓e_tup, ↓e_lst, ↓e_mut, ↓e_call, ↓e_isiT, ↓e_lz, ↓e_meth, ↓e_meth0, ↓e_oN, ↓e_oS, ↓e_sl, ↓e_gVar, ↓e_gSub, ↓e_gTp, ↓e_gN, ↓e_gC, ↓e_next, ↓e_seq, ↓e_drop, ↓e_ret, ↓e_retN, ↓e_brk, ↓e_cnt, ↓e_if, ↓e_asg, ↓e_as2, ↓e_as3, ↓e_par, ↓e_aug, ↓e_augS, ↓e_for, ↓e_f0, ↓e_f1, ↓e_while, ↓e_asS1, ↓e_asS2, ↓e_asS3, ↓e_iSeq, ↓e_enum, ↓e_asTI, ↓e_enumC, ↓e_rng1, ↓e_zip, ↓e_zipX, ↓e_comp, ↓e_c0, ↓e_c1, ↓e_y, ↓e_body, ↓e_addI, ↓e_addT, ↓e_addL, ↓e_subI, ↓e_iadd, ↓e_mulI, ↓e_divI, ↓e_modI, ↓e_powI, ↓e_negI, ↓e_mulT, ↓e_mulL, ↓e_cmp, ↓e_eq, ↓e_ne, ↓e_isN, ↓e_isB, ↓e_isNotN, ↓e_isNotB, ↓e_ix, ↓e_abs, ↓e_toI, ↓e_toB1, ↓e_toB0, ↓e_lenT, ↓e_lenL, ↓e_lenRo, ↓e_lenR, ↓e_tupT, ↓e_tupL, ↓e_tupR, ↓e_lstT, ↓e_lstL, ↓e_allM, ↓e_in, ↓e_notIn, ↓e_sum, ↓e_max, ↓e_par3, ↓e_pop, ↓e_frz, ↓e_frzR, ↓e_isi, ↓e_slT, ↓e_slL, ↓e_slRo, ↓e_app, ↓e_ext, ↓e_setM, r_it1, r_it2, r_it3, r_it4, r_ls2, r_ls3, r_ml2, r_ml3, r_mg0, r_mgn, r_at0, r_at1, r_at2, r_at3, r_ix0, r_ix1, r_ix2, r_ty1, r_ty2, r_ty3, r_ty4, r_ty5, r_ty6, r_ty7, r_ty8, r_sNt, r_sNi, r_sNb, r_sNs, r_sbt, r_sbi, r_sbb, r_sbs, r_sit, r_sii, r_sib, r_sis, r_sst, r_ssi, r_ssb, r_sss, r_stt, r_sti, r_stb, r_sts, r_slt, r_sli, r_slb, r_sls, r_aN, r_ab, r_ai, r_as, r_at, r_al, r_eqI, r_eqB, r_eqS, r_pu1, r_pu2, r_eqN, r_fr1, r_fx1, r_fx2, r_fx3, r_bo0, r_bo1, r_c0, r_c1, r_c2, r_c3, r_c4, r_c5, r_c6, r_c7, r_c8, r_c9, r_c10, r_c11, r_c12, r_pd0, r_pd1, r_pd2, r_wi0, r_wi1, List.set_cons_zero, List.set_cons_succ, List.getElem?_cons_zero, List.getElem?_cons_succ, ↓reduceIte, List.length_cons, List.length_nil, Nat.zero_add, Nat.reduceAdd, and_true, true_and, decide_true, decide_false, eq_self, beq_self_eq_true, Bool.true_beq, Bool.false_beq, Bool.not_true, Bool.not_false, Int.reduceEq, Int.reduceLT, Int.reduceLE, Int.reduceAdd, Int.reduceSub, Int.reduceMul, Int.reduceNeg, Bool.not_not, List.append_nil, List.nil_append, List.cons_append]
  refine (common_loop fuel a b ha hb (fuel_gt hz)).mono ?_
  rintro f ρ h' ⟨rfl, rfl, rfl⟩
  simp (config := {dsimp := false}) only [↓e_pr, ↓e_some, ↓e_an, ↓e_brT, ↓e_brF, ↓e_asB, ↓e_asI, ↓e_asV, ↓e_stE, ↓e_stE0, ↓e_stL, ↓e_stL0, ↓e_sqN, ↓e_sqR, ↓e_sqB, ↓e_sqC, ↓e_afN, ↓e_afR, ↓e_afB, ↓e_afC, ↓e_rtN, ↓e_rtR, ↓e_var, ↓e_c, ↓e_op, ↓e_un, ↓e_t, ↓e_nt, ↓e_anT, ↓e_orT, ↓e_and, ↓e_or, ↓e_not, ↓e_ite, ↓e_ch, ↓e_nil, ↓e_cons, ↓e_star, ↓e_tup, ↓e_lst, ↓e_mut, ↓e_call, ↓e_isiT, ↓e_lz, ↓e_meth, ↓e_meth0, ↓e_oN, ↓e_oS, ↓e_sl, ↓e_gVar, ↓e_gSub, ↓e_gTp, ↓e_gN, ↓e_gC, ↓e_next, ↓e_seq, ↓e_drop, ↓e_ret, ↓e_retN, ↓e_brk, ↓e_cnt, ↓e_if, ↓e_asg, ↓e_as2, ↓e_as3, ↓e_par, ↓e_aug, ↓e_augS, ↓e_for, ↓e_f0, ↓e_f1, ↓e_while, ↓e_asS1, ↓e_asS2, ↓e_asS3, ↓e_iSeq, ↓e_enum, ↓e_asTI, ↓e_enumC, ↓e_rng1, ↓e_zip, ↓e_zipX, ↓e_comp, ↓e_c0, ↓e_c1, ↓e_y, ↓e_body, ↓e_addI, ↓e_addT, ↓e_addL, ↓e_subI, ↓e_iadd, ↓e_mulI, ↓e_divI, ↓e_modI, ↓e_powI, ↓e_negI, ↓e_mulT, ↓e_mulL, ↓e_cmp, ↓e_eq, ↓e_ne, ↓e_isN, ↓e_isB, ↓e_isNotN, ↓e_isNotB, ↓e_ix, ↓e_abs, ↓e_toI, ↓e_toB1, ↓e_toB0, ↓e_lenT, ↓e_lenL, ↓e_lenRo, ↓e_lenR, ↓e_tupT, ↓e_tupL, ↓e_tupR, ↓e_lstT, ↓e_lstL, ↓e_allM, ↓e_in, ↓e_notIn, ↓e_sum, ↓e_max, ↓e_par3, ↓e_pop, ↓e_frz, ↓e_frzR, ↓e_isi, ↓e_slT, ↓e_slL, ↓e_slRo, ↓e_app, ↓e_ext, ↓e_setM, r_it1, r_it2, r_it3, r_it4, r_ls2, r_ls3, r_ml2, r_ml3, r_mg0, r_mgn, r_at0, r_at1, r_at2, r_at3, r_ix0, r_ix1, r_ix2, r_ty1, r_ty2, r_ty3, r_ty4, r_ty5, r_ty6, r_ty7, r_ty8, r_sNt, r_sNi, r_sNb, r_sNs, r_sbt, r_sbi, r_sbb, r_sbs, r_sit, r_sii, r_sib, r_sis, r_sst, r_ssi, r_ssb, r_sss, r_stt, r_sti, r_stb, r_sts, r_slt, r_sli, r_slb, r_sls, r_aN, r_ab, r_ai, r_as, r_at, r_al, r_eqI, r_eqB, r_eqS, r_pu1, r_pu2, r_eqN, r_fr1, r_fx1, r_fx2, r_fx3, r_bo0, r_bo1, r_c0, r_c1, r_c2, r_c3, r_c4, r_c5, r_c6, r_c7, r_c8, r_c9, r_c10, r_c11, r_c12, r_pd0, r_pd1, r_pd2, r_wi0, r_wi1, List.set_cons_zero, List.set_cons_succ, List.getElem?_cons_zero, List.getElem?_cons_succ, ↓reduceIte, List.length_cons, List.length_nil, Nat.zero_add, Nat.reduceAdd, and_true, true_and, decide_true, decide_false, eq_self, beq_self_eq_true, Bool.true_beq, Bool.false_beq, Bool.not_true, Bool.not_false, Int.reduceEq, Int.reduceLT, Int.reduceLE, Int.reduceAdd, Int.reduceSub, Int.reduceMul, Int.reduceNeg, Bool.not_not, List.append_nil, List.nil_append, List.cons_append]
theorem law_made_loop {h : Sto} {p q : Option D} : ∀ (n : Nat) (a b : Int), 0 ≤ a → 0 ≤ b → b.toNat < n →
    EvS (loopW (dT (dOp gtD (dVar 3) (dC (D.int 0)))) (sPar 2 3 (lCons (dVar 3) (lCons (dOp modD (dCall intF (lCons (dVar 2) lNil)) (dVar 3)) lNil))) n [p, q, some (.int a), some (.int b)] h)
      fun f ρ h' => f = .nx ∧ ρ = [p, q, some (.int (Int.gcd a b)), some (.int 0)] ∧ h' = h := by
  intro n
  induction n with
  | zero => intro a b _ _ z; omega
  | succ n ih =>
    intro a b ha hb z
    rw [w1]
    by_cases hz : b = 0
    · subst hz
      simp (config := {dsimp := false}) only [↓e_pr, ↓e_some, ↓e_an, ↓e_brT, ↓e_brF, ↓e_asB, ↓e_asI, ↓e_asV, ↓e_stE, ↓e_stE0, ↓e_stL, ↓e_stL0, ↓e_sqN, ↓e_sqR, ↓e_sqB, ↓e_sqC, ↓e_afN, ↓e_afR, ↓e_afB, ↓e_afC, ↓e_rtN, ↓e_rtR, ↓e_var, ↓e_c, ↓e_op, ↓e_un, ↓e_t, ↓e_nt, ↓e_anT, ↓e_orT, ↓e_and, ↓e_or, ↓e_not, ↓e_ite, ↓e_ch, ↓e_nil, ↓e_cons, ↓e_star, ↓e_tup, ↓e_lst, ↓e_mut, ↓e_call, ↓e_isiT, ↓e_lz, ↓e_meth, ↓e_meth0, ↓e_oN, ↓e_oS, ↓e_sl, ↓e_gVar, ↓e_gSub, ↓e_gTp, ↓e_gN, ↓e_gC, ↓e_next, ↓e_seq, ↓e_drop, ↓e_ret, ↓e_retN, ↓e_brk, ↓e_cnt, ↓e_if, ↓e_asg, ↓e_as2, ↓e_as3, ↓e_par, ↓e_aug, ↓e_augS, ↓e_for, ↓e_f0, ↓e_f1, ↓e_while, ↓e_asS1, ↓e_asS2, ↓e_asS3, ↓e_iSeq, ↓e_enum, ↓e_asTI, ↓e_enumC, ↓e_rng1, ↓e_zip, ↓e_zipX, ↓e_comp, ↓e_c0, ↓e_c1, ↓e_y, ↓e_body, ↓e_addI, ↓e_addT, ↓e_addL, ↓e_subI, ↓e_iadd, ↓e_mulI, ↓e_divI, ↓e_modI, ↓e_powI, ↓e_negI, ↓e_mulT, ↓e_mulL, ↓e_cmp, ↓e_eq, ↓e_ne, ↓e_isN, ↓e_isB, ↓e_isNotN, ↓e_isNotB, ↓e_ix, ↓e_abs, ↓e_toI, ↓e_toB1, ↓e_toB0, ↓e_lenT, ↓e_lenL, ↓e_lenRo, ↓e_lenR, ↓e_tupT, ↓e_tupL, ↓e_tupR, ↓e_lstT, ↓e_lstL, ↓e_allM, ↓e_in, ↓e_notIn, ↓e_sum, ↓e_max, ↓e_par3, ↓e_pop, ↓e_frz, ↓e_frzR, ↓e_isi, ↓e_slT, ↓e_slL, ↓e_slRo, ↓e_app, ↓e_ext, ↓e_setM, r_it1, r_it2, r_it3, r_it4, r_ls2, r_ls3, r_ml2, r_ml3, r_mg0, r_mgn, r_at0, r_at1, r_at2, r_at3, r_ix0, r_ix1, r_ix2, r_ty1, r_ty2, r_ty3, r_ty4, r_ty5, r_ty6, r_ty7, r_ty8, r_sNt, r_sNi, r_sNb, r_sNs, r_sbt, r_sbi, r_sbb, r_sbs, r_sit, r_sii, r_sib, r_sis, r_sst, r_ssi, r_ssb, r_sss, r_stt, r_sti, r_stb, r_sts, r_slt, r_sli, r_slb, r_sls, r_aN, r_ab, r_ai, r_as, r_at, r_al, r_eqI, r_eqB, r_eqS, r_pu1, r_pu2, r_eqN, r_fr1, r_fx1, r_fx2, r_fx3, r_bo0, r_bo1, r_c0, r_c1, r_c2, r_c3, r_c4, r_c5, r_c6, r_c7, r_c8, r_c9, r_c10, r_c11, r_c12, r_pd0, r_pd1, r_pd2, r_wi0, r_wi1, List.set_cons_zero, List.set_cons_succ, List.getElem?_cons_zero, List.getElem?_cons_succ, ↓reduceIte, List.length_cons, List.length_nil, Nat.zero_add, Nat.reduceAdd, and_true, true_and, decide_true, decide_false, eq_self, beq_self_eq_true, Bool.true_beq, Bool.false_beq, Bool.not_true, Bool.not_false, Int.reduceEq, Int.reduceLT, Int.reduceLE, Int.reduceAdd, Int.reduceSub, Int.reduceMul, Int.reduceNeg, Bool.not_not, List.append_nil, List.nil_append, List.cons_append, show ¬((0 : Int) < 0) by decide]
      simp [Int.natAbs_of_nonneg ha, ha]
    · have hb' : 0 < b := by omega
      simp (config := {dsimp := false}) only [↓e_pr, ↓e_some, ↓e_an, ↓e_brT, ↓e_brF, ↓e_asB, ↓e_asI, ↓e_asV, ↓e_stE, ↓e_stE0, ↓e_stL, ↓e_stL0, ↓e_sqN, ↓e_sqR, ↓e_sqB, ↓e_sqC, ↓e_afN, ↓e_afR, ↓e_afB, ↓e_afC, ↓e_rtN, ↓e_rtR, ↓e_var, ↓e_c, ↓e_op, ↓e_un, ↓e_t, ↓e_nt, ↓e_anT, ↓e_orT, ↓e_and, ↓e_or, ↓e_not, ↓e_ite, ↓e_ch, ↓e_nil, ↓e_cons, ↓e_star, ↓e_tup, ↓e_lst, ↓e_mut, ↓e_call, ↓e_isiT, ↓e_lz, ↓e_meth, ↓e_meth0, ↓e_oN, ↓e_oS, ↓e_sl, ↓e_gVar, ↓e_gSub, ↓e_gTp, ↓e_gN, ↓e_gC, ↓e_next, ↓e_seq, ↓e_drop, ↓e_ret, ↓e_retN, ↓e_brk, ↓e_cnt, ↓e_if, ↓e_asg, ↓e_as2, ↓e_as3, ↓e_par, ↓e_aug, ↓e_augS, ↓e_for, ↓e_f0, ↓e_f1, ↓e_while, ↓e_asS1, ↓e_asS2, ↓e_asS3, ↓e_iSeq, ↓e_enum, ↓e_asTI, ↓e_enumC, ↓e_rng1, ↓e_zip, ↓e_zipX, ↓e_comp, ↓e_c0, ↓e_c1, ↓e_y, ↓e_body, ↓e_addI, ↓e_addT, ↓e_addL, ↓e_subI, ↓e_iadd, ↓e_mulI, ↓e_divI, ↓e_modI, ↓e_powI, ↓e_negI, ↓e_mulT, ↓e_mulL, ↓e_cmp, ↓e_eq, ↓e_ne, ↓e_isN, ↓e_isB, ↓e_isNotN, ↓e_isNotB, ↓e_ix, ↓e_abs, ↓e_toI, ↓e_toB1, ↓e_toB0, ↓e_lenT, ↓e_lenL, ↓e_lenRo, ↓e_lenR, ↓e_tupT, ↓e_tupL, ↓e_tupR, ↓e_lstT, ↓e_lstL, ↓e_allM, ↓e_in, ↓e_notIn, ↓e_sum, ↓e_max, ↓e_par3, ↓e_pop, ↓e_frz, ↓e_frzR, ↓e_isi, ↓e_slT, ↓e_slL, ↓e_slRo, ↓e_app, ↓e_ext, ↓e_setM, r_it1, r_it2, r_it3, r_it4, r_ls2, r_ls3, r_ml2, r_ml3, r_mg0, r_mgn, r_at0, r_at1, r_at2, r_at3, r_ix0, r_ix1, r_ix2, r_ty1, r_ty2, r_ty3, r_ty4, r_ty5, r_ty6, r_ty7, r_ty8, r_sNt, r_sNi, r_sNb, r_sNs, r_sbt, r_sbi, r_sbb, r_sbs, r_sit, r_sii, r_sib, r_sis, r_sst, r_ssi, r_ssb, r_sss, r_stt, r_sti, r_stb, r_sts, r_slt, r_sli, r_slb, r_sls, r_aN, r_ab, r_ai, r_as, r_at, r_al, r_eqI, r_eqB, r_eqS, r_pu1, r_pu2, r_eqN, r_fr1, r_fx1, r_fx2, r_fx3, r_bo0, r_bo1, r_c0, r_c1, r_c2, r_c3, r_c4, r_c5, r_c6, r_c7, r_c8, r_c9, r_c10, r_c11, r_c12, r_pd0, r_pd1, r_pd2, r_wi0, r_wi1, List.set_cons_zero, List.set_cons_succ, List.getElem?_cons_zero, List.getElem?_cons_succ, ↓reduceIte, List.length_cons, List.length_nil, Nat.zero_add, Nat.reduceAdd, and_true, true_and, decide_true, decide_false, eq_self, beq_self_eq_true, Bool.true_beq, Bool.false_beq, Bool.not_true, Bool.not_false, Int.reduceEq, Int.reduceLT, Int.reduceLE, Int.reduceAdd, Int.reduceSub, Int.reduceMul, Int.reduceNeg, Bool.not_not, List.append_nil, List.nil_append, List.cons_append, hb']
      have := ih b (a % b) hb (Int.emod_nonneg _ hz) (by have := Int.emod_lt_of_pos a hb'; omega)
      rwa [gcd_step] at this
/-- a fraction in lowest terms, of any over and under -/
def red (p q : Int) : Int × Int := (p / Int.gcd p q, q / Int.gcd p q)
abbrev frD (x : Int × Int) : D := .tup [.int x.1, .int x.2]
def absI (p : Int) : Int := if p < 0 then -p else p
theorem absI_eq (p : Int) : absI p = p.natAbs := by unfold absI; split <;> omega
theorem gcd_abs (p q : Int) : Int.gcd (absI p) q = Int.gcd p q := by rw [absI_eq]; simp [Int.gcd_eq_natAbs_gcd_natAbs]
theorem gcd_abs' (p q : Int) : Int.gcd p (absI q) = Int.gcd p q := by rw [absI_eq]; simp [Int.gcd_eq_natAbs_gcd_natAbs]
theorem gcd_pos {p q : Int} (hq : 0 < q) : (0 : Int) < Int.gcd p q := by
  have : 0 < Int.gcd p q := Int.gcd_pos_of_ne_zero_right p (by omega)
  omega
theorem gcd_le {p q : Int} (hq : 0 < q) : (Int.gcd p q : Int) ≤ q := Int.gcd_le_right p hq
theorem sp_made {p q : Int} {h : Sto} (hq : 0 < q) (hz : Lt3 q) : d_made [.int p, .int q] h = some (frD (red p q), h) := by
  refine Ev_eq ?_
  unfold d_made b_made
  have e := sp_common (h := h) (a := absI p) (b := q) (by rw [absI_eq]; omega) (by omega) hz
  rw [gcd_abs] at e
  have n : ¬ (q < 0) := by omega
  unfold absI at e
  simp (config := {dsimp := false}) only [↓e_pr, ↓e_some, ↓e_an, ↓e_brT, ↓e_brF, ↓e_asB, ↓e_asI, ↓e_asV, ↓e_stE, ↓e_stE0, ↓e_stL, ↓e_stL0, ↓e_sqN, ↓e_sqR, ↓e_sqB, ↓e_sqC, ↓e_afN, ↓e_afR, ↓e_afB, ↓e_afC, ↓e_rtN, ↓e_rtR, ↓e_var, ↓e_c, ↓e_op, ↓e_un, ↓e_t, ↓e_nt, ↓e_anT, ↓e_orT, ↓e_and, ↓e_or, ↓e_not, ↓e_ite, ↓e_ch, ↓e_nil, ↓e_cons, ↓e_star, ↓e_tup, ↓e_lst, ↓e_mut, ↓e_call, ↓e_isiT, ↓e_lz, ↓e_meth, ↓e_meth0, ↓e_oN, ↓e_oS, ↓e_sl, ↓e_gVar, ↓e_gSub, ↓e_gTp, ↓e_gN, ↓e_gC, ↓e_next, ↓e_seq, ↓e_drop, ↓e_ret, ↓e_retN, ↓e_brk, ↓e_cnt, ↓e_if, ↓e_asg, ↓e_as2, ↓e_as3, ↓e_par, ↓e_aug, ↓e_augS, ↓e_for, ↓e_f0, ↓e_f1, ↓e_while, ↓e_asS1, ↓e_asS2, ↓e_asS3, ↓e_iSeq, ↓e_enum, ↓e_asTI, ↓e_enumC, ↓e_rng1, ↓e_zip, ↓e_zipX, ↓e_comp, ↓e_c0, ↓e_c1, ↓e_y, ↓e_body, ↓e_addI, ↓e_addT, ↓e_addL, ↓e_subI, ↓e_iadd, ↓e_mulI, ↓e_divI, ↓e_modI, ↓e_powI, ↓e_negI, ↓e_mulT, ↓e_mulL, ↓e_cmp, ↓e_eq, ↓e_ne, ↓e_isN, ↓e_isB, ↓e_isNotN, ↓e_isNotB, ↓e_ix, ↓e_abs, ↓e_toI, ↓e_toB1, ↓e_toB0, ↓e_lenT, ↓e_lenL, ↓e_lenRo, ↓e_lenR, ↓e_tupT, ↓e_tupL, ↓e_tupR, ↓e_lstT, ↓e_lstL, ↓e_allM, ↓e_in, ↓e_notIn, ↓e_sum, ↓e_max, ↓e_par3, ↓e_pop, ↓e_frz, ↓e_frzR, ↓e_isi, ↓e_slT, ↓e_slL, ↓e_slRo, ↓e_app, ↓e_ext, ↓e_setM, r_it1, r_it2, r_it3, r_it4, r_ls2, r_ls3, r_ml2, r_ml3, r_mg0, r_mgn, r_at0, r_at1, r_at2, r_at3, r_ix0, r_ix1, r_ix2, r_ty1, r_ty2, r_ty3, r_ty4, r_ty5, r_ty6, r_ty7, r_ty8, r_sNt, r_sNi, r_sNb, r_sNs, r_sbt, r_sbi, r_sbb, r_sbs, r_sit, r_sii, r_sib, r_sis, r_sst, r_ssi, r_ssb, r_sss, r_stt, r_sti, r_stb, r_sts, r_slt, r_sli, r_slb, r_sls, r_aN, r_ab, r_ai, r_as, r_at, r_al, r_eqI, r_eqB, r_eqS, r_pu1, r_pu2, r_eqN, r_fr1, r_fx1, r_fx2, r_fx3, r_bo0, r_bo1, r_c0, r_c1, r_c2, r_c3, r_c4, r_c5, r_c6, r_c7, r_c8, r_c9, r_c10, r_c11, r_c12, r_pd0, r_pd1, r_pd2, r_wi0, r_wi1, List.set_cons_zero, List.set_cons_succ, List.getElem?_cons_zero, List.getElem?_cons_succ, ↓reduceIte, List.length_cons, List.length_nil, Nat.zero_add, Nat.reduceAdd, and_true, true_and, decide_true, decide_false, eq_self, beq_self_eq_true, Bool.true_beq, Bool.false_beq, Bool.not_true, Bool.not_false, Int.reduceEq, Int.reduceLT, Int.reduceLE, Int.reduceAdd, Int.reduceSub, Int.reduceMul, Int.reduceNeg, Bool.not_not, List.append_nil, List.nil_append, List.cons_append, n, e]
  have hg := gcd_pos (p := p) hq
  have hl := gcd_le (p := p) hq
  have := DivOk.l hg (.le (by omega) hl hz)
  exact ⟨this, this, by decide, rfl⟩
theorem sp_law_made {p q : Int} {h : Sto} (hq : 0 < q) (hz : Lt3 q) : d_law_made [.int p, .int q] h = some (frD (red p q), h) := by
  refine Ev_eq ?_
  unfold d_law_made b_law_made
  simp (config := {dsimp := false}) only [↓e_pr, ↓e_some, ↓e_an, ↓e_brT, ↓e_brF, ↓e_asB, ↓e_asI, ↓e_asV, ↓e_stE, ↓e_stE0, ↓e_stL, ↓e_stL0, ↓e_sqN, ↓e_sqR, ↓e_sqB, ↓e_sqC, ↓e_afN, ↓e_afR, ↓e_afB, ↓e_afC, ↓e_rtN, ↓e_rtR, ↓e_var, ↓e_c, ↓e_op, ↓e_un, ↓e_t, ↓e_nt, ↓e_anT, ↓e_orT, ↓e_and, ↓e_or, ↓e_not, ↓e_ite, ↓e_ch, ↓e_nil, ↓e_cons, ↓e_star, ↓e_tup, ↓e_lst, ↓e_mut, ↓e_call, ↓e_isiT, ↓e_lz, ↓e_meth, ↓e_meth0, ↓e_oN, ↓e_oS, ↓e_sl, ↓e_gVar, ↓e_gSub, ↓e_gTp, ↓e_gN, ↓e_gC, ↓e_next, ↓e_seq, ↓e_drop, ↓e_ret, ↓e_retN, ↓e_brk, ↓e_cnt, ↓e_if, ↓e_asg, ↓e_as2, ↓e_as3, ↓e_par, ↓e_aug, ↓e_augS, ↓e_for, ↓e_f0, ↓e_f1, ↓e_while, ↓e_asS1, ↓e_asS2, ↓e_asS3, ↓e_iSeq, ↓e_enum, ↓e_asTI, ↓e_enumC, ↓e_rng1, ↓e_zip, ↓e_zipX, ↓e_comp, ↓e_c0, ↓e_c1, ↓e_y, ↓e_body, ↓e_addI, ↓e_addT, ↓e_addL, ↓e_subI, ↓e_iadd, ↓e_mulI, ↓e_divI, ↓e_modI, ↓e_powI, ↓e_negI, ↓e_mulT, ↓e_mulL, ↓e_cmp, ↓e_eq, ↓e_ne, ↓e_isN, ↓e_isB, ↓e_isNotN, ↓e_isNotB, ↓e_ix, ↓e_abs, ↓e_toI, ↓e_toB1, ↓e_toB0, ↓e_lenT, ↓e_lenL, ↓e_lenRo, ↓e_lenR, ↓e_tupT, ↓e_tupL, ↓e_tupR, ↓e_lstT, ↓e_lstL, ↓e_allM, ↓e_in, ↓e_notIn, ↓e_sum, ↓e_max, ↓e_par3, ↓e_pop, ↓e_frz, ↓e_frzR, ↓e_isi, ↓e_slT, ↓e_slL, ↓e_slRo, ↓e_app, ↓e_ext, ↓e_setM, r_it1, r_it2, r_it3, r_it4, r_ls2, r_ls3, r_ml2, r_ml3, r_mg0, r_mgn, r_at0, r_at1, r_at2, r_at3, r_ix0, r_ix1, r_ix2, r_ty1, r_ty2, r_ty3, r_ty4, r_ty5, r_ty6, r_ty7, r_ty8, r_sNt, r_sNi, r_sNb, r_sNs, r_sbt, r_sbi, r_sbb, r_sbs, r_sit, r_sii, r_sib, r_sis, r_sst, r_ssi, r_ssb, r_sss, r_stt, r_sti, r_stb, r_sts, r_slt, r_sli, r_slb, r_sls, r_aN, r_ab, r_ai, r_as, r_at, r_al, r_eqI, r_eqB, r_eqS, r_pu1, r_pu2, r_eqN, r_fr1, r_fx1, r_fx2, r_fx3, r_bo0, r_bo1, r_c0, r_c1, r_c2, r_c3, r_c4, r_c5, r_c6, r_c7, r_c8, r_c9, r_c10, r_c11, r_c12, r_pd0, r_pd1, r_pd2, r_wi0, r_wi1, List.set_cons_zero, List.set_cons_succ, List.getElem?_cons_zero, List.getElem?_cons_succ, ↓reduceIte, List.length_cons, List.length_nil, Nat.zero_add, Nat.reduceAdd, and_true, true_and, decide_true, decide_false, eq_self, beq_self_eq_true, Bool.true_beq, Bool.false_beq, Bool.not_true, Bool.not_false, Int.reduceEq, Int.reduceLT, Int.reduceLE, Int.reduceAdd, Int.reduceSub, Int.reduceMul, Int.reduceNeg, Bool.not_not, List.append_nil, List.nil_append, List.cons_append]
  have := law_made_loop (h := h) (p := some (.int p)) (q := some (.int q)) fuel (absI p) (absI q) (by rw [absI_eq]; omega) (by rw [absI_eq]; omega) (fuel_gt (by unfold Lt3; rw [absI_eq]; exact hz))
  rw [gcd_abs, gcd_abs'] at this
  refine this.mono ?_
  rintro f ρ h' ⟨rfl, rfl, rfl⟩
  simp (config := {dsimp := false}) only [↓e_pr, ↓e_some, ↓e_an, ↓e_brT, ↓e_brF, ↓e_asB, ↓e_asI, ↓e_asV, ↓e_stE, ↓e_stE0, ↓e_stL, ↓e_stL0, ↓e_sqN, ↓e_sqR, ↓e_sqB, ↓e_sqC, ↓e_afN, ↓e_afR, ↓e_afB, ↓e_afC, ↓e_rtN, ↓e_rtR, ↓e_var, ↓e_c, ↓e_op, ↓e_un, ↓e_t, ↓e_nt, ↓e_anT, ↓e_orT, ↓e_and, ↓e_or, ↓e_not, ↓e_ite, ↓e_ch, ↓e_nil, ↓e_cons, ↓e_star, ↓e_tup, ↓e_lst, ↓e_mut, ↓e_call, ↓e_isiT, ↓e_lz, ↓e_meth, ↓e_meth0, ↓e_oN, ↓e_oS, ↓e_sl, ↓e_gVar, ↓e_gSub, ↓e_gTp, ↓e_gN, ↓e_gC, ↓e_next, ↓e_seq, ↓e_drop, ↓e_ret, ↓e_retN, ↓e_brk, ↓e_cnt, ↓e_if, ↓e_asg, ↓e_as2, ↓e_as3, ↓e_par, ↓e_aug, ↓e_augS, ↓e_for, ↓e_f0, ↓e_f1, ↓e_while, ↓e_asS1, ↓e_asS2, ↓e_asS3, ↓e_iSeq, ↓e_enum, ↓e_asTI, ↓e_enumC, ↓e_rng1, ↓e_zip, ↓e_zipX, ↓e_comp, ↓e_c0, ↓e_c1, ↓e_y, ↓e_body, ↓e_addI, ↓e_addT, ↓e_addL, ↓e_subI, ↓e_iadd, ↓e_mulI, ↓e_divI, ↓e_modI, ↓e_powI, ↓e_negI, ↓e_mulT, ↓e_mulL, ↓e_cmp, ↓e_eq, ↓e_ne, ↓e_isN, ↓e_isB, ↓e_isNotN, ↓e_isNotB, ↓e_ix, ↓e_abs, ↓e_toI, ↓e_toB1, ↓e_toB0, ↓e_lenT, ↓e_lenL, ↓e_lenRo, ↓e_lenR, ↓e_tupT, ↓e_tupL, ↓e_tupR, ↓e_lstT, ↓e_lstL, ↓e_allM, ↓e_in, ↓e_notIn, ↓e_sum, ↓e_max, ↓e_par3, ↓e_pop, ↓e_frz, ↓e_frzR, ↓e_isi, ↓e_slT, ↓e_slL, ↓e_slRo, ↓e_app, ↓e_ext, ↓e_setM, r_it1, r_it2, r_it3, r_it4, r_ls2, r_ls3, r_ml2, r_ml3, r_mg0, r_mgn, r_at0, r_at1, r_at2, r_at3, r_ix0, r_ix1, r_ix2, r_ty1, r_ty2, r_ty3, r_ty4, r_ty5, r_ty6, r_ty7, r_ty8, r_sNt, r_sNi, r_sNb, r_sNs, r_sbt, r_sbi, r_sbb, r_sbs, r_sit, r_sii, r_sib, r_sis, r_sst, r_ssi, r_ssb, r_sss, r_stt, r_sti, r_stb, r_sts, r_slt, r_sli, r_slb, r_sls, r_aN, r_ab, r_ai, r_as, r_at, r_al, r_eqI, r_eqB, r_eqS, r_pu1, r_pu2, r_eqN, r_fr1, r_fx1, r_fx2, r_fx3, r_bo0, r_bo1, r_c0, r_c1, r_c2, r_c3, r_c4, r_c5, r_c6, r_c7, r_c8, r_c9, r_c10, r_c11, r_c12, r_pd0, r_pd1, r_pd2, r_wi0, r_wi1, List.set_cons_zero, List.set_cons_succ, List.getElem?_cons_zero, List.getElem?_cons_succ, ↓reduceIte, List.length_cons, List.length_nil, Nat.zero_add, Nat.reduceAdd, and_true, true_and, decide_true, decide_false, eq_self, beq_self_eq_true, Bool.true_beq, Bool.false_beq, Bool.not_true, Bool.not_false, Int.reduceEq, Int.reduceLT, Int.reduceLE, Int.reduceAdd, Int.reduceSub, Int.reduceMul, Int.reduceNeg, Bool.not_not, List.append_nil, List.nil_append, List.cons_append, hq]
  have hg := gcd_pos (p := p) hq
  have hl := gcd_le (p := p) hq
  have := DivOk.l hg (.le (by omega) hl hz)
  exact ⟨this, this, by decide, rfl⟩
/-- lowest terms, of a size -/
def Fr (k : Nat) (x : Int × Int) : Prop := 0 < x.2 ∧ x.2.natAbs ≤ 2 ^ k ∧ x.1.natAbs ≤ 2 ^ k ∧ Int.gcd x.1 x.2 = 1
theorem natAbs_ediv_le {p g : Int} (hg : 0 < g) (d : g ∣ p) : (p / g).natAbs ≤ p.natAbs := by
  obtain ⟨c, rfl⟩ := d
  rw [Int.mul_ediv_cancel_left _ (by omega), Int.natAbs_mul]
  exact Nat.le_mul_of_pos_left _ (by omega)
theorem red_fr {k : Nat} {p q : Int} (hq : 0 < q) (h1 : p.natAbs ≤ 2 ^ k) (h2 : q.natAbs ≤ 2 ^ k) : Fr k (red p q) := by
  have hg := gcd_pos (p := p) hq
  have d1 := Int.gcd_dvd_left p q
  have d2 := Int.gcd_dvd_right p q
  refine ⟨Int.ediv_pos_of_pos_of_dvd hq (by omega) d2, Nat.le_trans (natAbs_ediv_le hg d2) h2, Nat.le_trans (natAbs_ediv_le hg d1) h1, ?_⟩
  exact Int.gcd_ediv_gcd_ediv_gcd (by omega)
def addQ (x y : Int × Int) : Int × Int := red (x.1 * y.2 + y.1 * x.2) (x.2 * y.2)
def subQ (x y : Int × Int) : Int × Int := red (x.1 * y.2 - y.1 * x.2) (x.2 * y.2)
def mulQ (x y : Int × Int) : Int × Int := red (x.1 * y.1) (x.2 * y.2)
theorem mul_le2 {a b : Int} {i j : Nat} (h1 : a.natAbs ≤ 2 ^ i) (h2 : b.natAbs ≤ 2 ^ j) : (a * b).natAbs ≤ 2 ^ (i + j) := by
  rw [Int.natAbs_mul, Nat.pow_add]; exact Nat.mul_le_mul h1 h2
theorem le2_succ {a i : Nat} (h : a ≤ 2 ^ i) : a ≤ 2 ^ (i + 1) := Nat.le_trans h (Nat.pow_le_pow_right (by decide) (by omega))
theorem le2_mono {a i j : Nat} (h : a ≤ 2 ^ i) (z : i ≤ j) : a ≤ 2 ^ j := Nat.le_trans h (Nat.pow_le_pow_right (by decide) z)
theorem Fr.mono {i j : Nat} {x : Int × Int} (a : Fr i x) (z : i ≤ j) : Fr j x := ⟨a.1, le2_mono a.2.1 z, le2_mono a.2.2.1 z, a.2.2.2⟩
theorem addQ_fr {i j : Nat} {x y : Int × Int} (a : Fr i x) (b : Fr j y) : Fr (i + j + 1) (addQ x y) := by
  refine red_fr (Int.mul_pos a.1 b.1) ?_ (le2_succ (mul_le2 a.2.1 b.2.1))
  have h1 := mul_le2 a.2.2.1 b.2.1
  have h2 := mul_le2 b.2.2.1 a.2.1
  have h3 := Int.natAbs_add_le (x.1 * y.2) (y.1 * x.2)
  rw [Nat.add_comm j i] at h2
  rw [Nat.pow_succ]; omega
theorem subQ_fr {i j : Nat} {x y : Int × Int} (a : Fr i x) (b : Fr j y) : Fr (i + j + 1) (subQ x y) := by
  refine red_fr (Int.mul_pos a.1 b.1) ?_ (le2_succ (mul_le2 a.2.1 b.2.1))
  have h1 := mul_le2 a.2.2.1 b.2.1
  have h2 := mul_le2 b.2.2.1 a.2.1
  have h3 := Int.natAbs_sub_le (x.1 * y.2) (y.1 * x.2)
  rw [Nat.add_comm j i] at h2
  rw [Nat.pow_succ]; omega
theorem mulQ_fr {i j : Nat} {x y : Int × Int} (a : Fr i x) (b : Fr j y) : Fr (i + j) (mulQ x y) :=
  red_fr (Int.mul_pos a.1 b.1) (mul_le2 a.2.2.1 b.2.2.1) (mul_le2 a.2.1 b.2.1)
theorem mulOk2 {a b : Int} {i j : Nat} (h1 : a.natAbs ≤ 2 ^ i) (h2 : b.natAbs ≤ 2 ^ j) (z : i ≤ 2999) (z2 : j ≤ 2999) : MulOk a b :=
  .of (k := 2999) (by decide) (lt_pow h1 (by omega)) (lt_pow h2 (by omega))
theorem sp_plus {i j : Nat} {x y : Int × Int} {h : Sto} (a : Fr i x) (b : Fr j y) (z : i + j ≤ 2999) : d_plus [frD x, frD y] h = some (frD (addQ x y), h) := by
  refine Ev_eq ?_
  unfold d_plus b_plus
  have e := sp_made (h := h) (p := x.1 * y.2 + y.1 * x.2) (q := x.2 * y.2) (Int.mul_pos a.1 b.1) (.of (mul_le2 a.2.1 b.2.1) (by omega))
  simp (config := {dsimp := false}) only [↓e_pr, ↓e_some, ↓e_an, ↓e_brT, ↓e_brF, ↓e_asB, ↓e_asI, ↓e_asV, ↓e_stE, ↓e_stE0, ↓e_stL, ↓e_stL0, ↓e_sqN, ↓e_sqR, ↓e_sqB, ↓e_sqC, ↓e_afN, ↓e_afR, ↓e_afB, ↓e_afC, ↓e_rtN, ↓e_rtR, ↓e_var, ↓e_c, ↓e_op, ↓e_un, ↓e_t, ↓e_nt, ↓e_anT, ↓e_orT, ↓e_and, ↓e_or, ↓e_not, ↓e_ite, ↓e_ch, ↓e_nil, ↓e_cons, ↓e_star, ↓e_tup, ↓e_lst, ↓e_mut, ↓e_call, ↓e_isiT, ↓e_lz, ↓e_meth, ↓e_meth0, ↓e_oN, ↓e_oS, ↓e_sl, ↓e_gVar, ↓e_gSub, ↓e_gTp, ↓e_gN, ↓e_gC, ↓e_next, ↓e_seq, ↓e_drop, ↓e_ret, ↓e_retN, ↓e_brk, ↓e_cnt, ↓e_if, ↓e_asg, ↓e_as2, ↓e_as3, ↓e_par, ↓e_aug, ↓e_augS, ↓e_for, ↓e_f0, ↓e_f1, ↓e_while, ↓e_asS1, ↓e_asS2, ↓e_asS3, ↓e_iSeq, ↓e_enum, ↓e_asTI, ↓e_enumC, ↓e_rng1, ↓e_zip, ↓e_zipX, ↓e_comp, ↓e_c0, ↓e_c1, ↓e_y, ↓e_body, ↓e_addI, ↓e_addT, ↓e_addL, ↓e_subI, ↓e_iadd, ↓e_mulI, ↓e_divI, ↓e_modI, ↓e_powI, ↓e_negI, ↓e_mulT, ↓e_mulL, ↓e_cmp, ↓e_eq, ↓e_ne, ↓e_isN, ↓e_isB, ↓e_isNotN, ↓e_isNotB, ↓e_ix, ↓e_abs, ↓e_toI, ↓e_toB1, ↓e_toB0, ↓e_lenT, ↓e_lenL, ↓e_lenRo, ↓e_lenR, ↓e_tupT, ↓e_tupL, ↓e_tupR, ↓e_lstT, ↓e_lstL, ↓e_allM, ↓e_in, ↓e_notIn, ↓e_sum, ↓e_max, ↓e_par3, ↓e_pop, ↓e_frz, ↓e_frzR, ↓e_isi, ↓e_slT, ↓e_slL, ↓e_slRo, ↓e_app, ↓e_ext, ↓e_setM, r_it1, r_it2, r_it3, r_it4, r_ls2, r_ls3, r_ml2, r_ml3, r_mg0, r_mgn, r_at0, r_at1, r_at2, r_at3, r_ix0, r_ix1, r_ix2, r_ty1, r_ty2, r_ty3, r_ty4, r_ty5, r_ty6, r_ty7, r_ty8, r_sNt, r_sNi, r_sNb, r_sNs, r_sbt, r_sbi, r_sbb, r_sbs, r_sit, r_sii, r_sib, r_sis, r_sst, r_ssi, r_ssb, r_sss, r_stt, r_sti, r_stb, r_sts, r_slt, r_sli, r_slb, r_sls, r_aN, r_ab, r_ai, r_as, r_at, r_al, r_eqI, r_eqB, r_eqS, r_pu1, r_pu2, r_eqN, r_fr1, r_fx1, r_fx2, r_fx3, r_bo0, r_bo1, r_c0, r_c1, r_c2, r_c3, r_c4, r_c5, r_c6, r_c7, r_c8, r_c9, r_c10, r_c11, r_c12, r_pd0, r_pd1, r_pd2, r_wi0, r_wi1, List.set_cons_zero, List.set_cons_succ, List.getElem?_cons_zero, List.getElem?_cons_succ, ↓reduceIte, List.length_cons, List.length_nil, Nat.zero_add, Nat.reduceAdd, and_true, true_and, decide_true, decide_false, eq_self, beq_self_eq_true, Bool.true_beq, Bool.false_beq, Bool.not_true, Bool.not_false, Int.reduceEq, Int.reduceLT, Int.reduceLE, Int.reduceAdd, Int.reduceSub, Int.reduceMul, Int.reduceNeg, Bool.not_not, List.append_nil, List.nil_append, List.cons_append, e]
  exact ⟨mulOk2 a.2.2.1 b.2.1 (by omega) (by omega), mulOk2 b.2.2.1 a.2.1 (by omega) (by omega), mulOk2 a.2.1 b.2.1 (by omega) (by omega), rfl⟩
theorem sp_law_add {i j : Nat} {x y : Int × Int} {h : Sto} (a : Fr i x) (b : Fr j y) (z : i + j ≤ 2999) : d_law_add [frD x, frD y] h = some (frD (addQ x y), h) := by
  refine Ev_eq ?_
  unfold d_law_add b_law_add
  have e := sp_law_made (h := h) (p := x.1 * y.2 + y.1 * x.2) (q := x.2 * y.2) (Int.mul_pos a.1 b.1) (.of (mul_le2 a.2.1 b.2.1) (by omega))
  simp (config := {dsimp := false}) only [↓e_pr, ↓e_some, ↓e_an, ↓e_brT, ↓e_brF, ↓e_asB, ↓e_asI, ↓e_asV, ↓e_stE, ↓e_stE0, ↓e_stL, ↓e_stL0, ↓e_sqN, ↓e_sqR, ↓e_sqB, ↓e_sqC, ↓e_afN, ↓e_afR, ↓e_afB, ↓e_afC, ↓e_rtN, ↓e_rtR, ↓e_var, ↓e_c, ↓e_op, ↓e_un, ↓e_t, ↓e_nt, ↓e_anT, ↓e_orT, ↓e_and, ↓e_or, ↓e_not, ↓e_ite, ↓e_ch, ↓e_nil, ↓e_cons, ↓e_star, ↓e_tup, ↓e_lst, ↓e_mut, ↓e_call, ↓e_isiT, ↓e_lz, ↓e_meth, ↓e_meth0, ↓e_oN, ↓e_oS, ↓e_sl, ↓e_gVar, ↓e_gSub, ↓e_gTp, ↓e_gN, ↓e_gC, ↓e_next, ↓e_seq, ↓e_drop, ↓e_ret, ↓e_retN, ↓e_brk, ↓e_cnt, ↓e_if, ↓e_asg, ↓e_as2, ↓e_as3, ↓e_par, ↓e_aug, ↓e_augS, ↓e_for, ↓e_f0, ↓e_f1, ↓e_while, ↓e_asS1, ↓e_asS2, ↓e_asS3, ↓e_iSeq, ↓e_enum, ↓e_asTI, ↓e_enumC, ↓e_rng1, ↓e_zip, ↓e_zipX, ↓e_comp, ↓e_c0, ↓e_c1, ↓e_y, ↓e_body, ↓e_addI, ↓e_addT, ↓e_addL, ↓e_subI, ↓e_iadd, ↓e_mulI, ↓e_divI, ↓e_modI, ↓e_powI, ↓e_negI, ↓e_mulT, ↓e_mulL, ↓e_cmp, ↓e_eq, ↓e_ne, ↓e_isN, ↓e_isB, ↓e_isNotN, ↓e_isNotB, ↓e_ix, ↓e_abs, ↓e_toI, ↓e_toB1, ↓e_toB0, ↓e_lenT, ↓e_lenL, ↓e_lenRo, ↓e_lenR, ↓e_tupT, ↓e_tupL, ↓e_tupR, ↓e_lstT, ↓e_lstL, ↓e_allM, ↓e_in, ↓e_notIn, ↓e_sum, ↓e_max, ↓e_par3, ↓e_pop, ↓e_frz, ↓e_frzR, ↓e_isi, ↓e_slT, ↓e_slL, ↓e_slRo, ↓e_app, ↓e_ext, ↓e_setM, r_it1, r_it2, r_it3, r_it4, r_ls2, r_ls3, r_ml2, r_ml3, r_mg0, r_mgn, r_at0, r_at1, r_at2, r_at3, r_ix0, r_ix1, r_ix2, r_ty1, r_ty2, r_ty3, r_ty4, r_ty5, r_ty6, r_ty7, r_ty8, r_sNt, r_sNi, r_sNb, r_sNs, r_sbt, r_sbi, r_sbb, r_sbs, r_sit, r_sii, r_sib, r_sis, r_sst, r_ssi, r_ssb, r_sss, r_stt, r_sti, r_stb, r_sts, r_slt, r_sli, r_slb, r_sls, r_aN, r_ab, r_ai, r_as, r_at, r_al, r_eqI, r_eqB, r_eqS, r_pu1, r_pu2, r_eqN, r_fr1, r_fx1, r_fx2, r_fx3, r_bo0, r_bo1, r_c0, r_c1, r_c2, r_c3, r_c4, r_c5, r_c6, r_c7, r_c8, r_c9, r_c10, r_c11, r_c12, r_pd0, r_pd1, r_pd2, r_wi0, r_wi1, List.set_cons_zero, List.set_cons_succ, List.getElem?_cons_zero, List.getElem?_cons_succ, ↓reduceIte, List.length_cons, List.length_nil, Nat.zero_add, Nat.reduceAdd, and_true, true_and, decide_true, decide_false, eq_self, beq_self_eq_true, Bool.true_beq, Bool.false_beq, Bool.not_true, Bool.not_false, Int.reduceEq, Int.reduceLT, Int.reduceLE, Int.reduceAdd, Int.reduceSub, Int.reduceMul, Int.reduceNeg, Bool.not_not, List.append_nil, List.nil_append, List.cons_append, e]
  exact ⟨mulOk2 a.2.2.1 b.2.1 (by omega) (by omega), mulOk2 b.2.2.1 a.2.1 (by omega) (by omega), mulOk2 a.2.1 b.2.1 (by omega) (by omega), rfl⟩
theorem sp_minus {i j : Nat} {x y : Int × Int} {h : Sto} (a : Fr i x) (b : Fr j y) (z : i + j ≤ 2999) : d_minus [frD x, frD y] h = some (frD (subQ x y), h) := by
  refine Ev_eq ?_
  unfold d_minus b_minus
  have e := sp_made (h := h) (p := x.1 * y.2 - y.1 * x.2) (q := x.2 * y.2) (Int.mul_pos a.1 b.1) (.of (mul_le2 a.2.1 b.2.1) (by omega))
  simp (config := {dsimp := false}) only [↓e_pr, ↓e_some, ↓e_an, ↓e_brT, ↓e_brF, ↓e_asB, ↓e_asI, ↓e_asV, ↓e_stE, ↓e_stE0, ↓e_stL, ↓e_stL0, ↓e_sqN, ↓e_sqR, ↓e_sqB, ↓e_sqC, ↓e_afN, ↓e_afR, ↓e_afB, ↓e_afC, ↓e_rtN, ↓e_rtR, ↓e_var, ↓e_c, ↓e_op, ↓e_un, ↓e_t, ↓e_nt, ↓e_anT, ↓e_orT, ↓e_and, ↓e_or, ↓e_not, ↓e_ite, ↓e_ch, ↓e_nil, ↓e_cons, ↓e_star, ↓e_tup, ↓e_lst, ↓e_mut, ↓e_call, ↓e_isiT, ↓e_lz, ↓e_meth, ↓e_meth0, ↓e_oN, ↓e_oS, ↓e_sl, ↓e_gVar, ↓e_gSub, ↓e_gTp, ↓e_gN, ↓e_gC, ↓e_next, ↓e_seq, ↓e_drop, ↓e_ret, ↓e_retN, ↓e_brk, ↓e_cnt, ↓e_if, ↓e_asg, ↓e_as2, ↓e_as3, ↓e_par, ↓e_aug, ↓e_augS, ↓e_for, ↓e_f0, ↓e_f1, ↓e_while, ↓e_asS1, ↓e_asS2, ↓e_asS3, ↓e_iSeq, ↓e_enum, ↓e_asTI, ↓e_enumC, ↓e_rng1, ↓e_zip, ↓e_zipX, ↓e_comp, ↓e_c0, ↓e_c1, ↓e_y, ↓e_body, ↓e_addI, ↓e_addT, ↓e_addL, ↓e_subI, ↓e_iadd, ↓e_mulI, ↓e_divI, ↓e_modI, ↓e_powI, ↓e_negI, ↓e_mulT, ↓e_mulL, ↓e_cmp, ↓e_eq, ↓e_ne, ↓e_isN, ↓e_isB, ↓e_isNotN, ↓e_isNotB, ↓e_ix, ↓e_abs, ↓e_toI, ↓e_toB1, ↓e_toB0, ↓e_lenT, ↓e_lenL, ↓e_lenRo, ↓e_lenR, ↓e_tupT, ↓e_tupL, ↓e_tupR, ↓e_lstT, ↓e_lstL, ↓e_allM, ↓e_in, ↓e_notIn, ↓e_sum, ↓e_max, ↓e_par3, ↓e_pop, ↓e_frz, ↓e_frzR, ↓e_isi, ↓e_slT, ↓e_slL, ↓e_slRo, ↓e_app, ↓e_ext, ↓e_setM, r_it1, r_it2, r_it3, r_it4, r_ls2, r_ls3, r_ml2, r_ml3, r_mg0, r_mgn, r_at0, r_at1, r_at2, r_at3, r_ix0, r_ix1, r_ix2, r_ty1, r_ty2, r_ty3, r_ty4, r_ty5, r_ty6, r_ty7, r_ty8, r_sNt, r_sNi, r_sNb, r_sNs, r_sbt, r_sbi, r_sbb, r_sbs, r_sit, r_sii, r_sib, r_sis, r_sst, r_ssi, r_ssb, r_sss, r_stt, r_sti, r_stb, r_sts, r_slt, r_sli, r_slb, r_sls, r_aN, r_ab, r_ai, r_as, r_at, r_al, r_eqI, r_eqB, r_eqS, r_pu1, r_pu2, r_eqN, r_fr1, r_fx1, r_fx2, r_fx3, r_bo0, r_bo1, r_c0, r_c1, r_c2, r_c3, r_c4, r_c5, r_c6, r_c7, r_c8, r_c9, r_c10, r_c11, r_c12, r_pd0, r_pd1, r_pd2, r_wi0, r_wi1, List.set_cons_zero, List.set_cons_succ, List.getElem?_cons_zero, List.getElem?_cons_succ, ↓reduceIte, List.length_cons, List.length_nil, Nat.zero_add, Nat.reduceAdd, and_true, true_and, decide_true, decide_false, eq_self, beq_self_eq_true, Bool.true_beq, Bool.false_beq, Bool.not_true, Bool.not_false, Int.reduceEq, Int.reduceLT, Int.reduceLE, Int.reduceAdd, Int.reduceSub, Int.reduceMul, Int.reduceNeg, Bool.not_not, List.append_nil, List.nil_append, List.cons_append, e]
  exact ⟨mulOk2 a.2.2.1 b.2.1 (by omega) (by omega), mulOk2 b.2.2.1 a.2.1 (by omega) (by omega), mulOk2 a.2.1 b.2.1 (by omega) (by omega), rfl⟩
theorem sp_law_sub {i j : Nat} {x y : Int × Int} {h : Sto} (a : Fr i x) (b : Fr j y) (z : i + j ≤ 2999) : d_law_sub [frD x, frD y] h = some (frD (subQ x y), h) := by
  refine Ev_eq ?_
  unfold d_law_sub b_law_sub
  have e := sp_law_made (h := h) (p := x.1 * y.2 - y.1 * x.2) (q := x.2 * y.2) (Int.mul_pos a.1 b.1) (.of (mul_le2 a.2.1 b.2.1) (by omega))
  simp (config := {dsimp := false}) only [↓e_pr, ↓e_some, ↓e_an, ↓e_brT, ↓e_brF, ↓e_asB, ↓e_asI, ↓e_asV, ↓e_stE, ↓e_stE0, ↓e_stL, ↓e_stL0, ↓e_sqN, ↓e_sqR, ↓e_sqB, ↓e_sqC, ↓e_afN, ↓e_afR, ↓e_afB, ↓e_afC, ↓e_rtN, ↓e_rtR, ↓e_var, ↓e_c, ↓e_op, ↓e_un, ↓e_t, ↓e_nt, ↓e_anT, ↓e_orT, ↓e_and, ↓e_or, ↓e_not, ↓e_ite, ↓e_ch, ↓e_nil, ↓e_cons, ↓e_star, ↓e_tup, ↓e_lst, ↓e_mut, ↓e_call, ↓e_isiT, ↓e_lz, ↓e_meth, ↓e_meth0, ↓e_oN, ↓e_oS, ↓e_sl, ↓e_gVar, ↓e_gSub, ↓e_gTp, ↓e_gN, ↓e_gC, ↓e_next, ↓e_seq, ↓e_drop, ↓e_ret, ↓e_retN, ↓e_brk, ↓e_cnt, ↓e_if, ↓e_asg, ↓e_as2, ↓e_as3, ↓e_par, ↓e_aug, ↓e_augS, ↓e_for, ↓e_f0, ↓e_f1, ↓e_while, ↓e_asS1, ↓e_asS2, ↓e_asS3, ↓e_iSeq, ↓e_enum, ↓e_asTI, ↓e_enumC, ↓e_rng1, ↓e_zip, ↓e_zipX, ↓e_comp, ↓e_c0, ↓e_c1, ↓e_y, ↓e_body, ↓e_addI, ↓e_addT, ↓e_addL, ↓e_subI, ↓e_iadd, ↓e_mulI, ↓e_divI, ↓e_modI, ↓e_powI, ↓e_negI, ↓e_mulT, ↓e_mulL, ↓e_cmp, ↓e_eq, ↓e_ne, ↓e_isN, ↓e_isB, ↓e_isNotN, ↓e_isNotB, ↓e_ix, ↓e_abs, ↓e_toI, ↓e_toB1, ↓e_toB0, ↓e_lenT, ↓e_lenL, ↓e_lenRo, ↓e_lenR, ↓e_tupT, ↓e_tupL, ↓e_tupR, ↓e_lstT, ↓e_lstL, ↓e_allM, ↓e_in, ↓e_notIn, ↓e_sum, ↓e_max, ↓e_par3, ↓e_pop, ↓e_frz, ↓e_frzR, ↓e_isi, ↓e_slT, ↓e_slL, ↓e_slRo, ↓e_app, ↓e_ext, ↓e_setM, r_it1, r_it2, r_it3, r_it4, r_ls2, r_ls3, r_ml2, r_ml3, r_mg0, r_mgn, r_at0, r_at1, r_at2, r_at3, r_ix0, r_ix1, r_ix2, r_ty1, r_ty2, r_ty3, r_ty4, r_ty5, r_ty6, r_ty7, r_ty8, r_sNt, r_sNi, r_sNb, r_sNs, r_sbt, r_sbi, r_sbb, r_sbs, r_sit, r_sii, r_sib, r_sis, r_sst, r_ssi, r_ssb, r_sss, r_stt, r_sti, r_stb, r_sts, r_slt, r_sli, r_slb, r_sls, r_aN, r_ab, r_ai, r_as, r_at, r_al, r_eqI, r_eqB, r_eqS, r_pu1, r_pu2, r_eqN, r_fr1, r_fx1, r_fx2, r_fx3, r_bo0, r_bo1, r_c0, r_c1, r_c2, r_c3, r_c4, r_c5, r_c6, r_c7, r_c8, r_c9, r_c10, r_c11, r_c12, r_pd0, r_pd1, r_pd2, r_wi0, r_wi1, List.set_cons_zero, List.set_cons_succ, List.getElem?_cons_zero, List.getElem?_cons_succ, ↓reduceIte, List.length_cons, List.length_nil, Nat.zero_add, Nat.reduceAdd, and_true, true_and, decide_true, decide_false, eq_self, beq_self_eq_true, Bool.true_beq, Bool.false_beq, Bool.not_true, Bool.not_false, Int.reduceEq, Int.reduceLT, Int.reduceLE, Int.reduceAdd, Int.reduceSub, Int.reduceMul, Int.reduceNeg, Bool.not_not, List.append_nil, List.nil_append, List.cons_append, e]
  exact ⟨mulOk2 a.2.2.1 b.2.1 (by omega) (by omega), mulOk2 b.2.2.1 a.2.1 (by omega) (by omega), mulOk2 a.2.1 b.2.1 (by omega) (by omega), rfl⟩
theorem sp_times {i j : Nat} {x y : Int × Int} {h : Sto} (a : Fr i x) (b : Fr j y) (z : i + j ≤ 2999) : d_times [frD x, frD y] h = some (frD (mulQ x y), h) := by
  refine Ev_eq ?_
  unfold d_times b_times
  have e := sp_made (h := h) (p := x.1 * y.1) (q := x.2 * y.2) (Int.mul_pos a.1 b.1) (.of (mul_le2 a.2.1 b.2.1) (by omega))
  simp (config := {dsimp := false}) only [↓e_pr, ↓e_some, ↓e_an, ↓e_brT, ↓e_brF, ↓e_asB, ↓e_asI, ↓e_asV, ↓e_stE, ↓e_stE0, ↓e_stL, ↓e_stL0, ↓e_sqN, ↓e_sqR, ↓e_sqB, ↓e_sqC, ↓e_afN, ↓e_afR, ↓e_afB, ↓e_afC, ↓e_rtN, ↓e_rtR, ↓e_var, ↓e_c, ↓e_op, ↓e_un, ↓e_t, ↓e_nt, ↓e_anT, ↓e_orT, ↓e_and, ↓e_or, ↓e_not, ↓e_ite, ↓e_ch, ↓e_nil, ↓e_cons, ↓e_star, ↓e_tup, ↓e_lst, ↓e_mut, ↓e_call, ↓e_isiT, ↓e_lz, ↓e_meth, ↓e_meth0, ↓e_oN, ↓e_oS, ↓e_sl, ↓e_gVar, ↓e_gSub, ↓e_gTp, ↓e_gN, ↓e_gC, ↓e_next, ↓e_seq, ↓e_drop, ↓e_ret, ↓e_retN, ↓e_brk, ↓e_cnt, ↓e_if, ↓e_asg, ↓e_as2, ↓e_as3, ↓e_par, ↓e_aug, ↓e_augS, ↓e_for, ↓e_f0, ↓e_f1, ↓e_while, ↓e_asS1, ↓e_asS2, ↓e_asS3, ↓e_iSeq, ↓e_enum, ↓e_asTI, ↓e_enumC, ↓e_rng1, ↓e_zip, ↓e_zipX, ↓e_comp, ↓e_c0, ↓e_c1, ↓e_y, ↓e_body, ↓e_addI, ↓e_addT, ↓e_addL, ↓e_subI, ↓e_iadd, ↓e_mulI, ↓e_divI, ↓e_modI, ↓e_powI, ↓e_negI, ↓e_mulT, ↓e_mulL, ↓e_cmp, ↓e_eq, ↓e_ne, ↓e_isN, ↓e_isB, ↓e_isNotN, ↓e_isNotB, ↓e_ix, ↓e_abs, ↓e_toI, ↓e_toB1, ↓e_toB0, ↓e_lenT, ↓e_lenL, ↓e_lenRo, ↓e_lenR, ↓e_tupT, ↓e_tupL, ↓e_tupR, ↓e_lstT, ↓e_lstL, ↓e_allM, ↓e_in, ↓e_notIn, ↓e_sum, ↓e_max, ↓e_par3, ↓e_pop, ↓e_frz, ↓e_frzR, ↓e_isi, ↓e_slT, ↓e_slL, ↓e_slRo, ↓e_app, ↓e_ext, ↓e_setM, r_it1, r_it2, r_it3, r_it4, r_ls2, r_ls3, r_ml2, r_ml3, r_mg0, r_mgn, r_at0, r_at1, r_at2, r_at3, r_ix0, r_ix1, r_ix2, r_ty1, r_ty2, r_ty3, r_ty4, r_ty5, r_ty6, r_ty7, r_ty8, r_sNt, r_sNi, r_sNb, r_sNs, r_sbt, r_sbi, r_sbb, r_sbs, r_sit, r_sii, r_sib, r_sis, r_sst, r_ssi, r_ssb, r_sss, r_stt, r_sti, r_stb, r_sts, r_slt, r_sli, r_slb, r_sls, r_aN, r_ab, r_ai, r_as, r_at, r_al, r_eqI, r_eqB, r_eqS, r_pu1, r_pu2, r_eqN, r_fr1, r_fx1, r_fx2, r_fx3, r_bo0, r_bo1, r_c0, r_c1, r_c2, r_c3, r_c4, r_c5, r_c6, r_c7, r_c8, r_c9, r_c10, r_c11, r_c12, r_pd0, r_pd1, r_pd2, r_wi0, r_wi1, List.set_cons_zero, List.set_cons_succ, List.getElem?_cons_zero, List.getElem?_cons_succ, ↓reduceIte, List.length_cons, List.length_nil, Nat.zero_add, Nat.reduceAdd, and_true, true_and, decide_true, decide_false, eq_self, beq_self_eq_true, Bool.true_beq, Bool.false_beq, Bool.not_true, Bool.not_false, Int.reduceEq, Int.reduceLT, Int.reduceLE, Int.reduceAdd, Int.reduceSub, Int.reduceMul, Int.reduceNeg, Bool.not_not, List.append_nil, List.nil_append, List.cons_append, e]
  exact ⟨mulOk2 a.2.2.1 b.2.2.1 (by omega) (by omega), mulOk2 a.2.1 b.2.1 (by omega) (by omega), rfl⟩
theorem sp_law_mul {i j : Nat} {x y : Int × Int} {h : Sto} (a : Fr i x) (b : Fr j y) (z : i + j ≤ 2999) : d_law_mul [frD x, frD y] h = some (frD (mulQ x y), h) := by
  refine Ev_eq ?_
  unfold d_law_mul b_law_mul
  have e := sp_law_made (h := h) (p := x.1 * y.1) (q := x.2 * y.2) (Int.mul_pos a.1 b.1) (.of (mul_le2 a.2.1 b.2.1) (by omega))
  simp (config := {dsimp := false}) only [↓e_pr, ↓e_some, ↓e_an, ↓e_brT, ↓e_brF, ↓e_asB, ↓e_asI, ↓e_asV, ↓e_stE, ↓e_stE0, ↓e_stL, ↓e_stL0, ↓e_sqN, ↓e_sqR, ↓e_sqB, ↓e_sqC, ↓e_afN, ↓e_afR, ↓e_afB, ↓e_afC, ↓e_rtN, ↓e_rtR, ↓e_var, ↓e_c, ↓e_op, ↓e_un, ↓e_t, ↓e_nt, ↓e_anT, ↓e_orT, ↓e_and, ↓e_or, ↓e_not, ↓e_ite, ↓e_ch, ↓e_nil, ↓e_cons, ↓e_star, ↓e_tup, ↓e_lst, ↓e_mut, ↓e_call, ↓e_isiT, ↓e_lz, ↓e_meth, ↓e_meth0, ↓e_oN, ↓e_oS, ↓e_sl, ↓e_gVar, ↓e_gSub, ↓e_gTp, ↓e_gN, ↓e_gC, ↓e_next, ↓e_seq, ↓e_drop, ↓e_ret, ↓e_retN, ↓e_brk, ↓e_cnt, ↓e_if, ↓e_asg, ↓e_as2, ↓e_as3, ↓e_par, ↓e_aug, ↓e_augS, ↓e_for, ↓e_f0, ↓e_f1, ↓e_while, ↓e_asS1, ↓e_asS2, ↓e_asS3, ↓e_iSeq, ↓e_enum, ↓e_asTI, ↓e_enumC, ↓e_rng1, ↓e_zip, ↓e_zipX, ↓e_comp, ↓e_c0, ↓e_c1, ↓e_y, ↓e_body, ↓e_addI, ↓e_addT, ↓e_addL, ↓e_subI, ↓e_iadd, ↓e_mulI, ↓e_divI, ↓e_modI, ↓e_powI, ↓e_negI, ↓e_mulT, ↓e_mulL, ↓e_cmp, ↓e_eq, ↓e_ne, ↓e_isN, ↓e_isB, ↓e_isNotN, ↓e_isNotB, ↓e_ix, ↓e_abs, ↓e_toI, ↓e_toB1, ↓e_toB0, ↓e_lenT, ↓e_lenL, ↓e_lenRo, ↓e_lenR, ↓e_tupT, ↓e_tupL, ↓e_tupR, ↓e_lstT, ↓e_lstL, ↓e_allM, ↓e_in, ↓e_notIn, ↓e_sum, ↓e_max, ↓e_par3, ↓e_pop, ↓e_frz, ↓e_frzR, ↓e_isi, ↓e_slT, ↓e_slL, ↓e_slRo, ↓e_app, ↓e_ext, ↓e_setM, r_it1, r_it2, r_it3, r_it4, r_ls2, r_ls3, r_ml2, r_ml3, r_mg0, r_mgn, r_at0, r_at1, r_at2, r_at3, r_ix0, r_ix1, r_ix2, r_ty1, r_ty2, r_ty3, r_ty4, r_ty5, r_ty6, r_ty7, r_ty8, r_sNt, r_sNi, r_sNb, r_sNs, r_sbt, r_sbi, r_sbb, r_sbs, r_sit, r_sii, r_sib, r_sis, r_sst, r_ssi, r_ssb, r_sss, r_stt, r_sti, r_stb, r_sts, r_slt, r_sli, r_slb, r_sls, r_aN, r_ab, r_ai, r_as, r_at, r_al, r_eqI, r_eqB, r_eqS, r_pu1, r_pu2, r_eqN, r_fr1, r_fx1, r_fx2, r_fx3, r_bo0, r_bo1, r_c0, r_c1, r_c2, r_c3, r_c4, r_c5, r_c6, r_c7, r_c8, r_c9, r_c10, r_c11, r_c12, r_pd0, r_pd1, r_pd2, r_wi0, r_wi1, List.set_cons_zero, List.set_cons_succ, List.getElem?_cons_zero, List.getElem?_cons_succ, ↓reduceIte, List.length_cons, List.length_nil, Nat.zero_add, Nat.reduceAdd, and_true, true_and, decide_true, decide_false, eq_self, beq_self_eq_true, Bool.true_beq, Bool.false_beq, Bool.not_true, Bool.not_false, Int.reduceEq, Int.reduceLT, Int.reduceLE, Int.reduceAdd, Int.reduceSub, Int.reduceMul, Int.reduceNeg, Bool.not_not, List.append_nil, List.nil_append, List.cons_append, e]
  exact ⟨mulOk2 a.2.2.1 b.2.2.1 (by omega) (by omega), mulOk2 a.2.1 b.2.1 (by omega) (by omega), rfl⟩
theorem sp_is_less {i j : Nat} {x y : Int × Int} {h : Sto} (a : Fr i x) (b : Fr j y) (z : i + j ≤ 2999) : d_is_less [frD x, frD y] h = some (.bl (decide (x.1 * y.2 < y.1 * x.2)), h) := by
  refine Ev_eq ?_
  unfold d_is_less b_is_less
  simp (config := {dsimp := false}) only [↓e_pr, ↓e_some, ↓e_an, ↓e_brT, ↓e_brF, ↓e_asB, ↓e_asI, ↓e_asV, ↓e_stE, ↓e_stE0, ↓e_stL, ↓e_stL0, ↓e_sqN, ↓e_sqR, ↓e_sqB, ↓e_sqC, ↓e_afN, ↓e_afR, ↓e_afB, ↓e_afC, ↓e_rtN, ↓e_rtR, ↓e_var, ↓e_c, ↓e_op, ↓e_un, ↓e_t, ↓e_nt, ↓e_anT, ↓e_orT, ↓e_and, ↓e_or, ↓e_not, ↓e_ite, ↓e_ch, ↓e_nil, ↓e_cons, ↓e_star, ↓e_tup, ↓e_lst, ↓e_mut, ↓e_call, ↓e_isiT, ↓e_lz, ↓e_meth, ↓e_meth0, ↓e_oN, ↓e_oS, ↓e_sl, ↓e_gVar, ↓e_gSub, ↓e_gTp, ↓e_gN, ↓e_gC, ↓e_next, ↓e_seq, ↓e_drop, ↓e_ret, ↓e_retN, ↓e_brk, ↓e_cnt, ↓e_if, ↓e_asg, ↓e_as2, ↓e_as3, ↓e_par, ↓e_aug, ↓e_augS, ↓e_for, ↓e_f0, ↓e_f1, ↓e_while, ↓e_asS1, ↓e_asS2, ↓e_asS3, ↓e_iSeq, ↓e_enum, ↓e_asTI, ↓e_enumC, ↓e_rng1, ↓e_zip, ↓e_zipX, ↓e_comp, ↓e_c0, ↓e_c1, ↓e_y, ↓e_body, ↓e_addI, ↓e_addT, ↓e_addL, ↓e_subI, ↓e_iadd, ↓e_mulI, ↓e_divI, ↓e_modI, ↓e_powI, ↓e_negI, ↓e_mulT, ↓e_mulL, ↓e_cmp, ↓e_eq, ↓e_ne, ↓e_isN, ↓e_isB, ↓e_isNotN, ↓e_isNotB, ↓e_ix, ↓e_abs, ↓e_toI, ↓e_toB1, ↓e_toB0, ↓e_lenT, ↓e_lenL, ↓e_lenRo, ↓e_lenR, ↓e_tupT, ↓e_tupL, ↓e_tupR, ↓e_lstT, ↓e_lstL, ↓e_allM, ↓e_in, ↓e_notIn, ↓e_sum, ↓e_max, ↓e_par3, ↓e_pop, ↓e_frz, ↓e_frzR, ↓e_isi, ↓e_slT, ↓e_slL, ↓e_slRo, ↓e_app, ↓e_ext, ↓e_setM, r_it1, r_it2, r_it3, r_it4, r_ls2, r_ls3, r_ml2, r_ml3, r_mg0, r_mgn, r_at0, r_at1, r_at2, r_at3, r_ix0, r_ix1, r_ix2, r_ty1, r_ty2, r_ty3, r_ty4, r_ty5, r_ty6, r_ty7, r_ty8, r_sNt, r_sNi, r_sNb, r_sNs, r_sbt, r_sbi, r_sbb, r_sbs, r_sit, r_sii, r_sib, r_sis, r_sst, r_ssi, r_ssb, r_sss, r_stt, r_sti, r_stb, r_sts, r_slt, r_sli, r_slb, r_sls, r_aN, r_ab, r_ai, r_as, r_at, r_al, r_eqI, r_eqB, r_eqS, r_pu1, r_pu2, r_eqN, r_fr1, r_fx1, r_fx2, r_fx3, r_bo0, r_bo1, r_c0, r_c1, r_c2, r_c3, r_c4, r_c5, r_c6, r_c7, r_c8, r_c9, r_c10, r_c11, r_c12, r_pd0, r_pd1, r_pd2, r_wi0, r_wi1, List.set_cons_zero, List.set_cons_succ, List.getElem?_cons_zero, List.getElem?_cons_succ, ↓reduceIte, List.length_cons, List.length_nil, Nat.zero_add, Nat.reduceAdd, and_true, true_and, decide_true, decide_false, eq_self, beq_self_eq_true, Bool.true_beq, Bool.false_beq, Bool.not_true, Bool.not_false, Int.reduceEq, Int.reduceLT, Int.reduceLE, Int.reduceAdd, Int.reduceSub, Int.reduceMul, Int.reduceNeg, Bool.not_not, List.append_nil, List.nil_append, List.cons_append]
  exact ⟨mulOk2 a.2.2.1 b.2.1 (by omega) (by omega), mulOk2 b.2.2.1 a.2.1 (by omega) (by omega)⟩
theorem sp_whole {m : Int} {h : Sto} : d_whole [.int m] h = some (frD (m, 1), h) := rfl
theorem whole_fr {m : Int} {k : Nat} (z : m.natAbs ≤ 2 ^ k) : Fr k (m, 1) := ⟨show (0 : Int) < 1 by decide, Nat.one_le_two_pow, z, by simp⟩
/-! ### draws -/
def Bag (k : Nat) (h : Sto) : Prop := ∃ (a b c : Int) (cells : List Int) (t : Sto), h = .lst [.int a, .int b, .int c, .lst (cells.map .int)] :: t ∧ 0 ≤ a ∧ 0 ≤ b ∧ b < 2147483647 ∧ 0 ≤ c ∧ c ≤ k ∧ cells.length ≤ 63 ∧ ∀ x ∈ cells, 0 ≤ x
/-- a slice of numbers from a place on, and a zero behind it: its first -/
theorem first_cell (cells : List Int) (hc : ∀ x ∈ cells, 0 ≤ x) (i j : Nat) : ∃ x : Int, 0 ≤ x ∧ atI (((cells.map D.int).drop i).take j ++ [D.int 0]) 0 = some (D.int x) := by
  rw [← List.map_drop, ← List.map_take]
  cases e : (cells.drop i).take j with
  | nil => exact ⟨0, by omega, rfl⟩
  | cons x xs =>
    refine ⟨x, hc x (List.mem_of_mem_drop (List.mem_of_mem_take (e ▸ List.mem_cons_self))), ?_⟩
    exact r_at0
theorem cut_len (ds : List D) (i j n : Nat) (h : ds.length ≤ 63) (z : 64 ≤ n) : ((ds.drop i).take j).length + 1 ≤ n := by
  rw [List.length_take, List.length_drop]; omega
theorem emod_lt200 (x : Int) {m : Int} (hm : 0 < m) (z : m ≤ 2 ^ 31) : 0 ≤ x % m ∧ x % m < 2 ^ 31 := ⟨Int.emod_nonneg _ (by omega), by have := Int.emod_lt_of_pos x hm; omega⟩
theorem sp_take {m : Int} {h : Sto} {k : Nat} (hm : 0 < m) (hm2 : m < 2 ^ 100) (hk : k < 2 ^ 40) (B : Bag k h) : Ev (d_law_take [.ref 0, .int m] h) fun d h' => (∃ v : Int, d = .int v ∧ 0 ≤ v ∧ v < m) ∧ Bag (k + 1) h' ∧ h'.tail = h.tail := by
  refine e_pr.mp ?_
  obtain ⟨a, b, c, cells, t, rfl, ha, hb, hb2, hc, hc2, hl, hcs⟩ := B
  unfold d_law_take b_law_take
  have hd : DivOk m := .s hm (by omega)
  have hr : ∀ x : Int, 0 ≤ x % m ∧ x % m < m := fun x => ⟨Int.emod_nonneg _ (by omega), Int.emod_lt_of_pos x hm⟩
  have hq : ∀ x : Int, 0 ≤ x → 0 ≤ x / m := fun x z => Int.ediv_nonneg z (by omega)
  by_cases h0 : a = 0
  · subst h0
    simp (config := {dsimp := false}) only [↓e_pr, ↓e_some, ↓e_an, ↓e_brT, ↓e_brF, ↓e_asB, ↓e_asI, ↓e_asV, ↓e_stE, ↓e_stE0, ↓e_stL, ↓e_stL0, ↓e_sqN, ↓e_sqR, ↓e_sqB, ↓e_sqC, ↓e_afN, ↓e_afR, ↓e_afB, ↓e_afC, ↓e_rtN, ↓e_rtR, ↓e_var, ↓e_c, ↓e_op, ↓e_un, ↓e_t, ↓e_nt, ↓e_anT, ↓e_orT, ↓e_and, ↓e_or, ↓e_not, ↓e_ite, ↓e_ch, ↓e_nil, ↓e_cons, ↓e_star, ↓e_tup, ↓e_lst, ↓e_mut, ↓e_call, ↓e_isiT, ↓e_lz, ↓e_meth, ↓e_meth0, ↓e_oN, ↓e_oS, ↓e_sl, ↓e_gVar, ↓e_gSub, ↓e_gTp, ↓e_gN, ↓e_gC, ↓e_next, ↓e_seq, ↓e_drop, ↓e_ret, ↓e_retN, ↓e_brk, ↓e_cnt, ↓e_if, ↓e_asg, ↓e_as2, ↓e_as3, ↓e_par, ↓e_aug, ↓e_augS, ↓e_for, ↓e_f0, ↓e_f1, ↓e_while, ↓e_asS1, ↓e_asS2, ↓e_asS3, ↓e_iSeq, ↓e_enum, ↓e_asTI, ↓e_enumC, ↓e_rng1, ↓e_zip, ↓e_zipX, ↓e_comp, ↓e_c0, ↓e_c1, ↓e_y, ↓e_body, ↓e_addI, ↓e_addT, ↓e_addL, ↓e_subI, ↓e_iadd, ↓e_mulI, ↓e_divI, ↓e_modI, ↓e_powI, ↓e_negI, ↓e_mulT, ↓e_mulL, ↓e_cmp, ↓e_eq, ↓e_ne, ↓e_isN, ↓e_isB, ↓e_isNotN, ↓e_isNotB, ↓e_ix, ↓e_abs, ↓e_toI, ↓e_toB1, ↓e_toB0, ↓e_lenT, ↓e_lenL, ↓e_lenRo, ↓e_lenR, ↓e_tupT, ↓e_tupL, ↓e_tupR, ↓e_lstT, ↓e_lstL, ↓e_allM, ↓e_in, ↓e_notIn, ↓e_sum, ↓e_max, ↓e_par3, ↓e_pop, ↓e_frz, ↓e_frzR, ↓e_isi, ↓e_slT, ↓e_slL, ↓e_slRo, ↓e_app, ↓e_ext, ↓e_setM, r_it1, r_it2, r_it3, r_it4, r_ls2, r_ls3, r_ml2, r_ml3, r_mg0, r_mgn, r_at0, r_at1, r_at2, r_at3, r_ix0, r_ix1, r_ix2, r_ty1, r_ty2, r_ty3, r_ty4, r_ty5, r_ty6, r_ty7, r_ty8, r_sNt, r_sNi, r_sNb, r_sNs, r_sbt, r_sbi, r_sbb, r_sbs, r_sit, r_sii, r_sib, r_sis, r_sst, r_ssi, r_ssb, r_sss, r_stt, r_sti, r_stb, r_sts, r_slt, r_sli, r_slb, r_sls, r_aN, r_ab, r_ai, r_as, r_at, r_al, r_eqI, r_eqB, r_eqS, r_pu1, r_pu2, r_eqN, r_fr1, r_fx1, r_fx2, r_fx3, r_bo0, r_bo1, r_c0, r_c1, r_c2, r_c3, r_c4, r_c5, r_c6, r_c7, r_c8, r_c9, r_c10, r_c11, r_c12, r_pd0, r_pd1, r_pd2, r_wi0, r_wi1, List.set_cons_zero, List.set_cons_succ, List.getElem?_cons_zero, List.getElem?_cons_succ, ↓reduceIte, List.length_cons, List.length_nil, Nat.zero_add, Nat.reduceAdd, and_true, true_and, decide_true, decide_false, eq_self, beq_self_eq_true, Bool.true_beq, Bool.false_beq, Bool.not_true, Bool.not_false, Int.reduceEq, Int.reduceLT, Int.reduceLE, Int.reduceAdd, Int.reduceSub, Int.reduceMul, Int.reduceNeg, Bool.not_not, List.append_nil, List.nil_append, List.cons_append]
    obtain ⟨x, hx, ex⟩ := first_cell cells hcs (HT.sIx (List.map D.int cells).length 0 (some c)) (HT.sIx (List.map D.int cells).length (↑(List.map D.int cells).length) none - HT.sIx (List.map D.int cells).length 0 (some c))
    have hs := emod_lt200 x (m := 2147483647) (by decide) (by decide)
    have hcl := cut_len (cells.map .int) (HT.sIx (List.map D.int cells).length 0 (some c)) (HT.sIx (List.map D.int cells).length (↑(List.map D.int cells).length) none - HT.sIx (List.map D.int cells).length 0 (some c)) sizeLine (by rw [List.length_map]; exact hl) (by decide)
    by_cases h18 : (10 : Int) ^ (18 : Int).toNat ≤ x
    · have hx0 : 0 < x := by have : (0 : Int) < 10 ^ (18 : Int).toNat := by decide
                             omega
      simp (config := {dsimp := false}) only [↓e_pr, ↓e_some, ↓e_an, ↓e_brT, ↓e_brF, ↓e_asB, ↓e_asI, ↓e_asV, ↓e_stE, ↓e_stE0, ↓e_stL, ↓e_stL0, ↓e_sqN, ↓e_sqR, ↓e_sqB, ↓e_sqC, ↓e_afN, ↓e_afR, ↓e_afB, ↓e_afC, ↓e_rtN, ↓e_rtR, ↓e_var, ↓e_c, ↓e_op, ↓e_un, ↓e_t, ↓e_nt, ↓e_anT, ↓e_orT, ↓e_and, ↓e_or, ↓e_not, ↓e_ite, ↓e_ch, ↓e_nil, ↓e_cons, ↓e_star, ↓e_tup, ↓e_lst, ↓e_mut, ↓e_call, ↓e_isiT, ↓e_lz, ↓e_meth, ↓e_meth0, ↓e_oN, ↓e_oS, ↓e_sl, ↓e_gVar, ↓e_gSub, ↓e_gTp, ↓e_gN, ↓e_gC, ↓e_next, ↓e_seq, ↓e_drop, ↓e_ret, ↓e_retN, ↓e_brk, ↓e_cnt, ↓e_if, ↓e_asg, ↓e_as2, ↓e_as3, ↓e_par, ↓e_aug, ↓e_augS, ↓e_for, ↓e_f0, ↓e_f1, ↓e_while, ↓e_asS1, ↓e_asS2, ↓e_asS3, ↓e_iSeq, ↓e_enum, ↓e_asTI, ↓e_enumC, ↓e_rng1, ↓e_zip, ↓e_zipX, ↓e_comp, ↓e_c0, ↓e_c1, ↓e_y, ↓e_body, ↓e_addI, ↓e_addT, ↓e_addL, ↓e_subI, ↓e_iadd, ↓e_mulI, ↓e_divI, ↓e_modI, ↓e_powI, ↓e_negI, ↓e_mulT, ↓e_mulL, ↓e_cmp, ↓e_eq, ↓e_ne, ↓e_isN, ↓e_isB, ↓e_isNotN, ↓e_isNotB, ↓e_ix, ↓e_abs, ↓e_toI, ↓e_toB1, ↓e_toB0, ↓e_lenT, ↓e_lenL, ↓e_lenRo, ↓e_lenR, ↓e_tupT, ↓e_tupL, ↓e_tupR, ↓e_lstT, ↓e_lstL, ↓e_allM, ↓e_in, ↓e_notIn, ↓e_sum, ↓e_max, ↓e_par3, ↓e_pop, ↓e_frz, ↓e_frzR, ↓e_isi, ↓e_slT, ↓e_slL, ↓e_slRo, ↓e_app, ↓e_ext, ↓e_setM, r_it1, r_it2, r_it3, r_it4, r_ls2, r_ls3, r_ml2, r_ml3, r_mg0, r_mgn, r_at0, r_at1, r_at2, r_at3, r_ix0, r_ix1, r_ix2, r_ty1, r_ty2, r_ty3, r_ty4, r_ty5, r_ty6, r_ty7, r_ty8, r_sNt, r_sNi, r_sNb, r_sNs, r_sbt, r_sbi, r_sbb, r_sbs, r_sit, r_sii, r_sib, r_sis, r_sst, r_ssi, r_ssb, r_sss, r_stt, r_sti, r_stb, r_sts, r_slt, r_sli, r_slb, r_sls, r_aN, r_ab, r_ai, r_as, r_at, r_al, r_eqI, r_eqB, r_eqS, r_pu1, r_pu2, r_eqN, r_fr1, r_fx1, r_fx2, r_fx3, r_bo0, r_bo1, r_c0, r_c1, r_c2, r_c3, r_c4, r_c5, r_c6, r_c7, r_c8, r_c9, r_c10, r_c11, r_c12, r_pd0, r_pd1, r_pd2, r_wi0, r_wi1, List.set_cons_zero, List.set_cons_succ, List.getElem?_cons_zero, List.getElem?_cons_succ, ↓reduceIte, List.length_cons, List.length_nil, Nat.zero_add, Nat.reduceAdd, and_true, true_and, decide_true, decide_false, eq_self, beq_self_eq_true, Bool.true_beq, Bool.false_beq, Bool.not_true, Bool.not_false, Int.reduceEq, Int.reduceLT, Int.reduceLE, Int.reduceAdd, Int.reduceSub, Int.reduceMul, Int.reduceNeg, Bool.not_not, List.append_nil, List.nil_append, List.cons_append, ex, h18, hx0]
      refine ⟨by decide, hcl, by decide, .s (by omega) (by omega) (by decide) (by decide), .s (by decide) (by decide) (by omega) (by omega), hm, hd, ⟨_, rfl, hr x⟩, ⟨_, _, _, _, _, rfl, hq x hx, ?_, ?_, ?_, ?_, hl, hcs⟩, rfl⟩
      · exact Int.emod_nonneg _ (by decide)
      · exact Int.emod_lt_of_pos _ (by decide)
      · omega
      · omega
    · simp (config := {dsimp := false}) only [↓e_pr, ↓e_some, ↓e_an, ↓e_brT, ↓e_brF, ↓e_asB, ↓e_asI, ↓e_asV, ↓e_stE, ↓e_stE0, ↓e_stL, ↓e_stL0, ↓e_sqN, ↓e_sqR, ↓e_sqB, ↓e_sqC, ↓e_afN, ↓e_afR, ↓e_afB, ↓e_afC, ↓e_rtN, ↓e_rtR, ↓e_var, ↓e_c, ↓e_op, ↓e_un, ↓e_t, ↓e_nt, ↓e_anT, ↓e_orT, ↓e_and, ↓e_or, ↓e_not, ↓e_ite, ↓e_ch, ↓e_nil, ↓e_cons, ↓e_star, ↓e_tup, ↓e_lst, ↓e_mut, ↓e_call, ↓e_isiT, ↓e_lz, ↓e_meth, ↓e_meth0, ↓e_oN, ↓e_oS, ↓e_sl, ↓e_gVar, ↓e_gSub, ↓e_gTp, ↓e_gN, ↓e_gC, ↓e_next, ↓e_seq, ↓e_drop, ↓e_ret, ↓e_retN, ↓e_brk, ↓e_cnt, ↓e_if, ↓e_asg, ↓e_as2, ↓e_as3, ↓e_par, ↓e_aug, ↓e_augS, ↓e_for, ↓e_f0, ↓e_f1, ↓e_while, ↓e_asS1, ↓e_asS2, ↓e_asS3, ↓e_iSeq, ↓e_enum, ↓e_asTI, ↓e_enumC, ↓e_rng1, ↓e_zip, ↓e_zipX, ↓e_comp, ↓e_c0, ↓e_c1, ↓e_y, ↓e_body, ↓e_addI, ↓e_addT, ↓e_addL, ↓e_subI, ↓e_iadd, ↓e_mulI, ↓e_divI, ↓e_modI, ↓e_powI, ↓e_negI, ↓e_mulT, ↓e_mulL, ↓e_cmp, ↓e_eq, ↓e_ne, ↓e_isN, ↓e_isB, ↓e_isNotN, ↓e_isNotB, ↓e_ix, ↓e_abs, ↓e_toI, ↓e_toB1, ↓e_toB0, ↓e_lenT, ↓e_lenL, ↓e_lenRo, ↓e_lenR, ↓e_tupT, ↓e_tupL, ↓e_tupR, ↓e_lstT, ↓e_lstL, ↓e_allM, ↓e_in, ↓e_notIn, ↓e_sum, ↓e_max, ↓e_par3, ↓e_pop, ↓e_frz, ↓e_frzR, ↓e_isi, ↓e_slT, ↓e_slL, ↓e_slRo, ↓e_app, ↓e_ext, ↓e_setM, r_it1, r_it2, r_it3, r_it4, r_ls2, r_ls3, r_ml2, r_ml3, r_mg0, r_mgn, r_at0, r_at1, r_at2, r_at3, r_ix0, r_ix1, r_ix2, r_ty1, r_ty2, r_ty3, r_ty4, r_ty5, r_ty6, r_ty7, r_ty8, r_sNt, r_sNi, r_sNb, r_sNs, r_sbt, r_sbi, r_sbb, r_sbs, r_sit, r_sii, r_sib, r_sis, r_sst, r_ssi, r_ssb, r_sss, r_stt, r_sti, r_stb, r_sts, r_slt, r_sli, r_slb, r_sls, r_aN, r_ab, r_ai, r_as, r_at, r_al, r_eqI, r_eqB, r_eqS, r_pu1, r_pu2, r_eqN, r_fr1, r_fx1, r_fx2, r_fx3, r_bo0, r_bo1, r_c0, r_c1, r_c2, r_c3, r_c4, r_c5, r_c6, r_c7, r_c8, r_c9, r_c10, r_c11, r_c12, r_pd0, r_pd1, r_pd2, r_wi0, r_wi1, List.set_cons_zero, List.set_cons_succ, List.getElem?_cons_zero, List.getElem?_cons_succ, ↓reduceIte, List.length_cons, List.length_nil, Nat.zero_add, Nat.reduceAdd, and_true, true_and, decide_true, decide_false, eq_self, beq_self_eq_true, Bool.true_beq, Bool.false_beq, Bool.not_true, Bool.not_false, Int.reduceEq, Int.reduceLT, Int.reduceLE, Int.reduceAdd, Int.reduceSub, Int.reduceMul, Int.reduceNeg, Bool.not_not, List.append_nil, List.nil_append, List.cons_append, ex, h18, show ¬((0 : Int) < 0) by decide]
      have b1 : ∀ z : Int, 0 ≤ z % 1000000007 ∧ z % 1000000007 < 1000000007 := fun z => ⟨Int.emod_nonneg _ (by decide), Int.emod_lt_of_pos z (by decide)⟩
      have b2 : ∀ z : Int, 0 ≤ z % 998244353 ∧ z % 998244353 < 998244353 := fun z => ⟨Int.emod_nonneg _ (by decide), Int.emod_lt_of_pos z (by decide)⟩
      have b3 : ∀ z : Int, 0 ≤ z % 2147483647 ∧ z % 2147483647 < 2147483647 := fun z => ⟨Int.emod_nonneg _ (by decide), Int.emod_lt_of_pos z (by decide)⟩
      have s1 : ∀ z : Int, -(2 ^ 200) < z % 1000000007 ∧ z % 1000000007 < 2 ^ 200 := fun z => by have := b1 z; omega
      have s2 : ∀ z : Int, -(2 ^ 200) < z % 998244353 ∧ z % 998244353 < 2 ^ 200 := fun z => by have := b2 z; omega
      have s3 : ∀ z : Int, -(2 ^ 200) < z % 2147483647 + 1 ∧ z % 2147483647 + 1 < 2 ^ 200 := fun z => by have := b3 z; omega
      refine ⟨by decide, hcl, by decide, .s (by omega) (by omega) (by decide) (by decide), .s (by decide) (by decide) (by omega) (by omega), ?_, ?_, ?_, ?_, hm, ⟨_, rfl, hr _⟩, ⟨_, _, _, _, _, rfl, by omega, ?_, ?_, ?_, ?_, hl, hcs⟩, rfl⟩
      · exact .s (s3 _).1 (s3 _).2 (by decide) (by decide)
      · exact .s (s1 _).1 (s1 _).2 (s1 _).1 (s1 _).2
      · exact .s (s2 _).1 (s2 _).2 (by decide) (by decide)
      · exact .s (by decide) (by decide)
      · exact (b3 _).1
      · exact (b3 _).2
      · omega
      · omega
  · simp (config := {dsimp := false}) only [↓e_pr, ↓e_some, ↓e_an, ↓e_brT, ↓e_brF, ↓e_asB, ↓e_asI, ↓e_asV, ↓e_stE, ↓e_stE0, ↓e_stL, ↓e_stL0, ↓e_sqN, ↓e_sqR, ↓e_sqB, ↓e_sqC, ↓e_afN, ↓e_afR, ↓e_afB, ↓e_afC, ↓e_rtN, ↓e_rtR, ↓e_var, ↓e_c, ↓e_op, ↓e_un, ↓e_t, ↓e_nt, ↓e_anT, ↓e_orT, ↓e_and, ↓e_or, ↓e_not, ↓e_ite, ↓e_ch, ↓e_nil, ↓e_cons, ↓e_star, ↓e_tup, ↓e_lst, ↓e_mut, ↓e_call, ↓e_isiT, ↓e_lz, ↓e_meth, ↓e_meth0, ↓e_oN, ↓e_oS, ↓e_sl, ↓e_gVar, ↓e_gSub, ↓e_gTp, ↓e_gN, ↓e_gC, ↓e_next, ↓e_seq, ↓e_drop, ↓e_ret, ↓e_retN, ↓e_brk, ↓e_cnt, ↓e_if, ↓e_asg, ↓e_as2, ↓e_as3, ↓e_par, ↓e_aug, ↓e_augS, ↓e_for, ↓e_f0, ↓e_f1, ↓e_while, ↓e_asS1, ↓e_asS2, ↓e_asS3, ↓e_iSeq, ↓e_enum, ↓e_asTI, ↓e_enumC, ↓e_rng1, ↓e_zip, ↓e_zipX, ↓e_comp, ↓e_c0, ↓e_c1, ↓e_y, ↓e_body, ↓e_addI, ↓e_addT, ↓e_addL, ↓e_subI, ↓e_iadd, ↓e_mulI, ↓e_divI, ↓e_modI, ↓e_powI, ↓e_negI, ↓e_mulT, ↓e_mulL, ↓e_cmp, ↓e_eq, ↓e_ne, ↓e_isN, ↓e_isB, ↓e_isNotN, ↓e_isNotB, ↓e_ix, ↓e_abs, ↓e_toI, ↓e_toB1, ↓e_toB0, ↓e_lenT, ↓e_lenL, ↓e_lenRo, ↓e_lenR, ↓e_tupT, ↓e_tupL, ↓e_tupR, ↓e_lstT, ↓e_lstL, ↓e_allM, ↓e_in, ↓e_notIn, ↓e_sum, ↓e_max, ↓e_par3, ↓e_pop, ↓e_frz, ↓e_frzR, ↓e_isi, ↓e_slT, ↓e_slL, ↓e_slRo, ↓e_app, ↓e_ext, ↓e_setM, r_it1, r_it2, r_it3, r_it4, r_ls2, r_ls3, r_ml2, r_ml3, r_mg0, r_mgn, r_at0, r_at1, r_at2, r_at3, r_ix0, r_ix1, r_ix2, r_ty1, r_ty2, r_ty3, r_ty4, r_ty5, r_ty6, r_ty7, r_ty8, r_sNt, r_sNi, r_sNb, r_sNs, r_sbt, r_sbi, r_sbb, r_sbs, r_sit, r_sii, r_sib, r_sis, r_sst, r_ssi, r_ssb, r_sss, r_stt, r_sti, r_stb, r_sts, r_slt, r_sli, r_slb, r_sls, r_aN, r_ab, r_ai, r_as, r_at, r_al, r_eqI, r_eqB, r_eqS, r_pu1, r_pu2, r_eqN, r_fr1, r_fx1, r_fx2, r_fx3, r_bo0, r_bo1, r_c0, r_c1, r_c2, r_c3, r_c4, r_c5, r_c6, r_c7, r_c8, r_c9, r_c10, r_c11, r_c12, r_pd0, r_pd1, r_pd2, r_wi0, r_wi1, List.set_cons_zero, List.set_cons_succ, List.getElem?_cons_zero, List.getElem?_cons_succ, ↓reduceIte, List.length_cons, List.length_nil, Nat.zero_add, Nat.reduceAdd, and_true, true_and, decide_true, decide_false, eq_self, beq_self_eq_true, Bool.true_beq, Bool.false_beq, Bool.not_true, Bool.not_false, Int.reduceEq, Int.reduceLT, Int.reduceLE, Int.reduceAdd, Int.reduceSub, Int.reduceMul, Int.reduceNeg, Bool.not_not, List.append_nil, List.nil_append, List.cons_append, decide_eq_false h0, show 0 < a by omega]
    exact ⟨hm, hd, ⟨_, rfl, hr a⟩, ⟨_, _, _, _, _, rfl, hq a ha, hb, hb2, hc, by omega, hl, hcs⟩, rfl⟩
/-! ### comprehensions and loops -/
theorem comp_map {γ : DenG} {τ : DenT} {φ : Den} {ρ : Rho} {h : Sto} (f : D → D) : ∀ ds : List D, (∀ d ∈ ds, Ev (γ d ρ h) fun ρ1 h1 => Ev (τ ρ1 h1) fun k h2 => Br k (Ev (φ ρ1 h2) fun x h3 => x = f d ∧ h3 = h) False) → compL γ τ φ ρ ds h = some (ds.map f, h)
  | [], _ => rfl
  | d :: ds, H => by
    have ih := comp_map f ds fun x hx => H x (List.mem_cons_of_mem _ hx)
    obtain ⟨ρ1, h1, e1, k, h2, e2, q⟩ := H d List.mem_cons_self
    cases k with
    | false => exact (e_brF.mp q).elim
    | true =>
      obtain ⟨x, h3, e3, rfl, rfl⟩ := e_brT.mp q
      unfold compL
      rw [e1]; show (τ ρ1 h1).bind _ = _
      rw [e2]; show (φ ρ1 h2).bind _ = _
      rw [e3]; show (compL γ τ φ ρ ds _).map _ = _
      rw [ih]; rfl
theorem comp_inv {γ : DenG} {τ : DenT} {φ : Den} {ρ : Rho} (P : D → Prop) (I : Nat → Sto → Prop) : ∀ (ds : List D) (i : Nat) (h : Sto), I i h → (∀ d ∈ ds, ∀ j h, i ≤ j → j < i + ds.length → I j h → Pr (Ev (γ d ρ h) fun ρ1 h1 => Ev (τ ρ1 h1) fun k h2 => Br k (Ev (φ ρ1 h2) fun x h3 => P x ∧ I (j + 1) h3) False)) → Ev (compL γ τ φ ρ ds h) fun es h' => es.length = ds.length ∧ (∀ x ∈ es, P x) ∧ I (i + ds.length) h'
  | [], i, h, hI, _ => ⟨[], h, rfl, rfl, (fun x hx => nomatch hx), hI⟩
  | d :: ds, i, h, hI, H => by
    obtain ⟨ρ1, h1, e1, k, h2, e2, q⟩ := H d List.mem_cons_self i h (Nat.le_refl _) (by rw [List.length_cons]; omega) hI
    cases k with
    | false => exact (e_brF.mp q).elim
    | true =>
      obtain ⟨x, h3, e3, hP, hI'⟩ := e_brT.mp q
      obtain ⟨es, h4, e4, e5, e6, e7⟩ := comp_inv P I ds (i + 1) h3 hI' fun x hx j h z1 z2 => H x (List.mem_cons_of_mem _ hx) j h (by omega) (by rw [List.length_cons]; omega)
      refine ⟨x :: es, h4, ?_, by rw [List.length_cons, List.length_cons, e5], fun y hy => ?_, by rw [List.length_cons, show i + (ds.length + 1) = i + 1 + ds.length by omega]; exact e7⟩
      · unfold compL
        rw [e1]; show (τ ρ1 h1).bind _ = _
        rw [e2]; show (φ ρ1 h2).bind _ = _
        rw [e3]; show (compL γ τ φ ρ ds _).map _ = _
        rw [e4]; rfl
      · rcases List.mem_cons.mp hy with rfl | hy
        · exact hP
        · exact e6 y hy
theorem for_inv {γ : DenG} {φ : DenS} (I : Nat → Rho → Sto → Prop) : ∀ (ds : List D) (i : Nat) (ρ : Rho) (h : Sto), I i ρ h → (∀ (j : Nat) d ρ h, ds[j]? = some d → I (i + j) ρ h → Pr (Ev (γ d ρ h) fun ρ1 h1 => EvS (φ ρ1 h1) fun f ρ2 h2 => f = .nx ∧ I (i + j + 1) ρ2 h2)) → EvS (loopF γ φ ds ρ h) fun f ρ' h' => f = .nx ∧ I (i + ds.length) ρ' h'
  | [], i, ρ, h, hI, _ => ⟨_, _, _, rfl, rfl, hI⟩
  | d :: ds, i, ρ, h, hI, H => by
    rw [f1]
    obtain ⟨ρ1, h1, e1, f, ρ2, h2, e2, rfl, hI2⟩ := H 0 d ρ h rfl hI
    refine ⟨ρ1, h1, e1, _, _, _, e2, ?_⟩
    refine e_afN.mpr ?_
    have := for_inv I ds (i + 1) ρ2 h2 hI2 fun j d ρ h e z => by
      have := H (j + 1) d ρ h e (by rw [show i + (j + 1) = i + 1 + j by omega]; exact z)
      rwa [show i + (j + 1) + 1 = i + 1 + j + 1 by omega] at this
    rwa [show i + 1 + ds.length = i + (d :: ds).length by rw [List.length_cons]; omega] at this
theorem sp_some {ds : List D} {h : Sto} {k : Nat} (hn : ds ≠ []) (hl : ds.length < 1000) (hk : k < 2 ^ 40) (B : Bag k h) : Ev (d_law_some [.ref 0, .lst ds] h) fun d h' => d ∈ ds ∧ Bag (k + 1) h' ∧ h'.tail = h.tail := by
  unfold d_law_some b_law_some
  simp (config := {dsimp := false}) only [↓e_pr, ↓e_some, ↓e_an, ↓e_brT, ↓e_brF, ↓e_asB, ↓e_asI, ↓e_asV, ↓e_stE, ↓e_stE0, ↓e_stL, ↓e_stL0, ↓e_sqN, ↓e_sqR, ↓e_sqB, ↓e_sqC, ↓e_afN, ↓e_afR, ↓e_afB, ↓e_afC, ↓e_rtN, ↓e_rtR, ↓e_var, ↓e_c, ↓e_op, ↓e_un, ↓e_t, ↓e_nt, ↓e_anT, ↓e_orT, ↓e_and, ↓e_or, ↓e_not, ↓e_ite, ↓e_ch, ↓e_nil, ↓e_cons, ↓e_star, ↓e_tup, ↓e_lst, ↓e_mut, ↓e_call, ↓e_isiT, ↓e_lz, ↓e_meth, ↓e_meth0, ↓e_oN, ↓e_oS, ↓e_sl, ↓e_gVar, ↓e_gSub, ↓e_gTp, ↓e_gN, ↓e_gC, ↓e_next, ↓e_seq, ↓e_drop, ↓e_ret, ↓e_retN, ↓e_brk, ↓e_cnt, ↓e_if, ↓e_asg, ↓e_as2, ↓e_as3, ↓e_par, ↓e_aug, ↓e_augS, ↓e_for, ↓e_f0, ↓e_f1, ↓e_while, ↓e_asS1, ↓e_asS2, ↓e_asS3, ↓e_iSeq, ↓e_enum, ↓e_asTI, ↓e_enumC, ↓e_rng1, ↓e_zip, ↓e_zipX, ↓e_comp, ↓e_c0, ↓e_c1, ↓e_y, ↓e_body, ↓e_addI, ↓e_addT, ↓e_addL, ↓e_subI, ↓e_iadd, ↓e_mulI, ↓e_divI, ↓e_modI, ↓e_powI, ↓e_negI, ↓e_mulT, ↓e_mulL, ↓e_cmp, ↓e_eq, ↓e_ne, ↓e_isN, ↓e_isB, ↓e_isNotN, ↓e_isNotB, ↓e_ix, ↓e_abs, ↓e_toI, ↓e_toB1, ↓e_toB0, ↓e_lenT, ↓e_lenL, ↓e_lenRo, ↓e_lenR, ↓e_tupT, ↓e_tupL, ↓e_tupR, ↓e_lstT, ↓e_lstL, ↓e_allM, ↓e_in, ↓e_notIn, ↓e_sum, ↓e_max, ↓e_par3, ↓e_pop, ↓e_frz, ↓e_frzR, ↓e_isi, ↓e_slT, ↓e_slL, ↓e_slRo, ↓e_app, ↓e_ext, ↓e_setM, r_it1, r_it2, r_it3, r_it4, r_ls2, r_ls3, r_ml2, r_ml3, r_mg0, r_mgn, r_at0, r_at1, r_at2, r_at3, r_ix0, r_ix1, r_ix2, r_ty1, r_ty2, r_ty3, r_ty4, r_ty5, r_ty6, r_ty7, r_ty8, r_sNt, r_sNi, r_sNb, r_sNs, r_sbt, r_sbi, r_sbb, r_sbs, r_sit, r_sii, r_sib, r_sis, r_sst, r_ssi, r_ssb, r_sss, r_stt, r_sti, r_stb, r_sts, r_slt, r_sli, r_slb, r_sls, r_aN, r_ab, r_ai, r_as, r_at, r_al, r_eqI, r_eqB, r_eqS, r_pu1, r_pu2, r_eqN, r_fr1, r_fx1, r_fx2, r_fx3, r_bo0, r_bo1, r_c0, r_c1, r_c2, r_c3, r_c4, r_c5, r_c6, r_c7, r_c8, r_c9, r_c10, r_c11, r_c12, r_pd0, r_pd1, r_pd2, r_wi0, r_wi1, List.set_cons_zero, List.set_cons_succ, List.getElem?_cons_zero, List.getElem?_cons_succ, ↓reduceIte, List.length_cons, List.length_nil, Nat.zero_add, Nat.reduceAdd, and_true, true_and, decide_true, decide_false, eq_self, beq_self_eq_true, Bool.true_beq, Bool.false_beq, Bool.not_true, Bool.not_false, Int.reduceEq, Int.reduceLT, Int.reduceLE, Int.reduceAdd, Int.reduceSub, Int.reduceMul, Int.reduceNeg, Bool.not_not, List.append_nil, List.nil_append, List.cons_append]
  refine (sp_take (by have := List.length_pos_iff.mpr hn; omega) (by omega) hk B).mono ?_
  rintro d h' ⟨⟨v, rfl, v0, v1⟩, B', e⟩
  have hv : v.toNat < ds.length := by omega
  simp (config := {dsimp := false}) only [↓e_pr, ↓e_some, ↓e_an, ↓e_brT, ↓e_brF, ↓e_asB, ↓e_asI, ↓e_asV, ↓e_stE, ↓e_stE0, ↓e_stL, ↓e_stL0, ↓e_sqN, ↓e_sqR, ↓e_sqB, ↓e_sqC, ↓e_afN, ↓e_afR, ↓e_afB, ↓e_afC, ↓e_rtN, ↓e_rtR, ↓e_var, ↓e_c, ↓e_op, ↓e_un, ↓e_t, ↓e_nt, ↓e_anT, ↓e_orT, ↓e_and, ↓e_or, ↓e_not, ↓e_ite, ↓e_ch, ↓e_nil, ↓e_cons, ↓e_star, ↓e_tup, ↓e_lst, ↓e_mut, ↓e_call, ↓e_isiT, ↓e_lz, ↓e_meth, ↓e_meth0, ↓e_oN, ↓e_oS, ↓e_sl, ↓e_gVar, ↓e_gSub, ↓e_gTp, ↓e_gN, ↓e_gC, ↓e_next, ↓e_seq, ↓e_drop, ↓e_ret, ↓e_retN, ↓e_brk, ↓e_cnt, ↓e_if, ↓e_asg, ↓e_as2, ↓e_as3, ↓e_par, ↓e_aug, ↓e_augS, ↓e_for, ↓e_f0, ↓e_f1, ↓e_while, ↓e_asS1, ↓e_asS2, ↓e_asS3, ↓e_iSeq, ↓e_enum, ↓e_asTI, ↓e_enumC, ↓e_rng1, ↓e_zip, ↓e_zipX, ↓e_comp, ↓e_c0, ↓e_c1, ↓e_y, ↓e_body, ↓e_addI, ↓e_addT, ↓e_addL, ↓e_subI, ↓e_iadd, ↓e_mulI, ↓e_divI, ↓e_modI, ↓e_powI, ↓e_negI, ↓e_mulT, ↓e_mulL, ↓e_cmp, ↓e_eq, ↓e_ne, ↓e_isN, ↓e_isB, ↓e_isNotN, ↓e_isNotB, ↓e_ix, ↓e_abs, ↓e_toI, ↓e_toB1, ↓e_toB0, ↓e_lenT, ↓e_lenL, ↓e_lenRo, ↓e_lenR, ↓e_tupT, ↓e_tupL, ↓e_tupR, ↓e_lstT, ↓e_lstL, ↓e_allM, ↓e_in, ↓e_notIn, ↓e_sum, ↓e_max, ↓e_par3, ↓e_pop, ↓e_frz, ↓e_frzR, ↓e_isi, ↓e_slT, ↓e_slL, ↓e_slRo, ↓e_app, ↓e_ext, ↓e_setM, r_it1, r_it2, r_it3, r_it4, r_ls2, r_ls3, r_ml2, r_ml3, r_mg0, r_mgn, r_at0, r_at1, r_at2, r_at3, r_ix0, r_ix1, r_ix2, r_ty1, r_ty2, r_ty3, r_ty4, r_ty5, r_ty6, r_ty7, r_ty8, r_sNt, r_sNi, r_sNb, r_sNs, r_sbt, r_sbi, r_sbb, r_sbs, r_sit, r_sii, r_sib, r_sis, r_sst, r_ssi, r_ssb, r_sss, r_stt, r_sti, r_stb, r_sts, r_slt, r_sli, r_slb, r_sls, r_aN, r_ab, r_ai, r_as, r_at, r_al, r_eqI, r_eqB, r_eqS, r_pu1, r_pu2, r_eqN, r_fr1, r_fx1, r_fx2, r_fx3, r_bo0, r_bo1, r_c0, r_c1, r_c2, r_c3, r_c4, r_c5, r_c6, r_c7, r_c8, r_c9, r_c10, r_c11, r_c12, r_pd0, r_pd1, r_pd2, r_wi0, r_wi1, List.set_cons_zero, List.set_cons_succ, List.getElem?_cons_zero, List.getElem?_cons_succ, ↓reduceIte, List.length_cons, List.length_nil, Nat.zero_add, Nat.reduceAdd, and_true, true_and, decide_true, decide_false, eq_self, beq_self_eq_true, Bool.true_beq, Bool.false_beq, Bool.not_true, Bool.not_false, Int.reduceEq, Int.reduceLT, Int.reduceLE, Int.reduceAdd, Int.reduceSub, Int.reduceMul, Int.reduceNeg, Bool.not_not, List.append_nil, List.nil_append, List.cons_append, atI_int v0 (List.getElem?_eq_getElem hv)]
  exact ⟨List.getElem_mem _, B', e⟩
theorem sp_bag {ns : List Int} (hn : ns.length ≤ 63) : Ev (d_law_bag [scrD ns] []) fun d h' => d = .ref 0 ∧ Bag 0 h' ∧ h'.length = 1 := by
  unfold d_law_bag b_law_bag scrD
  simp (config := {dsimp := false}) only [↓e_pr, ↓e_some, ↓e_an, ↓e_brT, ↓e_brF, ↓e_asB, ↓e_asI, ↓e_asV, ↓e_stE, ↓e_stE0, ↓e_stL, ↓e_stL0, ↓e_sqN, ↓e_sqR, ↓e_sqB, ↓e_sqC, ↓e_afN, ↓e_afR, ↓e_afB, ↓e_afC, ↓e_rtN, ↓e_rtR, ↓e_var, ↓e_c, ↓e_op, ↓e_un, ↓e_t, ↓e_nt, ↓e_anT, ↓e_orT, ↓e_and, ↓e_or, ↓e_not, ↓e_ite, ↓e_ch, ↓e_nil, ↓e_cons, ↓e_star, ↓e_tup, ↓e_lst, ↓e_mut, ↓e_call, ↓e_isiT, ↓e_lz, ↓e_meth, ↓e_meth0, ↓e_oN, ↓e_oS, ↓e_sl, ↓e_gVar, ↓e_gSub, ↓e_gTp, ↓e_gN, ↓e_gC, ↓e_next, ↓e_seq, ↓e_drop, ↓e_ret, ↓e_retN, ↓e_brk, ↓e_cnt, ↓e_if, ↓e_asg, ↓e_as2, ↓e_as3, ↓e_par, ↓e_aug, ↓e_augS, ↓e_for, ↓e_f0, ↓e_f1, ↓e_while, ↓e_asS1, ↓e_asS2, ↓e_asS3, ↓e_iSeq, ↓e_enum, ↓e_asTI, ↓e_enumC, ↓e_rng1, ↓e_zip, ↓e_zipX, ↓e_comp, ↓e_c0, ↓e_c1, ↓e_y, ↓e_body, ↓e_addI, ↓e_addT, ↓e_addL, ↓e_subI, ↓e_iadd, ↓e_mulI, ↓e_divI, ↓e_modI, ↓e_powI, ↓e_negI, ↓e_mulT, ↓e_mulL, ↓e_cmp, ↓e_eq, ↓e_ne, ↓e_isN, ↓e_isB, ↓e_isNotN, ↓e_isNotB, ↓e_ix, ↓e_abs, ↓e_toI, ↓e_toB1, ↓e_toB0, ↓e_lenT, ↓e_lenL, ↓e_lenRo, ↓e_lenR, ↓e_tupT, ↓e_tupL, ↓e_tupR, ↓e_lstT, ↓e_lstL, ↓e_allM, ↓e_in, ↓e_notIn, ↓e_sum, ↓e_max, ↓e_par3, ↓e_pop, ↓e_frz, ↓e_frzR, ↓e_isi, ↓e_slT, ↓e_slL, ↓e_slRo, ↓e_app, ↓e_ext, ↓e_setM, r_it1, r_it2, r_it3, r_it4, r_ls2, r_ls3, r_ml2, r_ml3, r_mg0, r_mgn, r_at0, r_at1, r_at2, r_at3, r_ix0, r_ix1, r_ix2, r_ty1, r_ty2, r_ty3, r_ty4, r_ty5, r_ty6, r_ty7, r_ty8, r_sNt, r_sNi, r_sNb, r_sNs, r_sbt, r_sbi, r_sbb, r_sbs, r_sit, r_sii, r_sib, r_sis, r_sst, r_ssi, r_ssb, r_sss, r_stt, r_sti, r_stb, r_sts, r_slt, r_sli, r_slb, r_sls, r_aN, r_ab, r_ai, r_as, r_at, r_al, r_eqI, r_eqB, r_eqS, r_pu1, r_pu2, r_eqN, r_fr1, r_fx1, r_fx2, r_fx3, r_bo0, r_bo1, r_c0, r_c1, r_c2, r_c3, r_c4, r_c5, r_c6, r_c7, r_c8, r_c9, r_c10, r_c11, r_c12, r_pd0, r_pd1, r_pd2, r_wi0, r_wi1, List.set_cons_zero, List.set_cons_succ, List.getElem?_cons_zero, List.getElem?_cons_succ, ↓reduceIte, List.length_cons, List.length_nil, Nat.zero_add, Nat.reduceAdd, and_true, true_and, decide_true, decide_false, eq_self, beq_self_eq_true, Bool.true_beq, Bool.false_beq, Bool.not_true, Bool.not_false, Int.reduceEq, Int.reduceLT, Int.reduceLE, Int.reduceAdd, Int.reduceSub, Int.reduceMul, Int.reduceNeg, Bool.not_not, List.append_nil, List.nil_append, List.cons_append]
  generalize hz : List.take _ _ = zs
  have : ∃ ms : List Int, zs = ms.map D.int ∧ ms.length ≤ 63 := by
    subst hz
    rw [← List.map_drop, ← List.map_take]
    exact ⟨_, rfl, by rw [List.length_take, List.length_drop]; omega⟩
  obtain ⟨ms, rfl, hm⟩ := this
  have := comp_map (γ := gVar 1) (τ := tauY) (φ := dCall absF (lCons (dVar 1) lNil)) (ρ := [some (D.rol (List.map D.int ns)), none]) (h := []) (fun d => match d with | .int i => .int (absI i) | d => d) (ms.map D.int) fun d hd => by
    obtain ⟨i, _, rfl⟩ := List.mem_map.mp hd
    simp (config := {dsimp := false}) only [↓e_pr, ↓e_some, ↓e_an, ↓e_brT, ↓e_brF, ↓e_asB, ↓e_asI, ↓e_asV, ↓e_stE, ↓e_stE0, ↓e_stL, ↓e_stL0, ↓e_sqN, ↓e_sqR, ↓e_sqB, ↓e_sqC, ↓e_afN, ↓e_afR, ↓e_afB, ↓e_afC, ↓e_rtN, ↓e_rtR, ↓e_var, ↓e_c, ↓e_op, ↓e_un, ↓e_t, ↓e_nt, ↓e_anT, ↓e_orT, ↓e_and, ↓e_or, ↓e_not, ↓e_ite, ↓e_ch, ↓e_nil, ↓e_cons, ↓e_star, ↓e_tup, ↓e_lst, ↓e_mut, ↓e_call, ↓e_isiT, ↓e_lz, ↓e_meth, ↓e_meth0, ↓e_oN, ↓e_oS, ↓e_sl, ↓e_gVar, ↓e_gSub, ↓e_gTp, ↓e_gN, ↓e_gC, ↓e_next, ↓e_seq, ↓e_drop, ↓e_ret, ↓e_retN, ↓e_brk, ↓e_cnt, ↓e_if, ↓e_asg, ↓e_as2, ↓e_as3, ↓e_par, ↓e_aug, ↓e_augS, ↓e_for, ↓e_f0, ↓e_f1, ↓e_while, ↓e_asS1, ↓e_asS2, ↓e_asS3, ↓e_iSeq, ↓e_enum, ↓e_asTI, ↓e_enumC, ↓e_rng1, ↓e_zip, ↓e_zipX, ↓e_comp, ↓e_c0, ↓e_c1, ↓e_y, ↓e_body, ↓e_addI, ↓e_addT, ↓e_addL, ↓e_subI, ↓e_iadd, ↓e_mulI, ↓e_divI, ↓e_modI, ↓e_powI, ↓e_negI, ↓e_mulT, ↓e_mulL, ↓e_cmp, ↓e_eq, ↓e_ne, ↓e_isN, ↓e_isB, ↓e_isNotN, ↓e_isNotB, ↓e_ix, ↓e_abs, ↓e_toI, ↓e_toB1, ↓e_toB0, ↓e_lenT, ↓e_lenL, ↓e_lenRo, ↓e_lenR, ↓e_tupT, ↓e_tupL, ↓e_tupR, ↓e_lstT, ↓e_lstL, ↓e_allM, ↓e_in, ↓e_notIn, ↓e_sum, ↓e_max, ↓e_par3, ↓e_pop, ↓e_frz, ↓e_frzR, ↓e_isi, ↓e_slT, ↓e_slL, ↓e_slRo, ↓e_app, ↓e_ext, ↓e_setM, r_it1, r_it2, r_it3, r_it4, r_ls2, r_ls3, r_ml2, r_ml3, r_mg0, r_mgn, r_at0, r_at1, r_at2, r_at3, r_ix0, r_ix1, r_ix2, r_ty1, r_ty2, r_ty3, r_ty4, r_ty5, r_ty6, r_ty7, r_ty8, r_sNt, r_sNi, r_sNb, r_sNs, r_sbt, r_sbi, r_sbb, r_sbs, r_sit, r_sii, r_sib, r_sis, r_sst, r_ssi, r_ssb, r_sss, r_stt, r_sti, r_stb, r_sts, r_slt, r_sli, r_slb, r_sls, r_aN, r_ab, r_ai, r_as, r_at, r_al, r_eqI, r_eqB, r_eqS, r_pu1, r_pu2, r_eqN, r_fr1, r_fx1, r_fx2, r_fx3, r_bo0, r_bo1, r_c0, r_c1, r_c2, r_c3, r_c4, r_c5, r_c6, r_c7, r_c8, r_c9, r_c10, r_c11, r_c12, r_pd0, r_pd1, r_pd2, r_wi0, r_wi1, List.set_cons_zero, List.set_cons_succ, List.getElem?_cons_zero, List.getElem?_cons_succ, ↓reduceIte, List.length_cons, List.length_nil, Nat.zero_add, Nat.reduceAdd, and_true, true_and, decide_true, decide_false, eq_self, beq_self_eq_true, Bool.true_beq, Bool.false_beq, Bool.not_true, Bool.not_false, Int.reduceEq, Int.reduceLT, Int.reduceLE, Int.reduceAdd, Int.reduceSub, Int.reduceMul, Int.reduceNeg, Bool.not_not, List.append_nil, List.nil_append, List.cons_append]
    rfl
  simp (config := {dsimp := false}) only [↓e_pr, ↓e_some, ↓e_an, ↓e_brT, ↓e_brF, ↓e_asB, ↓e_asI, ↓e_asV, ↓e_stE, ↓e_stE0, ↓e_stL, ↓e_stL0, ↓e_sqN, ↓e_sqR, ↓e_sqB, ↓e_sqC, ↓e_afN, ↓e_afR, ↓e_afB, ↓e_afC, ↓e_rtN, ↓e_rtR, ↓e_var, ↓e_c, ↓e_op, ↓e_un, ↓e_t, ↓e_nt, ↓e_anT, ↓e_orT, ↓e_and, ↓e_or, ↓e_not, ↓e_ite, ↓e_ch, ↓e_nil, ↓e_cons, ↓e_star, ↓e_tup, ↓e_lst, ↓e_mut, ↓e_call, ↓e_isiT, ↓e_lz, ↓e_meth, ↓e_meth0, ↓e_oN, ↓e_oS, ↓e_sl, ↓e_gVar, ↓e_gSub, ↓e_gTp, ↓e_gN, ↓e_gC, ↓e_next, ↓e_seq, ↓e_drop, ↓e_ret, ↓e_retN, ↓e_brk, ↓e_cnt, ↓e_if, ↓e_asg, ↓e_as2, ↓e_as3, ↓e_par, ↓e_aug, ↓e_augS, ↓e_for, ↓e_f0, ↓e_f1, ↓e_while, ↓e_asS1, ↓e_asS2, ↓e_asS3, ↓e_iSeq, ↓e_enum, ↓e_asTI, ↓e_enumC, ↓e_rng1, ↓e_zip, ↓e_zipX, ↓e_comp, ↓e_c0, ↓e_c1, ↓e_y, ↓e_body, ↓e_addI, ↓e_addT, ↓e_addL, ↓e_subI, ↓e_iadd, ↓e_mulI, ↓e_divI, ↓e_modI, ↓e_powI, ↓e_negI, ↓e_mulT, ↓e_mulL, ↓e_cmp, ↓e_eq, ↓e_ne, ↓e_isN, ↓e_isB, ↓e_isNotN, ↓e_isNotB, ↓e_ix, ↓e_abs, ↓e_toI, ↓e_toB1, ↓e_toB0, ↓e_lenT, ↓e_lenL, ↓e_lenRo, ↓e_lenR, ↓e_tupT, ↓e_tupL, ↓e_tupR, ↓e_lstT, ↓e_lstL, ↓e_allM, ↓e_in, ↓e_notIn, ↓e_sum, ↓e_max, ↓e_par3, ↓e_pop, ↓e_frz, ↓e_frzR, ↓e_isi, ↓e_slT, ↓e_slL, ↓e_slRo, ↓e_app, ↓e_ext, ↓e_setM, r_it1, r_it2, r_it3, r_it4, r_ls2, r_ls3, r_ml2, r_ml3, r_mg0, r_mgn, r_at0, r_at1, r_at2, r_at3, r_ix0, r_ix1, r_ix2, r_ty1, r_ty2, r_ty3, r_ty4, r_ty5, r_ty6, r_ty7, r_ty8, r_sNt, r_sNi, r_sNb, r_sNs, r_sbt, r_sbi, r_sbb, r_sbs, r_sit, r_sii, r_sib, r_sis, r_sst, r_ssi, r_ssb, r_sss, r_stt, r_sti, r_stb, r_sts, r_slt, r_sli, r_slb, r_sls, r_aN, r_ab, r_ai, r_as, r_at, r_al, r_eqI, r_eqB, r_eqS, r_pu1, r_pu2, r_eqN, r_fr1, r_fx1, r_fx2, r_fx3, r_bo0, r_bo1, r_c0, r_c1, r_c2, r_c3, r_c4, r_c5, r_c6, r_c7, r_c8, r_c9, r_c10, r_c11, r_c12, r_pd0, r_pd1, r_pd2, r_wi0, r_wi1, List.set_cons_zero, List.set_cons_succ, List.getElem?_cons_zero, List.getElem?_cons_succ, ↓reduceIte, List.length_cons, List.length_nil, Nat.zero_add, Nat.reduceAdd, and_true, true_and, decide_true, decide_false, eq_self, beq_self_eq_true, Bool.true_beq, Bool.false_beq, Bool.not_true, Bool.not_false, Int.reduceEq, Int.reduceLT, Int.reduceLE, Int.reduceAdd, Int.reduceSub, Int.reduceMul, Int.reduceNeg, Bool.not_not, List.append_nil, List.nil_append, List.cons_append, this]
  refine ⟨by rw [List.length_map]; exact Nat.le_trans hm (by decide), by decide, ⟨0, 1234567891, 0, ms.map absI, [], ?_, by decide, by decide, by decide, by decide, by decide, by rw [List.length_map]; exact hm, fun x hx => ?_⟩⟩
  · rw [List.map_map, List.map_map]; rfl
  · obtain ⟨i, _, rfl⟩ := List.mem_map.mp hx
    rw [absI_eq]; omega
/-! ### alike -/
mutual
def wtD : D → Nat
  | .tup ds => 1 + wtL ds
  | .lst ds => 1 + wtL ds
  | _ => 1
def wtL : List D → Nat
  | [] => 0
  | d :: ds => wtD d + wtL ds
end
mutual
/-- tuples and lists of numbers, words, truths and nothings -/
def Pl : D → Prop
  | .tup ds => PlL ds
  | .lst ds => PlL ds
  | .non => True | .bl _ => True | .int _ => True | .str _ => True
  | _ => False
def PlL : List D → Prop
  | [] => True
  | d :: ds => Pl d ∧ PlL ds
end
theorem wtD_pos (d : D) : 1 ≤ wtD d := by cases d <;> unfold wtD <;> omega
theorem wtL_append : ∀ a b : List D, wtL (a ++ b) = wtL a + wtL b
  | [], b => by simp [wtL]
  | d :: a, b => by rw [List.cons_append, wtL, wtL, wtL_append a b]; omega
theorem PlL_append : ∀ {a b : List D}, PlL a → PlL b → PlL (a ++ b)
  | [], b, _, h => h
  | d :: a, b, h, h2 => by unfold PlL at h; rw [List.cons_append]; unfold PlL; exact ⟨h.1, PlL_append h.2 h2⟩
theorem wtL_len : ∀ a : List D, a.length ≤ wtL a
  | [] => by simp [wtL]
  | d :: a => by have := wtL_len a; have := wtD_pos d; rw [List.length_cons, wtL]; omega
abbrev twin (x : D) : D := .tup [x, x]
theorem zip_twin : ∀ ds : List D, zipL ds ds = ds.map twin
  | [] => rfl
  | d :: ds => by have := zip_twin ds; unfold zipL at this ⊢; rw [List.zip_cons_cons, List.map_cons, this]; rfl
theorem mget_last (h : Sto) (ps : List D) : mget (h ++ [.lst ps]) h.length = some ps := by unfold mget; rw [List.getElem?_append_right (Nat.le_refl _)]; simp
theorem set_last (h : Sto) (o o' : MO) : (h ++ [o]).set h.length o' = h ++ [o'] := by rw [List.set_append_right _ _ (Nat.le_refl _)]; simp
theorem take_drop_at {xs rest : List D} {x : D} {i : Nat} (e : xs.drop i = x :: rest) : xs[i]? = some x := by
  have : (xs.drop i)[0]? = some x := by rw [e]; rfl
  rwa [List.getElem?_drop, Nat.add_zero] at this
def LB : DenS := (sSeq (sAsg (dOp ixD (dVar 2) (dVar 3)) (gTp 2 (gC (gVar 4) (gC (gVar 5) gN)))) (sSeq (sAug 3 iaddD (dC (D.int 1))) (sSeq (sIf (dOrT (dT (dOp neD (dCall isiF (lCons (dVar 4) (lCons (dC (D.ty "bool")) lNil))) (dCall isiF (lCons (dVar 5) (lCons (dC (D.ty "bool")) lNil))))) (dT (dOp neD (dCall isiF (lCons (dVar 4) (lCons (dC (D.ty "str")) lNil))) (dCall isiF (lCons (dVar 5) (lCons (dC (D.ty "str")) lNil)))))) (sRet (dC (D.bl false))) sNext) (sSeq (sIf (dT (dOp neD (dIsiT ["tuple", "list"] (dVar 4)) (dIsiT ["tuple", "list"] (dVar 5)))) (sRet (dC (D.bl false))) sNext) (sIf (dT (dIsiT ["tuple", "list"] (dVar 4))) (sSeq (sIf (dOrT (dT (dOp neD (dCall isiF (lCons (dVar 4) (lCons (dC (D.ty "tuple")) lNil))) (dCall isiF (lCons (dVar 5) (lCons (dC (D.ty "tuple")) lNil))))) (dT (dOp neD (dCall lenF (lCons (dVar 4) lNil)) (dCall lenF (lCons (dVar 5) lNil))))) (sRet (dC (D.bl false))) sNext) (sDrop (dMeth extendM (dVar 2) (lCons (dListZip (dVar 4) (dVar 5)) lNil)))) (sIf (dT (dOp neD (dVar 4) (dVar 5))) (sRet (dC (D.bl false))) sNext))))))
theorem alike_loop {a b : Option D} {h0 : Sto} {S : Nat} (hS : S ≤ sizeLine) : ∀ (n : Nat) (xs : List D) (at' : Nat) (u v : Option D), PlL (xs.drop at') → wtL (xs.drop at') < n → at' + wtL (xs.drop at') ≤ S → at' ≤ xs.length →
    EvS (loopW (dT (dOp ltD (dVar 3) (dCall lenF (lCons (dVar 2) lNil)))) LB n [a, b, some (.ref h0.length), some (.int at'), u, v] (h0 ++ [.lst (xs.map twin)]))
      fun f _ h' => f = .nx ∧ ∃ e, h' = h0 ++ e := by
  intro n
  induction n with
  | zero => intro xs at' u v _ z; omega
  | succ n ih =>
    intro xs at' u v hp hw hs hl
    rw [w1]
    have hm := mget_last h0 (xs.map twin)
    cases e : xs.drop at' with
    | nil =>
      have hx : ¬ ((at' : Int) < ((xs.map twin).length : Nat)) := by
        have := congrArg List.length e
        rw [List.length_drop] at this
        rw [List.length_map]; simp at this; omega
      simp (config := {dsimp := false}) only [↓e_pr, ↓e_some, ↓e_an, ↓e_brT, ↓e_brF, ↓e_asB, ↓e_asI, ↓e_asV, ↓e_stE, ↓e_stE0, ↓e_stL, ↓e_stL0, ↓e_sqN, ↓e_sqR, ↓e_sqB, ↓e_sqC, ↓e_afN, ↓e_afR, ↓e_afB, ↓e_afC, ↓e_rtN, ↓e_rtR, ↓e_var, ↓e_c, ↓e_op, ↓e_un, ↓e_t, ↓e_nt, ↓e_anT, ↓e_orT, ↓e_and, ↓e_or, ↓e_not, ↓e_ite, ↓e_ch, ↓e_nil, ↓e_cons, ↓e_star, ↓e_tup, ↓e_lst, ↓e_mut, ↓e_call, ↓e_isiT, ↓e_lz, ↓e_meth, ↓e_meth0, ↓e_oN, ↓e_oS, ↓e_sl, ↓e_gVar, ↓e_gSub, ↓e_gTp, ↓e_gN, ↓e_gC, ↓e_next, ↓e_seq, ↓e_drop, ↓e_ret, ↓e_retN, ↓e_brk, ↓e_cnt, ↓e_if, ↓e_asg, ↓e_as2, ↓e_as3, ↓e_par, ↓e_aug, ↓e_augS, ↓e_for, ↓e_f0, ↓e_f1, ↓e_while, ↓e_asS1, ↓e_asS2, ↓e_asS3, ↓e_iSeq, ↓e_enum, ↓e_asTI, ↓e_enumC, ↓e_rng1, ↓e_zip, ↓e_zipX, ↓e_comp, ↓e_c0, ↓e_c1, ↓e_y, ↓e_body, ↓e_addI, ↓e_addT, ↓e_addL, ↓e_subI, ↓e_iadd, ↓e_mulI, ↓e_divI, ↓e_modI, ↓e_powI, ↓e_negI, ↓e_mulT, ↓e_mulL, ↓e_cmp, ↓e_eq, ↓e_ne, ↓e_isN, ↓e_isB, ↓e_isNotN, ↓e_isNotB, ↓e_ix, ↓e_abs, ↓e_toI, ↓e_toB1, ↓e_toB0, ↓e_lenT, ↓e_lenL, ↓e_lenRo, ↓e_lenR, ↓e_tupT, ↓e_tupL, ↓e_tupR, ↓e_lstT, ↓e_lstL, ↓e_allM, ↓e_in, ↓e_notIn, ↓e_sum, ↓e_max, ↓e_par3, ↓e_pop, ↓e_frz, ↓e_frzR, ↓e_isi, ↓e_slT, ↓e_slL, ↓e_slRo, ↓e_app, ↓e_ext, ↓e_setM, r_it1, r_it2, r_it3, r_it4, r_ls2, r_ls3, r_ml2, r_ml3, r_mg0, r_mgn, r_at0, r_at1, r_at2, r_at3, r_ix0, r_ix1, r_ix2, r_ty1, r_ty2, r_ty3, r_ty4, r_ty5, r_ty6, r_ty7, r_ty8, r_sNt, r_sNi, r_sNb, r_sNs, r_sbt, r_sbi, r_sbb, r_sbs, r_sit, r_sii, r_sib, r_sis, r_sst, r_ssi, r_ssb, r_sss, r_stt, r_sti, r_stb, r_sts, r_slt, r_sli, r_slb, r_sls, r_aN, r_ab, r_ai, r_as, r_at, r_al, r_eqI, r_eqB, r_eqS, r_pu1, r_pu2, r_eqN, r_fr1, r_fx1, r_fx2, r_fx3, r_bo0, r_bo1, r_c0, r_c1, r_c2, r_c3, r_c4, r_c5, r_c6, r_c7, r_c8, r_c9, r_c10, r_c11, r_c12, r_pd0, r_pd1, r_pd2, r_wi0, r_wi1, List.set_cons_zero, List.set_cons_succ, List.getElem?_cons_zero, List.getElem?_cons_succ, ↓reduceIte, List.length_cons, List.length_nil, Nat.zero_add, Nat.reduceAdd, and_true, true_and, decide_true, decide_false, eq_self, beq_self_eq_true, Bool.true_beq, Bool.false_beq, Bool.not_true, Bool.not_false, Int.reduceEq, Int.reduceLT, Int.reduceLE, Int.reduceAdd, Int.reduceSub, Int.reduceMul, Int.reduceNeg, Bool.not_not, List.append_nil, List.nil_append, List.cons_append, hm, hx]
      exact ⟨_, rfl⟩
    | cons x rest =>
      have hat := take_drop_at e
      have hx : ((at' : Int) < ((xs.map twin).length : Nat)) := by
        have := (List.getElem?_eq_some_iff.mp hat).1
        rw [List.length_map]; omega
      have hg : atI (xs.map twin) (at' : Int) = some (twin x) := Iv.atI_nat (by rw [List.getElem?_map, hat]; rfl)
      rw [e] at hp hw hs
      unfold PlL at hp
      unfold wtL at hw hs
      have hwp := wtD_pos x
      have hdrop : xs.drop (at' + 1) = rest := by rw [← List.drop_drop, e]; rfl
      have leaf : EvS (loopW (dT (dOp ltD (dVar 3) (dCall lenF (lCons (dVar 2) lNil)))) LB n [a, b, some (.ref h0.length), some (.int ((at' + 1 : Nat) : Int)), some x, some x] (h0 ++ [.lst (xs.map twin)]))
        fun f _ h' => f = .nx ∧ ∃ e, h' = h0 ++ e := ih xs (at' + 1) _ _ (by rw [hdrop]; exact hp.2) (by rw [hdrop]; omega) (by rw [hdrop]; omega) (by have := (List.getElem?_eq_some_iff.mp hat).1; omega)
      have seq : ∀ ds, PlL ds → wtL ds + 1 = wtD x → EvS (loopW (dT (dOp ltD (dVar 3) (dCall lenF (lCons (dVar 2) lNil)))) LB n [a, b, some (.ref h0.length), some (.int ((at' + 1 : Nat) : Int)), some x, some x] (h0 ++ [.lst (xs.map twin ++ zipL ds ds)]))
        fun f _ h' => f = .nx ∧ ∃ e, h' = h0 ++ e := fun ds h1 h2 => by
          have hd2 : (xs ++ ds).drop (at' + 1) = rest ++ ds := by
            rw [List.drop_append_of_le_length (by have := (List.getElem?_eq_some_iff.mp hat).1; omega), hdrop]
          have := ih (xs ++ ds) (at' + 1) (some x) (some x) (by rw [hd2]; exact PlL_append hp.2 h1) (by rw [hd2, wtL_append]; omega) (by rw [hd2, wtL_append]; omega) (by rw [List.length_append]; have := (List.getElem?_eq_some_iff.mp hat).1; omega)
          rwa [List.map_append, ← zip_twin ds] at this
      have room : ∀ ds, wtL ds + 1 = wtD x → (xs.map twin).length + (zipL ds ds).length ≤ sizeLine := fun ds h2 => by
        rw [zip_twin, List.length_map, List.length_map]
        have h3 := wtL_len ds
        have h4 := wtL_len rest
        have h5 := congrArg List.length e
        rw [List.length_drop, List.length_cons] at h5
        have := (List.getElem?_eq_some_iff.mp hat).1
        omega
      have ha1 : ((at' : Int) + 1) = ((at' + 1 : Nat) : Int) := by omega
      unfold LB
      cases x with
      | non => simp (config := {dsimp := false}) only [↓e_pr, ↓e_some, ↓e_an, ↓e_brT, ↓e_brF, ↓e_asB, ↓e_asI, ↓e_asV, ↓e_stE, ↓e_stE0, ↓e_stL, ↓e_stL0, ↓e_sqN, ↓e_sqR, ↓e_sqB, ↓e_sqC, ↓e_afN, ↓e_afR, ↓e_afB, ↓e_afC, ↓e_rtN, ↓e_rtR, ↓e_var, ↓e_c, ↓e_op, ↓e_un, ↓e_t, ↓e_nt, ↓e_anT, ↓e_orT, ↓e_and, ↓e_or, ↓e_not, ↓e_ite, ↓e_ch, ↓e_nil, ↓e_cons, ↓e_star, ↓e_tup, ↓e_lst, ↓e_mut, ↓e_call, ↓e_isiT, ↓e_lz, ↓e_meth, ↓e_meth0, ↓e_oN, ↓e_oS, ↓e_sl, ↓e_gVar, ↓e_gSub, ↓e_gTp, ↓e_gN, ↓e_gC, ↓e_next, ↓e_seq, ↓e_drop, ↓e_ret, ↓e_retN, ↓e_brk, ↓e_cnt, ↓e_if, ↓e_asg, ↓e_as2, ↓e_as3, ↓e_par, ↓e_aug, ↓e_augS, ↓e_for, ↓e_f0, ↓e_f1, ↓e_while, ↓e_asS1, ↓e_asS2, ↓e_asS3, ↓e_iSeq, ↓e_enum, ↓e_asTI, ↓e_enumC, ↓e_rng1, ↓e_zip, ↓e_zipX, ↓e_comp, ↓e_c0, ↓e_c1, ↓e_y, ↓e_body, ↓e_addI, ↓e_addT, ↓e_addL, ↓e_subI, ↓e_iadd, ↓e_mulI, ↓e_divI, ↓e_modI, ↓e_powI, ↓e_negI, ↓e_mulT, ↓e_mulL, ↓e_cmp, ↓e_eq, ↓e_ne, ↓e_isN, ↓e_isB, ↓e_isNotN, ↓e_isNotB, ↓e_ix, ↓e_abs, ↓e_toI, ↓e_toB1, ↓e_toB0, ↓e_lenT, ↓e_lenL, ↓e_lenRo, ↓e_lenR, ↓e_tupT, ↓e_tupL, ↓e_tupR, ↓e_lstT, ↓e_lstL, ↓e_allM, ↓e_in, ↓e_notIn, ↓e_sum, ↓e_max, ↓e_par3, ↓e_pop, ↓e_frz, ↓e_frzR, ↓e_isi, ↓e_slT, ↓e_slL, ↓e_slRo, ↓e_app, ↓e_ext, ↓e_setM, r_it1, r_it2, r_it3, r_it4, r_ls2, r_ls3, r_ml2, r_ml3, r_mg0, r_mgn, r_at0, r_at1, r_at2, r_at3, r_ix0, r_ix1, r_ix2, r_ty1, r_ty2, r_ty3, r_ty4, r_ty5, r_ty6, r_ty7, r_ty8, r_sNt, r_sNi, r_sNb, r_sNs, r_sbt, r_sbi, r_sbb, r_sbs, r_sit, r_sii, r_sib, r_sis, r_sst, r_ssi, r_ssb, r_sss, r_stt, r_sti, r_stb, r_sts, r_slt, r_sli, r_slb, r_sls, r_aN, r_ab, r_ai, r_as, r_at, r_al, r_eqI, r_eqB, r_eqS, r_pu1, r_pu2, r_eqN, r_fr1, r_fx1, r_fx2, r_fx3, r_bo0, r_bo1, r_c0, r_c1, r_c2, r_c3, r_c4, r_c5, r_c6, r_c7, r_c8, r_c9, r_c10, r_c11, r_c12, r_pd0, r_pd1, r_pd2, r_wi0, r_wi1, List.set_cons_zero, List.set_cons_succ, List.getElem?_cons_zero, List.getElem?_cons_succ, ↓reduceIte, List.length_cons, List.length_nil, Nat.zero_add, Nat.reduceAdd, and_true, true_and, decide_true, decide_false, eq_self, beq_self_eq_true, Bool.true_beq, Bool.false_beq, Bool.not_true, Bool.not_false, Int.reduceEq, Int.reduceLT, Int.reduceLE, Int.reduceAdd, Int.reduceSub, Int.reduceMul, Int.reduceNeg, Bool.not_not, List.append_nil, List.nil_append, List.cons_append, hm, hx, hg, ha1]; exact leaf
      | bl k => simp (config := {dsimp := false}) only [↓e_pr, ↓e_some, ↓e_an, ↓e_brT, ↓e_brF, ↓e_asB, ↓e_asI, ↓e_asV, ↓e_stE, ↓e_stE0, ↓e_stL, ↓e_stL0, ↓e_sqN, ↓e_sqR, ↓e_sqB, ↓e_sqC, ↓e_afN, ↓e_afR, ↓e_afB, ↓e_afC, ↓e_rtN, ↓e_rtR, ↓e_var, ↓e_c, ↓e_op, ↓e_un, ↓e_t, ↓e_nt, ↓e_anT, ↓e_orT, ↓e_and, ↓e_or, ↓e_not, ↓e_ite, ↓e_ch, ↓e_nil, ↓e_cons, ↓e_star, ↓e_tup, ↓e_lst, ↓e_mut, ↓e_call, ↓e_isiT, ↓e_lz, ↓e_meth, ↓e_meth0, ↓e_oN, ↓e_oS, ↓e_sl, ↓e_gVar, ↓e_gSub, ↓e_gTp, ↓e_gN, ↓e_gC, ↓e_next, ↓e_seq, ↓e_drop, ↓e_ret, ↓e_retN, ↓e_brk, ↓e_cnt, ↓e_if, ↓e_asg, ↓e_as2, ↓e_as3, ↓e_par, ↓e_aug, ↓e_augS, ↓e_for, ↓e_f0, ↓e_f1, ↓e_while, ↓e_asS1, ↓e_asS2, ↓e_asS3, ↓e_iSeq, ↓e_enum, ↓e_asTI, ↓e_enumC, ↓e_rng1, ↓e_zip, ↓e_zipX, ↓e_comp, ↓e_c0, ↓e_c1, ↓e_y, ↓e_body, ↓e_addI, ↓e_addT, ↓e_addL, ↓e_subI, ↓e_iadd, ↓e_mulI, ↓e_divI, ↓e_modI, ↓e_powI, ↓e_negI, ↓e_mulT, ↓e_mulL, ↓e_cmp, ↓e_eq, ↓e_ne, ↓e_isN, ↓e_isB, ↓e_isNotN, ↓e_isNotB, ↓e_ix, ↓e_abs, ↓e_toI, ↓e_toB1, ↓e_toB0, ↓e_lenT, ↓e_lenL, ↓e_lenRo, ↓e_lenR, ↓e_tupT, ↓e_tupL, ↓e_tupR, ↓e_lstT, ↓e_lstL, ↓e_allM, ↓e_in, ↓e_notIn, ↓e_sum, ↓e_max, ↓e_par3, ↓e_pop, ↓e_frz, ↓e_frzR, ↓e_isi, ↓e_slT, ↓e_slL, ↓e_slRo, ↓e_app, ↓e_ext, ↓e_setM, r_it1, r_it2, r_it3, r_it4, r_ls2, r_ls3, r_ml2, r_ml3, r_mg0, r_mgn, r_at0, r_at1, r_at2, r_at3, r_ix0, r_ix1, r_ix2, r_ty1, r_ty2, r_ty3, r_ty4, r_ty5, r_ty6, r_ty7, r_ty8, r_sNt, r_sNi, r_sNb, r_sNs, r_sbt, r_sbi, r_sbb, r_sbs, r_sit, r_sii, r_sib, r_sis, r_sst, r_ssi, r_ssb, r_sss, r_stt, r_sti, r_stb, r_sts, r_slt, r_sli, r_slb, r_sls, r_aN, r_ab, r_ai, r_as, r_at, r_al, r_eqI, r_eqB, r_eqS, r_pu1, r_pu2, r_eqN, r_fr1, r_fx1, r_fx2, r_fx3, r_bo0, r_bo1, r_c0, r_c1, r_c2, r_c3, r_c4, r_c5, r_c6, r_c7, r_c8, r_c9, r_c10, r_c11, r_c12, r_pd0, r_pd1, r_pd2, r_wi0, r_wi1, List.set_cons_zero, List.set_cons_succ, List.getElem?_cons_zero, List.getElem?_cons_succ, ↓reduceIte, List.length_cons, List.length_nil, Nat.zero_add, Nat.reduceAdd, and_true, true_and, decide_true, decide_false, eq_self, beq_self_eq_true, Bool.true_beq, Bool.false_beq, Bool.not_true, Bool.not_false, Int.reduceEq, Int.reduceLT, Int.reduceLE, Int.reduceAdd, Int.reduceSub, Int.reduceMul, Int.reduceNeg, Bool.not_not, List.append_nil, List.nil_append, List.cons_append, hm, hx, hg, ha1]; exact leaf
      | int k => simp (config := {dsimp := false}) only [↓e_pr, ↓e_some, ↓e_an, ↓e_brT, ↓e_brF, ↓e_asB, ↓e_asI, ↓e_asV, ↓e_stE, ↓e_stE0, ↓e_stL, ↓e_stL0, ↓e_sqN, ↓e_sqR, ↓e_sqB, ↓e_sqC, ↓e_afN, ↓e_afR, ↓e_afB, ↓e_afC, ↓e_rtN, ↓e_rtR, ↓e_var, ↓e_c, ↓e_op, ↓e_un, ↓e_t, ↓e_nt, ↓e_anT, ↓e_orT, ↓e_and, ↓e_or, ↓e_not, ↓e_ite, ↓e_ch, ↓e_nil, ↓e_cons, ↓e_star, ↓e_tup, ↓e_lst, ↓e_mut, ↓e_call, ↓e_isiT, ↓e_lz, ↓e_meth, ↓e_meth0, ↓e_oN, ↓e_oS, ↓e_sl, ↓e_gVar, ↓e_gSub, ↓e_gTp, ↓e_gN, ↓e_gC, ↓e_next, ↓e_seq, ↓e_drop, ↓e_ret, ↓e_retN, ↓e_brk, ↓e_cnt, ↓e_if, ↓e_asg, ↓e_as2, ↓e_as3, ↓e_par, ↓e_aug, ↓e_augS, ↓e_for, ↓e_f0, ↓e_f1, ↓e_while, ↓e_asS1, ↓e_asS2, ↓e_asS3, ↓e_iSeq, ↓e_enum, ↓e_asTI, ↓e_enumC, ↓e_rng1, ↓e_zip, ↓e_zipX, ↓e_comp, ↓e_c0, ↓e_c1, ↓e_y, ↓e_body, ↓e_addI, ↓e_addT, ↓e_addL, ↓e_subI, ↓e_iadd, ↓e_mulI, ↓e_divI, ↓e_modI, ↓e_powI, ↓e_negI, ↓e_mulT, ↓e_mulL, ↓e_cmp, ↓e_eq, ↓e_ne, ↓e_isN, ↓e_isB, ↓e_isNotN, ↓e_isNotB, ↓e_ix, ↓e_abs, ↓e_toI, ↓e_toB1, ↓e_toB0, ↓e_lenT, ↓e_lenL, ↓e_lenRo, ↓e_lenR, ↓e_tupT, ↓e_tupL, ↓e_tupR, ↓e_lstT, ↓e_lstL, ↓e_allM, ↓e_in, ↓e_notIn, ↓e_sum, ↓e_max, ↓e_par3, ↓e_pop, ↓e_frz, ↓e_frzR, ↓e_isi, ↓e_slT, ↓e_slL, ↓e_slRo, ↓e_app, ↓e_ext, ↓e_setM, r_it1, r_it2, r_it3, r_it4, r_ls2, r_ls3, r_ml2, r_ml3, r_mg0, r_mgn, r_at0, r_at1, r_at2, r_at3, r_ix0, r_ix1, r_ix2, r_ty1, r_ty2, r_ty3, r_ty4, r_ty5, r_ty6, r_ty7, r_ty8, r_sNt, r_sNi, r_sNb, r_sNs, r_sbt, r_sbi, r_sbb, r_sbs, r_sit, r_sii, r_sib, r_sis, r_sst, r_ssi, r_ssb, r_sss, r_stt, r_sti, r_stb, r_sts, r_slt, r_sli, r_slb, r_sls, r_aN, r_ab, r_ai, r_as, r_at, r_al, r_eqI, r_eqB, r_eqS, r_pu1, r_pu2, r_eqN, r_fr1, r_fx1, r_fx2, r_fx3, r_bo0, r_bo1, r_c0, r_c1, r_c2, r_c3, r_c4, r_c5, r_c6, r_c7, r_c8, r_c9, r_c10, r_c11, r_c12, r_pd0, r_pd1, r_pd2, r_wi0, r_wi1, List.set_cons_zero, List.set_cons_succ, List.getElem?_cons_zero, List.getElem?_cons_succ, ↓reduceIte, List.length_cons, List.length_nil, Nat.zero_add, Nat.reduceAdd, and_true, true_and, decide_true, decide_false, eq_self, beq_self_eq_true, Bool.true_beq, Bool.false_beq, Bool.not_true, Bool.not_false, Int.reduceEq, Int.reduceLT, Int.reduceLE, Int.reduceAdd, Int.reduceSub, Int.reduceMul, Int.reduceNeg, Bool.not_not, List.append_nil, List.nil_append, List.cons_append, hm, hx, hg, ha1]; exact leaf
      | str k => simp (config := {dsimp := false}) only [↓e_pr, ↓e_some, ↓e_an, ↓e_brT, ↓e_brF, ↓e_asB, ↓e_asI, ↓e_asV, ↓e_stE, ↓e_stE0, ↓e_stL, ↓e_stL0, ↓e_sqN, ↓e_sqR, ↓e_sqB, ↓e_sqC, ↓e_afN, ↓e_afR, ↓e_afB, ↓e_afC, ↓e_rtN, ↓e_rtR, ↓e_var, ↓e_c, ↓e_op, ↓e_un, ↓e_t, ↓e_nt, ↓e_anT, ↓e_orT, ↓e_and, ↓e_or, ↓e_not, ↓e_ite, ↓e_ch, ↓e_nil, ↓e_cons, ↓e_star, ↓e_tup, ↓e_lst, ↓e_mut, ↓e_call, ↓e_isiT, ↓e_lz, ↓e_meth, ↓e_meth0, ↓e_oN, ↓e_oS, ↓e_sl, ↓e_gVar, ↓e_gSub, ↓e_gTp, ↓e_gN, ↓e_gC, ↓e_next, ↓e_seq, ↓e_drop, ↓e_ret, ↓e_retN, ↓e_brk, ↓e_cnt, ↓e_if, ↓e_asg, ↓e_as2, ↓e_as3, ↓e_par, ↓e_aug, ↓e_augS, ↓e_for, ↓e_f0, ↓e_f1, ↓e_while, ↓e_asS1, ↓e_asS2, ↓e_asS3, ↓e_iSeq, ↓e_enum, ↓e_asTI, ↓e_enumC, ↓e_rng1, ↓e_zip, ↓e_zipX, ↓e_comp, ↓e_c0, ↓e_c1, ↓e_y, ↓e_body, ↓e_addI, ↓e_addT, ↓e_addL, ↓e_subI, ↓e_iadd, ↓e_mulI, ↓e_divI, ↓e_modI, ↓e_powI, ↓e_negI, ↓e_mulT, ↓e_mulL, ↓e_cmp, ↓e_eq, ↓e_ne, ↓e_isN, ↓e_isB, ↓e_isNotN, ↓e_isNotB, ↓e_ix, ↓e_abs, ↓e_toI, ↓e_toB1, ↓e_toB0, ↓e_lenT, ↓e_lenL, ↓e_lenRo, ↓e_lenR, ↓e_tupT, ↓e_tupL, ↓e_tupR, ↓e_lstT, ↓e_lstL, ↓e_allM, ↓e_in, ↓e_notIn, ↓e_sum, ↓e_max, ↓e_par3, ↓e_pop, ↓e_frz, ↓e_frzR, ↓e_isi, ↓e_slT, ↓e_slL, ↓e_slRo, ↓e_app, ↓e_ext, ↓e_setM, r_it1, r_it2, r_it3, r_it4, r_ls2, r_ls3, r_ml2, r_ml3, r_mg0, r_mgn, r_at0, r_at1, r_at2, r_at3, r_ix0, r_ix1, r_ix2, r_ty1, r_ty2, r_ty3, r_ty4, r_ty5, r_ty6, r_ty7, r_ty8, r_sNt, r_sNi, r_sNb, r_sNs, r_sbt, r_sbi, r_sbb, r_sbs, r_sit, r_sii, r_sib, r_sis, r_sst, r_ssi, r_ssb, r_sss, r_stt, r_sti, r_stb, r_sts, r_slt, r_sli, r_slb, r_sls, r_aN, r_ab, r_ai, r_as, r_at, r_al, r_eqI, r_eqB, r_eqS, r_pu1, r_pu2, r_eqN, r_fr1, r_fx1, r_fx2, r_fx3, r_bo0, r_bo1, r_c0, r_c1, r_c2, r_c3, r_c4, r_c5, r_c6, r_c7, r_c8, r_c9, r_c10, r_c11, r_c12, r_pd0, r_pd1, r_pd2, r_wi0, r_wi1, List.set_cons_zero, List.set_cons_succ, List.getElem?_cons_zero, List.getElem?_cons_succ, ↓reduceIte, List.length_cons, List.length_nil, Nat.zero_add, Nat.reduceAdd, and_true, true_and, decide_true, decide_false, eq_self, beq_self_eq_true, Bool.true_beq, Bool.false_beq, Bool.not_true, Bool.not_false, Int.reduceEq, Int.reduceLT, Int.reduceLE, Int.reduceAdd, Int.reduceSub, Int.reduceMul, Int.reduceNeg, Bool.not_not, List.append_nil, List.nil_append, List.cons_append, hm, hx, hg, ha1, r_eqS]; exact leaf
      | tup ds => simp (config := {dsimp := false}) only [↓e_pr, ↓e_some, ↓e_an, ↓e_brT, ↓e_brF, ↓e_asB, ↓e_asI, ↓e_asV, ↓e_stE, ↓e_stE0, ↓e_stL, ↓e_stL0, ↓e_sqN, ↓e_sqR, ↓e_sqB, ↓e_sqC, ↓e_afN, ↓e_afR, ↓e_afB, ↓e_afC, ↓e_rtN, ↓e_rtR, ↓e_var, ↓e_c, ↓e_op, ↓e_un, ↓e_t, ↓e_nt, ↓e_anT, ↓e_orT, ↓e_and, ↓e_or, ↓e_not, ↓e_ite, ↓e_ch, ↓e_nil, ↓e_cons, ↓e_star, ↓e_tup, ↓e_lst, ↓e_mut, ↓e_call, ↓e_isiT, ↓e_lz, ↓e_meth, ↓e_meth0, ↓e_oN, ↓e_oS, ↓e_sl, ↓e_gVar, ↓e_gSub, ↓e_gTp, ↓e_gN, ↓e_gC, ↓e_next, ↓e_seq, ↓e_drop, ↓e_ret, ↓e_retN, ↓e_brk, ↓e_cnt, ↓e_if, ↓e_asg, ↓e_as2, ↓e_as3, ↓e_par, ↓e_aug, ↓e_augS, ↓e_for, ↓e_f0, ↓e_f1, ↓e_while, ↓e_asS1, ↓e_asS2, ↓e_asS3, ↓e_iSeq, ↓e_enum, ↓e_asTI, ↓e_enumC, ↓e_rng1, ↓e_zip, ↓e_zipX, ↓e_comp, ↓e_c0, ↓e_c1, ↓e_y, ↓e_body, ↓e_addI, ↓e_addT, ↓e_addL, ↓e_subI, ↓e_iadd, ↓e_mulI, ↓e_divI, ↓e_modI, ↓e_powI, ↓e_negI, ↓e_mulT, ↓e_mulL, ↓e_cmp, ↓e_eq, ↓e_ne, ↓e_isN, ↓e_isB, ↓e_isNotN, ↓e_isNotB, ↓e_ix, ↓e_abs, ↓e_toI, ↓e_toB1, ↓e_toB0, ↓e_lenT, ↓e_lenL, ↓e_lenRo, ↓e_lenR, ↓e_tupT, ↓e_tupL, ↓e_tupR, ↓e_lstT, ↓e_lstL, ↓e_allM, ↓e_in, ↓e_notIn, ↓e_sum, ↓e_max, ↓e_par3, ↓e_pop, ↓e_frz, ↓e_frzR, ↓e_isi, ↓e_slT, ↓e_slL, ↓e_slRo, ↓e_app, ↓e_ext, ↓e_setM, r_it1, r_it2, r_it3, r_it4, r_ls2, r_ls3, r_ml2, r_ml3, r_mg0, r_mgn, r_at0, r_at1, r_at2, r_at3, r_ix0, r_ix1, r_ix2, r_ty1, r_ty2, r_ty3, r_ty4, r_ty5, r_ty6, r_ty7, r_ty8, r_sNt, r_sNi, r_sNb, r_sNs, r_sbt, r_sbi, r_sbb, r_sbs, r_sit, r_sii, r_sib, r_sis, r_sst, r_ssi, r_ssb, r_sss, r_stt, r_sti, r_stb, r_sts, r_slt, r_sli, r_slb, r_sls, r_aN, r_ab, r_ai, r_as, r_at, r_al, r_eqI, r_eqB, r_eqS, r_pu1, r_pu2, r_eqN, r_fr1, r_fx1, r_fx2, r_fx3, r_bo0, r_bo1, r_c0, r_c1, r_c2, r_c3, r_c4, r_c5, r_c6, r_c7, r_c8, r_c9, r_c10, r_c11, r_c12, r_pd0, r_pd1, r_pd2, r_wi0, r_wi1, List.set_cons_zero, List.set_cons_succ, List.getElem?_cons_zero, List.getElem?_cons_succ, ↓reduceIte, List.length_cons, List.length_nil, Nat.zero_add, Nat.reduceAdd, and_true, true_and, decide_true, decide_false, eq_self, beq_self_eq_true, Bool.true_beq, Bool.false_beq, Bool.not_true, Bool.not_false, Int.reduceEq, Int.reduceLT, Int.reduceLE, Int.reduceAdd, Int.reduceSub, Int.reduceMul, Int.reduceNeg, Bool.not_not, List.append_nil, List.nil_append, List.cons_append, hm, hx, hg, ha1, set_last]; exact ⟨rfl, room ds (by unfold wtD; omega), seq ds (by have := hp.1; unfold Pl at this; exact this) (by unfold wtD; omega)⟩
      | lst ds => simp (config := {dsimp := false}) only [↓e_pr, ↓e_some, ↓e_an, ↓e_brT, ↓e_brF, ↓e_asB, ↓e_asI, ↓e_asV, ↓e_stE, ↓e_stE0, ↓e_stL, ↓e_stL0, ↓e_sqN, ↓e_sqR, ↓e_sqB, ↓e_sqC, ↓e_afN, ↓e_afR, ↓e_afB, ↓e_afC, ↓e_rtN, ↓e_rtR, ↓e_var, ↓e_c, ↓e_op, ↓e_un, ↓e_t, ↓e_nt, ↓e_anT, ↓e_orT, ↓e_and, ↓e_or, ↓e_not, ↓e_ite, ↓e_ch, ↓e_nil, ↓e_cons, ↓e_star, ↓e_tup, ↓e_lst, ↓e_mut, ↓e_call, ↓e_isiT, ↓e_lz, ↓e_meth, ↓e_meth0, ↓e_oN, ↓e_oS, ↓e_sl, ↓e_gVar, ↓e_gSub, ↓e_gTp, ↓e_gN, ↓e_gC, ↓e_next, ↓e_seq, ↓e_drop, ↓e_ret, ↓e_retN, ↓e_brk, ↓e_cnt, ↓e_if, ↓e_asg, ↓e_as2, ↓e_as3, ↓e_par, ↓e_aug, ↓e_augS, ↓e_for, ↓e_f0, ↓e_f1, ↓e_while, ↓e_asS1, ↓e_asS2, ↓e_asS3, ↓e_iSeq, ↓e_enum, ↓e_asTI, ↓e_enumC, ↓e_rng1, ↓e_zip, ↓e_zipX, ↓e_comp, ↓e_c0, ↓e_c1, ↓e_y, ↓e_body, ↓e_addI, ↓e_addT, ↓e_addL, ↓e_subI, ↓e_iadd, ↓e_mulI, ↓e_divI, ↓e_modI, ↓e_powI, ↓e_negI, ↓e_mulT, ↓e_mulL, ↓e_cmp, ↓e_eq, ↓e_ne, ↓e_isN, ↓e_isB, ↓e_isNotN, ↓e_isNotB, ↓e_ix, ↓e_abs, ↓e_toI, ↓e_toB1, ↓e_toB0, ↓e_lenT, ↓e_lenL, ↓e_lenRo, ↓e_lenR, ↓e_tupT, ↓e_tupL, ↓e_tupR, ↓e_lstT, ↓e_lstL, ↓e_allM, ↓e_in, ↓e_notIn, ↓e_sum, ↓e_max, ↓e_par3, ↓e_pop, ↓e_frz, ↓e_frzR, ↓e_isi, ↓e_slT, ↓e_slL, ↓e_slRo, ↓e_app, ↓e_ext, ↓e_setM, r_it1, r_it2, r_it3, r_it4, r_ls2, r_ls3, r_ml2, r_ml3, r_mg0, r_mgn, r_at0, r_at1, r_at2, r_at3, r_ix0, r_ix1, r_ix2, r_ty1, r_ty2, r_ty3, r_ty4, r_ty5, r_ty6, r_ty7, r_ty8, r_sNt, r_sNi, r_sNb, r_sNs, r_sbt, r_sbi, r_sbb, r_sbs, r_sit, r_sii, r_sib, r_sis, r_sst, r_ssi, r_ssb, r_sss, r_stt, r_sti, r_stb, r_sts, r_slt, r_sli, r_slb, r_sls, r_aN, r_ab, r_ai, r_as, r_at, r_al, r_eqI, r_eqB, r_eqS, r_pu1, r_pu2, r_eqN, r_fr1, r_fx1, r_fx2, r_fx3, r_bo0, r_bo1, r_c0, r_c1, r_c2, r_c3, r_c4, r_c5, r_c6, r_c7, r_c8, r_c9, r_c10, r_c11, r_c12, r_pd0, r_pd1, r_pd2, r_wi0, r_wi1, List.set_cons_zero, List.set_cons_succ, List.getElem?_cons_zero, List.getElem?_cons_succ, ↓reduceIte, List.length_cons, List.length_nil, Nat.zero_add, Nat.reduceAdd, and_true, true_and, decide_true, decide_false, eq_self, beq_self_eq_true, Bool.true_beq, Bool.false_beq, Bool.not_true, Bool.not_false, Int.reduceEq, Int.reduceLT, Int.reduceLE, Int.reduceAdd, Int.reduceSub, Int.reduceMul, Int.reduceNeg, Bool.not_not, List.append_nil, List.nil_append, List.cons_append, hm, hx, hg, ha1, set_last]; exact ⟨rfl, room ds (by unfold wtD; omega), seq ds (by have := hp.1; unfold Pl at this; exact this) (by unfold wtD; omega)⟩
      | _ => exact (show False by have := hp.1; unfold Pl at this; exact this).elim
theorem sp_alike {d : D} {h : Sto} (hp : Pl d) (hw : wtD d ≤ sizeLine) : Ev (d_law_alike [d, d] h) fun r h' => r = .bl true ∧ ∃ e, h' = h ++ e := by
  unfold d_law_alike b_law_alike
  simp (config := {dsimp := false}) only [↓e_pr, ↓e_some, ↓e_an, ↓e_brT, ↓e_brF, ↓e_asB, ↓e_asI, ↓e_asV, ↓e_stE, ↓e_stE0, ↓e_stL, ↓e_stL0, ↓e_sqN, ↓e_sqR, ↓e_sqB, ↓e_sqC, ↓e_afN, ↓e_afR, ↓e_afB, ↓e_afC, ↓e_rtN, ↓e_rtR, ↓e_var, ↓e_c, ↓e_op, ↓e_un, ↓e_t, ↓e_nt, ↓e_anT, ↓e_orT, ↓e_and, ↓e_or, ↓e_not, ↓e_ite, ↓e_ch, ↓e_nil, ↓e_cons, ↓e_star, ↓e_tup, ↓e_lst, ↓e_mut, ↓e_call, ↓e_isiT, ↓e_lz, ↓e_meth, ↓e_meth0, ↓e_oN, ↓e_oS, ↓e_sl, ↓e_gVar, ↓e_gSub, ↓e_gTp, ↓e_gN, ↓e_gC, ↓e_next, ↓e_seq, ↓e_drop, ↓e_ret, ↓e_retN, ↓e_brk, ↓e_cnt, ↓e_if, ↓e_asg, ↓e_as2, ↓e_as3, ↓e_par, ↓e_aug, ↓e_augS, ↓e_for, ↓e_f0, ↓e_f1, ↓e_while, ↓e_asS1, ↓e_asS2, ↓e_asS3, ↓e_iSeq, ↓e_enum, ↓e_asTI, ↓e_enumC, ↓e_rng1, ↓e_zip, ↓e_zipX, ↓e_comp, ↓e_c0, ↓e_c1, ↓e_y, ↓e_body, ↓e_addI, ↓e_addT, ↓e_addL, ↓e_subI, ↓e_iadd, ↓e_mulI, ↓e_divI, ↓e_modI, ↓e_powI, ↓e_negI, ↓e_mulT, ↓e_mulL, ↓e_cmp, ↓e_eq, ↓e_ne, ↓e_isN, ↓e_isB, ↓e_isNotN, ↓e_isNotB, ↓e_ix, ↓e_abs, ↓e_toI, ↓e_toB1, ↓e_toB0, ↓e_lenT, ↓e_lenL, ↓e_lenRo, ↓e_lenR, ↓e_tupT, ↓e_tupL, ↓e_tupR, ↓e_lstT, ↓e_lstL, ↓e_allM, ↓e_in, ↓e_notIn, ↓e_sum, ↓e_max, ↓e_par3, ↓e_pop, ↓e_frz, ↓e_frzR, ↓e_isi, ↓e_slT, ↓e_slL, ↓e_slRo, ↓e_app, ↓e_ext, ↓e_setM, r_it1, r_it2, r_it3, r_it4, r_ls2, r_ls3, r_ml2, r_ml3, r_mg0, r_mgn, r_at0, r_at1, r_at2, r_at3, r_ix0, r_ix1, r_ix2, r_ty1, r_ty2, r_ty3, r_ty4, r_ty5, r_ty6, r_ty7, r_ty8, r_sNt, r_sNi, r_sNb, r_sNs, r_sbt, r_sbi, r_sbb, r_sbs, r_sit, r_sii, r_sib, r_sis, r_sst, r_ssi, r_ssb, r_sss, r_stt, r_sti, r_stb, r_sts, r_slt, r_sli, r_slb, r_sls, r_aN, r_ab, r_ai, r_as, r_at, r_al, r_eqI, r_eqB, r_eqS, r_pu1, r_pu2, r_eqN, r_fr1, r_fx1, r_fx2, r_fx3, r_bo0, r_bo1, r_c0, r_c1, r_c2, r_c3, r_c4, r_c5, r_c6, r_c7, r_c8, r_c9, r_c10, r_c11, r_c12, r_pd0, r_pd1, r_pd2, r_wi0, r_wi1, List.set_cons_zero, List.set_cons_succ, List.getElem?_cons_zero, List.getElem?_cons_succ, ↓reduceIte, List.length_cons, List.length_nil, Nat.zero_add, Nat.reduceAdd, and_true, true_and, decide_true, decide_false, eq_self, beq_self_eq_true, Bool.true_beq, Bool.false_beq, Bool.not_true, Bool.not_false, Int.reduceEq, Int.reduceLT, Int.reduceLE, Int.reduceAdd, Int.reduceSub, Int.reduceMul, Int.reduceNeg, Bool.not_not, List.append_nil, List.nil_append, List.cons_append]
  refine ⟨by decide, by decide, ?_⟩
  refine (alike_loop (h0 := h) (a := some d) (b := some d) (S := sizeLine) (Nat.le_refl _) fuel [d] 0 none none (by unfold PlL PlL; exact ⟨hp, trivial⟩) ?_ ?_ (by simp)).mono ?_
  · show wtD d + 0 < fuel
    exact Nat.lt_of_le_of_lt hw (Nat.pow_lt_pow_right (by decide) (show 24 < 4000 by decide))
  · show 0 + (wtD d + 0) ≤ sizeLine; omega
  · rintro f ρ h' ⟨rfl, e⟩
    simp (config := {dsimp := false}) only [↓e_pr, ↓e_some, ↓e_an, ↓e_brT, ↓e_brF, ↓e_asB, ↓e_asI, ↓e_asV, ↓e_stE, ↓e_stE0, ↓e_stL, ↓e_stL0, ↓e_sqN, ↓e_sqR, ↓e_sqB, ↓e_sqC, ↓e_afN, ↓e_afR, ↓e_afB, ↓e_afC, ↓e_rtN, ↓e_rtR, ↓e_var, ↓e_c, ↓e_op, ↓e_un, ↓e_t, ↓e_nt, ↓e_anT, ↓e_orT, ↓e_and, ↓e_or, ↓e_not, ↓e_ite, ↓e_ch, ↓e_nil, ↓e_cons, ↓e_star, ↓e_tup, ↓e_lst, ↓e_mut, ↓e_call, ↓e_isiT, ↓e_lz, ↓e_meth, ↓e_meth0, ↓e_oN, ↓e_oS, ↓e_sl, ↓e_gVar, ↓e_gSub, ↓e_gTp, ↓e_gN, ↓e_gC, ↓e_next, ↓e_seq, ↓e_drop, ↓e_ret, ↓e_retN, ↓e_brk, ↓e_cnt, ↓e_if, ↓e_asg, ↓e_as2, ↓e_as3, ↓e_par, ↓e_aug, ↓e_augS, ↓e_for, ↓e_f0, ↓e_f1, ↓e_while, ↓e_asS1, ↓e_asS2, ↓e_asS3, ↓e_iSeq, ↓e_enum, ↓e_asTI, ↓e_enumC, ↓e_rng1, ↓e_zip, ↓e_zipX, ↓e_comp, ↓e_c0, ↓e_c1, ↓e_y, ↓e_body, ↓e_addI, ↓e_addT, ↓e_addL, ↓e_subI, ↓e_iadd, ↓e_mulI, ↓e_divI, ↓e_modI, ↓e_powI, ↓e_negI, ↓e_mulT, ↓e_mulL, ↓e_cmp, ↓e_eq, ↓e_ne, ↓e_isN, ↓e_isB, ↓e_isNotN, ↓e_isNotB, ↓e_ix, ↓e_abs, ↓e_toI, ↓e_toB1, ↓e_toB0, ↓e_lenT, ↓e_lenL, ↓e_lenRo, ↓e_lenR, ↓e_tupT, ↓e_tupL, ↓e_tupR, ↓e_lstT, ↓e_lstL, ↓e_allM, ↓e_in, ↓e_notIn, ↓e_sum, ↓e_max, ↓e_par3, ↓e_pop, ↓e_frz, ↓e_frzR, ↓e_isi, ↓e_slT, ↓e_slL, ↓e_slRo, ↓e_app, ↓e_ext, ↓e_setM, r_it1, r_it2, r_it3, r_it4, r_ls2, r_ls3, r_ml2, r_ml3, r_mg0, r_mgn, r_at0, r_at1, r_at2, r_at3, r_ix0, r_ix1, r_ix2, r_ty1, r_ty2, r_ty3, r_ty4, r_ty5, r_ty6, r_ty7, r_ty8, r_sNt, r_sNi, r_sNb, r_sNs, r_sbt, r_sbi, r_sbb, r_sbs, r_sit, r_sii, r_sib, r_sis, r_sst, r_ssi, r_ssb, r_sss, r_stt, r_sti, r_stb, r_sts, r_slt, r_sli, r_slb, r_sls, r_aN, r_ab, r_ai, r_as, r_at, r_al, r_eqI, r_eqB, r_eqS, r_pu1, r_pu2, r_eqN, r_fr1, r_fx1, r_fx2, r_fx3, r_bo0, r_bo1, r_c0, r_c1, r_c2, r_c3, r_c4, r_c5, r_c6, r_c7, r_c8, r_c9, r_c10, r_c11, r_c12, r_pd0, r_pd1, r_pd2, r_wi0, r_wi1, List.set_cons_zero, List.set_cons_succ, List.getElem?_cons_zero, List.getElem?_cons_succ, ↓reduceIte, List.length_cons, List.length_nil, Nat.zero_add, Nat.reduceAdd, and_true, true_and, decide_true, decide_false, eq_self, beq_self_eq_true, Bool.true_beq, Bool.false_beq, Bool.not_true, Bool.not_false, Int.reduceEq, Int.reduceLT, Int.reduceLE, Int.reduceAdd, Int.reduceSub, Int.reduceMul, Int.reduceNeg, Bool.not_not, List.append_nil, List.nil_append, List.cons_append]
    exact e
/-! ### small data: its repr -/
mutual
def Sm : D → Prop
  | .tup ds => SmL ds
  | .lst ds => SmL ds
  | .non => True | .bl _ => True
  | .int i => -999999999999 ≤ i ∧ i ≤ 999999999999
  | .str x => PyData.strOk x = true ∧ x.cps.size ≤ 16
  | _ => False
def SmL : List D → Prop
  | [] => True
  | d :: ds => Sm d ∧ SmL ds
end
mutual
def dpD : D → Nat
  | .tup ds => dpL ds + 1
  | .lst ds => dpL ds + 1
  | _ => 0
def dpL : List D → Nat
  | [] => 0
  | d :: ds => max (dpD d) (dpL ds)
end
def Fine (d : D) (p : PyData) : Prop := toP d = some p ∧ p.canLay0 = true ∧ p.showable = true ∧ p.leavesShort 13 = true ∧ p.bulk + 1 ≤ 17 * wtD d ∧ p.depth = dpD d
def FineL (ds : List D) (ps : List PyData) : Prop := toPs ds = some ps ∧ PyData.canLayAll0 ps = true ∧ PyData.showableAll ps = true ∧ PyData.leavesShortAll 13 ps = true ∧ PyData.bulkAll ps ≤ 17 * wtL ds ∧ PyData.depthAll ps = dpL ds
mutual
theorem sm_fine : ∀ d : D, Sm d → ∃ p, Fine d p
  | .non, _ => ⟨.none, rfl, rfl, rfl, rfl, by decide, rfl⟩
  | .bl b, _ => ⟨.bool b, rfl, rfl, rfl, rfl, show 0 + 1 ≤ 17 * 1 by decide, rfl⟩
  | .int i, z => by
    have z : -999999999999 ≤ i ∧ i ≤ 999999999999 := z
    refine ⟨.int i, rfl, rfl, ?_, ?_, show 0 + 1 ≤ 17 * 1 by decide, rfl⟩
    · show decide (i.natAbs.log2 < 1920) = true
      have := log2_of_lt (m := i.natAbs) (k := 100) (by omega)
      exact decide_eq_true (by omega)
    · show decide ((PyData.shown (.int i)).length ≤ 13) = true
      exact decide_eq_true (PyData.shown_int_le2 z.1 z.2)
  | .str x, z => by
    have z : PyData.strOk x = true ∧ x.cps.size ≤ 16 := z
    refine ⟨.str x, rfl, z.1, rfl, PyData.leavesShort_of_canLay0 13 _ z.1 rfl, ?_, rfl⟩
    show x.cps.size + 1 ≤ 17 * 1
    omega
  | .tup ds, z => by
    obtain ⟨ps, a1, a2, a3, a4, a5, a6⟩ := sm_fineL ds z
    refine ⟨.tuple ps, by show (toPs ds).map _ = _; rw [a1]; rfl, a2, a3, by simpa only [PyData.leavesShort] using a4, ?_, ?_⟩
    · simp only [PyData.bulk, wtD]; omega
    · simp only [PyData.depth, dpD, a6]
  | .lst ds, z => by
    obtain ⟨ps, a1, a2, a3, a4, a5, a6⟩ := sm_fineL ds z
    refine ⟨.list ps, by show (toPs ds).map _ = _; rw [a1]; rfl, a2, a3, by simpa only [PyData.leavesShort] using a4, ?_, ?_⟩
    · simp only [PyData.bulk, wtD]; omega
    · simp only [PyData.depth, dpD, a6]
theorem sm_fineL : ∀ ds : List D, SmL ds → ∃ ps, FineL ds ps
  | [], _ => ⟨[], rfl, rfl, rfl, rfl, by decide, rfl⟩
  | d :: ds, z => by
    have z : Sm d ∧ SmL ds := z
    obtain ⟨p, b1, b2, b3, b4, b5, b6⟩ := sm_fine d z.1
    obtain ⟨ps, a1, a2, a3, a4, a5, a6⟩ := sm_fineL ds z.2
    refine ⟨p :: ps, by show (toP d).bind _ = _; rw [b1]; show (toPs ds).map _ = _; rw [a1]; rfl, ?_, ?_, ?_, ?_, ?_⟩
    · simp only [PyData.canLayAll0, a2, b2, Bool.and_self]
    · simp only [PyData.showableAll, a3, b3, Bool.and_self]
    · simp only [PyData.leavesShortAll, a4, b4, Bool.and_self]
    · simp only [PyData.bulkAll, wtL]; omega
    · simp only [PyData.depthAll, dpL, a6, b6]
end
theorem sp_repr {d : D} (z : Sm d) (hs : isSeq d = true) (hw : wtD d ≤ 65000) (hd : dpD d ≤ 60) : ∃ s, ∀ h, reprF [d] h = some (.str s, h) := by
  obtain ⟨p, a1, a2, a3, a4, a5, a6⟩ := sm_fine d z
  have e : ∀ h, toPh h d = some p := fun h => by
    cases d with
    | ref n => cases a1
    | _ => exact a1
  have hl : p.shown.length ≤ sizeLine := by
    have := PyData.shown_le_bulk 13 (by decide) p a4
    have e : sizeLine = 16777216 := by decide
    omega
  refine ⟨p.shown, fun h => ?_⟩
  show (if isSeq d = true then (toPh h d).bind fun p => if SeqAt.shaped p = true ∧ p.depth ≤ 60 ∧ p.showable = true ∧ p.shown.length ≤ sizeLine then some (D.str p.shown, h) else none else none) = _
  rw [if_pos hs, e h]
  have hsh : SeqAt.shaped p = true := by
    show (p.canLay0 && decide (p.depth ≤ 64)) = true
    rw [a2, decide_eq_true (show p.depth ≤ 64 by omega)]
    rfl
  exact if_pos ⟨hsh, by omega, a3, hl⟩
theorem r_eqSS {h : Sto} {s : Str} : eqB h (.str s) (.str s) = some true := by
  rw [r_eqS]; simp
theorem z_int {m : Int} {h : Sto} : d_is_integer [.int m] h = some (.bl true, h) := rfl
theorem z_bl {b : Bool} {h : Sto} : d_is_integer [.bl b] h = some (.bl false, h) := rfl
theorem z_non {h : Sto} : d_is_integer [.non] h = some (.bl false, h) := rfl
theorem z_tup {ds : List D} {h : Sto} : d_is_integer [.tup ds] h = some (.bl false, h) := rfl
theorem z_lst {ds : List D} {h : Sto} : d_is_integer [.lst ds] h = some (.bl false, h) := rfl
theorem z_str {s : Str} {h : Sto} : d_is_integer [.str s] h = some (.bl false, h) := rfl
theorem z_lint {m : Int} {h : Sto} : d_law_is_int [.int m] h = some (.bl true, h) := rfl
theorem z_lbl {b : Bool} {h : Sto} : d_law_is_int [.bl b] h = some (.bl false, h) := rfl
theorem z_lnon {h : Sto} : d_law_is_int [.non] h = some (.bl false, h) := rfl
theorem z_ltup {ds : List D} {h : Sto} : d_law_is_int [.tup ds] h = some (.bl false, h) := rfl
theorem z_llst {ds : List D} {h : Sto} : d_law_is_int [.lst ds] h = some (.bl false, h) := rfl
theorem z_lstr {s : Str} {h : Sto} : d_law_is_int [.str s] h = some (.bl false, h) := rfl
theorem z_whole {m : Int} {h : Sto} : d_whole [.int m] h = some (frD (m, 1), h) := rfl
/-! ### stores -/
theorem Bag.mono {k k' : Nat} {h : Sto} (B : Bag k h) (z : k ≤ k') : Bag k' h := by
  obtain ⟨a, b, c, cells, t, rfl, h1, h2, h3, h4, h5, h6, h7⟩ := B
  exact ⟨a, b, c, cells, t, rfl, h1, h2, h3, h4, by omega, h6, h7⟩
theorem Bag.app {k : Nat} {h : Sto} (B : Bag k h) (e : Sto) : Bag k (h ++ e) := by
  obtain ⟨a, b, c, cells, t, rfl, h1, h2, h3, h4, h5, h6, h7⟩ := B
  exact ⟨a, b, c, cells, t ++ e, rfl, h1, h2, h3, h4, h5, h6, h7⟩
theorem Bag.pos {k : Nat} {h : Sto} (B : Bag k h) : 1 ≤ h.length := by
  obtain ⟨a, b, c, cells, t, rfl, _⟩ := B
  rw [List.length_cons]; omega
theorem Bag.put {k n : Nat} {h : Sto} {o : MO} (B : Bag k h) (hn : 1 ≤ n) : Bag k (h.set n o) := by
  obtain ⟨a, b, c, cells, t, rfl, h1, h2, h3, h4, h5, h6, h7⟩ := B
  obtain ⟨n, rfl⟩ : ∃ m, n = m + 1 := ⟨n - 1, by omega⟩
  exact ⟨a, b, c, cells, t.set n o, rfl, h1, h2, h3, h4, h5, h6, h7⟩
theorem mget_tail {h h' : Sto} {n : Nat} (hn : 1 ≤ n) (e : h'.tail = h.tail) : mget h' n = mget h n := by
  obtain ⟨n, rfl⟩ : ∃ m, n = m + 1 := ⟨n - 1, by omega⟩
  unfold mget
  rw [← List.getElem?_tail, ← List.getElem?_tail, e]
theorem mget_lt {h : Sto} {n : Nat} {ds : List D} (e : mget h n = some ds) : n < h.length := by
  unfold mget at e
  split at e
  · rename_i q; exact (List.getElem?_eq_some_iff.mp q).1
  · cases e
theorem mget_put {h : Sto} {n : Nat} {ds es : List D} (e : mget h n = some ds) : mget (h.set n (.lst es)) n = some es := by
  unfold mget
  rw [List.getElem?_set_self (mget_lt e)]
theorem rng_len (n : Nat) : (rangeL 0 n).length = n := by unfold rangeL; rw [List.length_map, List.length_range]
theorem rng_at {n j : Nat} {d : D} (e : (rangeL 0 n)[j]? = some d) : d = .int (j : Nat) ∧ j < n := by
  unfold rangeL at e
  rw [List.getElem?_map] at e
  obtain ⟨x, hx, rfl⟩ := Option.map_eq_some_iff.mp e
  have hj := (List.getElem?_eq_some_iff.mp hx).1
  rw [List.length_range] at hj
  rw [List.getElem?_range hj] at hx
  cases hx
  exact ⟨by rw [Int.zero_add], hj⟩
theorem sz_0 : 0 ≤ sizeLine := by decide
theorem sz_1 : 1 ≤ sizeLine := by decide
theorem sz_2 : 2 ≤ sizeLine := by decide
theorem sz_3 : 3 ≤ sizeLine := by decide
theorem sz_4 : 4 ≤ sizeLine := by decide
theorem sz_5 : 5 ≤ sizeLine := by decide
theorem sz_6 : 6 ≤ sizeLine := by decide
theorem sz_7 : 7 ≤ sizeLine := by decide
theorem sz_8 : 8 ≤ sizeLine := by decide
theorem sz_9 : 9 ≤ sizeLine := by decide
theorem sz_10 : 10 ≤ sizeLine := by decide
theorem sz_11 : 11 ≤ sizeLine := by decide
theorem sz_12 : 12 ≤ sizeLine := by decide
/-! ### lists of a kind -/
theorem comp_ev {γ : DenG} {τ : DenT} {φ : Den} {ρ : Rho} {h : Sto} {ds : List D} {Q : List D → Sto → Prop} (f : D → D) (H : ∀ d ∈ ds, Ev (γ d ρ h) fun ρ1 h1 => Ev (τ ρ1 h1) fun k h2 => Br k (Ev (φ ρ1 h2) fun x h3 => x = f d ∧ h3 = h) False) (q : Q (ds.map f) h) : Ev (compL γ τ φ ρ ds h) Q := (Ev_iff (comp_map f ds H)).mpr q
theorem all_yes {ds : List D} {g : D → Bool} (h : ∀ d ∈ ds, g d = true) : ds.all g = true := List.all_eq_true.mpr h
theorem sl1 (ds : List D) : ((ds.drop (HT.sIx ds.length 0 (some 1))).take (HT.sIx ds.length ds.length none - HT.sIx ds.length 0 (some 1))) = ds.drop 1 := by
  rw [HT.sIx_none, show HT.sIx ds.length 0 (some 1) = min 1 ds.length from HT.sIx_nat _ _ 1]
  cases ds with
  | nil => rfl
  | cons d r =>
    rw [List.length_cons, Nat.min_eq_left (by omega)]
    show List.take (r.length + 1 - 1) r = r
    rw [Nat.add_sub_cancel, List.take_length]
theorem sl01 (ds : List D) : ((ds.drop (HT.sIx ds.length 0 none)).take (HT.sIx ds.length ds.length (some 1) - HT.sIx ds.length 0 none)) = ds.take 1 := by
  rw [HT.sIx_none, show HT.sIx ds.length ds.length (some 1) = min 1 ds.length from HT.sIx_nat _ _ 1, List.drop_zero, Nat.sub_zero]
  cases ds with
  | nil => rfl
  | cons d r => rw [List.length_cons, Nat.min_eq_left (by omega)]
theorem zip_next {ds : List D} {d : D} (h : d ∈ zipL ds (ds.drop 1)) : ∃ (i : Nat) (a b : D), d = .tup [a, b] ∧ ds[i]? = some a ∧ ds[i + 1]? = some b := by
  unfold zipL at h
  obtain ⟨p, hp, rfl⟩ := List.mem_map.mp h
  obtain ⟨i, hi⟩ := List.mem_iff_getElem?.mp hp
  rw [List.getElem?_zip_eq_some] at hi
  refine ⟨i, p.1, p.2, rfl, hi.1, ?_⟩
  have := hi.2
  rw [List.getElem?_drop] at this
  rwa [Nat.add_comm i 1]
theorem comp_filter {γ : DenG} {τ : DenT} {φ : Den} {ρ : Rho} (I : Nat → List D → Sto → Prop) : ∀ (ds : List D) (i : Nat) (acc : List D) (h : Sto), I i acc h → (∀ (j : Nat) d acc h, ds[j]? = some d → I (i + j) acc h → Pr (Ev (γ d ρ h) fun ρ1 h1 => Ev (τ ρ1 h1) fun k h2 => Br k (Ev (φ ρ1 h2) fun x h3 => I (i + j + 1) (acc ++ [x]) h3) (I (i + j + 1) acc h2))) → Ev (compL γ τ φ ρ ds h) fun es h' => I (i + ds.length) (acc ++ es) h'
  | [], i, acc, h, hI, _ => ⟨[], h, rfl, by show I (i + 0) (acc ++ []) h; rw [List.append_nil]; exact hI⟩
  | d :: ds, i, acc, h, hI, H => by
    obtain ⟨ρ1, h1, e1, k, h2, e2, q⟩ := H 0 d acc h rfl hI
    have step : ∀ (j : Nat) d acc h, ds[j]? = some d → I (i + 1 + j) acc h → Pr (Ev (γ d ρ h) fun ρ1 h1 => Ev (τ ρ1 h1) fun k h2 => Br k (Ev (φ ρ1 h2) fun x h3 => I (i + 1 + j + 1) (acc ++ [x]) h3) (I (i + 1 + j + 1) acc h2)) := fun j d acc h e z => by
      have := H (j + 1) d acc h e (by rw [show i + (j + 1) = i + 1 + j by omega]; exact z)
      rwa [show i + (j + 1) + 1 = i + 1 + j + 1 by omega] at this
    have hlen : i + 1 + ds.length = i + (d :: ds).length := by rw [List.length_cons]; omega
    cases k with
    | false =>
      obtain ⟨es, h4, e4, q4⟩ := comp_filter I ds (i + 1) acc h2 (e_brF.mp q) step
      rw [hlen] at q4
      refine ⟨es, h4, ?_, q4⟩
      unfold compL
      rw [e1]; show (τ ρ1 h1).bind _ = _
      rw [e2]; exact e4
    | true =>
      obtain ⟨x, h3, e3, q3⟩ := e_brT.mp q
      obtain ⟨es, h4, e4, q4⟩ := comp_filter I ds (i + 1) (acc ++ [x]) h3 q3 step
      rw [hlen, List.append_assoc] at q4
      refine ⟨x :: es, h4, ?_, q4⟩
      unfold compL
      rw [e1]; show (τ ρ1 h1).bind _ = _
      rw [e2]; show (φ ρ1 h2).bind _ = _
      rw [e3]; show (compL γ τ φ ρ ds _).map _ = _
      rw [e4]; rfl
section
variable {α : Type} {f : α → D}
theorem smL_map : ∀ l : List α, (∀ a ∈ l, Sm (f a)) → SmL (l.map f)
  | [], _ => trivial
  | a :: l, h => ⟨h a List.mem_cons_self, smL_map l fun x hx => h x (List.mem_cons_of_mem _ hx)⟩
theorem plL_map : ∀ l : List α, (∀ a ∈ l, Pl (f a)) → PlL (l.map f)
  | [], _ => trivial
  | a :: l, h => ⟨h a List.mem_cons_self, plL_map l fun x hx => h x (List.mem_cons_of_mem _ hx)⟩
theorem wtL_map {c : Nat} : ∀ l : List α, (∀ a ∈ l, wtD (f a) ≤ c) → wtL (l.map f) ≤ c * l.length
  | [], _ => Nat.zero_le _
  | a :: l, h => by
    have := wtL_map l fun x hx => h x (List.mem_cons_of_mem _ hx)
    have := h a List.mem_cons_self
    rw [List.map_cons, wtL, List.length_cons, Nat.mul_succ]; omega
theorem dpL_map {c : Nat} : ∀ l : List α, (∀ a ∈ l, dpD (f a) ≤ c) → dpL (l.map f) ≤ c
  | [], _ => Nat.zero_le _
  | a :: l, h => by
    have := dpL_map l fun x hx => h x (List.mem_cons_of_mem _ hx)
    have := h a List.mem_cons_self
    rw [List.map_cons, dpL]; omega
end
theorem comp_none {γ : DenG} {τ : DenT} {φ : Den} {ρ : Rho} {h : Sto} : ∀ ds : List D, (∀ d ∈ ds, Ev (γ d ρ h) fun ρ1 h1 => Ev (τ ρ1 h1) fun k h2 => k = false ∧ h2 = h) → compL γ τ φ ρ ds h = some ([], h)
  | [], _ => rfl
  | d :: ds, H => by
    have ih := comp_none (φ := φ) ds fun x hx => H x (List.mem_cons_of_mem _ hx)
    obtain ⟨ρ1, h1, e1, k, h2, e2, rfl, rfl⟩ := H d List.mem_cons_self
    unfold compL
    rw [e1]; show (τ ρ1 h1).bind _ = _
    rw [e2]; exact ih
theorem r_eqE {h : Sto} : eqB h (.lst []) (.lst []) = some true := rfl
theorem le_sz {n : Nat} (z : n ≤ 100) : n ≤ sizeLine := Nat.le_trans z (by decide)
end Sh
/-! Iv14: the shared defs on fractions, told by rational numbers. -/
namespace ShR
open Sh Iv PySem PySem.Spec PyProof.Rows L2
def ofQ (q : Rat) : Int × Int := (q.num, (q.den : Int))
/-- a fraction as it lies there -/
abbrev qD (q : Rat) : D := .tup [.int q.num, .int (q.den : Int)]
theorem red_q (p : Int) {n : Nat} (hn : n ≠ 0) : red p (n : Int) = ofQ (mkRat p n) := by
  unfold red ofQ
  rw [Rat.num_mkRat, Rat.den_mkRat, if_neg hn, if_neg hn]
  have e : Int.gcd p (n : Int) = n.gcd p.natAbs := by rw [Int.gcd_comm]; rfl
  rw [e]
  rfl
theorem add_q (a b : Rat) : addQ (ofQ a) (ofQ b) = ofQ (a + b) := by
  unfold addQ
  show red (a.num * (b.den : Int) + b.num * (a.den : Int)) ((a.den : Int) * (b.den : Int)) = _
  rw [← Int.natCast_mul, red_q _ (Nat.mul_ne_zero a.den_nz b.den_nz), Rat.add_def']
theorem sub_q (a b : Rat) : subQ (ofQ a) (ofQ b) = ofQ (a - b) := by
  unfold subQ
  show red (a.num * (b.den : Int) - b.num * (a.den : Int)) ((a.den : Int) * (b.den : Int)) = _
  rw [← Int.natCast_mul, red_q _ (Nat.mul_ne_zero a.den_nz b.den_nz), Rat.sub_def']
theorem mul_q (a b : Rat) : mulQ (ofQ a) (ofQ b) = ofQ (a * b) := by
  unfold mulQ
  show red (a.num * b.num) ((a.den : Int) * (b.den : Int)) = _
  rw [← Int.natCast_mul, red_q _ (Nat.mul_ne_zero a.den_nz b.den_nz), Rat.mul_def']
theorem ofQ_int (n : Int) : ofQ (n : Rat) = (n, 1) := rfl
/-- of a size -/
def BQ (k : Nat) (q : Rat) : Prop := q.num.natAbs ≤ 2 ^ k ∧ q.den ≤ 2 ^ k
theorem BQ.fr {k : Nat} {q : Rat} (b : BQ k q) : Fr k (ofQ q) :=
  ⟨show (0 : Int) < (q.den : Int) by have := q.den_pos; omega, b.2, b.1, q.reduced⟩
theorem Fr.bq {k : Nat} {q : Rat} (f : Fr k (ofQ q)) : BQ k q := ⟨f.2.2.1, f.2.1⟩
theorem BQ.mono {i j : Nat} {q : Rat} (b : BQ i q) (z : i ≤ j) : BQ j q := ⟨le2_mono b.1 z, le2_mono b.2 z⟩
theorem BQ.add {i j : Nat} {a b : Rat} (x : BQ i a) (y : BQ j b) : BQ (i + j + 1) (a + b) := Fr.bq (by rw [← add_q]; exact addQ_fr x.fr y.fr)
theorem BQ.sub {i j : Nat} {a b : Rat} (x : BQ i a) (y : BQ j b) : BQ (i + j + 1) (a - b) := Fr.bq (by rw [← sub_q]; exact subQ_fr x.fr y.fr)
theorem BQ.mul {i j : Nat} {a b : Rat} (x : BQ i a) (y : BQ j b) : BQ (i + j) (a * b) := Fr.bq (by rw [← mul_q]; exact mulQ_fr x.fr y.fr)
theorem BQ.zero {k : Nat} : BQ k 0 := ⟨Nat.zero_le _, Nat.one_le_two_pow⟩
theorem BQ.one {k : Nat} : BQ k 1 := ⟨Nat.one_le_two_pow, Nat.one_le_two_pow⟩
theorem BQ.int {k : Nat} {n : Int} (z : n.natAbs ≤ 2 ^ k) : BQ k (n : Rat) := ⟨z, Nat.one_le_two_pow⟩
theorem q_made {p : Int} {n : Nat} {h : Sto} (hn : n ≠ 0) (hz : Lt3 (n : Int)) : d_made [.int p, .int n] h = some (qD (mkRat p n), h) := by
  rw [sp_made (by omega) hz, red_q p hn]; rfl
theorem q_law_made {p : Int} {n : Nat} {h : Sto} (hn : n ≠ 0) (hz : Lt3 (n : Int)) : d_law_made [.int p, .int n] h = some (qD (mkRat p n), h) := by
  rw [sp_law_made (by omega) hz, red_q p hn]; rfl
section
variable {i j : Nat} {a b : Rat} {h : Sto}
theorem q_plus (x : BQ i a) (y : BQ j b) (z : i + j ≤ 2999) : d_plus [qD a, qD b] h = some (qD (a + b), h) := by
  have := sp_plus (h := h) x.fr y.fr z
  rw [add_q] at this; exact this
theorem q_law_add (x : BQ i a) (y : BQ j b) (z : i + j ≤ 2999) : d_law_add [qD a, qD b] h = some (qD (a + b), h) := by
  have := sp_law_add (h := h) x.fr y.fr z
  rw [add_q] at this; exact this
theorem q_minus (x : BQ i a) (y : BQ j b) (z : i + j ≤ 2999) : d_minus [qD a, qD b] h = some (qD (a - b), h) := by
  have := sp_minus (h := h) x.fr y.fr z
  rw [sub_q] at this; exact this
theorem q_law_sub (x : BQ i a) (y : BQ j b) (z : i + j ≤ 2999) : d_law_sub [qD a, qD b] h = some (qD (a - b), h) := by
  have := sp_law_sub (h := h) x.fr y.fr z
  rw [sub_q] at this; exact this
theorem q_times (x : BQ i a) (y : BQ j b) (z : i + j ≤ 2999) : d_times [qD a, qD b] h = some (qD (a * b), h) := by
  have := sp_times (h := h) x.fr y.fr z
  rw [mul_q] at this; exact this
theorem q_law_mul (x : BQ i a) (y : BQ j b) (z : i + j ≤ 2999) : d_law_mul [qD a, qD b] h = some (qD (a * b), h) := by
  have := sp_law_mul (h := h) x.fr y.fr z
  rw [mul_q] at this; exact this
theorem lt_q : (a.num * (b.den : Int) < b.num * (a.den : Int)) ↔ a < b := by rw [Rat.lt_iff]
theorem q_is_less (x : BQ i a) (y : BQ j b) (z : i + j ≤ 2999) : d_is_less [qD a, qD b] h = some (.bl (decide (a < b)), h) := by
  have := sp_is_less (h := h) x.fr y.fr z
  rw [show decide ((ofQ a).1 * (ofQ b).2 < (ofQ b).1 * (ofQ a).2) = decide (a < b) from decide_eq_decide.mpr lt_q] at this
  exact this
end
theorem qD_inj {a b : Rat} : qD a = qD b ↔ a = b := by
  constructor
  · intro e
    injection e with e
    injection e with e1 e2
    injection e2 with e2 _
    injection e1 with e1
    injection e2 with e2
    exact Rat.ext e1 (by omega)
  · rintro rfl; rfl
theorem r_eqQ {h : Sto} {a b : Rat} : eqB h (qD a) (qD b) = some (decide (a = b)) := by
  show (if (PyData.tuple [.int a.num, .int a.den]).plain = true ∧ (PyData.tuple [.int b.num, .int b.den]).plain = true ∧ (PyData.tuple [.int a.num, .int a.den]).depth ≤ 64 then some (PyData.eqv (.tuple [.int a.num, .int a.den]) (.tuple [.int b.num, .int b.den])) else none) = _
  rw [if_pos ⟨rfl, rfl, by show 0 + 1 ≤ 64; decide⟩]
  congr 1
  have : PyData.eqv (.tuple [.int a.num, .int a.den]) (.tuple [.int b.num, .int b.den]) = (decide (a.num = b.num) && decide ((a.den : Int) = b.den)) := by simp [PyData.eqv, PyData.eqvAll]; rfl
  rw [this]
  by_cases e : a = b
  · subst e; simp
  · rw [decide_eq_false e]
    by_cases e1 : a.num = b.num
    · have e2 : ¬ (a.den : Int) = b.den := fun z => e (Rat.ext e1 (by omega))
      rw [decide_eq_false e2, Bool.and_false]
    · rw [decide_eq_false e1, Bool.false_and]
/-- a list of fractions, summed -/
theorem sum_bq {k : Nat} : ∀ (qs : List Rat), (∀ q ∈ qs, BQ k q) → BQ ((k + 1) * qs.length) qs.sum
  | [], _ => .zero
  | q :: qs, h => by
    have := (h q List.mem_cons_self).add (sum_bq qs fun x hx => h x (List.mem_cons_of_mem _ hx))
    rw [List.sum_cons, List.length_cons, Nat.mul_succ]
    exact this.mono (by omega)
theorem take_sum {qs : List Rat} {j : Nat} {q : Rat} (e : qs[j]? = some q) : (qs.take (j + 1)).sum = (qs.take j).sum + q := by
  rw [List.take_add_one, e, List.sum_append]
  show _ + (q + 0) = _
  rw [Rat.add_zero]
theorem sum_take_bq {k : Nat} {qs : List Rat} (h : ∀ q ∈ qs, BQ k q) (j : Nat) : BQ ((k + 1) * qs.length) (qs.take j).sum :=
  (sum_bq (qs.take j) fun q hq => h q (List.mem_of_mem_take hq)).mono (Nat.mul_le_mul_left _ (by rw [List.length_take]; omega))
theorem q_summed {k : Nat} {qs : List Rat} {h : Sto} (F : ∀ q ∈ qs, BQ k q) (z : (k + 1) * qs.length + k ≤ 2999) : d_summed [.lst (qs.map qD)] h = some (qD qs.sum, h) := by
  refine Ev_eq ?_
  unfold d_summed b_summed
  simp (config := {dsimp := false}) only [↓e_pr, ↓e_some, ↓e_an, ↓e_brT, ↓e_brF, ↓e_asB, ↓e_asI, ↓e_asV, ↓e_stE, ↓e_stE0, ↓e_stL, ↓e_stL0, ↓e_sqN, ↓e_sqR, ↓e_sqB, ↓e_sqC, ↓e_afN, ↓e_afR, ↓e_afB, ↓e_afC, ↓e_rtN, ↓e_rtR, ↓e_var, ↓e_c, ↓e_op, ↓e_un, ↓e_t, ↓e_nt, ↓e_anT, ↓e_orT, ↓e_and, ↓e_or, ↓e_not, ↓e_ite, ↓e_ch, ↓e_nil, ↓e_cons, ↓e_star, ↓e_tup, ↓e_lst, ↓e_mut, ↓e_call, ↓e_isiT, ↓e_lz, ↓e_meth, ↓e_meth0, ↓e_oN, ↓e_oS, ↓e_sl, ↓e_gVar, ↓e_gSub, ↓e_gTp, ↓e_gN, ↓e_gC, ↓e_next, ↓e_seq, ↓e_drop, ↓e_ret, ↓e_retN, ↓e_brk, ↓e_cnt, ↓e_if, ↓e_asg, ↓e_as2, ↓e_as3, ↓e_par, ↓e_aug, ↓e_augS, ↓e_for, ↓e_f0, ↓e_f1, ↓e_while, ↓e_asS1, ↓e_asS2, ↓e_asS3, ↓e_iSeq, ↓e_enum, ↓e_asTI, ↓e_enumC, ↓e_rng1, ↓e_zip, ↓e_zipX, ↓e_comp, ↓e_c0, ↓e_c1, ↓e_y, ↓e_body, ↓e_addI, ↓e_addT, ↓e_addL, ↓e_subI, ↓e_iadd, ↓e_mulI, ↓e_divI, ↓e_modI, ↓e_powI, ↓e_negI, ↓e_mulT, ↓e_mulL, ↓e_cmp, ↓e_eq, ↓e_ne, ↓e_isN, ↓e_isB, ↓e_isNotN, ↓e_isNotB, ↓e_ix, ↓e_abs, ↓e_toI, ↓e_toB1, ↓e_toB0, ↓e_lenT, ↓e_lenL, ↓e_lenRo, ↓e_lenR, ↓e_tupT, ↓e_tupL, ↓e_tupR, ↓e_lstT, ↓e_lstL, ↓e_allM, ↓e_in, ↓e_notIn, ↓e_sum, ↓e_max, ↓e_par3, ↓e_pop, ↓e_frz, ↓e_frzR, ↓e_isi, ↓e_slT, ↓e_slL, ↓e_slRo, ↓e_app, ↓e_ext, ↓e_setM, r_it1, r_it2, r_it3, r_it4, r_ls2, r_ls3, r_ml2, r_ml3, r_mg0, r_mgn, r_at0, r_at1, r_at2, r_at3, r_ix0, r_ix1, r_ix2, r_ty1, r_ty2, r_ty3, r_ty4, r_ty5, r_ty6, r_ty7, r_ty8, r_sNt, r_sNi, r_sNb, r_sNs, r_sbt, r_sbi, r_sbb, r_sbs, r_sit, r_sii, r_sib, r_sis, r_sst, r_ssi, r_ssb, r_sss, r_stt, r_sti, r_stb, r_sts, r_slt, r_sli, r_slb, r_sls, r_aN, r_ab, r_ai, r_as, r_at, r_al, r_eqI, r_eqB, r_eqS, r_pu1, r_pu2, r_eqN, r_fr1, r_fx1, r_fx2, r_fx3, r_bo0, r_bo1, r_c0, r_c1, r_c2, r_c3, r_c4, r_c5, r_c6, r_c7, r_c8, r_c9, r_c10, r_c11, r_c12, r_pd0, r_pd1, r_pd2, r_wi0, r_wi1, List.set_cons_zero, List.set_cons_succ, List.getElem?_cons_zero, List.getElem?_cons_succ, ↓reduceIte, List.length_cons, List.length_nil, Nat.zero_add, Nat.reduceAdd, and_true, true_and, decide_true, decide_false, eq_self, beq_self_eq_true, Bool.true_beq, Bool.false_beq, Bool.not_true, Bool.not_false, Int.reduceEq, Int.reduceLT, Int.reduceLE, Int.reduceAdd, Int.reduceSub, Int.reduceMul, Int.reduceNeg, Bool.not_not, List.append_nil, List.nil_append, List.cons_append, z_int, z_bl, z_non, z_tup, z_lst, z_str, z_lint, z_lbl, z_lnon, z_ltup, z_llst, z_lstr, z_whole]
  refine (for_inv (fun i ρ h' => h' = h ∧ ∃ o, ρ = [some (.lst (qs.map qD)), some (qD (qs.take i).sum), o]) (qs.map qD) 0 _ _ ⟨rfl, none, rfl⟩ ?_).mono ?_
  · rintro j d ρ h' hd ⟨rfl, o, rfl⟩
    rw [List.getElem?_map] at hd
    obtain ⟨q, hq, rfl⟩ := Option.map_eq_some_iff.mp hd
    have hm := List.mem_iff_getElem?.mpr ⟨j, hq⟩
    simp (config := {dsimp := false}) only [↓e_pr, ↓e_some, ↓e_an, ↓e_brT, ↓e_brF, ↓e_asB, ↓e_asI, ↓e_asV, ↓e_stE, ↓e_stE0, ↓e_stL, ↓e_stL0, ↓e_sqN, ↓e_sqR, ↓e_sqB, ↓e_sqC, ↓e_afN, ↓e_afR, ↓e_afB, ↓e_afC, ↓e_rtN, ↓e_rtR, ↓e_var, ↓e_c, ↓e_op, ↓e_un, ↓e_t, ↓e_nt, ↓e_anT, ↓e_orT, ↓e_and, ↓e_or, ↓e_not, ↓e_ite, ↓e_ch, ↓e_nil, ↓e_cons, ↓e_star, ↓e_tup, ↓e_lst, ↓e_mut, ↓e_call, ↓e_isiT, ↓e_lz, ↓e_meth, ↓e_meth0, ↓e_oN, ↓e_oS, ↓e_sl, ↓e_gVar, ↓e_gSub, ↓e_gTp, ↓e_gN, ↓e_gC, ↓e_next, ↓e_seq, ↓e_drop, ↓e_ret, ↓e_retN, ↓e_brk, ↓e_cnt, ↓e_if, ↓e_asg, ↓e_as2, ↓e_as3, ↓e_par, ↓e_aug, ↓e_augS, ↓e_for, ↓e_f0, ↓e_f1, ↓e_while, ↓e_asS1, ↓e_asS2, ↓e_asS3, ↓e_iSeq, ↓e_enum, ↓e_asTI, ↓e_enumC, ↓e_rng1, ↓e_zip, ↓e_zipX, ↓e_comp, ↓e_c0, ↓e_c1, ↓e_y, ↓e_body, ↓e_addI, ↓e_addT, ↓e_addL, ↓e_subI, ↓e_iadd, ↓e_mulI, ↓e_divI, ↓e_modI, ↓e_powI, ↓e_negI, ↓e_mulT, ↓e_mulL, ↓e_cmp, ↓e_eq, ↓e_ne, ↓e_isN, ↓e_isB, ↓e_isNotN, ↓e_isNotB, ↓e_ix, ↓e_abs, ↓e_toI, ↓e_toB1, ↓e_toB0, ↓e_lenT, ↓e_lenL, ↓e_lenRo, ↓e_lenR, ↓e_tupT, ↓e_tupL, ↓e_tupR, ↓e_lstT, ↓e_lstL, ↓e_allM, ↓e_in, ↓e_notIn, ↓e_sum, ↓e_max, ↓e_par3, ↓e_pop, ↓e_frz, ↓e_frzR, ↓e_isi, ↓e_slT, ↓e_slL, ↓e_slRo, ↓e_app, ↓e_ext, ↓e_setM, r_it1, r_it2, r_it3, r_it4, r_ls2, r_ls3, r_ml2, r_ml3, r_mg0, r_mgn, r_at0, r_at1, r_at2, r_at3, r_ix0, r_ix1, r_ix2, r_ty1, r_ty2, r_ty3, r_ty4, r_ty5, r_ty6, r_ty7, r_ty8, r_sNt, r_sNi, r_sNb, r_sNs, r_sbt, r_sbi, r_sbb, r_sbs, r_sit, r_sii, r_sib, r_sis, r_sst, r_ssi, r_ssb, r_sss, r_stt, r_sti, r_stb, r_sts, r_slt, r_sli, r_slb, r_sls, r_aN, r_ab, r_ai, r_as, r_at, r_al, r_eqI, r_eqB, r_eqS, r_pu1, r_pu2, r_eqN, r_fr1, r_fx1, r_fx2, r_fx3, r_bo0, r_bo1, r_c0, r_c1, r_c2, r_c3, r_c4, r_c5, r_c6, r_c7, r_c8, r_c9, r_c10, r_c11, r_c12, r_pd0, r_pd1, r_pd2, r_wi0, r_wi1, List.set_cons_zero, List.set_cons_succ, List.getElem?_cons_zero, List.getElem?_cons_succ, ↓reduceIte, List.length_cons, List.length_nil, Nat.zero_add, Nat.reduceAdd, and_true, true_and, decide_true, decide_false, eq_self, beq_self_eq_true, Bool.true_beq, Bool.false_beq, Bool.not_true, Bool.not_false, Int.reduceEq, Int.reduceLT, Int.reduceLE, Int.reduceAdd, Int.reduceSub, Int.reduceMul, Int.reduceNeg, Bool.not_not, List.append_nil, List.nil_append, List.cons_append, z_int, z_bl, z_non, z_tup, z_lst, z_str, z_lint, z_lbl, z_lnon, z_ltup, z_llst, z_lstr, z_whole, q_plus (sum_take_bq F j) (F q hm) z]
    exact ⟨some (qD q), by rw [take_sum hq]⟩
  · rintro f ρ h' ⟨rfl, rfl, o, rfl⟩
    simp (config := {dsimp := false}) only [↓e_pr, ↓e_some, ↓e_an, ↓e_brT, ↓e_brF, ↓e_asB, ↓e_asI, ↓e_asV, ↓e_stE, ↓e_stE0, ↓e_stL, ↓e_stL0, ↓e_sqN, ↓e_sqR, ↓e_sqB, ↓e_sqC, ↓e_afN, ↓e_afR, ↓e_afB, ↓e_afC, ↓e_rtN, ↓e_rtR, ↓e_var, ↓e_c, ↓e_op, ↓e_un, ↓e_t, ↓e_nt, ↓e_anT, ↓e_orT, ↓e_and, ↓e_or, ↓e_not, ↓e_ite, ↓e_ch, ↓e_nil, ↓e_cons, ↓e_star, ↓e_tup, ↓e_lst, ↓e_mut, ↓e_call, ↓e_isiT, ↓e_lz, ↓e_meth, ↓e_meth0, ↓e_oN, ↓e_oS, ↓e_sl, ↓e_gVar, ↓e_gSub, ↓e_gTp, ↓e_gN, ↓e_gC, ↓e_next, ↓e_seq, ↓e_drop, ↓e_ret, ↓e_retN, ↓e_brk, ↓e_cnt, ↓e_if, ↓e_asg, ↓e_as2, ↓e_as3, ↓e_par, ↓e_aug, ↓e_augS, ↓e_for, ↓e_f0, ↓e_f1, ↓e_while, ↓e_asS1, ↓e_asS2, ↓e_asS3, ↓e_iSeq, ↓e_enum, ↓e_asTI, ↓e_enumC, ↓e_rng1, ↓e_zip, ↓e_zipX, ↓e_comp, ↓e_c0, ↓e_c1, ↓e_y, ↓e_body, ↓e_addI, ↓e_addT, ↓e_addL, ↓e_subI, ↓e_iadd, ↓e_mulI, ↓e_divI, ↓e_modI, ↓e_powI, ↓e_negI, ↓e_mulT, ↓e_mulL, ↓e_cmp, ↓e_eq, ↓e_ne, ↓e_isN, ↓e_isB, ↓e_isNotN, ↓e_isNotB, ↓e_ix, ↓e_abs, ↓e_toI, ↓e_toB1, ↓e_toB0, ↓e_lenT, ↓e_lenL, ↓e_lenRo, ↓e_lenR, ↓e_tupT, ↓e_tupL, ↓e_tupR, ↓e_lstT, ↓e_lstL, ↓e_allM, ↓e_in, ↓e_notIn, ↓e_sum, ↓e_max, ↓e_par3, ↓e_pop, ↓e_frz, ↓e_frzR, ↓e_isi, ↓e_slT, ↓e_slL, ↓e_slRo, ↓e_app, ↓e_ext, ↓e_setM, r_it1, r_it2, r_it3, r_it4, r_ls2, r_ls3, r_ml2, r_ml3, r_mg0, r_mgn, r_at0, r_at1, r_at2, r_at3, r_ix0, r_ix1, r_ix2, r_ty1, r_ty2, r_ty3, r_ty4, r_ty5, r_ty6, r_ty7, r_ty8, r_sNt, r_sNi, r_sNb, r_sNs, r_sbt, r_sbi, r_sbb, r_sbs, r_sit, r_sii, r_sib, r_sis, r_sst, r_ssi, r_ssb, r_sss, r_stt, r_sti, r_stb, r_sts, r_slt, r_sli, r_slb, r_sls, r_aN, r_ab, r_ai, r_as, r_at, r_al, r_eqI, r_eqB, r_eqS, r_pu1, r_pu2, r_eqN, r_fr1, r_fx1, r_fx2, r_fx3, r_bo0, r_bo1, r_c0, r_c1, r_c2, r_c3, r_c4, r_c5, r_c6, r_c7, r_c8, r_c9, r_c10, r_c11, r_c12, r_pd0, r_pd1, r_pd2, r_wi0, r_wi1, List.set_cons_zero, List.set_cons_succ, List.getElem?_cons_zero, List.getElem?_cons_succ, ↓reduceIte, List.length_cons, List.length_nil, Nat.zero_add, Nat.reduceAdd, and_true, true_and, decide_true, decide_false, eq_self, beq_self_eq_true, Bool.true_beq, Bool.false_beq, Bool.not_true, Bool.not_false, Int.reduceEq, Int.reduceLT, Int.reduceLE, Int.reduceAdd, Int.reduceSub, Int.reduceMul, Int.reduceNeg, Bool.not_not, List.append_nil, List.nil_append, List.cons_append, z_int, z_bl, z_non, z_tup, z_lst, z_str, z_lint, z_lbl, z_lnon, z_ltup, z_llst, z_lstr, z_whole]
    rw [List.length_map, List.take_length]
end ShR
namespace K19
open Sh
open PySem PySem.Spec PyProof.Rows L2 Iv
def topS (i : Nat) : Stmt := PySem.Challenge.pw_spendtold_k19_annotations_summed_covered.main.body.getD i (.Pass ⟨0, 0, 0, 0⟩)
/-! ### common -/
abbrev s_common : Stmt := topS 2
def n_common : List Str := ["one", "other"]
theorem sc_common : FnScope n_common ["one", "other"] (defScope s_common) := ⟨rfl, rfl, rfl, by decide +kernel, rfl, by decide +kernel, by decide +kernel⟩
theorem h_common {P : Program} {w : World} {K : PySem.W.Frag} {mg : Str → Option Value} {base : Heap} {f : Addr} {fd : FuncData} (F : Fun K "common" "common" s_common f fd) (hm : mg "common" = some (.ref f)) : Has P w K mg base 1 "common" 2 d_common :=
  has_of (k := 0) F hm sc_common (F.binds fun _ _ _ _ _ _ us hl => match us, hl with | [_, _], _ => rfl) fun cdv A outer s H hr gd =>
  (b_cons (b_while fuel PassesOwn.never (t_cmp (o_ne hr.units) (v_var 1) v_int) (b_one (b_par 0 1 rfl sc_common.nd (a_cons (v_var 1) (a_cons (v_op o_mod (v_var 0) (v_var 1)) a_nil))))) (b_one (b_ret (v_var 0))))
/-! ### is_less -/
abbrev s_is_less : Stmt := topS 8
def n_is_less : List Str := ["one", "other"]
theorem sc_is_less : FnScope n_is_less ["one", "other"] (defScope s_is_less) := ⟨rfl, rfl, rfl, by decide +kernel, rfl, by decide +kernel, by decide +kernel⟩
theorem h_is_less {P : Program} {w : World} {K : PySem.W.Frag} {mg : Str → Option Value} {base : Heap} {f : Addr} {fd : FuncData} (F : Fun K "is_less" "is_less" s_is_less f fd) (hm : mg "is_less" = some (.ref f)) : Has P w K mg base 1 "is_less" 2 d_is_less :=
  has_of (k := 0) F hm sc_is_less (F.binds fun _ _ _ _ _ _ us hl => match us, hl with | [_, _], _ => rfl) fun cdv A outer s H hr gd =>
  (b_one (b_ret (v_cmp o_lt (v_op o_mul (v_ix i_ix (v_var 0) v_int) (v_ix i_ix (v_var 1) v_int)) (v_op o_mul (v_ix i_ix (v_var 1) v_int) (v_ix i_ix (v_var 0) v_int)))))
/-! ### whole -/
abbrev s_whole : Stmt := topS 10
def n_whole : List Str := ["number"]
theorem sc_whole : FnScope n_whole ["number"] (defScope s_whole) := ⟨rfl, rfl, rfl, by decide +kernel, rfl, by decide +kernel, by decide +kernel⟩
theorem h_whole {P : Program} {w : World} {K : PySem.W.Frag} {mg : Str → Option Value} {base : Heap} {f : Addr} {fd : FuncData} (F : Fun K "whole" "whole" s_whole f fd) (hm : mg "whole" = some (.ref f)) : Has P w K mg base 1 "whole" 1 d_whole :=
  has_of (k := 0) F hm sc_whole (F.binds fun _ _ _ _ _ _ us hl => match us, hl with | [_], _ => rfl) fun cdv A outer s H hr gd =>
  (b_one (b_ret (v_tup (a_cons (v_var 0) (a_cons v_int a_nil)))))
/-! ### choose -/
abbrev s_choose : Stmt := topS 11
def n_choose : List Str := ["many", "some", "found", "turn"]
theorem sc_choose : FnScope n_choose ["many", "some"] (defScope s_choose) := ⟨rfl, rfl, rfl, by decide +kernel, rfl, by decide +kernel, by decide +kernel⟩
def b_choose : DenS := (sSeq (sIf (dNotT (dT (dChain leD leD (dC (D.int 0)) (dVar 1) (dVar 0)))) (sRet (dC (D.int 0))) sNext) (sSeq (sAsg (dC (D.int 1)) (gVar 2)) (sSeq (sFor (iRng1 (dVar 1)) (gVar 3) (sAsg (dOp fdivD (dOp mulD (dVar 2) (dOp subD (dVar 0) (dVar 3))) (dOp addD (dVar 3) (dC (D.int 1)))) (gVar 2))) (sRet (dVar 2)))))
def d_choose : Fun1 := bodyF 4 b_choose
theorem h_choose {P : Program} {w : World} {K : PySem.W.Frag} {mg : Str → Option Value} {base : Heap} {f : Addr} {fd : FuncData} (F : Fun K "choose" "choose" s_choose f fd) (hm : mg "choose" = some (.ref f)) (m_range : mg "range" = none) : Has P w K mg base 1 "choose" 2 d_choose :=
  has_of (k := 0) F hm sc_choose (F.binds fun _ _ _ _ _ _ us hl => match us, hl with | [_, _], _ => rfl) fun cdv A outer s H hr gd =>
  (b_cons (b_if (t_not (t_chain o_le o_le v_int (v_var 1) (v_var 0))) (b_one (b_ret v_int)) b_nil) (b_cons (b_set 2 sc_choose.nd v_int) (b_cons (b_for [3] PassesOwn.never rfl (p_rng1 m_range (v_var 1)) (g_name 3 sc_choose.nd (by decide)) (b_one (b_set 2 sc_choose.nd (v_op o_fdiv (v_op o_mul (v_var 2) (v_op o_sub (v_var 0) (v_var 3))) (v_op o_add (v_var 3) v_int))))) (b_one (b_ret (v_var 2))))))
/-! ### nodes_of -/
abbrev s_nodes_of : Stmt := topS 18
def n_nodes_of : List Str := ["tree", "line", "found", "one", "depth"]
theorem sc_nodes_of : FnScope n_nodes_of ["tree"] (defScope s_nodes_of) := ⟨rfl, rfl, rfl, by decide +kernel, rfl, by decide +kernel, by decide +kernel⟩
def b_nodes_of : DenS := (sSeq (sPar 1 2 (lCons (dMut (lCons (dTup (lCons (dVar 0) (lCons (dC (D.int 0)) lNil))) lNil)) (lCons (dMut lNil) lNil))) (sSeq (sWhile fuel (dT (dOp neD (dVar 1) (dLst lNil))) (sSeq (sAsg (dMeth0 popM (dVar 1)) (gTp 2 (gC (gVar 3) (gC (gVar 4) gN)))) (sIf (dT (dOp eqD (dCall lenF (lCons (dVar 3) lNil)) (dC (D.int 3)))) (sSeq (sDrop (dMeth appendM (dVar 2) (lCons (dTup (lCons (dOp ixD (dVar 3) (dC (D.int 1))) (lCons (dVar 4) lNil))) lNil))) (sDrop (dMeth extendM (dVar 1) (lCons (dLst (lCons (dTup (lCons (dOp ixD (dVar 3) (dC (D.int 2))) (lCons (dOp addD (dVar 4) (dC (D.int 1))) lNil))) (lCons (dTup (lCons (dOp ixD (dVar 3) (dC (D.int 0))) (lCons (dOp addD (dVar 4) (dC (D.int 1))) lNil))) lNil))) lNil)))) sNext))) (sRet (dFrz (dVar 2)))))
def d_nodes_of : Fun1 := bodyF 5 b_nodes_of
theorem h_nodes_of {P : Program} {w : World} {K : PySem.W.Frag} {mg : Str → Option Value} {base : Heap} {f : Addr} {fd : FuncData} (F : Fun K "nodes_of" "nodes_of" s_nodes_of f fd) (hm : mg "nodes_of" = some (.ref f)) (k_NODE : IsC K mg "NODE" (D.int 3)) (m_len : mg "len" = none) : Has P w K mg base 1 "nodes_of" 1 d_nodes_of :=
  has_of (k := 0) F hm sc_nodes_of (F.binds fun _ _ _ _ _ _ us hl => match us, hl with | [_], _ => rfl) fun cdv A outer s H hr gd =>
  (b_cons (b_par 1 2 rfl sc_nodes_of.nd (a_cons (v_mut (a_cons (v_tup (a_cons (v_var 0) (a_cons v_int a_nil))) a_nil)) (a_cons (v_mut a_nil) a_nil))) (b_cons (b_while fuel PassesOwn.never (t_cmp (o_ne hr.units) (v_var 1) (v_lst a_nil)) (b_cons (b_asg [3, 4] (v_meth0 PySem.F.slot_list_pop PySem.F.type_list_pop m_pop (v_var 1)) (g_tup rfl (g_cons (g_name 3 sc_nodes_of.nd (by decide)) (g_cons (g_name 4 sc_nodes_of.nd (by decide)) g_nil)))) (b_one (b_if (t_cmp (o_eq hr.units) (v_callB c_len m_len (by decide +kernel) (a_cons (v_var 3) a_nil)) (v_glob k_NODE)) (b_cons (b_expr (v_meth PySem.F.slot_list_append PySem.F.type_list_append m_append (v_var 2) (a_cons (v_tup (a_cons (v_ix i_ix (v_var 3) v_int) (a_cons (v_var 4) a_nil))) a_nil))) (b_one (b_expr (v_meth PySem.F.slot_list_extend PySem.F.type_list_extend m_extend (v_var 1) (a_cons (v_lst (a_cons (v_tup (a_cons (v_ix i_ix (v_var 3) v_int) (a_cons (v_op o_add (v_var 4) v_int) a_nil))) (a_cons (v_tup (a_cons (v_ix i_ix (v_var 3) v_int) (a_cons (v_op o_add (v_var 4) v_int) a_nil))) a_nil))) a_nil))))) b_nil)))) (b_one (b_ret (v_frz (v_var 2))))))
/-! ### _law_bag -/
abbrev s_law_bag : Stmt := topS 29
def n_law_bag : List Str := ["script", "cell"]
theorem sc_law_bag : FnScope n_law_bag ["script"] (defScope s_law_bag) := ⟨rfl, rfl, rfl, by decide +kernel, rfl, by decide +kernel, by decide +kernel⟩
theorem h_law_bag {P : Program} {w : World} {K : PySem.W.Frag} {mg : Str → Option Value} {base : Heap} {f : Addr} {fd : FuncData} (F : Fun K "_law_bag" "_law_bag" s_law_bag f fd) (hm : mg "_law_bag" = some (.ref f)) (m_abs : mg "abs" = none) : Has P w K mg base 1 "_law_bag" 1 d_law_bag :=
  has_of (k := 0) F hm sc_law_bag (F.binds fun _ _ _ _ _ _ us hl => match us, hl with | [_], _ => rfl) fun cdv A outer s H hr gd =>
  (b_one (b_ret (v_mut (a_cons v_int (a_cons v_int (a_cons v_int (a_cons (v_comp (own := [("cell", 1)]) rfl sc_law_bag.nd (p_seq (v_slice s_sl (v_var 0) o_none (o_some v_int))) (blkOk_by (N := n_law_bag) (sc := defScope s_law_bag) (by decide +kernel)) (fun _ _ _ _ _ => (g_name 1 sc_law_bag.nd (by decide))) (fun _ _ _ _ _ => ts_nil) (fun _ _ _ _ _ => (v_callB c_abs m_abs (by decide +kernel) (a_cons (v_var 1) a_nil)))) a_nil)))))))
/-! ### _law_take -/
abbrev s_law_take : Stmt := topS 30
def n_law_take : List Str := ["bag", "many", "begin", "second", "cell", "stirred", "value"]
theorem sc_law_take : FnScope n_law_take ["bag", "many"] (defScope s_law_take) := ⟨rfl, rfl, rfl, by decide +kernel, rfl, by decide +kernel, by decide +kernel⟩
theorem h_law_take {P : Program} {w : World} {K : PySem.W.Frag} {mg : Str → Option Value} {base : Heap} {f : Addr} {fd : FuncData} (F : Fun K "_law_take" "_law_take" s_law_take f fd) (hm : mg "_law_take" = some (.ref f)) (m_int : mg "int" = none) : Has P w K mg base 1 "_law_take" 2 d_law_take :=
  has_of (k := 0) F hm sc_law_take (F.binds fun _ _ _ _ _ _ us hl => match us, hl with | [_, _], _ => rfl) fun cdv A outer s H hr gd =>
  (b_cons (b_if (t_cmp (o_eq hr.units) (v_ix i_ix (v_var 0) v_int) v_int) (b_cons (b_set 4 sc_law_take.nd (v_ix i_ix (v_op o_add (v_slice s_sl (v_ix i_ix (v_var 0) v_int) (o_some (v_ix i_ix (v_var 0) v_int)) o_none) (v_lst (a_cons v_int a_nil))) v_int)) (b_cons (b_augS (v_var 0) v_int ip_iadd v_int) (b_cons (b_if (t_cmp o_ge (v_var 4) (v_op o_pow v_int v_int)) (b_one (b_asg [] (v_var 4) (g_sub (v_var 0) v_int))) b_nil) (b_cons (b_set 5 sc_law_take.nd (v_op o_add (v_op o_add (v_op o_mul (v_ix i_ix (v_var 0) v_int) v_int) (v_op o_mod (v_callT c_int m_int (by decide +kernel) (a_cons (v_var 4) a_nil)) v_int)) (v_op o_mul v_int (v_ix i_ix (v_var 0) v_int)))) (b_one (b_asg [] (v_op o_mod (v_callT c_int m_int (by decide +kernel) (a_cons (v_var 5) a_nil)) v_int) (g_sub (v_var 0) v_int))))))) b_nil) (b_cons (b_if (t_cmp o_gt (v_ix i_ix (v_var 0) v_int) v_int) (b_cons (b_set 6 sc_law_take.nd (v_op o_mod (v_callT c_int m_int (by decide +kernel) (a_cons (v_ix i_ix (v_var 0) v_int) a_nil)) (v_var 1))) (b_cons (b_asg [] (v_op o_fdiv (v_callT c_int m_int (by decide +kernel) (a_cons (v_ix i_ix (v_var 0) v_int) a_nil)) (v_var 1)) (g_sub (v_var 0) v_int)) (b_one (b_ret (v_var 6))))) b_nil) (b_cons (b_set 2 sc_law_take.nd (v_op o_mod (v_callT c_int m_int (by decide +kernel) (a_cons (v_op o_mul (v_op o_add (v_ix i_ix (v_var 0) v_int) v_int) v_int) a_nil)) v_int)) (b_cons (b_set 3 sc_law_take.nd (v_op o_mod (v_callT c_int m_int (by decide +kernel) (a_cons (v_op o_mul (v_op o_mod (v_callT c_int m_int (by decide +kernel) (a_cons (v_op o_mul (v_var 2) (v_var 2)) a_nil)) v_int) v_int) a_nil)) v_int)) (b_one (b_ret (v_op o_mod (v_callT c_int m_int (by decide +kernel) (a_cons (v_op o_fdiv (v_var 3) v_int) a_nil)) (v_var 1))))))))
/-! ### _law_made -/
abbrev s_law_made : Stmt := topS 33
def n_law_made : List Str := ["over", "under", "one", "other"]
theorem sc_law_made : FnScope n_law_made ["over", "under"] (defScope s_law_made) := ⟨rfl, rfl, rfl, by decide +kernel, rfl, by decide +kernel, by decide +kernel⟩
theorem h_law_made {P : Program} {w : World} {K : PySem.W.Frag} {mg : Str → Option Value} {base : Heap} {f : Addr} {fd : FuncData} (F : Fun K "_law_made" "_law_made" s_law_made f fd) (hm : mg "_law_made" = some (.ref f)) (m_abs : mg "abs" = none) (m_int : mg "int" = none) : Has P w K mg base 1 "_law_made" 2 d_law_made :=
  has_of (k := 0) F hm sc_law_made (F.binds fun _ _ _ _ _ _ us hl => match us, hl with | [_, _], _ => rfl) fun cdv A outer s H hr gd =>
  (b_cons (b_par 2 3 rfl sc_law_made.nd (a_cons (v_callB c_abs m_abs (by decide +kernel) (a_cons (v_var 0) a_nil)) (a_cons (v_callB c_abs m_abs (by decide +kernel) (a_cons (v_var 1) a_nil)) a_nil))) (b_cons (b_while fuel PassesOwn.never (t_cmp o_gt (v_var 3) v_int) (b_one (b_par 2 3 rfl sc_law_made.nd (a_cons (v_var 3) (a_cons (v_op o_mod (v_callT c_int m_int (by decide +kernel) (a_cons (v_var 2) a_nil)) (v_var 3)) a_nil))))) (b_cons (b_set 2 sc_law_made.nd (v_if (t_cmp o_gt (v_var 1) v_int) (v_var 2) (v_neg (v_var 2)))) (b_one (b_ret (v_tup (a_cons (v_op o_fdiv (v_callT c_int m_int (by decide +kernel) (a_cons (v_var 0) a_nil)) (v_var 2)) (a_cons (v_op o_fdiv (v_callT c_int m_int (by decide +kernel) (a_cons (v_var 1) a_nil)) (v_var 2)) a_nil))))))))
/-! ### _law_is_int -/
abbrev s_law_is_int : Stmt := topS 40
def n_law_is_int : List Str := ["thing"]
theorem sc_law_is_int : FnScope n_law_is_int ["thing"] (defScope s_law_is_int) := ⟨rfl, rfl, rfl, by decide +kernel, rfl, by decide +kernel, by decide +kernel⟩
theorem h_law_is_int {P : Program} {w : World} {K : PySem.W.Frag} {mg : Str → Option Value} {base : Heap} {f : Addr} {fd : FuncData} (F : Fun K "_law_is_int" "_law_is_int" s_law_is_int f fd) (hm : mg "_law_is_int" = some (.ref f)) (m_int : mg "int" = none) (m_isinstance : mg "isinstance" = none) (m_bool : mg "bool" = none) : Has P w K mg base 1 "_law_is_int" 1 d_law_is_int :=
  has_of (k := 0) F hm sc_law_is_int (F.binds fun _ _ _ _ _ _ us hl => match us, hl with | [_], _ => rfl) fun cdv A outer s H hr gd =>
  (b_one (b_ret (v_and (v_callB c_isi m_isinstance (by decide +kernel) (a_cons (v_var 0) (a_cons (v_ty m_int (by decide +kernel)) a_nil))) (v_one (v_not (v_callB c_isi m_isinstance (by decide +kernel) (a_cons (v_var 0) (a_cons (v_ty m_bool (by decide +kernel)) a_nil))))))))
/-! ### _law_alike -/
abbrev s_law_alike : Stmt := topS 42
def n_law_alike : List Str := ["found", "due", "pairs", "at", "one", "other"]
theorem sc_law_alike : FnScope n_law_alike ["found", "due"] (defScope s_law_alike) := ⟨rfl, rfl, rfl, by decide +kernel, rfl, by decide +kernel, by decide +kernel⟩
theorem h_law_alike {P : Program} {w : World} {K : PySem.W.Frag} {mg : Str → Option Value} {base : Heap} {f : Addr} {fd : FuncData} (F : Fun K "_law_alike" "_law_alike" s_law_alike f fd) (hm : mg "_law_alike" = some (.ref f)) (m_len : mg "len" = none) (m_bool : mg "bool" = none) (m_isinstance : mg "isinstance" = none) (m_str : mg "str" = none) (m_list : mg "list" = none) (m_tuple : mg "tuple" = none) (m_zip : mg "zip" = none) : Has P w K mg base 1 "_law_alike" 2 d_law_alike :=
  has_of (k := 0) F hm sc_law_alike (F.binds fun _ _ _ _ _ _ us hl => match us, hl with | [_, _], _ => rfl) fun cdv A outer s H hr gd =>
  (b_cons (b_par 2 3 rfl sc_law_alike.nd (a_cons (v_mut (a_cons (v_tup (a_cons (v_var 0) (a_cons (v_var 1) a_nil))) a_nil)) (a_cons v_int a_nil))) (b_cons (b_while fuel PassesOwn.never (t_cmp o_lt (v_var 3) (v_callB c_len m_len (by decide +kernel) (a_cons (v_var 2) a_nil))) (b_cons (b_asg [4, 5] (v_ix i_ix (v_var 2) (v_var 3)) (g_tup rfl (g_cons (g_name 4 sc_law_alike.nd (by decide)) (g_cons (g_name 5 sc_law_alike.nd (by decide)) g_nil)))) (b_cons (b_aug 3 sc_law_alike.nd ip_iadd v_int) (b_cons (b_if (t_w (w_or (t_cmp (o_ne hr.units) (v_callB c_isi m_isinstance (by decide +kernel) (a_cons (v_var 4) (a_cons (v_ty m_bool (by decide +kernel)) a_nil))) (v_callB c_isi m_isinstance (by decide +kernel) (a_cons (v_var 5) (a_cons (v_ty m_bool (by decide +kernel)) a_nil)))) (w_or1 (t_cmp (o_ne hr.units) (v_callB c_isi m_isinstance (by decide +kernel) (a_cons (v_var 4) (a_cons (v_ty m_str (by decide +kernel)) a_nil))) (v_callB c_isi m_isinstance (by decide +kernel) (a_cons (v_var 5) (a_cons (v_ty m_str (by decide +kernel)) a_nil))))))) (b_one (b_ret v_bl)) b_nil) (b_cons (b_if (t_cmp (o_ne hr.units) (v_isiT m_isinstance (v_var 4) (tys_cons (tys_cons tys_nil m_list (by decide +kernel)) m_tuple (by decide +kernel))) (v_isiT m_isinstance (v_var 5) (tys_cons (tys_cons tys_nil m_list (by decide +kernel)) m_tuple (by decide +kernel)))) (b_one (b_ret v_bl)) b_nil) (b_one (b_if (t_val (v_isiT m_isinstance (v_var 4) (tys_cons (tys_cons tys_nil m_list (by decide +kernel)) m_tuple (by decide +kernel)))) (b_cons (b_if (t_w (w_or (t_cmp (o_ne hr.units) (v_callB c_isi m_isinstance (by decide +kernel) (a_cons (v_var 4) (a_cons (v_ty m_tuple (by decide +kernel)) a_nil))) (v_callB c_isi m_isinstance (by decide +kernel) (a_cons (v_var 5) (a_cons (v_ty m_tuple (by decide +kernel)) a_nil)))) (w_or1 (t_cmp (o_ne hr.units) (v_callB c_len m_len (by decide +kernel) (a_cons (v_var 4) a_nil)) (v_callB c_len m_len (by decide +kernel) (a_cons (v_var 5) a_nil)))))) (b_one (b_ret v_bl)) b_nil) (b_one (b_expr (v_meth PySem.F.slot_list_extend PySem.F.type_list_extend m_extend (v_var 2) (a_cons (v_listZip m_list m_zip (v_var 4) (v_var 5)) a_nil))))) (b_one (b_if (t_cmp (o_ne hr.units) (v_var 4) (v_var 5)) (b_one (b_ret v_bl)) b_nil))))))))) (b_one (b_ret v_bl))))
/-! ### _law_less -/
abbrev s_law_less : Stmt := topS 43
def n_law_less : List Str := ["one", "other"]
theorem sc_law_less : FnScope n_law_less ["one", "other"] (defScope s_law_less) := ⟨rfl, rfl, rfl, by decide +kernel, rfl, by decide +kernel, by decide +kernel⟩
def b_law_less : DenS := (sRet (dOp ltD (dOp mulD (dOp ixD (dVar 0) (dC (D.int 0))) (dOp ixD (dVar 1) (dC (D.int 1)))) (dOp mulD (dOp ixD (dVar 1) (dC (D.int 0))) (dOp ixD (dVar 0) (dC (D.int 1))))))
def d_law_less : Fun1 := bodyF 2 b_law_less
theorem h_law_less {P : Program} {w : World} {K : PySem.W.Frag} {mg : Str → Option Value} {base : Heap} {f : Addr} {fd : FuncData} (F : Fun K "_law_less" "_law_less" s_law_less f fd) (hm : mg "_law_less" = some (.ref f)) : Has P w K mg base 1 "_law_less" 2 d_law_less :=
  has_of (k := 0) F hm sc_law_less (F.binds fun _ _ _ _ _ _ us hl => match us, hl with | [_, _], _ => rfl) fun cdv A outer s H hr gd =>
  (b_one (b_ret (v_cmp o_lt (v_op o_mul (v_ix i_ix (v_var 0) v_int) (v_ix i_ix (v_var 1) v_int)) (v_op o_mul (v_ix i_ix (v_var 1) v_int) (v_ix i_ix (v_var 0) v_int)))))
/-! ### made -/
abbrev s_made : Stmt := topS 5
def n_made : List Str := ["over", "under", "part"]
theorem sc_made : FnScope n_made ["over", "under"] (defScope s_made) := ⟨rfl, rfl, rfl, by decide +kernel, rfl, by decide +kernel, by decide +kernel⟩
theorem h_made {P : Program} {w : World} {K : PySem.W.Frag} {mg : Str → Option Value} {base : Heap} {f : Addr} {fd : FuncData} (F : Fun K "made" "made" s_made f fd) (hm : mg "made" = some (.ref f)) (G_common : Has P w K mg base 1 "common" 2 d_common) (m_abs : mg "abs" = none) : Has P w K mg base 2 "made" 2 d_made :=
  has_of (k := 1) F hm sc_made (F.binds fun _ _ _ _ _ _ us hl => match us, hl with | [_, _], _ => rfl) fun cdv A outer s H hr gd =>
  (b_cons (b_if (t_cmp o_lt (v_var 1) v_int) (b_one (b_par 0 1 rfl sc_made.nd (a_cons (v_op o_sub v_int (v_var 0)) (a_cons (v_op o_sub v_int (v_var 1)) a_nil)))) b_nil) (b_cons (b_set 2 sc_made.nd (v_call G_common gd (hr.mono (by decide)) (a_cons (v_callB c_abs m_abs (by decide +kernel) (a_cons (v_var 0) a_nil)) (a_cons (v_var 1) a_nil)) rfl (len_cons (len_cons len_nil)))) (b_one (b_ret (v_tup (a_cons (v_op o_fdiv (v_var 0) (v_var 2)) (a_cons (v_op o_fdiv (v_var 1) (v_var 2)) a_nil)))))))
/-! ### _law_some -/
abbrev s_law_some : Stmt := topS 31
def n_law_some : List Str := ["bag", "things"]
theorem sc_law_some : FnScope n_law_some ["bag", "things"] (defScope s_law_some) := ⟨rfl, rfl, rfl, by decide +kernel, rfl, by decide +kernel, by decide +kernel⟩
theorem h_law_some {P : Program} {w : World} {K : PySem.W.Frag} {mg : Str → Option Value} {base : Heap} {f : Addr} {fd : FuncData} (F : Fun K "_law_some" "_law_some" s_law_some f fd) (hm : mg "_law_some" = some (.ref f)) (G_law_take : Has P w K mg base 1 "_law_take" 2 d_law_take) (m_len : mg "len" = none) : Has P w K mg base 2 "_law_some" 2 d_law_some :=
  has_of (k := 1) F hm sc_law_some (F.binds fun _ _ _ _ _ _ us hl => match us, hl with | [_, _], _ => rfl) fun cdv A outer s H hr gd =>
  (b_one (b_ret (v_ix i_ix (v_var 1) (v_call G_law_take gd (hr.mono (by decide)) (a_cons (v_var 0) (a_cons (v_callB c_len m_len (by decide +kernel) (a_cons (v_var 1) a_nil)) a_nil)) rfl (len_cons (len_cons len_nil))))))
/-! ### _law_add -/
abbrev s_law_add : Stmt := topS 36
def n_law_add : List Str := ["one", "other"]
theorem sc_law_add : FnScope n_law_add ["one", "other"] (defScope s_law_add) := ⟨rfl, rfl, rfl, by decide +kernel, rfl, by decide +kernel, by decide +kernel⟩
theorem h_law_add {P : Program} {w : World} {K : PySem.W.Frag} {mg : Str → Option Value} {base : Heap} {f : Addr} {fd : FuncData} (F : Fun K "_law_add" "_law_add" s_law_add f fd) (hm : mg "_law_add" = some (.ref f)) (G_law_made : Has P w K mg base 1 "_law_made" 2 d_law_made) : Has P w K mg base 2 "_law_add" 2 d_law_add :=
  has_of (k := 1) F hm sc_law_add (F.binds fun _ _ _ _ _ _ us hl => match us, hl with | [_, _], _ => rfl) fun cdv A outer s H hr gd =>
  (b_one (b_ret (v_call G_law_made gd (hr.mono (by decide)) (a_cons (v_op o_add (v_op o_mul (v_ix i_ix (v_var 0) v_int) (v_ix i_ix (v_var 1) v_int)) (v_op o_mul (v_ix i_ix (v_var 1) v_int) (v_ix i_ix (v_var 0) v_int))) (a_cons (v_op o_mul (v_ix i_ix (v_var 0) v_int) (v_ix i_ix (v_var 1) v_int)) a_nil)) rfl (len_cons (len_cons len_nil)))))
/-! ### _law_mul -/
abbrev s_law_mul : Stmt := topS 38
def n_law_mul : List Str := ["one", "other"]
theorem sc_law_mul : FnScope n_law_mul ["one", "other"] (defScope s_law_mul) := ⟨rfl, rfl, rfl, by decide +kernel, rfl, by decide +kernel, by decide +kernel⟩
theorem h_law_mul {P : Program} {w : World} {K : PySem.W.Frag} {mg : Str → Option Value} {base : Heap} {f : Addr} {fd : FuncData} (F : Fun K "_law_mul" "_law_mul" s_law_mul f fd) (hm : mg "_law_mul" = some (.ref f)) (G_law_made : Has P w K mg base 1 "_law_made" 2 d_law_made) : Has P w K mg base 2 "_law_mul" 2 d_law_mul :=
  has_of (k := 1) F hm sc_law_mul (F.binds fun _ _ _ _ _ _ us hl => match us, hl with | [_, _], _ => rfl) fun cdv A outer s H hr gd =>
  (b_one (b_ret (v_call G_law_made gd (hr.mono (by decide)) (a_cons (v_op o_mul (v_ix i_ix (v_var 0) v_int) (v_ix i_ix (v_var 1) v_int)) (a_cons (v_op o_mul (v_ix i_ix (v_var 0) v_int) (v_ix i_ix (v_var 1) v_int)) a_nil)) rfl (len_cons (len_cons len_nil)))))
/-! ### plus -/
abbrev s_plus : Stmt := topS 6
def n_plus : List Str := ["one", "other"]
theorem sc_plus : FnScope n_plus ["one", "other"] (defScope s_plus) := ⟨rfl, rfl, rfl, by decide +kernel, rfl, by decide +kernel, by decide +kernel⟩
theorem h_plus {P : Program} {w : World} {K : PySem.W.Frag} {mg : Str → Option Value} {base : Heap} {f : Addr} {fd : FuncData} (F : Fun K "plus" "plus" s_plus f fd) (hm : mg "plus" = some (.ref f)) (G_made : Has P w K mg base 2 "made" 2 d_made) : Has P w K mg base 3 "plus" 2 d_plus :=
  has_of (k := 2) F hm sc_plus (F.binds fun _ _ _ _ _ _ us hl => match us, hl with | [_, _], _ => rfl) fun cdv A outer s H hr gd =>
  (b_one (b_ret (v_call G_made gd (hr.mono (by decide)) (a_cons (v_op o_add (v_op o_mul (v_ix i_ix (v_var 0) v_int) (v_ix i_ix (v_var 1) v_int)) (v_op o_mul (v_ix i_ix (v_var 1) v_int) (v_ix i_ix (v_var 0) v_int))) (a_cons (v_op o_mul (v_ix i_ix (v_var 0) v_int) (v_ix i_ix (v_var 1) v_int)) a_nil)) rfl (len_cons (len_cons len_nil)))))
/-! ### times -/
abbrev s_times : Stmt := topS 7
def n_times : List Str := ["one", "other"]
theorem sc_times : FnScope n_times ["one", "other"] (defScope s_times) := ⟨rfl, rfl, rfl, by decide +kernel, rfl, by decide +kernel, by decide +kernel⟩
theorem h_times {P : Program} {w : World} {K : PySem.W.Frag} {mg : Str → Option Value} {base : Heap} {f : Addr} {fd : FuncData} (F : Fun K "times" "times" s_times f fd) (hm : mg "times" = some (.ref f)) (G_made : Has P w K mg base 2 "made" 2 d_made) : Has P w K mg base 3 "times" 2 d_times :=
  has_of (k := 2) F hm sc_times (F.binds fun _ _ _ _ _ _ us hl => match us, hl with | [_, _], _ => rfl) fun cdv A outer s H hr gd =>
  (b_one (b_ret (v_call G_made gd (hr.mono (by decide)) (a_cons (v_op o_mul (v_ix i_ix (v_var 0) v_int) (v_ix i_ix (v_var 1) v_int)) (a_cons (v_op o_mul (v_ix i_ix (v_var 0) v_int) (v_ix i_ix (v_var 1) v_int)) a_nil)) rfl (len_cons (len_cons len_nil)))))
/-! ### _law_kind -/
abbrev s_law_kind : Stmt := topS 32
def n_law_kind : List Str := ["bag", "num", "some"]
theorem sc_law_kind : FnScope n_law_kind ["bag"] (defScope s_law_kind) := ⟨rfl, rfl, rfl, by decide +kernel, rfl, by decide +kernel, by decide +kernel⟩
def b_law_kind : DenS := (sSeq (sAsg (dTup (lCons (dC (D.str (Str.ofString "num"))) lNil)) (gVar 1)) (sSeq (sAsg (dLst (lCons (dVar 1) (lCons (dVar 1) (lCons (dTup (lCons (dC (D.str (Str.ofString "list"))) (lCons (dVar 1) lNil))) (lCons (dTup (lCons (dC (D.str (Str.ofString "list"))) (lCons (dVar 1) lNil))) (lCons (dTup (lCons (dC (D.str (Str.ofString "tree"))) (lCons (dVar 1) lNil))) (lCons (dTup (lCons (dC (D.str (Str.ofString "pair"))) (lCons (dVar 1) (lCons (dTup (lCons (dC (D.str (Str.ofString "list"))) (lCons (dVar 1) lNil))) lNil)))) (lCons (dTup (lCons (dC (D.str (Str.ofString "list"))) (lCons (dTup (lCons (dC (D.str (Str.ofString "list"))) (lCons (dVar 1) lNil))) lNil))) (lCons (dTup (lCons (dC (D.str (Str.ofString "pair"))) (lCons (dVar 1) (lCons (dVar 1) lNil)))) lNil))))))))) (gVar 2)) (sRet (dCall d_law_some (lCons (dVar 0) (lCons (dVar 2) lNil))))))
def d_law_kind : Fun1 := bodyF 3 b_law_kind
theorem h_law_kind {P : Program} {w : World} {K : PySem.W.Frag} {mg : Str → Option Value} {base : Heap} {f : Addr} {fd : FuncData} (F : Fun K "_law_kind" "_law_kind" s_law_kind f fd) (hm : mg "_law_kind" = some (.ref f)) (G_law_some : Has P w K mg base 2 "_law_some" 2 d_law_some) : Has P w K mg base 3 "_law_kind" 1 d_law_kind :=
  has_of (k := 2) F hm sc_law_kind (F.binds fun _ _ _ _ _ _ us hl => match us, hl with | [_], _ => rfl) fun cdv A outer s H hr gd =>
  (b_cons (b_set 1 sc_law_kind.nd (v_tup (a_cons v_str a_nil))) (b_cons (b_set 2 sc_law_kind.nd (v_lst (a_cons (v_var 1) (a_cons (v_var 1) (a_cons (v_tup (a_cons v_str (a_cons (v_var 1) a_nil))) (a_cons (v_tup (a_cons v_str (a_cons (v_var 1) a_nil))) (a_cons (v_tup (a_cons v_str (a_cons (v_var 1) a_nil))) (a_cons (v_tup (a_cons v_str (a_cons (v_var 1) (a_cons (v_tup (a_cons v_str (a_cons (v_var 1) a_nil))) a_nil)))) (a_cons (v_tup (a_cons v_str (a_cons (v_tup (a_cons v_str (a_cons (v_var 1) a_nil))) a_nil))) (a_cons (v_tup (a_cons v_str (a_cons (v_var 1) (a_cons (v_var 1) a_nil)))) a_nil)))))))))) (b_one (b_ret (v_call G_law_some gd (hr.mono (by decide)) (a_cons (v_var 0) (a_cons (v_var 2) a_nil)) rfl (len_cons (len_cons len_nil)))))))
/-! ### summed -/
abbrev s_summed : Stmt := topS 9
def n_summed : List Str := ["some", "found", "one"]
theorem sc_summed : FnScope n_summed ["some"] (defScope s_summed) := ⟨rfl, rfl, rfl, by decide +kernel, rfl, by decide +kernel, by decide +kernel⟩
theorem h_summed {P : Program} {w : World} {K : PySem.W.Frag} {mg : Str → Option Value} {base : Heap} {f : Addr} {fd : FuncData} (F : Fun K "summed" "summed" s_summed f fd) (hm : mg "summed" = some (.ref f)) (G_plus : Has P w K mg base 3 "plus" 2 d_plus) (k_ZERO : IsC K mg "ZERO" (D.tup [(D.int 0), (D.int 1)])) : Has P w K mg base 4 "summed" 1 d_summed :=
  has_of (k := 3) F hm sc_summed (F.binds fun _ _ _ _ _ _ us hl => match us, hl with | [_], _ => rfl) fun cdv A outer s H hr gd =>
  (b_cons (b_set 1 sc_summed.nd (v_glob k_ZERO)) (b_cons (b_for [2] PassesOwn.never rfl (p_seq (v_var 0)) (g_name 2 sc_summed.nd (by decide)) (b_one (b_set 1 sc_summed.nd (v_call G_plus gd (hr.mono (by decide)) (a_cons (v_var 1) (a_cons (v_var 2) a_nil)) rfl (len_cons (len_cons len_nil)))))) (b_one (b_ret (v_var 1)))))
/-! ### list_potential -/
abbrev s_list_potential : Stmt := topS 16
def n_list_potential : List Str := ["row", "many", "at", "one"]
theorem sc_list_potential : FnScope n_list_potential ["row", "many"] (defScope s_list_potential) := ⟨rfl, rfl, rfl, by decide +kernel, rfl, by decide +kernel, by decide +kernel⟩
def b_list_potential : DenS := (sRet (dCall d_summed (lCons (dComp [2, 3] (iEnumC (dVar 0) (dC (D.int 1))) (gTp 2 (gC (gVar 2) (gC (gVar 3) gN))) tauY (dCall d_times (lCons (dVar 3) (lCons (dCall d_whole (lCons (dCall d_choose (lCons (dVar 1) (lCons (dVar 2) lNil))) lNil)) lNil)))) lNil)))
def d_list_potential : Fun1 := bodyF 4 b_list_potential
theorem h_list_potential {P : Program} {w : World} {K : PySem.W.Frag} {mg : Str → Option Value} {base : Heap} {f : Addr} {fd : FuncData} (F : Fun K "list_potential" "list_potential" s_list_potential f fd) (hm : mg "list_potential" = some (.ref f)) (G_summed : Has P w K mg base 4 "summed" 1 d_summed) (G_times : Has P w K mg base 4 "times" 2 d_times) (G_whole : Has P w K mg base 4 "whole" 1 d_whole) (G_choose : Has P w K mg base 4 "choose" 2 d_choose) (m_enumerate : mg "enumerate" = none) : Has P w K mg base 5 "list_potential" 2 d_list_potential :=
  has_of (k := 4) F hm sc_list_potential (F.binds fun _ _ _ _ _ _ us hl => match us, hl with | [_, _], _ => rfl) fun cdv A outer s H hr gd =>
  (b_one (b_ret (v_call G_summed gd (hr.mono (by decide)) (a_cons (v_comp (own := [("at", 2), ("one", 3)]) rfl sc_list_potential.nd (p_enumC m_enumerate (v_var 0) v_int) (blkOk_by (N := n_list_potential) (sc := defScope s_list_potential) (by decide +kernel)) (fun _ _ _ _ _ => (g_tup rfl (g_cons (g_name 2 sc_list_potential.nd (by decide)) (g_cons (g_name 3 sc_list_potential.nd (by decide)) g_nil)))) (fun _ _ _ _ _ => ts_nil) (fun _ _ _ _ _ => (v_call G_times gd (hr.mono (by decide)) (a_cons (v_var 3) (a_cons (v_call G_whole gd (hr.mono (by decide)) (a_cons (v_call G_choose gd (hr.mono (by decide)) (a_cons (v_var 1) (a_cons (v_var 2) a_nil)) rfl (len_cons (len_cons len_nil))) a_nil) rfl (len_cons len_nil)) a_nil)) rfl (len_cons (len_cons len_nil))))) a_nil) rfl (len_cons len_nil))))
/-! ### tree_potential -/
abbrev s_tree_potential : Stmt := topS 17
def n_tree_potential : List Str := ["row", "nodes", "depths", "one", "many"]
theorem sc_tree_potential : FnScope n_tree_potential ["row", "nodes", "depths"] (defScope s_tree_potential) := ⟨rfl, rfl, rfl, by decide +kernel, rfl, by decide +kernel, by decide +kernel⟩
def b_tree_potential : DenS := (sRet (dCall d_summed (lCons (dComp [3, 4] (iZipX (dVar 0) (dTup (lCons (dVar 1) (lCons (dVar 2) lNil)))) (gTp 2 (gC (gVar 3) (gC (gVar 4) gN))) tauY (dCall d_times (lCons (dVar 3) (lCons (dCall d_whole (lCons (dVar 4) lNil)) lNil)))) lNil)))
def d_tree_potential : Fun1 := bodyF 5 b_tree_potential
theorem h_tree_potential {P : Program} {w : World} {K : PySem.W.Frag} {mg : Str → Option Value} {base : Heap} {f : Addr} {fd : FuncData} (F : Fun K "tree_potential" "tree_potential" s_tree_potential f fd) (hm : mg "tree_potential" = some (.ref f)) (G_summed : Has P w K mg base 4 "summed" 1 d_summed) (G_times : Has P w K mg base 4 "times" 2 d_times) (G_whole : Has P w K mg base 4 "whole" 1 d_whole) (m_zip : mg "zip" = none) : Has P w K mg base 5 "tree_potential" 3 d_tree_potential :=
  has_of (k := 4) F hm sc_tree_potential (F.binds fun _ _ _ _ _ _ us hl => match us, hl with | [_, _, _], _ => rfl) fun cdv A outer s H hr gd =>
  (b_one (b_ret (v_call G_summed gd (hr.mono (by decide)) (a_cons (v_comp (own := [("one", 3), ("many", 4)]) rfl sc_tree_potential.nd (p_zipX m_zip (v_var 0) (v_tup (a_cons (v_var 1) (a_cons (v_var 2) a_nil)))) (blkOk_by (N := n_tree_potential) (sc := defScope s_tree_potential) (by decide +kernel)) (fun _ _ _ _ _ => (g_tup rfl (g_cons (g_name 3 sc_tree_potential.nd (by decide)) (g_cons (g_name 4 sc_tree_potential.nd (by decide)) g_nil)))) (fun _ _ _ _ _ => ts_nil) (fun _ _ _ _ _ => (v_call G_times gd (hr.mono (by decide)) (a_cons (v_var 3) (a_cons (v_call G_whole gd (hr.mono (by decide)) (a_cons (v_var 4) a_nil) rfl (len_cons len_nil)) a_nil)) rfl (len_cons (len_cons len_nil))))) a_nil) rfl (len_cons len_nil))))
/-! ### numbers_in -/
abbrev s_numbers_in : Stmt := topS 20
def n_numbers_in : List Str := ["kind", "annotation"]
theorem sc_numbers_in : FnScope n_numbers_in ["kind", "annotation"] (defScope s_numbers_in) := ⟨rfl, rfl, rfl, by decide +kernel, rfl, by decide +kernel, by decide +kernel⟩
def b_numbers_in (me : Fun1) : DenS := (sSeq (sIf (dT (dOp eqD (dOp ixD (dVar 0) (dC (D.int 0))) (dC (D.str (Str.ofString "num"))))) (sRet (dTup lNil)) sNext) (sSeq (sIf (dT (dOp inD (dOp ixD (dVar 0) (dC (D.int 0))) (dTup (lCons (dC (D.str (Str.ofString "list"))) (lCons (dC (D.str (Str.ofString "tree"))) lNil))))) (sRet (dTup (lStar (dOp ixD (dVar 1) (dC (D.int 0))) (lStar (dCall me (lCons (dOp ixD (dVar 0) (dC (D.int 1))) (lCons (dOp ixD (dVar 1) (dC (D.int 1))) lNil))) lNil)))) sNext) (sRet (dTup (lStar (dCall me (lCons (dOp ixD (dVar 0) (dC (D.int 1))) (lCons (dOp ixD (dVar 1) (dC (D.int 0))) lNil))) (lStar (dCall me (lCons (dOp ixD (dVar 0) (dC (D.int 2))) (lCons (dOp ixD (dVar 1) (dC (D.int 1))) lNil))) lNil))))))
def d_numbers_in : Fun1 := recF 2 b_numbers_in 10
theorem h_numbers_in {P : Program} {w : World} {K : PySem.W.Frag} {mg : Str → Option Value} {base : Heap} {f : Addr} {fd : FuncData} (F : Fun K "numbers_in" "numbers_in" s_numbers_in f fd) (hm : mg "numbers_in" = some (.ref f)) (k_NUM : IsC K mg "NUM" (D.str (Str.ofString "num"))) (k_TREE : IsC K mg "TREE" (D.str (Str.ofString "tree"))) (k_LIST : IsC K mg "LIST" (D.str (Str.ofString "list"))) : ∀ r : Nat, Has P w K mg base (0 + r) "numbers_in" 2 (recF 2 b_numbers_in r)
  | 0 => Has.none (ps := ["kind", "annotation"]) F hm (F.binds fun _ _ _ _ _ _ us hl => match us, hl with | [_, _], _ => rfl)
  | r + 1 => by
    have G_me := h_numbers_in (P := P) (w := w) (K := K) (mg := mg) (base := base) F hm k_NUM k_TREE k_LIST r
    exact has_of (k := 0 + r) F hm sc_numbers_in (F.binds fun _ _ _ _ _ _ us hl => match us, hl with | [_, _], _ => rfl) fun cdv A outer s H hr gd =>
      (b_cons (b_if (t_cmp (o_eq hr.units) (v_ix i_ix (v_var 0) v_int) (v_glob k_NUM)) (b_one (b_ret (v_tup a_nil))) b_nil) (b_cons (b_if (t_cmp (o_in hr.units) (v_ix i_ix (v_var 0) v_int) (v_tup (a_cons (v_glob k_LIST) (a_cons (v_glob k_TREE) a_nil)))) (b_one (b_ret (v_tup (a_star (v_ix i_ix (v_var 1) v_int) (a_star (v_call G_me gd (hr.mono (by omega)) (a_cons (v_ix i_ix (v_var 0) v_int) (a_cons (v_ix i_ix (v_var 1) v_int) a_nil)) rfl (len_cons (len_cons len_nil))) a_nil))))) b_nil) (b_one (b_ret (v_tup (a_star (v_call G_me gd (hr.mono (by omega)) (a_cons (v_ix i_ix (v_var 0) v_int) (a_cons (v_ix i_ix (v_var 1) v_int) a_nil)) rfl (len_cons (len_cons len_nil))) (a_star (v_call G_me gd (hr.mono (by omega)) (a_cons (v_ix i_ix (v_var 0) v_int) (a_cons (v_ix i_ix (v_var 1) v_int) a_nil)) rfl (len_cons (len_cons len_nil))) a_nil)))))))
/-! ### width_of -/
abbrev s_width_of : Stmt := topS 21
def n_width_of : List Str := ["kind", "degree", "own", "part"]
theorem sc_width_of : FnScope n_width_of ["kind", "degree"] (defScope s_width_of) := ⟨rfl, rfl, rfl, by decide +kernel, rfl, by decide +kernel, by decide +kernel⟩
def b_width_of (me : Fun1) : DenS := (sSeq (sIf (dT (dOp eqD (dOp ixD (dVar 0) (dC (D.int 0))) (dC (D.str (Str.ofString "num"))))) (sRet (dC (D.int 0))) sNext) (sSeq (sAsg (dIf (dT (dOp inD (dOp ixD (dVar 0) (dC (D.int 0))) (dTup (lCons (dC (D.str (Str.ofString "list"))) (lCons (dC (D.str (Str.ofString "tree"))) lNil))))) (dVar 1) (dC (D.int 0))) (gVar 2)) (sRet (dOp addD (dVar 2) (dCall sumF (lCons (dComp [3] (iSeq (dSl slD (dVar 0) (oSome (dC (D.int 1))) oNone)) (gVar 3) tauY (dCall me (lCons (dVar 3) (lCons (dVar 1) lNil)))) lNil))))))
def d_width_of : Fun1 := recF 4 b_width_of 10
theorem h_width_of {P : Program} {w : World} {K : PySem.W.Frag} {mg : Str → Option Value} {base : Heap} {f : Addr} {fd : FuncData} (F : Fun K "width_of" "width_of" s_width_of f fd) (hm : mg "width_of" = some (.ref f)) (k_NUM : IsC K mg "NUM" (D.str (Str.ofString "num"))) (k_TREE : IsC K mg "TREE" (D.str (Str.ofString "tree"))) (k_LIST : IsC K mg "LIST" (D.str (Str.ofString "list"))) (m_sum : mg "sum" = none) : ∀ r : Nat, Has P w K mg base (0 + r) "width_of" 2 (recF 4 b_width_of r)
  | 0 => Has.none (ps := ["kind", "degree"]) F hm (F.binds fun _ _ _ _ _ _ us hl => match us, hl with | [_, _], _ => rfl)
  | r + 1 => by
    have G_me := h_width_of (P := P) (w := w) (K := K) (mg := mg) (base := base) F hm k_NUM k_TREE k_LIST m_sum r
    exact has_of (k := 0 + r) F hm sc_width_of (F.binds fun _ _ _ _ _ _ us hl => match us, hl with | [_, _], _ => rfl) fun cdv A outer s H hr gd =>
      (b_cons (b_if (t_cmp (o_eq hr.units) (v_ix i_ix (v_var 0) v_int) (v_glob k_NUM)) (b_one (b_ret v_int)) b_nil) (b_cons (b_set 2 sc_width_of.nd (v_if (t_cmp (o_in hr.units) (v_ix i_ix (v_var 0) v_int) (v_tup (a_cons (v_glob k_LIST) (a_cons (v_glob k_TREE) a_nil)))) (v_var 1) v_int)) (b_one (b_ret (v_op o_add (v_var 2) (v_callB (c_sum rfl) m_sum (by decide +kernel) (a_cons (v_comp (own := [("part", 3)]) rfl sc_width_of.nd (p_seq (v_slice s_sl (v_var 0) (o_some v_int) o_none)) (blkOk_by (N := n_width_of) (sc := defScope s_width_of) (by decide +kernel)) (fun _ _ _ _ _ => (g_name 3 sc_width_of.nd (by decide))) (fun _ _ _ _ _ => ts_nil) (fun _ _ _ _ _ => (v_call G_me gd (hr.mono (by omega)) (a_cons (v_var 3) (a_cons (v_var 1) a_nil)) rfl (len_cons (len_cons len_nil))))) a_nil)))))))
/-! ### degree_in -/
abbrev s_degree_in : Stmt := topS 23
def n_degree_in : List Str := ["kind", "annotation"]
theorem sc_degree_in : FnScope n_degree_in ["kind", "annotation"] (defScope s_degree_in) := ⟨rfl, rfl, rfl, by decide +kernel, rfl, by decide +kernel, by decide +kernel⟩
def b_degree_in (me : Fun1) : DenS := (sSeq (sIf (dT (dOp eqD (dOp ixD (dVar 0) (dC (D.int 0))) (dC (D.str (Str.ofString "num"))))) (sRet (dC (D.int 1))) sNext) (sSeq (sIf (dT (dOp inD (dOp ixD (dVar 0) (dC (D.int 0))) (dTup (lCons (dC (D.str (Str.ofString "list"))) (lCons (dC (D.str (Str.ofString "tree"))) lNil))))) (sRet (dCall lenF (lCons (dOp ixD (dVar 1) (dC (D.int 0))) lNil))) sNext) (sRet (dCall maxF (lCons (dCall me (lCons (dOp ixD (dVar 0) (dC (D.int 1))) (lCons (dOp ixD (dVar 1) (dC (D.int 0))) lNil))) (lCons (dCall me (lCons (dOp ixD (dVar 0) (dC (D.int 2))) (lCons (dOp ixD (dVar 1) (dC (D.int 1))) lNil))) lNil))))))
def d_degree_in : Fun1 := recF 2 b_degree_in 10
theorem h_degree_in {P : Program} {w : World} {K : PySem.W.Frag} {mg : Str → Option Value} {base : Heap} {f : Addr} {fd : FuncData} (F : Fun K "degree_in" "degree_in" s_degree_in f fd) (hm : mg "degree_in" = some (.ref f)) (k_NUM : IsC K mg "NUM" (D.str (Str.ofString "num"))) (k_TREE : IsC K mg "TREE" (D.str (Str.ofString "tree"))) (k_LIST : IsC K mg "LIST" (D.str (Str.ofString "list"))) (m_len : mg "len" = none) (m_max : mg "max" = none) : ∀ r : Nat, Has P w K mg base (0 + r) "degree_in" 2 (recF 2 b_degree_in r)
  | 0 => Has.none (ps := ["kind", "annotation"]) F hm (F.binds fun _ _ _ _ _ _ us hl => match us, hl with | [_, _], _ => rfl)
  | r + 1 => by
    have G_me := h_degree_in (P := P) (w := w) (K := K) (mg := mg) (base := base) F hm k_NUM k_TREE k_LIST m_len m_max r
    exact has_of (k := 0 + r) F hm sc_degree_in (F.binds fun _ _ _ _ _ _ us hl => match us, hl with | [_, _], _ => rfl) fun cdv A outer s H hr gd =>
      (b_cons (b_if (t_cmp (o_eq hr.units) (v_ix i_ix (v_var 0) v_int) (v_glob k_NUM)) (b_one (b_ret v_int)) b_nil) (b_cons (b_if (t_cmp (o_in hr.units) (v_ix i_ix (v_var 0) v_int) (v_tup (a_cons (v_glob k_LIST) (a_cons (v_glob k_TREE) a_nil)))) (b_one (b_ret (v_callB c_len m_len (by decide +kernel) (a_cons (v_ix i_ix (v_var 1) v_int) a_nil)))) b_nil) (b_one (b_ret (v_callB (c_max rfl) m_max (by decide +kernel) (a_cons (v_call G_me gd (hr.mono (by omega)) (a_cons (v_ix i_ix (v_var 0) v_int) (a_cons (v_ix i_ix (v_var 1) v_int) a_nil)) rfl (len_cons (len_cons len_nil))) (a_cons (v_call G_me gd (hr.mono (by omega)) (a_cons (v_ix i_ix (v_var 0) v_int) (a_cons (v_ix i_ix (v_var 1) v_int) a_nil)) rfl (len_cons (len_cons len_nil))) a_nil)))))))
/-! ### _law_nodes -/
abbrev s_law_nodes : Stmt := topS 37
def n_law_nodes : List Str := ["tree", "depth"]
theorem sc_law_nodes : FnScope n_law_nodes ["tree", "depth"] (defScope s_law_nodes) := ⟨rfl, rfl, rfl, by decide +kernel, rfl, by decide +kernel, by decide +kernel⟩
def b_law_nodes (me : Fun1) : DenS := (sSeq (sIf (dT (dOp eqD (dVar 0) (dTup lNil))) (sRet (dLst lNil)) sNext) (sRet (dOp addD (dOp addD (dCall me (lCons (dOp ixD (dVar 0) (dC (D.int 0))) (lCons (dOp addD (dVar 1) (dC (D.int 1))) lNil))) (dLst (lCons (dTup (lCons (dOp ixD (dVar 0) (dC (D.int 1))) (lCons (dVar 1) lNil))) lNil))) (dCall me (lCons (dOp ixD (dVar 0) (dC (D.int 2))) (lCons (dOp addD (dVar 1) (dC (D.int 1))) lNil))))))
def d_law_nodes : Fun1 := recF 2 b_law_nodes 10
theorem h_law_nodes {P : Program} {w : World} {K : PySem.W.Frag} {mg : Str → Option Value} {base : Heap} {f : Addr} {fd : FuncData} (F : Fun K "_law_nodes" "_law_nodes" s_law_nodes f fd) (hm : mg "_law_nodes" = some (.ref f)) : ∀ r : Nat, Has P w K mg base (0 + r) "_law_nodes" 2 (recF 2 b_law_nodes r)
  | 0 => Has.none (ps := ["tree", "depth"]) F hm (F.binds fun _ _ _ _ _ _ us hl => match us, hl with | [_, _], _ => rfl)
  | r + 1 => by
    have G_me := h_law_nodes (P := P) (w := w) (K := K) (mg := mg) (base := base) F hm  r
    exact has_of (k := 0 + r) F hm sc_law_nodes (F.binds fun _ _ _ _ _ _ us hl => match us, hl with | [_, _], _ => rfl) fun cdv A outer s H hr gd =>
      (b_cons (b_if (t_cmp (o_eq hr.units) (v_var 0) (v_tup a_nil)) (b_one (b_ret (v_lst a_nil))) b_nil) (b_one (b_ret (v_op o_add (v_op o_add (v_call G_me gd (hr.mono (by omega)) (a_cons (v_ix i_ix (v_var 0) v_int) (a_cons (v_op o_add (v_var 1) v_int) a_nil)) rfl (len_cons (len_cons len_nil))) (v_lst (a_cons (v_tup (a_cons (v_ix i_ix (v_var 0) v_int) (a_cons (v_var 1) a_nil))) a_nil))) (v_call G_me gd (hr.mono (by omega)) (a_cons (v_ix i_ix (v_var 0) v_int) (a_cons (v_op o_add (v_var 1) v_int) a_nil)) rfl (len_cons (len_cons len_nil)))))))
/-! ### covers -/
abbrev s_covers : Stmt := topS 26
def n_covers : List Str := ["kind", "one", "other", "mine", "its"]
theorem sc_covers : FnScope n_covers ["kind", "one", "other"] (defScope s_covers) := ⟨rfl, rfl, rfl, by decide +kernel, rfl, by decide +kernel, by decide +kernel⟩
def b_covers : DenS := (sRet (dNot (dCall anyF (lCons (dComp [3, 4] (iZipX (dCall d_numbers_in (lCons (dVar 0) (lCons (dVar 1) lNil))) (dCall d_numbers_in (lCons (dVar 0) (lCons (dVar 2) lNil)))) (gTp 2 (gC (gVar 3) (gC (gVar 4) gN))) tauY (dCall d_is_less (lCons (dVar 3) (lCons (dVar 4) lNil)))) lNil))))
def d_covers : Fun1 := bodyF 5 b_covers
theorem h_covers {P : Program} {w : World} {K : PySem.W.Frag} {mg : Str → Option Value} {base : Heap} {f : Addr} {fd : FuncData} (F : Fun K "covers" "covers" s_covers f fd) (hm : mg "covers" = some (.ref f)) (G_numbers_in : Has P w K mg base 10 "numbers_in" 2 d_numbers_in) (G_is_less : Has P w K mg base 10 "is_less" 2 d_is_less) (m_zip : mg "zip" = none) (m_any : mg "any" = none) : Has P w K mg base 11 "covers" 3 d_covers :=
  has_of (k := 10) F hm sc_covers (F.binds fun _ _ _ _ _ _ us hl => match us, hl with | [_, _, _], _ => rfl) fun cdv A outer s H hr gd =>
  (b_one (b_ret (v_not (v_callB (c_any rfl) m_any (by decide +kernel) (a_cons (v_comp (own := [("mine", 3), ("its", 4)]) rfl sc_covers.nd (p_zipX m_zip (v_call G_numbers_in gd (hr.mono (by decide)) (a_cons (v_var 0) (a_cons (v_var 1) a_nil)) rfl (len_cons (len_cons len_nil))) (v_call G_numbers_in gd (hr.mono (by decide)) (a_cons (v_var 0) (a_cons (v_var 2) a_nil)) rfl (len_cons (len_cons len_nil)))) (blkOk_by (N := n_covers) (sc := defScope s_covers) (by decide +kernel)) (fun _ _ _ _ _ => (g_tup rfl (g_cons (g_name 3 sc_covers.nd (by decide)) (g_cons (g_name 4 sc_covers.nd (by decide)) g_nil)))) (fun _ _ _ _ _ => ts_nil) (fun _ _ _ _ _ => (v_call G_is_less gd (hr.mono (by decide)) (a_cons (v_var 3) (a_cons (v_var 4) a_nil)) rfl (len_cons (len_cons len_nil))))) a_nil)))))
/-! ### _law_flat -/
abbrev s_law_flat : Stmt := topS 41
def n_law_flat : List Str := ["thing", "found", "part"]
theorem sc_law_flat : FnScope n_law_flat ["thing"] (defScope s_law_flat) := ⟨rfl, rfl, rfl, by decide +kernel, rfl, by decide +kernel, by decide +kernel⟩
def b_law_flat (me : Fun1) : DenS := (sSeq (sIf (dT (dOp eqD (dVar 0) (dTup lNil))) (sRet (dLst lNil)) sNext) (sSeq (sIf (dAndT (dT (dOp eqD (dCall lenF (lCons (dVar 0) lNil)) (dC (D.int 2)))) (dT (dCall d_law_is_int (lCons (dOp ixD (dVar 0) (dC (D.int 0))) lNil)))) (sRet (dLst (lCons (dVar 0) lNil))) sNext) (sSeq (sAsg (dLst lNil) (gVar 1)) (sSeq (sFor (iSeq (dVar 0)) (gVar 2) (sAsg (dOp addD (dVar 1) (dCall me (lCons (dVar 2) lNil))) (gVar 1))) (sRet (dVar 1))))))
def d_law_flat : Fun1 := recF 3 b_law_flat 10
theorem h_law_flat {P : Program} {w : World} {K : PySem.W.Frag} {mg : Str → Option Value} {base : Heap} {f : Addr} {fd : FuncData} (F : Fun K "_law_flat" "_law_flat" s_law_flat f fd) (hm : mg "_law_flat" = some (.ref f)) (G_law_is_int : Has P w K mg base 1 "_law_is_int" 1 d_law_is_int) (m_len : mg "len" = none) : ∀ r : Nat, Has P w K mg base (1 + r) "_law_flat" 1 (recF 3 b_law_flat r)
  | 0 => Has.none (ps := ["thing"]) F hm (F.binds fun _ _ _ _ _ _ us hl => match us, hl with | [_], _ => rfl)
  | r + 1 => by
    have G_me := h_law_flat (P := P) (w := w) (K := K) (mg := mg) (base := base) F hm G_law_is_int m_len r
    exact has_of (k := 1 + r) F hm sc_law_flat (F.binds fun _ _ _ _ _ _ us hl => match us, hl with | [_], _ => rfl) fun cdv A outer s H hr gd =>
      (b_cons (b_if (t_cmp (o_eq hr.units) (v_var 0) (v_tup a_nil)) (b_one (b_ret (v_lst a_nil))) b_nil) (b_cons (b_if (t_w (w_and (t_cmp (o_eq hr.units) (v_callB c_len m_len (by decide +kernel) (a_cons (v_var 0) a_nil)) v_int) (w_and1 (t_val (v_call G_law_is_int gd (hr.mono (by omega)) (a_cons (v_ix i_ix (v_var 0) v_int) a_nil) rfl (len_cons len_nil)))))) (b_one (b_ret (v_lst (a_cons (v_var 0) a_nil)))) b_nil) (b_cons (b_set 1 sc_law_flat.nd (v_lst a_nil)) (b_cons (b_for [2] PassesOwn.never rfl (p_seq (v_var 0)) (g_name 2 sc_law_flat.nd (by decide)) (b_one (b_set 1 sc_law_flat.nd (v_op o_add (v_var 1) (v_call G_me gd (hr.mono (by omega)) (a_cons (v_var 2) a_nil) rfl (len_cons len_nil)))))) (b_one (b_ret (v_var 1)))))))
/-! ### _law_annotation -/
abbrev s_law_annotation : Stmt := topS 34
def n_law_annotation : List Str := ["bag", "kind", "degree", "row", "at"]
theorem sc_law_annotation : FnScope n_law_annotation ["bag", "kind", "degree"] (defScope s_law_annotation) := ⟨rfl, rfl, rfl, by decide +kernel, rfl, by decide +kernel, by decide +kernel⟩
def b_law_annotation (me : Fun1) : DenS := (sSeq (sIf (dT (dOp eqD (dOp ixD (dVar 1) (dC (D.int 0))) (dC (D.str (Str.ofString "num"))))) (sRet (dTup lNil)) sNext) (sSeq (sIf (dT (dOp eqD (dOp ixD (dVar 1) (dC (D.int 0))) (dC (D.str (Str.ofString "pair"))))) (sRet (dTup (lCons (dCall me (lCons (dVar 0) (lCons (dOp ixD (dVar 1) (dC (D.int 1))) (lCons (dVar 2) lNil)))) (lCons (dCall me (lCons (dVar 0) (lCons (dOp ixD (dVar 1) (dC (D.int 2))) (lCons (dVar 2) lNil)))) lNil)))) sNext) (sSeq (sAsg (dCall tupleF (lCons (dComp [4] (iRng1 (dVar 2)) (gVar 4) tauY (dCall d_law_made (lCons (dCall d_law_take (lCons (dVar 0) (lCons (dC (D.int 7)) lNil))) (lCons (dCall d_law_some (lCons (dVar 0) (lCons (dLst (lCons (dC (D.int 1)) (lCons (dC (D.int 1)) (lCons (dC (D.int 2)) (lCons (dC (D.int 3)) lNil))))) lNil))) lNil)))) lNil)) (gVar 3)) (sRet (dTup (lCons (dVar 3) (lCons (dCall me (lCons (dVar 0) (lCons (dOp ixD (dVar 1) (dC (D.int 1))) (lCons (dVar 2) lNil)))) lNil)))))))
def d_law_annotation : Fun1 := recF 5 b_law_annotation 10
theorem h_law_annotation {P : Program} {w : World} {K : PySem.W.Frag} {mg : Str → Option Value} {base : Heap} {f : Addr} {fd : FuncData} (F : Fun K "_law_annotation" "_law_annotation" s_law_annotation f fd) (hm : mg "_law_annotation" = some (.ref f)) (G_law_made : Has P w K mg base 2 "_law_made" 2 d_law_made) (G_law_some : Has P w K mg base 2 "_law_some" 2 d_law_some) (G_law_take : Has P w K mg base 2 "_law_take" 2 d_law_take) (m_range : mg "range" = none) (m_tuple : mg "tuple" = none) : ∀ r : Nat, Has P w K mg base (2 + r) "_law_annotation" 3 (recF 5 b_law_annotation r)
  | 0 => Has.none (ps := ["bag", "kind", "degree"]) F hm (F.binds fun _ _ _ _ _ _ us hl => match us, hl with | [_, _, _], _ => rfl)
  | r + 1 => by
    have G_me := h_law_annotation (P := P) (w := w) (K := K) (mg := mg) (base := base) F hm G_law_made G_law_some G_law_take m_range m_tuple r
    exact has_of (k := 2 + r) F hm sc_law_annotation (F.binds fun _ _ _ _ _ _ us hl => match us, hl with | [_, _, _], _ => rfl) fun cdv A outer s H hr gd =>
      (b_cons (b_if (t_cmp (o_eq hr.units) (v_ix i_ix (v_var 1) v_int) v_str) (b_one (b_ret (v_tup a_nil))) b_nil) (b_cons (b_if (t_cmp (o_eq hr.units) (v_ix i_ix (v_var 1) v_int) v_str) (b_one (b_ret (v_tup (a_cons (v_call G_me gd (hr.mono (by omega)) (a_cons (v_var 0) (a_cons (v_ix i_ix (v_var 1) v_int) (a_cons (v_var 2) a_nil))) rfl (len_cons (len_cons (len_cons len_nil)))) (a_cons (v_call G_me gd (hr.mono (by omega)) (a_cons (v_var 0) (a_cons (v_ix i_ix (v_var 1) v_int) (a_cons (v_var 2) a_nil))) rfl (len_cons (len_cons (len_cons len_nil)))) a_nil))))) b_nil) (b_cons (b_set 3 sc_law_annotation.nd (v_callT c_tuple m_tuple (by decide +kernel) (a_cons (v_comp (own := [("at", 4)]) rfl sc_law_annotation.nd (p_rng1 m_range (v_var 2)) (blkOk_by (N := n_law_annotation) (sc := defScope s_law_annotation) (by decide +kernel)) (fun _ _ _ _ _ => (g_name 4 sc_law_annotation.nd (by decide))) (fun _ _ _ _ _ => ts_nil) (fun _ _ _ _ _ => (v_call G_law_made gd (hr.mono (by omega)) (a_cons (v_call G_law_take gd (hr.mono (by omega)) (a_cons (v_var 0) (a_cons v_int a_nil)) rfl (len_cons (len_cons len_nil))) (a_cons (v_call G_law_some gd (hr.mono (by omega)) (a_cons (v_var 0) (a_cons (v_lst (a_cons v_int (a_cons v_int (a_cons v_int (a_cons v_int a_nil))))) a_nil)) rfl (len_cons (len_cons len_nil))) a_nil)) rfl (len_cons (len_cons len_nil))))) a_nil))) (b_one (b_ret (v_tup (a_cons (v_var 3) (a_cons (v_call G_me gd (hr.mono (by omega)) (a_cons (v_var 0) (a_cons (v_ix i_ix (v_var 1) v_int) (a_cons (v_var 2) a_nil))) rfl (len_cons (len_cons (len_cons len_nil)))) a_nil))))))))
/-! ### _law_value -/
abbrev s_law_value : Stmt := topS 35
def n_law_value : List Str := ["bag", "kind", "most", "found", "turn", "item"]
theorem sc_law_value : FnScope n_law_value ["bag", "kind", "most"] (defScope s_law_value) := ⟨rfl, rfl, rfl, by decide +kernel, rfl, by decide +kernel, by decide +kernel⟩
def b_law_value (me : Fun1) : DenS := (sSeq (sIf (dT (dOp eqD (dOp ixD (dVar 1) (dC (D.int 0))) (dC (D.str (Str.ofString "num"))))) (sRet (dCall d_law_some (lCons (dVar 0) (lCons (dLst (lCons (dC (D.int 0)) (lCons (dC (D.int 1)) (lCons (dC (D.int 2)) (lCons (dCall d_law_take (lCons (dVar 0) (lCons (dC (D.int 10000)) lNil))) lNil))))) lNil)))) sNext) (sSeq (sIf (dT (dOp eqD (dOp ixD (dVar 1) (dC (D.int 0))) (dC (D.str (Str.ofString "pair"))))) (sRet (dTup (lCons (dCall me (lCons (dVar 0) (lCons (dOp ixD (dVar 1) (dC (D.int 1))) (lCons (dVar 2) lNil)))) (lCons (dCall me (lCons (dVar 0) (lCons (dOp ixD (dVar 1) (dC (D.int 2))) (lCons (dVar 2) lNil)))) lNil)))) sNext) (sSeq (sAsg (dTup lNil) (gVar 3)) (sSeq (sFor (iRng1 (dCall d_law_take (lCons (dVar 0) (lCons (dOp addD (dVar 2) (dC (D.int 1))) lNil)))) (gVar 4) (sSeq (sAsg (dCall me (lCons (dVar 0) (lCons (dOp ixD (dVar 1) (dC (D.int 1))) (lCons (dCall maxF (lCons (dC (D.int 0)) (lCons (dOp subD (dVar 2) (dC (D.int 2))) lNil))) lNil)))) (gVar 5)) (sIf (dT (dOp eqD (dOp ixD (dVar 1) (dC (D.int 0))) (dC (D.str (Str.ofString "list"))))) (sAsg (dOp addD (dTup (lCons (dVar 5) lNil)) (dVar 3)) (gVar 3)) (sAsg (dIf (dT (dOp eqD (dCall d_law_take (lCons (dVar 0) (lCons (dC (D.int 2)) lNil))) (dC (D.int 0)))) (dTup (lCons (dVar 3) (lCons (dVar 5) (lCons (dTup lNil) lNil)))) (dTup (lCons (dTup lNil) (lCons (dVar 5) (lCons (dVar 3) lNil))))) (gVar 3))))) (sRet (dVar 3))))))
def d_law_value : Fun1 := recF 6 b_law_value 10
theorem h_law_value {P : Program} {w : World} {K : PySem.W.Frag} {mg : Str → Option Value} {base : Heap} {f : Addr} {fd : FuncData} (F : Fun K "_law_value" "_law_value" s_law_value f fd) (hm : mg "_law_value" = some (.ref f)) (G_law_some : Has P w K mg base 2 "_law_some" 2 d_law_some) (G_law_take : Has P w K mg base 2 "_law_take" 2 d_law_take) (m_range : mg "range" = none) (m_max : mg "max" = none) : ∀ r : Nat, Has P w K mg base (2 + r) "_law_value" 3 (recF 6 b_law_value r)
  | 0 => Has.none (ps := ["bag", "kind", "most"]) F hm (F.binds fun _ _ _ _ _ _ us hl => match us, hl with | [_, _, _], _ => rfl)
  | r + 1 => by
    have G_me := h_law_value (P := P) (w := w) (K := K) (mg := mg) (base := base) F hm G_law_some G_law_take m_range m_max r
    exact has_of (k := 2 + r) F hm sc_law_value (F.binds fun _ _ _ _ _ _ us hl => match us, hl with | [_, _, _], _ => rfl) fun cdv A outer s H hr gd =>
      (b_cons (b_if (t_cmp (o_eq hr.units) (v_ix i_ix (v_var 1) v_int) v_str) (b_one (b_ret (v_call G_law_some gd (hr.mono (by omega)) (a_cons (v_var 0) (a_cons (v_lst (a_cons v_int (a_cons v_int (a_cons v_int (a_cons (v_call G_law_take gd (hr.mono (by omega)) (a_cons (v_var 0) (a_cons v_int a_nil)) rfl (len_cons (len_cons len_nil))) a_nil))))) a_nil)) rfl (len_cons (len_cons len_nil))))) b_nil) (b_cons (b_if (t_cmp (o_eq hr.units) (v_ix i_ix (v_var 1) v_int) v_str) (b_one (b_ret (v_tup (a_cons (v_call G_me gd (hr.mono (by omega)) (a_cons (v_var 0) (a_cons (v_ix i_ix (v_var 1) v_int) (a_cons (v_var 2) a_nil))) rfl (len_cons (len_cons (len_cons len_nil)))) (a_cons (v_call G_me gd (hr.mono (by omega)) (a_cons (v_var 0) (a_cons (v_ix i_ix (v_var 1) v_int) (a_cons (v_var 2) a_nil))) rfl (len_cons (len_cons (len_cons len_nil)))) a_nil))))) b_nil) (b_cons (b_set 3 sc_law_value.nd (v_tup a_nil)) (b_cons (b_for [4] PassesOwn.never rfl (p_rng1 m_range (v_call G_law_take gd (hr.mono (by omega)) (a_cons (v_var 0) (a_cons (v_op o_add (v_var 2) v_int) a_nil)) rfl (len_cons (len_cons len_nil)))) (g_name 4 sc_law_value.nd (by decide)) (b_cons (b_set 5 sc_law_value.nd (v_call G_me gd (hr.mono (by omega)) (a_cons (v_var 0) (a_cons (v_ix i_ix (v_var 1) v_int) (a_cons (v_callB (c_max rfl) m_max (by decide +kernel) (a_cons v_int (a_cons (v_op o_sub (v_var 2) v_int) a_nil))) a_nil))) rfl (len_cons (len_cons (len_cons len_nil))))) (b_one (b_if (t_cmp (o_eq hr.units) (v_ix i_ix (v_var 1) v_int) v_str) (b_one (b_set 3 sc_law_value.nd (v_op o_add (v_tup (a_cons (v_var 5) a_nil)) (v_var 3)))) (b_one (b_set 3 sc_law_value.nd (v_if (t_cmp (o_eq hr.units) (v_call G_law_take gd (hr.mono (by omega)) (a_cons (v_var 0) (a_cons v_int a_nil)) rfl (len_cons (len_cons len_nil))) v_int) (v_tup (a_cons (v_var 3) (a_cons (v_var 5) (a_cons (v_tup a_nil) a_nil)))) (v_tup (a_cons (v_tup a_nil) (a_cons (v_var 5) (a_cons (v_var 3) a_nil))))))))))) (b_one (b_ret (v_var 3)))))))
/-! ### _law_covers -/
abbrev s_law_covers : Stmt := topS 44
def n_law_covers : List Str := ["one", "other", "mine", "its"]
theorem sc_law_covers : FnScope n_law_covers ["one", "other"] (defScope s_law_covers) := ⟨rfl, rfl, rfl, by decide +kernel, rfl, by decide +kernel, by decide +kernel⟩
def b_law_covers : DenS := (sRet (dOp eqD (dComp [2, 3] (iZipX (dCall d_law_flat (lCons (dVar 0) lNil)) (dCall d_law_flat (lCons (dVar 1) lNil))) (gTp 2 (gC (gVar 2) (gC (gVar 3) gN))) (dT (dCall d_law_less (lCons (dVar 2) (lCons (dVar 3) lNil)))) (dC (D.int 1))) (dLst lNil)))
def d_law_covers : Fun1 := bodyF 4 b_law_covers
theorem h_law_covers {P : Program} {w : World} {K : PySem.W.Frag} {mg : Str → Option Value} {base : Heap} {f : Addr} {fd : FuncData} (F : Fun K "_law_covers" "_law_covers" s_law_covers f fd) (hm : mg "_law_covers" = some (.ref f)) (G_law_flat : Has P w K mg base 11 "_law_flat" 1 d_law_flat) (G_law_less : Has P w K mg base 11 "_law_less" 2 d_law_less) (m_zip : mg "zip" = none) : Has P w K mg base 12 "_law_covers" 2 d_law_covers :=
  has_of (k := 11) F hm sc_law_covers (F.binds fun _ _ _ _ _ _ us hl => match us, hl with | [_, _], _ => rfl) fun cdv A outer s H hr gd =>
  (b_one (b_ret (v_cmp (o_eq hr.units) (v_comp (own := [("mine", 2), ("its", 3)]) rfl sc_law_covers.nd (p_zipX m_zip (v_call G_law_flat gd (hr.mono (by decide)) (a_cons (v_var 0) a_nil) rfl (len_cons len_nil)) (v_call G_law_flat gd (hr.mono (by decide)) (a_cons (v_var 1) a_nil) rfl (len_cons len_nil))) (blkOk_by (N := n_law_covers) (sc := defScope s_law_covers) (by decide +kernel)) (fun _ _ _ _ _ => (g_tup rfl (g_cons (g_name 2 sc_law_covers.nd (by decide)) (g_cons (g_name 3 sc_law_covers.nd (by decide)) g_nil)))) (fun _ _ _ _ _ => (ts_one (t_val (v_call G_law_less gd (hr.mono (by decide)) (a_cons (v_var 2) (a_cons (v_var 3) a_nil)) rfl (len_cons (len_cons len_nil)))))) (fun _ _ _ _ _ => v_int)) (v_lst a_nil))))
/-! ### potential -/
abbrev s_potential : Stmt := topS 19
def n_potential : List Str := ["kind", "annotation", "value", "items", "some", "one", "depth"]
theorem sc_potential : FnScope n_potential ["kind", "annotation", "value"] (defScope s_potential) := ⟨rfl, rfl, rfl, by decide +kernel, rfl, by decide +kernel, by decide +kernel⟩
def b_potential (me : Fun1) : DenS := (sSeq (sIf (dT (dOp eqD (dOp ixD (dVar 0) (dC (D.int 0))) (dC (D.str (Str.ofString "num"))))) (sRet (dC (D.tup [(D.int 0), (D.int 1)]))) sNext) (sSeq (sIf (dT (dOp eqD (dOp ixD (dVar 0) (dC (D.int 0))) (dC (D.str (Str.ofString "list"))))) (sSeq (sAsg (dCall d_summed (lCons (dComp [5] (iSeq (dVar 2)) (gVar 5) tauY (dCall me (lCons (dOp ixD (dVar 0) (dC (D.int 1))) (lCons (dOp ixD (dVar 1) (dC (D.int 1))) (lCons (dVar 5) lNil))))) lNil)) (gVar 3)) (sRet (dCall d_plus (lCons (dCall d_list_potential (lCons (dOp ixD (dVar 1) (dC (D.int 0))) (lCons (dCall lenF (lCons (dVar 2) lNil)) lNil))) (lCons (dVar 3) lNil))))) sNext) (sSeq (sIf (dT (dOp eqD (dOp ixD (dVar 0) (dC (D.int 0))) (dC (D.str (Str.ofString "tree"))))) (sSeq (sAsg (dCall d_nodes_of (lCons (dVar 2) lNil)) (gVar 4)) (sSeq (sAsg (dCall d_summed (lCons (dComp [5, 6] (iSeq (dVar 4)) (gTp 2 (gC (gVar 5) (gC (gVar 6) gN))) tauY (dCall me (lCons (dOp ixD (dVar 0) (dC (D.int 1))) (lCons (dOp ixD (dVar 1) (dC (D.int 1))) (lCons (dVar 5) lNil))))) lNil)) (gVar 3)) (sRet (dCall d_plus (lCons (dCall d_tree_potential (lCons (dOp ixD (dVar 1) (dC (D.int 0))) (lCons (dCall lenF (lCons (dVar 4) lNil)) (lCons (dCall sumF (lCons (dComp [5, 6] (iSeq (dVar 4)) (gTp 2 (gC (gVar 5) (gC (gVar 6) gN))) tauY (dVar 6)) lNil)) lNil)))) (lCons (dVar 3) lNil)))))) sNext) (sRet (dCall d_plus (lCons (dCall me (lCons (dOp ixD (dVar 0) (dC (D.int 1))) (lCons (dOp ixD (dVar 1) (dC (D.int 0))) (lCons (dOp ixD (dVar 2) (dC (D.int 0))) lNil)))) (lCons (dCall me (lCons (dOp ixD (dVar 0) (dC (D.int 2))) (lCons (dOp ixD (dVar 1) (dC (D.int 1))) (lCons (dOp ixD (dVar 2) (dC (D.int 1))) lNil)))) lNil)))))))
def d_potential : Fun1 := recF 7 b_potential 10
theorem h_potential {P : Program} {w : World} {K : PySem.W.Frag} {mg : Str → Option Value} {base : Heap} {f : Addr} {fd : FuncData} (F : Fun K "potential" "potential" s_potential f fd) (hm : mg "potential" = some (.ref f)) (G_summed : Has P w K mg base 5 "summed" 1 d_summed) (G_plus : Has P w K mg base 5 "plus" 2 d_plus) (G_list_potential : Has P w K mg base 5 "list_potential" 2 d_list_potential) (G_nodes_of : Has P w K mg base 5 "nodes_of" 1 d_nodes_of) (G_tree_potential : Has P w K mg base 5 "tree_potential" 3 d_tree_potential) (k_NUM : IsC K mg "NUM" (D.str (Str.ofString "num"))) (k_ZERO : IsC K mg "ZERO" (D.tup [(D.int 0), (D.int 1)])) (k_LIST : IsC K mg "LIST" (D.str (Str.ofString "list"))) (k_TREE : IsC K mg "TREE" (D.str (Str.ofString "tree"))) (m_len : mg "len" = none) (m_sum : mg "sum" = none) : ∀ r : Nat, Has P w K mg base (5 + r) "potential" 3 (recF 7 b_potential r)
  | 0 => Has.none (ps := ["kind", "annotation", "value"]) F hm (F.binds fun _ _ _ _ _ _ us hl => match us, hl with | [_, _, _], _ => rfl)
  | r + 1 => by
    have G_me := h_potential (P := P) (w := w) (K := K) (mg := mg) (base := base) F hm G_summed G_plus G_list_potential G_nodes_of G_tree_potential k_NUM k_ZERO k_LIST k_TREE m_len m_sum r
    exact has_of (k := 5 + r) F hm sc_potential (F.binds fun _ _ _ _ _ _ us hl => match us, hl with | [_, _, _], _ => rfl) fun cdv A outer s H hr gd =>
      (b_cons (b_if (t_cmp (o_eq hr.units) (v_ix i_ix (v_var 0) v_int) (v_glob k_NUM)) (b_one (b_ret (v_glob k_ZERO))) b_nil) (b_cons (b_if (t_cmp (o_eq hr.units) (v_ix i_ix (v_var 0) v_int) (v_glob k_LIST)) (b_cons (b_set 3 sc_potential.nd (v_call G_summed gd (hr.mono (by omega)) (a_cons (v_comp (own := [("one", 5)]) rfl sc_potential.nd (p_seq (v_var 2)) (blkOk_by (N := n_potential) (sc := defScope s_potential) (by decide +kernel)) (fun _ _ _ _ _ => (g_name 5 sc_potential.nd (by decide))) (fun _ _ _ _ _ => ts_nil) (fun _ _ _ _ _ => (v_call G_me gd (hr.mono (by omega)) (a_cons (v_ix i_ix (v_var 0) v_int) (a_cons (v_ix i_ix (v_var 1) v_int) (a_cons (v_var 5) a_nil))) rfl (len_cons (len_cons (len_cons len_nil)))))) a_nil) rfl (len_cons len_nil))) (b_one (b_ret (v_call G_plus gd (hr.mono (by omega)) (a_cons (v_call G_list_potential gd (hr.mono (by omega)) (a_cons (v_ix i_ix (v_var 1) v_int) (a_cons (v_callB c_len m_len (by decide +kernel) (a_cons (v_var 2) a_nil)) a_nil)) rfl (len_cons (len_cons len_nil))) (a_cons (v_var 3) a_nil)) rfl (len_cons (len_cons len_nil)))))) b_nil) (b_cons (b_if (t_cmp (o_eq hr.units) (v_ix i_ix (v_var 0) v_int) (v_glob k_TREE)) (b_cons (b_set 4 sc_potential.nd (v_call G_nodes_of gd (hr.mono (by omega)) (a_cons (v_var 2) a_nil) rfl (len_cons len_nil))) (b_cons (b_set 3 sc_potential.nd (v_call G_summed gd (hr.mono (by omega)) (a_cons (v_comp (own := [("one", 5), ("depth", 6)]) rfl sc_potential.nd (p_seq (v_var 4)) (blkOk_by (N := n_potential) (sc := defScope s_potential) (by decide +kernel)) (fun _ _ _ _ _ => (g_tup rfl (g_cons (g_name 5 sc_potential.nd (by decide)) (g_cons (g_name 6 sc_potential.nd (by decide)) g_nil)))) (fun _ _ _ _ _ => ts_nil) (fun _ _ _ _ _ => (v_call G_me gd (hr.mono (by omega)) (a_cons (v_ix i_ix (v_var 0) v_int) (a_cons (v_ix i_ix (v_var 1) v_int) (a_cons (v_var 5) a_nil))) rfl (len_cons (len_cons (len_cons len_nil)))))) a_nil) rfl (len_cons len_nil))) (b_one (b_ret (v_call G_plus gd (hr.mono (by omega)) (a_cons (v_call G_tree_potential gd (hr.mono (by omega)) (a_cons (v_ix i_ix (v_var 1) v_int) (a_cons (v_callB c_len m_len (by decide +kernel) (a_cons (v_var 4) a_nil)) (a_cons (v_callB (c_sum rfl) m_sum (by decide +kernel) (a_cons (v_comp (own := [("one", 5), ("depth", 6)]) rfl sc_potential.nd (p_seq (v_var 4)) (blkOk_by (N := n_potential) (sc := defScope s_potential) (by decide +kernel)) (fun _ _ _ _ _ => (g_tup rfl (g_cons (g_name 5 sc_potential.nd (by decide)) (g_cons (g_name 6 sc_potential.nd (by decide)) g_nil)))) (fun _ _ _ _ _ => ts_nil) (fun _ _ _ _ _ => (v_var 6))) a_nil)) a_nil))) rfl (len_cons (len_cons (len_cons len_nil)))) (a_cons (v_var 3) a_nil)) rfl (len_cons (len_cons len_nil))))))) b_nil) (b_one (b_ret (v_call G_plus gd (hr.mono (by omega)) (a_cons (v_call G_me gd (hr.mono (by omega)) (a_cons (v_ix i_ix (v_var 0) v_int) (a_cons (v_ix i_ix (v_var 1) v_int) (a_cons (v_ix i_ix (v_var 2) v_int) a_nil))) rfl (len_cons (len_cons (len_cons len_nil)))) (a_cons (v_call G_me gd (hr.mono (by omega)) (a_cons (v_ix i_ix (v_var 0) v_int) (a_cons (v_ix i_ix (v_var 1) v_int) (a_cons (v_ix i_ix (v_var 2) v_int) a_nil))) rfl (len_cons (len_cons (len_cons len_nil)))) a_nil)) rfl (len_cons (len_cons len_nil))))))))
/-! ### built -/
abbrev s_built : Stmt := topS 22
def n_built : List Str := ["kind", "degree", "numbers", "many"]
theorem sc_built : FnScope n_built ["kind", "degree", "numbers"] (defScope s_built) := ⟨rfl, rfl, rfl, by decide +kernel, rfl, by decide +kernel, by decide +kernel⟩
def b_built (me : Fun1) : DenS := (sSeq (sIf (dT (dOp eqD (dOp ixD (dVar 0) (dC (D.int 0))) (dC (D.str (Str.ofString "num"))))) (sRet (dTup lNil)) sNext) (sSeq (sIf (dT (dOp inD (dOp ixD (dVar 0) (dC (D.int 0))) (dTup (lCons (dC (D.str (Str.ofString "list"))) (lCons (dC (D.str (Str.ofString "tree"))) lNil))))) (sRet (dTup (lCons (dCall tupleF (lCons (dSl slD (dVar 2) oNone (oSome (dVar 1))) lNil)) (lCons (dCall me (lCons (dOp ixD (dVar 0) (dC (D.int 1))) (lCons (dVar 1) (lCons (dSl slD (dVar 2) (oSome (dVar 1)) oNone) lNil)))) lNil)))) sNext) (sSeq (sAsg (dCall d_width_of (lCons (dOp ixD (dVar 0) (dC (D.int 1))) (lCons (dVar 1) lNil))) (gVar 3)) (sRet (dTup (lCons (dCall me (lCons (dOp ixD (dVar 0) (dC (D.int 1))) (lCons (dVar 1) (lCons (dSl slD (dVar 2) oNone (oSome (dVar 3))) lNil)))) (lCons (dCall me (lCons (dOp ixD (dVar 0) (dC (D.int 2))) (lCons (dVar 1) (lCons (dSl slD (dVar 2) (oSome (dVar 3)) oNone) lNil)))) lNil)))))))
def d_built : Fun1 := recF 4 b_built 10
theorem h_built {P : Program} {w : World} {K : PySem.W.Frag} {mg : Str → Option Value} {base : Heap} {f : Addr} {fd : FuncData} (F : Fun K "built" "built" s_built f fd) (hm : mg "built" = some (.ref f)) (G_width_of : Has P w K mg base 10 "width_of" 2 d_width_of) (k_NUM : IsC K mg "NUM" (D.str (Str.ofString "num"))) (k_TREE : IsC K mg "TREE" (D.str (Str.ofString "tree"))) (k_LIST : IsC K mg "LIST" (D.str (Str.ofString "list"))) (m_tuple : mg "tuple" = none) : ∀ r : Nat, Has P w K mg base (10 + r) "built" 3 (recF 4 b_built r)
  | 0 => Has.none (ps := ["kind", "degree", "numbers"]) F hm (F.binds fun _ _ _ _ _ _ us hl => match us, hl with | [_, _, _], _ => rfl)
  | r + 1 => by
    have G_me := h_built (P := P) (w := w) (K := K) (mg := mg) (base := base) F hm G_width_of k_NUM k_TREE k_LIST m_tuple r
    exact has_of (k := 10 + r) F hm sc_built (F.binds fun _ _ _ _ _ _ us hl => match us, hl with | [_, _, _], _ => rfl) fun cdv A outer s H hr gd =>
      (b_cons (b_if (t_cmp (o_eq hr.units) (v_ix i_ix (v_var 0) v_int) (v_glob k_NUM)) (b_one (b_ret (v_tup a_nil))) b_nil) (b_cons (b_if (t_cmp (o_in hr.units) (v_ix i_ix (v_var 0) v_int) (v_tup (a_cons (v_glob k_LIST) (a_cons (v_glob k_TREE) a_nil)))) (b_one (b_ret (v_tup (a_cons (v_callT c_tuple m_tuple (by decide +kernel) (a_cons (v_slice s_sl (v_var 2) o_none (o_some (v_var 1))) a_nil)) (a_cons (v_call G_me gd (hr.mono (by omega)) (a_cons (v_ix i_ix (v_var 0) v_int) (a_cons (v_var 1) (a_cons (v_slice s_sl (v_var 2) (o_some (v_var 1)) o_none) a_nil))) rfl (len_cons (len_cons (len_cons len_nil)))) a_nil))))) b_nil) (b_cons (b_set 3 sc_built.nd (v_call G_width_of gd (hr.mono (by omega)) (a_cons (v_ix i_ix (v_var 0) v_int) (a_cons (v_var 1) a_nil)) rfl (len_cons (len_cons len_nil)))) (b_one (b_ret (v_tup (a_cons (v_call G_me gd (hr.mono (by omega)) (a_cons (v_ix i_ix (v_var 0) v_int) (a_cons (v_var 1) (a_cons (v_slice s_sl (v_var 2) o_none (o_some (v_var 3))) a_nil))) rfl (len_cons (len_cons (len_cons len_nil)))) (a_cons (v_call G_me gd (hr.mono (by omega)) (a_cons (v_ix i_ix (v_var 0) v_int) (a_cons (v_var 1) (a_cons (v_slice s_sl (v_var 2) (o_some (v_var 3)) o_none) a_nil))) rfl (len_cons (len_cons (len_cons len_nil)))) a_nil))))))))
/-! ### _law_potential -/
abbrev s_law_potential : Stmt := topS 39
def n_law_potential : List Str := ["kind", "annotation", "value", "items", "counts", "found", "item", "nodes", "one", "many", "depth"]
theorem sc_law_potential : FnScope n_law_potential ["kind", "annotation", "value"] (defScope s_law_potential) := ⟨rfl, rfl, rfl, by decide +kernel, rfl, by decide +kernel, by decide +kernel⟩
def b_law_potential (me : Fun1) : DenS := (sSeq (sIf (dT (dOp eqD (dOp ixD (dVar 0) (dC (D.int 0))) (dC (D.str (Str.ofString "num"))))) (sRet (dTup (lCons (dC (D.int 0)) (lCons (dC (D.int 1)) lNil)))) sNext) (sSeq (sIf (dT (dOp eqD (dOp ixD (dVar 0) (dC (D.int 0))) (dC (D.str (Str.ofString "pair"))))) (sRet (dCall d_law_add (lCons (dCall me (lCons (dOp ixD (dVar 0) (dC (D.int 1))) (lCons (dOp ixD (dVar 1) (dC (D.int 0))) (lCons (dOp ixD (dVar 2) (dC (D.int 0))) lNil)))) (lCons (dCall me (lCons (dOp ixD (dVar 0) (dC (D.int 2))) (lCons (dOp ixD (dVar 1) (dC (D.int 1))) (lCons (dOp ixD (dVar 2) (dC (D.int 1))) lNil)))) lNil)))) sNext) (sSeq (sAsg (dCall listF (lCons (dVar 2) lNil)) (gVar 3)) (sSeq (sAsg (dLst (lCons (dCall lenF (lCons (dVar 3) lNil)) (lCons (dOp fdivD (dCall intF (lCons (dOp mulD (dCall lenF (lCons (dVar 3) lNil)) (dOp subD (dCall lenF (lCons (dVar 3) lNil)) (dC (D.int 1)))) lNil)) (dC (D.int 2))) lNil))) (gVar 4)) (sSeq (sIf (dT (dOp eqD (dOp ixD (dVar 0) (dC (D.int 0))) (dC (D.str (Str.ofString "tree"))))) (sSeq (sAsg (dCall d_law_nodes (lCons (dVar 2) (lCons (dC (D.int 0)) lNil))) (gVar 7)) (sSeq (sAsg (dComp [6, 10] (iSeq (dVar 7)) (gTp 2 (gC (gVar 6) (gC (gVar 10) gN))) tauY (dVar 6)) (gVar 3)) (sAsg (dLst (lCons (dCall lenF (lCons (dVar 7) lNil)) (lCons (dCall sumF (lCons (dComp [6, 10] (iSeq (dVar 7)) (gTp 2 (gC (gVar 6) (gC (gVar 10) gN))) tauY (dVar 10)) lNil)) lNil))) (gVar 4)))) sNext) (sSeq (sAsg (dTup (lCons (dC (D.int 0)) (lCons (dC (D.int 1)) lNil))) (gVar 5)) (sSeq (sFor (iZipX (dOp ixD (dVar 1) (dC (D.int 0))) (dVar 4)) (gTp 2 (gC (gVar 8) (gC (gVar 9) gN))) (sAsg (dCall d_law_add (lCons (dVar 5) (lCons (dCall d_law_mul (lCons (dVar 8) (lCons (dTup (lCons (dVar 9) (lCons (dC (D.int 1)) lNil))) lNil))) lNil))) (gVar 5))) (sSeq (sFor (iSeq (dVar 3)) (gVar 6) (sAsg (dCall d_law_add (lCons (dVar 5) (lCons (dCall me (lCons (dOp ixD (dVar 0) (dC (D.int 1))) (lCons (dOp ixD (dVar 1) (dC (D.int 1))) (lCons (dVar 6) lNil)))) lNil))) (gVar 5))) (sRet (dVar 5))))))))))
def d_law_potential : Fun1 := recF 11 b_law_potential 10
theorem h_law_potential {P : Program} {w : World} {K : PySem.W.Frag} {mg : Str → Option Value} {base : Heap} {f : Addr} {fd : FuncData} (F : Fun K "_law_potential" "_law_potential" s_law_potential f fd) (hm : mg "_law_potential" = some (.ref f)) (G_law_add : Has P w K mg base 10 "_law_add" 2 d_law_add) (G_law_nodes : Has P w K mg base 10 "_law_nodes" 2 d_law_nodes) (G_law_mul : Has P w K mg base 10 "_law_mul" 2 d_law_mul) (m_list : mg "list" = none) (m_len : mg "len" = none) (m_int : mg "int" = none) (m_sum : mg "sum" = none) (m_zip : mg "zip" = none) : ∀ r : Nat, Has P w K mg base (10 + r) "_law_potential" 3 (recF 11 b_law_potential r)
  | 0 => Has.none (ps := ["kind", "annotation", "value"]) F hm (F.binds fun _ _ _ _ _ _ us hl => match us, hl with | [_, _, _], _ => rfl)
  | r + 1 => by
    have G_me := h_law_potential (P := P) (w := w) (K := K) (mg := mg) (base := base) F hm G_law_add G_law_nodes G_law_mul m_list m_len m_int m_sum m_zip r
    exact has_of (k := 10 + r) F hm sc_law_potential (F.binds fun _ _ _ _ _ _ us hl => match us, hl with | [_, _, _], _ => rfl) fun cdv A outer s H hr gd =>
      (b_cons (b_if (t_cmp (o_eq hr.units) (v_ix i_ix (v_var 0) v_int) v_str) (b_one (b_ret (v_tup (a_cons v_int (a_cons v_int a_nil))))) b_nil) (b_cons (b_if (t_cmp (o_eq hr.units) (v_ix i_ix (v_var 0) v_int) v_str) (b_one (b_ret (v_call G_law_add gd (hr.mono (by omega)) (a_cons (v_call G_me gd (hr.mono (by omega)) (a_cons (v_ix i_ix (v_var 0) v_int) (a_cons (v_ix i_ix (v_var 1) v_int) (a_cons (v_ix i_ix (v_var 2) v_int) a_nil))) rfl (len_cons (len_cons (len_cons len_nil)))) (a_cons (v_call G_me gd (hr.mono (by omega)) (a_cons (v_ix i_ix (v_var 0) v_int) (a_cons (v_ix i_ix (v_var 1) v_int) (a_cons (v_ix i_ix (v_var 2) v_int) a_nil))) rfl (len_cons (len_cons (len_cons len_nil)))) a_nil)) rfl (len_cons (len_cons len_nil))))) b_nil) (b_cons (b_set 3 sc_law_potential.nd (v_callT c_list m_list (by decide +kernel) (a_cons (v_var 2) a_nil))) (b_cons (b_set 4 sc_law_potential.nd (v_lst (a_cons (v_callB c_len m_len (by decide +kernel) (a_cons (v_var 3) a_nil)) (a_cons (v_op o_fdiv (v_callT c_int m_int (by decide +kernel) (a_cons (v_op o_mul (v_callB c_len m_len (by decide +kernel) (a_cons (v_var 3) a_nil)) (v_op o_sub (v_callB c_len m_len (by decide +kernel) (a_cons (v_var 3) a_nil)) v_int)) a_nil)) v_int) a_nil)))) (b_cons (b_if (t_cmp (o_eq hr.units) (v_ix i_ix (v_var 0) v_int) v_str) (b_cons (b_set 7 sc_law_potential.nd (v_call G_law_nodes gd (hr.mono (by omega)) (a_cons (v_var 2) (a_cons v_int a_nil)) rfl (len_cons (len_cons len_nil)))) (b_cons (b_setLc (own := [("item", 6), ("depth", 10)]) 3 rfl sc_law_potential.nd (p_seq (v_var 7)) (blkOk_by (N := n_law_potential) (sc := defScope s_law_potential) (by decide +kernel)) (fun _ _ _ _ _ => (g_tup rfl (g_cons (g_name 6 sc_law_potential.nd (by decide)) (g_cons (g_name 10 sc_law_potential.nd (by decide)) g_nil)))) (fun _ _ _ _ _ => ts_nil) (fun _ _ _ _ _ => (v_var 6)) (sw_true rfl rfl rfl (by decide +kernel))) (b_one (b_set 4 sc_law_potential.nd (v_lst (a_cons (v_callB c_len m_len (by decide +kernel) (a_cons (v_var 7) a_nil)) (a_cons (v_callB (c_sum rfl) m_sum (by decide +kernel) (a_cons (v_comp (own := [("item", 6), ("depth", 10)]) rfl sc_law_potential.nd (p_seq (v_var 7)) (blkOk_by (N := n_law_potential) (sc := defScope s_law_potential) (by decide +kernel)) (fun _ _ _ _ _ => (g_tup rfl (g_cons (g_name 6 sc_law_potential.nd (by decide)) (g_cons (g_name 10 sc_law_potential.nd (by decide)) g_nil)))) (fun _ _ _ _ _ => ts_nil) (fun _ _ _ _ _ => (v_var 10))) a_nil)) a_nil))))))) b_nil) (b_cons (b_set 5 sc_law_potential.nd (v_tup (a_cons v_int (a_cons v_int a_nil)))) (b_cons (b_for [8, 9] PassesOwn.never rfl (p_zipX m_zip (v_ix i_ix (v_var 1) v_int) (v_var 4)) (g_tup rfl (g_cons (g_name 8 sc_law_potential.nd (by decide)) (g_cons (g_name 9 sc_law_potential.nd (by decide)) g_nil))) (b_one (b_set 5 sc_law_potential.nd (v_call G_law_add gd (hr.mono (by omega)) (a_cons (v_var 5) (a_cons (v_call G_law_mul gd (hr.mono (by omega)) (a_cons (v_var 8) (a_cons (v_tup (a_cons (v_var 9) (a_cons v_int a_nil))) a_nil)) rfl (len_cons (len_cons len_nil))) a_nil)) rfl (len_cons (len_cons len_nil)))))) (b_cons (b_for [6] PassesOwn.never rfl (p_seq (v_var 3)) (g_name 6 sc_law_potential.nd (by decide)) (b_one (b_set 5 sc_law_potential.nd (v_call G_law_add gd (hr.mono (by omega)) (a_cons (v_var 5) (a_cons (v_call G_me gd (hr.mono (by omega)) (a_cons (v_ix i_ix (v_var 0) v_int) (a_cons (v_ix i_ix (v_var 1) v_int) (a_cons (v_var 6) a_nil))) rfl (len_cons (len_cons (len_cons len_nil)))) a_nil)) rfl (len_cons (len_cons len_nil)))))) (b_one (b_ret (v_var 5)))))))))))
/-! ### none_of -/
abbrev s_none_of : Stmt := topS 24
def n_none_of : List Str := ["kind", "degree"]
theorem sc_none_of : FnScope n_none_of ["kind", "degree"] (defScope s_none_of) := ⟨rfl, rfl, rfl, by decide +kernel, rfl, by decide +kernel, by decide +kernel⟩
def b_none_of : DenS := (sRet (dCall d_built (lCons (dVar 0) (lCons (dVar 1) (lCons (dOp mulD (dTup (lCons (dC (D.tup [(D.int 0), (D.int 1)])) lNil)) (dCall d_width_of (lCons (dVar 0) (lCons (dVar 1) lNil)))) lNil)))))
def d_none_of : Fun1 := bodyF 2 b_none_of
theorem h_none_of {P : Program} {w : World} {K : PySem.W.Frag} {mg : Str → Option Value} {base : Heap} {f : Addr} {fd : FuncData} (F : Fun K "none_of" "none_of" s_none_of f fd) (hm : mg "none_of" = some (.ref f)) (G_built : Has P w K mg base 20 "built" 3 d_built) (G_width_of : Has P w K mg base 20 "width_of" 2 d_width_of) (k_ZERO : IsC K mg "ZERO" (D.tup [(D.int 0), (D.int 1)])) : Has P w K mg base 21 "none_of" 2 d_none_of :=
  has_of (k := 20) F hm sc_none_of (F.binds fun _ _ _ _ _ _ us hl => match us, hl with | [_, _], _ => rfl) fun cdv A outer s H hr gd =>
  (b_one (b_ret (v_call G_built gd (hr.mono (by decide)) (a_cons (v_var 0) (a_cons (v_var 1) (a_cons (v_op o_mul (v_tup (a_cons (v_glob k_ZERO) a_nil)) (v_call G_width_of gd (hr.mono (by decide)) (a_cons (v_var 0) (a_cons (v_var 1) a_nil)) rfl (len_cons (len_cons len_nil)))) a_nil))) rfl (len_cons (len_cons (len_cons len_nil))))))
/-! ### shared -/
abbrev s_shared : Stmt := topS 25
def n_shared : List Str := ["kind", "one", "other", "couples", "mine", "its"]
theorem sc_shared : FnScope n_shared ["kind", "one", "other"] (defScope s_shared) := ⟨rfl, rfl, rfl, by decide +kernel, rfl, by decide +kernel, by decide +kernel⟩
def b_shared : DenS := (sSeq (sAsg (dListZip (dCall d_numbers_in (lCons (dVar 0) (lCons (dVar 1) lNil))) (dCall d_numbers_in (lCons (dVar 0) (lCons (dVar 2) lNil)))) (gVar 3)) (sRet (dCall d_built (lCons (dVar 0) (lCons (dCall d_degree_in (lCons (dVar 0) (lCons (dVar 1) lNil))) (lCons (dCall tupleF (lCons (dComp [4, 5] (iSeq (dVar 3)) (gTp 2 (gC (gVar 4) (gC (gVar 5) gN))) tauY (dCall d_plus (lCons (dVar 4) (lCons (dVar 5) lNil)))) lNil)) lNil))))))
def d_shared : Fun1 := bodyF 6 b_shared
theorem h_shared {P : Program} {w : World} {K : PySem.W.Frag} {mg : Str → Option Value} {base : Heap} {f : Addr} {fd : FuncData} (F : Fun K "shared" "shared" s_shared f fd) (hm : mg "shared" = some (.ref f)) (G_numbers_in : Has P w K mg base 20 "numbers_in" 2 d_numbers_in) (G_built : Has P w K mg base 20 "built" 3 d_built) (G_plus : Has P w K mg base 20 "plus" 2 d_plus) (G_degree_in : Has P w K mg base 20 "degree_in" 2 d_degree_in) (m_list : mg "list" = none) (m_zip : mg "zip" = none) (m_tuple : mg "tuple" = none) : Has P w K mg base 21 "shared" 3 d_shared :=
  has_of (k := 20) F hm sc_shared (F.binds fun _ _ _ _ _ _ us hl => match us, hl with | [_, _, _], _ => rfl) fun cdv A outer s H hr gd =>
  (b_cons (b_set 3 sc_shared.nd (v_listZip m_list m_zip (v_call G_numbers_in gd (hr.mono (by decide)) (a_cons (v_var 0) (a_cons (v_var 1) a_nil)) rfl (len_cons (len_cons len_nil))) (v_call G_numbers_in gd (hr.mono (by decide)) (a_cons (v_var 0) (a_cons (v_var 2) a_nil)) rfl (len_cons (len_cons len_nil))))) (b_one (b_ret (v_call G_built gd (hr.mono (by decide)) (a_cons (v_var 0) (a_cons (v_call G_degree_in gd (hr.mono (by decide)) (a_cons (v_var 0) (a_cons (v_var 1) a_nil)) rfl (len_cons (len_cons len_nil))) (a_cons (v_callT c_tuple m_tuple (by decide +kernel) (a_cons (v_comp (own := [("mine", 4), ("its", 5)]) rfl sc_shared.nd (p_seq (v_var 3)) (blkOk_by (N := n_shared) (sc := defScope s_shared) (by decide +kernel)) (fun _ _ _ _ _ => (g_tup rfl (g_cons (g_name 4 sc_shared.nd (by decide)) (g_cons (g_name 5 sc_shared.nd (by decide)) g_nil)))) (fun _ _ _ _ _ => ts_nil) (fun _ _ _ _ _ => (v_call G_plus gd (hr.mono (by decide)) (a_cons (v_var 4) (a_cons (v_var 5) a_nil)) rfl (len_cons (len_cons len_nil))))) a_nil)) a_nil))) rfl (len_cons (len_cons (len_cons len_nil)))))))
/-! ### scaled -/
abbrev s_scaled : Stmt := topS 27
def n_scaled : List Str := ["kind", "annotation", "factor", "numbers", "one"]
theorem sc_scaled : FnScope n_scaled ["kind", "annotation", "factor"] (defScope s_scaled) := ⟨rfl, rfl, rfl, by decide +kernel, rfl, by decide +kernel, by decide +kernel⟩
def b_scaled : DenS := (sSeq (sAsg (dCall tupleF (lCons (dComp [4] (iSeq (dCall d_numbers_in (lCons (dVar 0) (lCons (dVar 1) lNil)))) (gVar 4) tauY (dCall d_times (lCons (dVar 4) (lCons (dVar 2) lNil)))) lNil)) (gVar 3)) (sRet (dCall d_built (lCons (dVar 0) (lCons (dCall d_degree_in (lCons (dVar 0) (lCons (dVar 1) lNil))) (lCons (dVar 3) lNil))))))
def d_scaled : Fun1 := bodyF 5 b_scaled
theorem h_scaled {P : Program} {w : World} {K : PySem.W.Frag} {mg : Str → Option Value} {base : Heap} {f : Addr} {fd : FuncData} (F : Fun K "scaled" "scaled" s_scaled f fd) (hm : mg "scaled" = some (.ref f)) (G_numbers_in : Has P w K mg base 20 "numbers_in" 2 d_numbers_in) (G_times : Has P w K mg base 20 "times" 2 d_times) (G_built : Has P w K mg base 20 "built" 3 d_built) (G_degree_in : Has P w K mg base 20 "degree_in" 2 d_degree_in) (m_tuple : mg "tuple" = none) : Has P w K mg base 21 "scaled" 3 d_scaled :=
  has_of (k := 20) F hm sc_scaled (F.binds fun _ _ _ _ _ _ us hl => match us, hl with | [_, _, _], _ => rfl) fun cdv A outer s H hr gd =>
  (b_cons (b_set 3 sc_scaled.nd (v_callT c_tuple m_tuple (by decide +kernel) (a_cons (v_comp (own := [("one", 4)]) rfl sc_scaled.nd (p_seq (v_call G_numbers_in gd (hr.mono (by decide)) (a_cons (v_var 0) (a_cons (v_var 1) a_nil)) rfl (len_cons (len_cons len_nil)))) (blkOk_by (N := n_scaled) (sc := defScope s_scaled) (by decide +kernel)) (fun _ _ _ _ _ => (g_name 4 sc_scaled.nd (by decide))) (fun _ _ _ _ _ => ts_nil) (fun _ _ _ _ _ => (v_call G_times gd (hr.mono (by decide)) (a_cons (v_var 4) (a_cons (v_var 2) a_nil)) rfl (len_cons (len_cons len_nil))))) a_nil))) (b_one (b_ret (v_call G_built gd (hr.mono (by decide)) (a_cons (v_var 0) (a_cons (v_call G_degree_in gd (hr.mono (by decide)) (a_cons (v_var 0) (a_cons (v_var 1) a_nil)) rfl (len_cons (len_cons len_nil))) (a_cons (v_var 3) a_nil))) rfl (len_cons (len_cons (len_cons len_nil)))))))
/-! ### law -/
abbrev s_law : Stmt := topS 45
def n_law : List Str := ["script", "bag", "turn", "sums", "again", "some", "kind", "degree", "one", "other", "value", "factor", "kept", "mine", "its", "both", "a", "b"]
theorem sc_law : FnScope n_law ["script"] (defScope s_law) := ⟨rfl, rfl, rfl, by decide +kernel, rfl, by decide +kernel, by decide +kernel⟩
def b_law : DenS := (sSeq (sAsg (dCall d_law_bag (lCons (dVar 0) lNil)) (gVar 1)) (sSeq (sFor (iRng1 (dC (D.int 8))) (gVar 2) (sSeq (sPar 6 7 (lCons (dCall d_law_kind (lCons (dVar 1) lNil)) (lCons (dOp addD (dC (D.int 1)) (dCall d_law_take (lCons (dVar 1) (lCons (dC (D.int 2)) lNil)))) lNil))) (sSeq (sPar 8 9 (lCons (dCall d_law_annotation (lCons (dVar 1) (lCons (dVar 6) (lCons (dVar 7) lNil)))) (lCons (dCall d_law_annotation (lCons (dVar 1) (lCons (dVar 6) (lCons (dVar 7) lNil)))) lNil))) (sSeq (sAsg (dTup (lCons (dCall d_law_value (lCons (dVar 1) (lCons (dVar 6) (lCons (dC (D.int 5)) lNil)))) (lCons (dCall d_law_made (lCons (dCall d_law_take (lCons (dVar 1) (lCons (dC (D.int 5)) lNil))) (lCons (dOp addD (dC (D.int 1)) (dCall d_law_take (lCons (dVar 1) (lCons (dC (D.int 3)) lNil)))) lNil))) lNil))) (gTp 2 (gC (gVar 10) (gC (gVar 11) gN)))) (sSeq (sPar3 12 13 14 (lCons (dCall reprF (lCons (dTup (lCons (dVar 8) (lCons (dVar 9) lNil))) lNil)) (lCons (dCall d_law_potential (lCons (dVar 6) (lCons (dVar 8) (lCons (dVar 10) lNil)))) (lCons (dCall d_law_potential (lCons (dVar 6) (lCons (dVar 9) (lCons (dVar 10) lNil)))) lNil)))) (sSeq (sAsg (dComp [16, 17] (iZipX (dCall d_law_flat (lCons (dVar 8) lNil)) (dCall d_law_flat (lCons (dVar 9) lNil))) (gTp 2 (gC (gVar 16) (gC (gVar 17) gN))) tauY (dCall d_law_add (lCons (dVar 16) (lCons (dVar 17) lNil)))) (gVar 3)) (sSeq (sFor (iRng1 (dC (D.int 2))) (gVar 4) (sSeq (sAsg (dCall d_shared (lCons (dVar 6) (lCons (dVar 8) (lCons (dVar 9) lNil)))) (gVar 15)) (sSeq (sIf (dOrT (dT (dOp neD (dCall d_law_flat (lCons (dVar 15) lNil)) (dVar 3))) (dT (dOp neD (dCall d_potential (lCons (dVar 6) (lCons (dVar 15) (lCons (dVar 10) lNil)))) (dCall d_law_add (lCons (dVar 13) (lCons (dVar 14) lNil)))))) (sRet (dC (D.bl false))) sNext) (sIf (dOrT (dNotT (dT (dCall d_law_alike (lCons (dCall d_covers (lCons (dVar 6) (lCons (dVar 8) (lCons (dVar 9) lNil)))) (lCons (dCall d_law_covers (lCons (dVar 8) (lCons (dVar 9) lNil))) lNil))))) (dT (dOp neD (dCall reprF (lCons (dTup (lCons (dVar 8) (lCons (dVar 9) lNil))) lNil)) (dVar 12)))) (sRet (dC (D.bl false))) sNext)))) (sSeq (sIf (dOrT (dT (dOp isNotD (dCall d_covers (lCons (dVar 6) (lCons (dVar 15) (lCons (dVar 8) lNil)))) (dC (D.bl true)))) (dT (dOp isNotD (dCall d_covers (lCons (dVar 6) (lCons (dVar 8) (lCons (dCall d_none_of (lCons (dVar 6) (lCons (dVar 7) lNil))) lNil)))) (dC (D.bl true))))) (sRet (dC (D.bl false))) sNext) (sSeq (sIf (dAndT (dT (dCall d_covers (lCons (dVar 6) (lCons (dVar 8) (lCons (dVar 9) lNil))))) (dT (dCall d_law_less (lCons (dVar 13) (lCons (dVar 14) lNil))))) (sRet (dC (D.bl false))) sNext) (sSeq (sAsg (dCall d_scaled (lCons (dVar 6) (lCons (dVar 8) (lCons (dVar 11) lNil)))) (gVar 5)) (sSeq (sIf (dT (dOp neD (dCall d_law_flat (lCons (dVar 5) lNil)) (dComp [16] (iSeq (dCall d_law_flat (lCons (dVar 8) lNil))) (gVar 16) tauY (dCall d_law_mul (lCons (dVar 16) (lCons (dVar 11) lNil)))))) (sRet (dC (D.bl false))) sNext) (sSeq (sIf (dT (dOp neD (dCall d_potential (lCons (dVar 6) (lCons (dVar 5) (lCons (dVar 10) lNil)))) (dCall d_law_mul (lCons (dVar 13) (lCons (dVar 11) lNil))))) (sRet (dC (D.bl false))) sNext) (sIf (dNotT (dT (dCall d_law_alike (lCons (dCall d_shared (lCons (dVar 6) (lCons (dVar 8) (lCons (dCall d_none_of (lCons (dVar 6) (lCons (dVar 7) lNil))) lNil)))) (lCons (dVar 8) lNil))))) (sRet (dC (D.bl false))) sNext))))))))))))) (sRet (dC (D.bl true)))))
def d_law : Fun1 := bodyF 18 b_law
theorem h_law {P : Program} {w : World} {K : PySem.W.Frag} {mg : Str → Option Value} {base : Heap} {f : Addr} {fd : FuncData} (F : Fun K "law" "law" s_law f fd) (hm : mg "law" = some (.ref f)) (G_law_bag : Has P w K mg base 21 "_law_bag" 1 d_law_bag) (G_law_take : Has P w K mg base 21 "_law_take" 2 d_law_take) (G_law_kind : Has P w K mg base 21 "_law_kind" 1 d_law_kind) (G_law_annotation : Has P w K mg base 21 "_law_annotation" 3 d_law_annotation) (G_law_made : Has P w K mg base 21 "_law_made" 2 d_law_made) (G_law_value : Has P w K mg base 21 "_law_value" 3 d_law_value) (G_law_potential : Has P w K mg base 21 "_law_potential" 3 d_law_potential) (G_law_flat : Has P w K mg base 21 "_law_flat" 1 d_law_flat) (G_law_add : Has P w K mg base 21 "_law_add" 2 d_law_add) (G_shared : Has P w K mg base 21 "shared" 3 d_shared) (G_potential : Has P w K mg base 21 "potential" 3 d_potential) (G_law_alike : Has P w K mg base 21 "_law_alike" 2 d_law_alike) (G_law_covers : Has P w K mg base 21 "_law_covers" 2 d_law_covers) (G_covers : Has P w K mg base 21 "covers" 3 d_covers) (G_none_of : Has P w K mg base 21 "none_of" 2 d_none_of) (G_law_less : Has P w K mg base 21 "_law_less" 2 d_law_less) (G_scaled : Has P w K mg base 21 "scaled" 3 d_scaled) (G_law_mul : Has P w K mg base 21 "_law_mul" 2 d_law_mul) (m_range : mg "range" = none) (m_repr : mg "repr" = none) (m_zip : mg "zip" = none) : Has P w K mg base 22 "law" 1 d_law :=
  has_of (k := 21) F hm sc_law (F.binds fun _ _ _ _ _ _ us hl => match us, hl with | [_], _ => rfl) fun cdv A outer s H hr gd =>
  (b_cons (b_set 1 sc_law.nd (v_call G_law_bag gd (hr.mono (by decide)) (a_cons (v_var 0) a_nil) rfl (len_cons len_nil))) (b_cons (b_for [2] PassesOwn.never rfl (p_rng1 m_range v_int) (g_name 2 sc_law.nd (by decide)) (b_cons (b_par 6 7 rfl sc_law.nd (a_cons (v_call G_law_kind gd (hr.mono (by decide)) (a_cons (v_var 1) a_nil) rfl (len_cons len_nil)) (a_cons (v_op o_add v_int (v_call G_law_take gd (hr.mono (by decide)) (a_cons (v_var 1) (a_cons v_int a_nil)) rfl (len_cons (len_cons len_nil)))) a_nil))) (b_cons (b_par 8 9 rfl sc_law.nd (a_cons (v_call G_law_annotation gd (hr.mono (by decide)) (a_cons (v_var 1) (a_cons (v_var 6) (a_cons (v_var 7) a_nil))) rfl (len_cons (len_cons (len_cons len_nil)))) (a_cons (v_call G_law_annotation gd (hr.mono (by decide)) (a_cons (v_var 1) (a_cons (v_var 6) (a_cons (v_var 7) a_nil))) rfl (len_cons (len_cons (len_cons len_nil)))) a_nil))) (b_cons (b_asg [10, 11] (v_tup (a_cons (v_call G_law_value gd (hr.mono (by decide)) (a_cons (v_var 1) (a_cons (v_var 6) (a_cons v_int a_nil))) rfl (len_cons (len_cons (len_cons len_nil)))) (a_cons (v_call G_law_made gd (hr.mono (by decide)) (a_cons (v_call G_law_take gd (hr.mono (by decide)) (a_cons (v_var 1) (a_cons v_int a_nil)) rfl (len_cons (len_cons len_nil))) (a_cons (v_op o_add v_int (v_call G_law_take gd (hr.mono (by decide)) (a_cons (v_var 1) (a_cons v_int a_nil)) rfl (len_cons (len_cons len_nil)))) a_nil)) rfl (len_cons (len_cons len_nil))) a_nil))) (g_tup rfl (g_cons (g_name 10 sc_law.nd (by decide)) (g_cons (g_name 11 sc_law.nd (by decide)) g_nil)))) (b_cons (b_par3 12 13 14 rfl sc_law.nd (a_cons (v_callB (c_repr gd hr.units) m_repr (by decide +kernel) (a_cons (v_tup (a_cons (v_var 8) (a_cons (v_var 9) a_nil))) a_nil)) (a_cons (v_call G_law_potential gd (hr.mono (by decide)) (a_cons (v_var 6) (a_cons (v_var 8) (a_cons (v_var 10) a_nil))) rfl (len_cons (len_cons (len_cons len_nil)))) (a_cons (v_call G_law_potential gd (hr.mono (by decide)) (a_cons (v_var 6) (a_cons (v_var 9) (a_cons (v_var 10) a_nil))) rfl (len_cons (len_cons (len_cons len_nil)))) a_nil)))) (b_cons (b_setLc (own := [("a", 16), ("b", 17)]) 3 rfl sc_law.nd (p_zipX m_zip (v_call G_law_flat gd (hr.mono (by decide)) (a_cons (v_var 8) a_nil) rfl (len_cons len_nil)) (v_call G_law_flat gd (hr.mono (by decide)) (a_cons (v_var 9) a_nil) rfl (len_cons len_nil))) (blkOk_by (N := n_law) (sc := defScope s_law) (by decide +kernel)) (fun _ _ _ _ _ => (g_tup rfl (g_cons (g_name 16 sc_law.nd (by decide)) (g_cons (g_name 17 sc_law.nd (by decide)) g_nil)))) (fun _ _ _ _ _ => ts_nil) (fun _ _ _ _ _ => (v_call G_law_add gd (hr.mono (by decide)) (a_cons (v_var 16) (a_cons (v_var 17) a_nil)) rfl (len_cons (len_cons len_nil)))) (sw_true rfl rfl rfl (by decide +kernel))) (b_cons (b_for [4] PassesOwn.never rfl (p_rng1 m_range v_int) (g_name 4 sc_law.nd (by decide)) (b_cons (b_set 15 sc_law.nd (v_call G_shared gd (hr.mono (by decide)) (a_cons (v_var 6) (a_cons (v_var 8) (a_cons (v_var 9) a_nil))) rfl (len_cons (len_cons (len_cons len_nil))))) (b_cons (b_if (t_w (w_or (t_cmp (o_ne hr.units) (v_call G_law_flat gd (hr.mono (by decide)) (a_cons (v_var 15) a_nil) rfl (len_cons len_nil)) (v_var 3)) (w_or1 (t_cmp (o_ne hr.units) (v_call G_potential gd (hr.mono (by decide)) (a_cons (v_var 6) (a_cons (v_var 15) (a_cons (v_var 10) a_nil))) rfl (len_cons (len_cons (len_cons len_nil)))) (v_call G_law_add gd (hr.mono (by decide)) (a_cons (v_var 13) (a_cons (v_var 14) a_nil)) rfl (len_cons (len_cons len_nil))))))) (b_one (b_ret v_bl)) b_nil) (b_one (b_if (t_w (w_or (t_not (t_val (v_call G_law_alike gd (hr.mono (by decide)) (a_cons (v_call G_covers gd (hr.mono (by decide)) (a_cons (v_var 6) (a_cons (v_var 8) (a_cons (v_var 9) a_nil))) rfl (len_cons (len_cons (len_cons len_nil)))) (a_cons (v_call G_law_covers gd (hr.mono (by decide)) (a_cons (v_var 8) (a_cons (v_var 9) a_nil)) rfl (len_cons (len_cons len_nil))) a_nil)) rfl (len_cons (len_cons len_nil))))) (w_or1 (t_cmp (o_ne hr.units) (v_callB (c_repr gd hr.units) m_repr (by decide +kernel) (a_cons (v_tup (a_cons (v_var 8) (a_cons (v_var 9) a_nil))) a_nil)) (v_var 12))))) (b_one (b_ret v_bl)) b_nil))))) (b_cons (b_if (t_w (w_or (t_cmp o_isNot (v_call G_covers gd (hr.mono (by decide)) (a_cons (v_var 6) (a_cons (v_var 15) (a_cons (v_var 8) a_nil))) rfl (len_cons (len_cons (len_cons len_nil)))) v_bl) (w_or1 (t_cmp o_isNot (v_call G_covers gd (hr.mono (by decide)) (a_cons (v_var 6) (a_cons (v_var 8) (a_cons (v_call G_none_of gd (hr.mono (by decide)) (a_cons (v_var 6) (a_cons (v_var 7) a_nil)) rfl (len_cons (len_cons len_nil))) a_nil))) rfl (len_cons (len_cons (len_cons len_nil)))) v_bl)))) (b_one (b_ret v_bl)) b_nil) (b_cons (b_if (t_w (w_and (t_val (v_call G_covers gd (hr.mono (by decide)) (a_cons (v_var 6) (a_cons (v_var 8) (a_cons (v_var 9) a_nil))) rfl (len_cons (len_cons (len_cons len_nil))))) (w_and1 (t_val (v_call G_law_less gd (hr.mono (by decide)) (a_cons (v_var 13) (a_cons (v_var 14) a_nil)) rfl (len_cons (len_cons len_nil))))))) (b_one (b_ret v_bl)) b_nil) (b_cons (b_set 5 sc_law.nd (v_call G_scaled gd (hr.mono (by decide)) (a_cons (v_var 6) (a_cons (v_var 8) (a_cons (v_var 11) a_nil))) rfl (len_cons (len_cons (len_cons len_nil))))) (b_cons (b_if (t_cmp (o_ne hr.units) (v_call G_law_flat gd (hr.mono (by decide)) (a_cons (v_var 5) a_nil) rfl (len_cons len_nil)) (v_comp (own := [("a", 16)]) rfl sc_law.nd (p_seq (v_call G_law_flat gd (hr.mono (by decide)) (a_cons (v_var 8) a_nil) rfl (len_cons len_nil))) (blkOk_by (N := n_law) (sc := defScope s_law) (by decide +kernel)) (fun _ _ _ _ _ => (g_name 16 sc_law.nd (by decide))) (fun _ _ _ _ _ => ts_nil) (fun _ _ _ _ _ => (v_call G_law_mul gd (hr.mono (by decide)) (a_cons (v_var 16) (a_cons (v_var 11) a_nil)) rfl (len_cons (len_cons len_nil)))))) (b_one (b_ret v_bl)) b_nil) (b_cons (b_if (t_cmp (o_ne hr.units) (v_call G_potential gd (hr.mono (by decide)) (a_cons (v_var 6) (a_cons (v_var 5) (a_cons (v_var 10) a_nil))) rfl (len_cons (len_cons (len_cons len_nil)))) (v_call G_law_mul gd (hr.mono (by decide)) (a_cons (v_var 13) (a_cons (v_var 11) a_nil)) rfl (len_cons (len_cons len_nil)))) (b_one (b_ret v_bl)) b_nil) (b_one (b_if (t_not (t_val (v_call G_law_alike gd (hr.mono (by decide)) (a_cons (v_call G_shared gd (hr.mono (by decide)) (a_cons (v_var 6) (a_cons (v_var 8) (a_cons (v_call G_none_of gd (hr.mono (by decide)) (a_cons (v_var 6) (a_cons (v_var 7) a_nil)) rfl (len_cons (len_cons len_nil))) a_nil))) rfl (len_cons (len_cons (len_cons len_nil)))) (a_cons (v_var 8) a_nil)) rfl (len_cons (len_cons len_nil))))) (b_one (b_ret v_bl)) b_nil)))))))))))))) (b_one (b_ret v_bl))))
/-! ### all together -/
theorem all {P : Program} {w : World} {K : PySem.W.Frag} {mg : Str → Option Value} {base : Heap}
  (S_common : Stands K mg "common" s_common)
  (S_is_less : Stands K mg "is_less" s_is_less)
  (S_whole : Stands K mg "whole" s_whole)
  (S_choose : Stands K mg "choose" s_choose)
  (S_nodes_of : Stands K mg "nodes_of" s_nodes_of)
  (S_law_bag : Stands K mg "_law_bag" s_law_bag)
  (S_law_take : Stands K mg "_law_take" s_law_take)
  (S_law_made : Stands K mg "_law_made" s_law_made)
  (S_law_is_int : Stands K mg "_law_is_int" s_law_is_int)
  (S_law_alike : Stands K mg "_law_alike" s_law_alike)
  (S_law_less : Stands K mg "_law_less" s_law_less)
  (S_made : Stands K mg "made" s_made)
  (S_law_some : Stands K mg "_law_some" s_law_some)
  (S_law_add : Stands K mg "_law_add" s_law_add)
  (S_law_mul : Stands K mg "_law_mul" s_law_mul)
  (S_plus : Stands K mg "plus" s_plus)
  (S_times : Stands K mg "times" s_times)
  (S_law_kind : Stands K mg "_law_kind" s_law_kind)
  (S_summed : Stands K mg "summed" s_summed)
  (S_list_potential : Stands K mg "list_potential" s_list_potential)
  (S_tree_potential : Stands K mg "tree_potential" s_tree_potential)
  (S_numbers_in : Stands K mg "numbers_in" s_numbers_in)
  (S_width_of : Stands K mg "width_of" s_width_of)
  (S_degree_in : Stands K mg "degree_in" s_degree_in)
  (S_law_nodes : Stands K mg "_law_nodes" s_law_nodes)
  (S_covers : Stands K mg "covers" s_covers)
  (S_law_flat : Stands K mg "_law_flat" s_law_flat)
  (S_law_annotation : Stands K mg "_law_annotation" s_law_annotation)
  (S_law_value : Stands K mg "_law_value" s_law_value)
  (S_law_covers : Stands K mg "_law_covers" s_law_covers)
  (S_potential : Stands K mg "potential" s_potential)
  (S_built : Stands K mg "built" s_built)
  (S_law_potential : Stands K mg "_law_potential" s_law_potential)
  (S_none_of : Stands K mg "none_of" s_none_of)
  (S_shared : Stands K mg "shared" s_shared)
  (S_scaled : Stands K mg "scaled" s_scaled)
  (S_law : Stands K mg "law" s_law)
  (k_NODE : IsC K mg "NODE" (D.int 3))
  (k_ZERO : IsC K mg "ZERO" (D.tup [(D.int 0), (D.int 1)]))
  (k_NUM : IsC K mg "NUM" (D.str (Str.ofString "num")))
  (k_TREE : IsC K mg "TREE" (D.str (Str.ofString "tree")))
  (k_LIST : IsC K mg "LIST" (D.str (Str.ofString "list")))
  (m_range : mg "range" = none)
  (m_len : mg "len" = none)
  (m_abs : mg "abs" = none)
  (m_int : mg "int" = none)
  (m_isinstance : mg "isinstance" = none)
  (m_bool : mg "bool" = none)
  (m_str : mg "str" = none)
  (m_list : mg "list" = none)
  (m_tuple : mg "tuple" = none)
  (m_zip : mg "zip" = none)
  (m_enumerate : mg "enumerate" = none)
  (m_sum : mg "sum" = none)
  (m_max : mg "max" = none)
  (m_any : mg "any" = none)
  (m_repr : mg "repr" = none) : Has P w K mg base 22 "law" 1 d_law := by
  obtain ⟨_, _, F, h⟩ := S_common.ex
  have G_common := h_common (P := P) (w := w) (base := base) F h 
  obtain ⟨_, _, F, h⟩ := S_is_less.ex
  have G_is_less := h_is_less (P := P) (w := w) (base := base) F h 
  obtain ⟨_, _, F, h⟩ := S_whole.ex
  have G_whole := h_whole (P := P) (w := w) (base := base) F h 
  obtain ⟨_, _, F, h⟩ := S_choose.ex
  have G_choose := h_choose (P := P) (w := w) (base := base) F h m_range
  obtain ⟨_, _, F, h⟩ := S_nodes_of.ex
  have G_nodes_of := h_nodes_of (P := P) (w := w) (base := base) F h k_NODE m_len
  obtain ⟨_, _, F, h⟩ := S_law_bag.ex
  have G_law_bag := h_law_bag (P := P) (w := w) (base := base) F h m_abs
  obtain ⟨_, _, F, h⟩ := S_law_take.ex
  have G_law_take := h_law_take (P := P) (w := w) (base := base) F h m_int
  obtain ⟨_, _, F, h⟩ := S_law_made.ex
  have G_law_made := h_law_made (P := P) (w := w) (base := base) F h m_abs m_int
  obtain ⟨_, _, F, h⟩ := S_law_is_int.ex
  have G_law_is_int := h_law_is_int (P := P) (w := w) (base := base) F h m_int m_isinstance m_bool
  obtain ⟨_, _, F, h⟩ := S_law_alike.ex
  have G_law_alike := h_law_alike (P := P) (w := w) (base := base) F h m_len m_bool m_isinstance m_str m_list m_tuple m_zip
  obtain ⟨_, _, F, h⟩ := S_law_less.ex
  have G_law_less := h_law_less (P := P) (w := w) (base := base) F h 
  obtain ⟨_, _, F, h⟩ := S_made.ex
  have G_made := h_made (P := P) (w := w) (base := base) F h (G_common.mono (by decide)) m_abs
  obtain ⟨_, _, F, h⟩ := S_law_some.ex
  have G_law_some := h_law_some (P := P) (w := w) (base := base) F h (G_law_take.mono (by decide)) m_len
  obtain ⟨_, _, F, h⟩ := S_law_add.ex
  have G_law_add := h_law_add (P := P) (w := w) (base := base) F h (G_law_made.mono (by decide))
  obtain ⟨_, _, F, h⟩ := S_law_mul.ex
  have G_law_mul := h_law_mul (P := P) (w := w) (base := base) F h (G_law_made.mono (by decide))
  obtain ⟨_, _, F, h⟩ := S_plus.ex
  have G_plus := h_plus (P := P) (w := w) (base := base) F h (G_made.mono (by decide))
  obtain ⟨_, _, F, h⟩ := S_times.ex
  have G_times := h_times (P := P) (w := w) (base := base) F h (G_made.mono (by decide))
  obtain ⟨_, _, F, h⟩ := S_law_kind.ex
  have G_law_kind := h_law_kind (P := P) (w := w) (base := base) F h (G_law_some.mono (by decide))
  obtain ⟨_, _, F, h⟩ := S_summed.ex
  have G_summed := h_summed (P := P) (w := w) (base := base) F h (G_plus.mono (by decide)) k_ZERO
  obtain ⟨_, _, F, h⟩ := S_list_potential.ex
  have G_list_potential := h_list_potential (P := P) (w := w) (base := base) F h (G_summed.mono (by decide)) (G_times.mono (by decide)) (G_whole.mono (by decide)) (G_choose.mono (by decide)) m_enumerate
  obtain ⟨_, _, F, h⟩ := S_tree_potential.ex
  have G_tree_potential := h_tree_potential (P := P) (w := w) (base := base) F h (G_summed.mono (by decide)) (G_times.mono (by decide)) (G_whole.mono (by decide)) m_zip
  obtain ⟨_, _, F, h⟩ := S_numbers_in.ex
  have G_numbers_in : Has P w K mg base 10 "numbers_in" 2 d_numbers_in := h_numbers_in (P := P) (w := w) (base := base) F h k_NUM k_TREE k_LIST 10
  obtain ⟨_, _, F, h⟩ := S_width_of.ex
  have G_width_of : Has P w K mg base 10 "width_of" 2 d_width_of := h_width_of (P := P) (w := w) (base := base) F h k_NUM k_TREE k_LIST m_sum 10
  obtain ⟨_, _, F, h⟩ := S_degree_in.ex
  have G_degree_in : Has P w K mg base 10 "degree_in" 2 d_degree_in := h_degree_in (P := P) (w := w) (base := base) F h k_NUM k_TREE k_LIST m_len m_max 10
  obtain ⟨_, _, F, h⟩ := S_law_nodes.ex
  have G_law_nodes : Has P w K mg base 10 "_law_nodes" 2 d_law_nodes := h_law_nodes (P := P) (w := w) (base := base) F h  10
  obtain ⟨_, _, F, h⟩ := S_covers.ex
  have G_covers := h_covers (P := P) (w := w) (base := base) F h (G_numbers_in.mono (by decide)) (G_is_less.mono (by decide)) m_zip m_any
  obtain ⟨_, _, F, h⟩ := S_law_flat.ex
  have G_law_flat : Has P w K mg base 11 "_law_flat" 1 d_law_flat := h_law_flat (P := P) (w := w) (base := base) F h (G_law_is_int.mono (by decide)) m_len 10
  obtain ⟨_, _, F, h⟩ := S_law_annotation.ex
  have G_law_annotation : Has P w K mg base 12 "_law_annotation" 3 d_law_annotation := h_law_annotation (P := P) (w := w) (base := base) F h (G_law_made.mono (by decide)) (G_law_some.mono (by decide)) (G_law_take.mono (by decide)) m_range m_tuple 10
  obtain ⟨_, _, F, h⟩ := S_law_value.ex
  have G_law_value : Has P w K mg base 12 "_law_value" 3 d_law_value := h_law_value (P := P) (w := w) (base := base) F h (G_law_some.mono (by decide)) (G_law_take.mono (by decide)) m_range m_max 10
  obtain ⟨_, _, F, h⟩ := S_law_covers.ex
  have G_law_covers := h_law_covers (P := P) (w := w) (base := base) F h (G_law_flat.mono (by decide)) (G_law_less.mono (by decide)) m_zip
  obtain ⟨_, _, F, h⟩ := S_potential.ex
  have G_potential : Has P w K mg base 15 "potential" 3 d_potential := h_potential (P := P) (w := w) (base := base) F h (G_summed.mono (by decide)) (G_plus.mono (by decide)) (G_list_potential.mono (by decide)) (G_nodes_of.mono (by decide)) (G_tree_potential.mono (by decide)) k_NUM k_ZERO k_LIST k_TREE m_len m_sum 10
  obtain ⟨_, _, F, h⟩ := S_built.ex
  have G_built : Has P w K mg base 20 "built" 3 d_built := h_built (P := P) (w := w) (base := base) F h (G_width_of.mono (by decide)) k_NUM k_TREE k_LIST m_tuple 10
  obtain ⟨_, _, F, h⟩ := S_law_potential.ex
  have G_law_potential : Has P w K mg base 20 "_law_potential" 3 d_law_potential := h_law_potential (P := P) (w := w) (base := base) F h (G_law_add.mono (by decide)) (G_law_nodes.mono (by decide)) (G_law_mul.mono (by decide)) m_list m_len m_int m_sum m_zip 10
  obtain ⟨_, _, F, h⟩ := S_none_of.ex
  have G_none_of := h_none_of (P := P) (w := w) (base := base) F h (G_built.mono (by decide)) (G_width_of.mono (by decide)) k_ZERO
  obtain ⟨_, _, F, h⟩ := S_shared.ex
  have G_shared := h_shared (P := P) (w := w) (base := base) F h (G_numbers_in.mono (by decide)) (G_built.mono (by decide)) (G_plus.mono (by decide)) (G_degree_in.mono (by decide)) m_list m_zip m_tuple
  obtain ⟨_, _, F, h⟩ := S_scaled.ex
  have G_scaled := h_scaled (P := P) (w := w) (base := base) F h (G_numbers_in.mono (by decide)) (G_times.mono (by decide)) (G_built.mono (by decide)) (G_degree_in.mono (by decide)) m_tuple
  obtain ⟨_, _, F, h⟩ := S_law.ex
  have G_law := h_law (P := P) (w := w) (base := base) F h (G_law_bag.mono (by decide)) (G_law_take.mono (by decide)) (G_law_kind.mono (by decide)) (G_law_annotation.mono (by decide)) (G_law_made.mono (by decide)) (G_law_value.mono (by decide)) (G_law_potential.mono (by decide)) (G_law_flat.mono (by decide)) (G_law_add.mono (by decide)) (G_shared.mono (by decide)) (G_potential.mono (by decide)) (G_law_alike.mono (by decide)) (G_law_covers.mono (by decide)) (G_covers.mono (by decide)) (G_none_of.mono (by decide)) (G_law_less.mono (by decide)) (G_scaled.mono (by decide)) (G_law_mul.mono (by decide)) m_range m_repr m_zip
  exact G_law
end K19
namespace K19
open Sh ShR Iv PySem PySem.Spec PyProof.Rows L2
/-! ### kinds, annotations -/
inductive Kd where
  | num | lst (k : Kd) | tre (k : Kd) | par (a b : Kd)
abbrev sN : D := .str (Str.ofString "num")
abbrev sL : D := .str (Str.ofString "list")
abbrev sT : D := .str (Str.ofString "tree")
abbrev sP : D := .str (Str.ofString "pair")
def kD : Kd → D
  | .num => .tup [sN]
  | .lst k => .tup [sL, kD k]
  | .tre k => .tup [sT, kD k]
  | .par a b => .tup [sP, kD a, kD b]
def dep : Kd → Nat
  | .num => 0
  | .lst k => dep k + 1
  | .tre k => dep k + 1
  | .par a b => max (dep a) (dep b) + 1
def An : Kd → Type
  | .num => Unit
  | .lst k => List Rat × An k
  | .tre k => List Rat × An k
  | .par a b => An a × An b
abbrev rwD (r : List Rat) : D := .tup (r.map qD)
def aD : (k : Kd) → An k → D
  | .num, _ => .tup []
  | .lst k, a => .tup [rwD a.1, aD k a.2]
  | .tre k, a => .tup [rwD a.1, aD k a.2]
  | .par x y, a => .tup [aD x a.1, aD y a.2]
def nums : (k : Kd) → An k → List Rat
  | .num, _ => []
  | .lst k, a => a.1 ++ nums k a.2
  | .tre k, a => a.1 ++ nums k a.2
  | .par x y, a => nums x a.1 ++ nums y a.2
def AFit (g : Nat) : (k : Kd) → An k → Prop
  | .num, _ => True
  | .lst k, a => a.1.length = g ∧ AFit g k a.2
  | .tre k, a => a.1.length = g ∧ AFit g k a.2
  | .par x y, a => AFit g x a.1 ∧ AFit g y a.2
def width (g : Nat) : Kd → Nat
  | .num => 0
  | .lst k => g + width g k
  | .tre k => g + width g k
  | .par a b => width g a + width g b
theorem nums_len {g : Nat} : ∀ (k : Kd) (a : An k), AFit g k a → (nums k a).length = width g k
  | .num, _, _ => rfl
  | .lst k, a, h => by rw [nums, List.length_append, nums_len k a.2 h.2, h.1, width]
  | .tre k, a, h => by rw [nums, List.length_append, nums_len k a.2 h.2, h.1, width]
  | .par x y, a, h => by rw [nums, List.length_append, nums_len x a.1 h.1, nums_len y a.2 h.2, width]
def mkA (g : Nat) : (k : Kd) → List Rat → An k
  | .num, _ => ()
  | .lst k, qs => (qs.take g, mkA g k (qs.drop g))
  | .tre k, qs => (qs.take g, mkA g k (qs.drop g))
  | .par x y, qs => (mkA g x (qs.take (width g x)), mkA g y (qs.drop (width g x)))
theorem mkA_fit {g : Nat} : ∀ (k : Kd) (qs : List Rat), qs.length = width g k → AFit g k (mkA g k qs)
  | .num, _, _ => trivial
  | .lst k, qs, h => by
    rw [width] at h
    exact ⟨by show (qs.take g).length = g; rw [List.length_take]; omega, mkA_fit k _ (by rw [List.length_drop]; omega)⟩
  | .tre k, qs, h => by
    rw [width] at h
    exact ⟨by show (qs.take g).length = g; rw [List.length_take]; omega, mkA_fit k _ (by rw [List.length_drop]; omega)⟩
  | .par x y, qs, h => by
    rw [width] at h
    exact ⟨mkA_fit x _ (by rw [List.length_take]; omega), mkA_fit y _ (by rw [List.length_drop]; omega)⟩
theorem nums_mkA {g : Nat} : ∀ (k : Kd) (qs : List Rat), qs.length = width g k → nums k (mkA g k qs) = qs
  | .num, qs, h => (List.eq_nil_of_length_eq_zero h).symm
  | .lst k, qs, h => by
    rw [width] at h
    show qs.take g ++ nums k (mkA g k (qs.drop g)) = qs
    rw [nums_mkA k _ (by rw [List.length_drop]; omega), List.take_append_drop]
  | .tre k, qs, h => by
    rw [width] at h
    show qs.take g ++ nums k (mkA g k (qs.drop g)) = qs
    rw [nums_mkA k _ (by rw [List.length_drop]; omega), List.take_append_drop]
  | .par x y, qs, h => by
    rw [width] at h
    show nums x (mkA g x (qs.take (width g x))) ++ nums y (mkA g y (qs.drop (width g x))) = qs
    rw [nums_mkA x _ (by rw [List.length_take]; omega), nums_mkA y _ (by rw [List.length_drop]; omega), List.take_append_drop]
theorem mkA_nums {g : Nat} : ∀ (k : Kd) (a : An k), AFit g k a → mkA g k (nums k a) = a
  | .num, _, _ => rfl
  | .lst k, a, h => by
    show ((a.1 ++ nums k a.2).take g, mkA g k ((a.1 ++ nums k a.2).drop g)) = a
    rw [List.take_left' h.1, List.drop_left' h.1, mkA_nums k a.2 h.2]
    rfl
  | .tre k, a, h => by
    show ((a.1 ++ nums k a.2).take g, mkA g k ((a.1 ++ nums k a.2).drop g)) = a
    rw [List.take_left' h.1, List.drop_left' h.1, mkA_nums k a.2 h.2]
    rfl
  | .par x y, a, h => by
    show (mkA g x ((nums x a.1 ++ nums y a.2).take (width g x)), mkA g y ((nums x a.1 ++ nums y a.2).drop (width g x))) = a
    rw [List.take_left' (nums_len x a.1 h.1), List.drop_left' (nums_len x a.1 h.1), mkA_nums x a.1 h.1, mkA_nums y a.2 h.2]
    rfl
/-! ### words -/
theorem w_nn : (Str.ofString "num" == Str.ofString "num") = true := by decide
theorem w_ln : (Str.ofString "list" == Str.ofString "num") = false := by decide
theorem w_tn : (Str.ofString "tree" == Str.ofString "num") = false := by decide
theorem w_pn : (Str.ofString "pair" == Str.ofString "num") = false := by decide
theorem w_ll : (Str.ofString "list" == Str.ofString "list") = true := by decide
theorem w_tl : (Str.ofString "tree" == Str.ofString "list") = false := by decide
theorem w_pl : (Str.ofString "pair" == Str.ofString "list") = false := by decide
theorem w_lt : (Str.ofString "list" == Str.ofString "tree") = false := by decide
theorem w_tt : (Str.ofString "tree" == Str.ofString "tree") = true := by decide
theorem w_pt : (Str.ofString "pair" == Str.ofString "tree") = false := by decide
theorem w_lp : (Str.ofString "list" == Str.ofString "pair") = false := by decide
theorem w_tp : (Str.ofString "tree" == Str.ofString "pair") = false := by decide
theorem w_pp : (Str.ofString "pair" == Str.ofString "pair") = true := by decide
theorem inSS {h : Sto} {s a b : Str} : inB h (.str s) (.tup [.str a, .str b]) = some (a == s || b == s) := by
  have e : inB h (.str s) (.tup [.str a, .str b]) = if (PyData.str s).plain = true ∧ PyData.plainAll [.str a, .str b] = true ∧ (PyData.str s).depth ≤ 60 then some ([PyData.str a, PyData.str b].any fun y => PyData.eqv y (.str s)) else none := rfl
  rw [e, if_pos ⟨rfl, rfl, Nat.zero_le _⟩]
  simp [PyData.eqv]
theorem in_l {h : Sto} : inB h sL (.tup [sL, sT]) = some true := by rw [inSS]; decide
theorem in_t {h : Sto} : inB h sT (.tup [sL, sT]) = some true := by rw [inSS]; decide
theorem in_p {h : Sto} : inB h sP (.tup [sL, sT]) = some false := by rw [inSS]; decide
/-! ### defs on kinds -/
theorem ioc {i : Int} {ds : List D} : intsOf (.int i :: ds) = (intsOf ds).map (i :: ·) := rfl
theorem ion : intsOf [] = some [] := rfl
theorem s0 : 0 ≤ sizeLine := by decide
theorem s1 : 1 ≤ sizeLine := by decide
theorem s2 : 2 ≤ sizeLine := by decide
theorem s3 : 3 ≤ sizeLine := by decide
theorem rec_iff {n : Nat} {φ : Fun1 → DenS} {r : Nat} {ds : List D} {h : Sto} {Q : D → Sto → Prop} : Ev (recF n φ (r + 1) ds h) Q ↔ Ev (bodyF n (φ (recF n φ r)) ds h) Q := Iff.rfl
theorem lenS {n : Nat} (z : n ≤ 1000) : n ≤ sizeLine := Nat.le_trans z (by decide)
theorem sp_numbers {h : Sto} : ∀ (k : Kd) (a : An k) (r : Nat), dep k < r → (nums k a).length ≤ 1000 → recF 2 b_numbers_in r [kD k, aD k a] h = some (.tup ((nums k a).map qD), h)
  | .num, a, r + 1, _, _ => by
    refine Ev_eq (rec_iff.mpr ?_)
    unfold b_numbers_in
    simp (config := {dsimp := false}) only [↓e_pr, ↓e_some, ↓e_an, ↓e_brT, ↓e_brF, ↓e_asB, ↓e_asI, ↓e_asV, ↓e_stE, ↓e_stE0, ↓e_stL, ↓e_stL0, ↓e_sqN, ↓e_sqR, ↓e_sqB, ↓e_sqC, ↓e_afN, ↓e_afR, ↓e_afB, ↓e_afC, ↓e_rtN, ↓e_rtR, ↓e_var, ↓e_c, ↓e_op, ↓e_un, ↓e_t, ↓e_nt, ↓e_anT, ↓e_orT, ↓e_and, ↓e_or, ↓e_not, ↓e_ite, ↓e_ch, ↓e_nil, ↓e_cons, ↓e_star, ↓e_tup, ↓e_lst, ↓e_mut, ↓e_call, ↓e_isiT, ↓e_lz, ↓e_meth, ↓e_meth0, ↓e_oN, ↓e_oS, ↓e_sl, ↓e_gVar, ↓e_gSub, ↓e_gTp, ↓e_gN, ↓e_gC, ↓e_next, ↓e_seq, ↓e_drop, ↓e_ret, ↓e_retN, ↓e_brk, ↓e_cnt, ↓e_if, ↓e_asg, ↓e_as2, ↓e_as3, ↓e_par, ↓e_aug, ↓e_augS, ↓e_for, ↓e_f0, ↓e_f1, ↓e_while, ↓e_asS1, ↓e_asS2, ↓e_asS3, ↓e_iSeq, ↓e_enum, ↓e_asTI, ↓e_enumC, ↓e_rng1, ↓e_zip, ↓e_zipX, ↓e_comp, ↓e_c0, ↓e_c1, ↓e_y, ↓e_body, ↓e_addI, ↓e_addT, ↓e_addL, ↓e_subI, ↓e_iadd, ↓e_mulI, ↓e_divI, ↓e_modI, ↓e_powI, ↓e_negI, ↓e_mulT, ↓e_mulL, ↓e_cmp, ↓e_eq, ↓e_ne, ↓e_isN, ↓e_isB, ↓e_isNotN, ↓e_isNotB, ↓e_ix, ↓e_abs, ↓e_toI, ↓e_toB1, ↓e_toB0, ↓e_lenT, ↓e_lenL, ↓e_lenRo, ↓e_lenR, ↓e_tupT, ↓e_tupL, ↓e_tupR, ↓e_lstT, ↓e_lstL, ↓e_allM, ↓e_in, ↓e_notIn, ↓e_sum, ↓e_max, ↓e_par3, ↓e_pop, ↓e_frz, ↓e_frzR, ↓e_isi, ↓e_slT, ↓e_slL, ↓e_slRo, ↓e_app, ↓e_ext, ↓e_setM, r_it1, r_it2, r_it3, r_it4, r_ls2, r_ls3, r_ml2, r_ml3, r_mg0, r_mgn, r_at0, r_at1, r_at2, r_at3, r_ix0, r_ix1, r_ix2, r_ty1, r_ty2, r_ty3, r_ty4, r_ty5, r_ty6, r_ty7, r_ty8, r_sNt, r_sNi, r_sNb, r_sNs, r_sbt, r_sbi, r_sbb, r_sbs, r_sit, r_sii, r_sib, r_sis, r_sst, r_ssi, r_ssb, r_sss, r_stt, r_sti, r_stb, r_sts, r_slt, r_sli, r_slb, r_sls, r_aN, r_ab, r_ai, r_as, r_at, r_al, r_eqI, r_eqB, r_eqS, r_pu1, r_pu2, r_eqN, r_fr1, r_fx1, r_fx2, r_fx3, r_bo0, r_bo1, r_c0, r_c1, r_c2, r_c3, r_c4, r_c5, r_c6, r_c7, r_c8, r_c9, r_c10, r_c11, r_c12, r_pd0, r_pd1, r_pd2, r_wi0, r_wi1, List.set_cons_zero, List.set_cons_succ, List.getElem?_cons_zero, List.getElem?_cons_succ, ↓reduceIte, List.length_cons, List.length_nil, Nat.zero_add, Nat.reduceAdd, and_true, true_and, decide_true, decide_false, eq_self, beq_self_eq_true, Bool.true_beq, Bool.false_beq, Bool.not_true, Bool.not_false, Int.reduceEq, Int.reduceLT, Int.reduceLE, Int.reduceAdd, Int.reduceSub, Int.reduceMul, Int.reduceNeg, Bool.not_not, List.append_nil, List.nil_append, List.cons_append, z_int, z_bl, z_non, z_tup, z_lst, z_str, z_lint, z_lbl, z_lnon, z_ltup, z_llst, z_lstr, z_whole, kD, w_nn, s0]
    rfl
  | .lst k, a, r + 1, hr, hl => by
    rw [nums, List.length_append] at hl
    have ih := sp_numbers (h := h) k a.2 r (by rw [dep] at hr; omega) (by omega)
    refine Ev_eq (rec_iff.mpr ?_)
    generalize recF 2 b_numbers_in r = me at ih ⊢
    unfold b_numbers_in
    simp (config := {dsimp := false}) only [↓e_pr, ↓e_some, ↓e_an, ↓e_brT, ↓e_brF, ↓e_asB, ↓e_asI, ↓e_asV, ↓e_stE, ↓e_stE0, ↓e_stL, ↓e_stL0, ↓e_sqN, ↓e_sqR, ↓e_sqB, ↓e_sqC, ↓e_afN, ↓e_afR, ↓e_afB, ↓e_afC, ↓e_rtN, ↓e_rtR, ↓e_var, ↓e_c, ↓e_op, ↓e_un, ↓e_t, ↓e_nt, ↓e_anT, ↓e_orT, ↓e_and, ↓e_or, ↓e_not, ↓e_ite, ↓e_ch, ↓e_nil, ↓e_cons, ↓e_star, ↓e_tup, ↓e_lst, ↓e_mut, ↓e_call, ↓e_isiT, ↓e_lz, ↓e_meth, ↓e_meth0, ↓e_oN, ↓e_oS, ↓e_sl, ↓e_gVar, ↓e_gSub, ↓e_gTp, ↓e_gN, ↓e_gC, ↓e_next, ↓e_seq, ↓e_drop, ↓e_ret, ↓e_retN, ↓e_brk, ↓e_cnt, ↓e_if, ↓e_asg, ↓e_as2, ↓e_as3, ↓e_par, ↓e_aug, ↓e_augS, ↓e_for, ↓e_f0, ↓e_f1, ↓e_while, ↓e_asS1, ↓e_asS2, ↓e_asS3, ↓e_iSeq, ↓e_enum, ↓e_asTI, ↓e_enumC, ↓e_rng1, ↓e_zip, ↓e_zipX, ↓e_comp, ↓e_c0, ↓e_c1, ↓e_y, ↓e_body, ↓e_addI, ↓e_addT, ↓e_addL, ↓e_subI, ↓e_iadd, ↓e_mulI, ↓e_divI, ↓e_modI, ↓e_powI, ↓e_negI, ↓e_mulT, ↓e_mulL, ↓e_cmp, ↓e_eq, ↓e_ne, ↓e_isN, ↓e_isB, ↓e_isNotN, ↓e_isNotB, ↓e_ix, ↓e_abs, ↓e_toI, ↓e_toB1, ↓e_toB0, ↓e_lenT, ↓e_lenL, ↓e_lenRo, ↓e_lenR, ↓e_tupT, ↓e_tupL, ↓e_tupR, ↓e_lstT, ↓e_lstL, ↓e_allM, ↓e_in, ↓e_notIn, ↓e_sum, ↓e_max, ↓e_par3, ↓e_pop, ↓e_frz, ↓e_frzR, ↓e_isi, ↓e_slT, ↓e_slL, ↓e_slRo, ↓e_app, ↓e_ext, ↓e_setM, r_it1, r_it2, r_it3, r_it4, r_ls2, r_ls3, r_ml2, r_ml3, r_mg0, r_mgn, r_at0, r_at1, r_at2, r_at3, r_ix0, r_ix1, r_ix2, r_ty1, r_ty2, r_ty3, r_ty4, r_ty5, r_ty6, r_ty7, r_ty8, r_sNt, r_sNi, r_sNb, r_sNs, r_sbt, r_sbi, r_sbb, r_sbs, r_sit, r_sii, r_sib, r_sis, r_sst, r_ssi, r_ssb, r_sss, r_stt, r_sti, r_stb, r_sts, r_slt, r_sli, r_slb, r_sls, r_aN, r_ab, r_ai, r_as, r_at, r_al, r_eqI, r_eqB, r_eqS, r_pu1, r_pu2, r_eqN, r_fr1, r_fx1, r_fx2, r_fx3, r_bo0, r_bo1, r_c0, r_c1, r_c2, r_c3, r_c4, r_c5, r_c6, r_c7, r_c8, r_c9, r_c10, r_c11, r_c12, r_pd0, r_pd1, r_pd2, r_wi0, r_wi1, List.set_cons_zero, List.set_cons_succ, List.getElem?_cons_zero, List.getElem?_cons_succ, ↓reduceIte, List.length_cons, List.length_nil, Nat.zero_add, Nat.reduceAdd, and_true, true_and, decide_true, decide_false, eq_self, beq_self_eq_true, Bool.true_beq, Bool.false_beq, Bool.not_true, Bool.not_false, Int.reduceEq, Int.reduceLT, Int.reduceLE, Int.reduceAdd, Int.reduceSub, Int.reduceMul, Int.reduceNeg, Bool.not_not, List.append_nil, List.nil_append, List.cons_append, z_int, z_bl, z_non, z_tup, z_lst, z_str, z_lint, z_lbl, z_lnon, z_ltup, z_llst, z_lstr, z_whole, kD, aD, w_ln, s2, in_l, ih]
    exact ⟨lenS (by rw [List.length_append, List.length_map, List.length_map]; omega), by rw [nums, List.map_append]⟩
  | .tre k, a, r + 1, hr, hl => by
    rw [nums, List.length_append] at hl
    have ih := sp_numbers (h := h) k a.2 r (by rw [dep] at hr; omega) (by omega)
    refine Ev_eq (rec_iff.mpr ?_)
    generalize recF 2 b_numbers_in r = me at ih ⊢
    unfold b_numbers_in
    simp (config := {dsimp := false}) only [↓e_pr, ↓e_some, ↓e_an, ↓e_brT, ↓e_brF, ↓e_asB, ↓e_asI, ↓e_asV, ↓e_stE, ↓e_stE0, ↓e_stL, ↓e_stL0, ↓e_sqN, ↓e_sqR, ↓e_sqB, ↓e_sqC, ↓e_afN, ↓e_afR, ↓e_afB, ↓e_afC, ↓e_rtN, ↓e_rtR, ↓e_var, ↓e_c, ↓e_op, ↓e_un, ↓e_t, ↓e_nt, ↓e_anT, ↓e_orT, ↓e_and, ↓e_or, ↓e_not, ↓e_ite, ↓e_ch, ↓e_nil, ↓e_cons, ↓e_star, ↓e_tup, ↓e_lst, ↓e_mut, ↓e_call, ↓e_isiT, ↓e_lz, ↓e_meth, ↓e_meth0, ↓e_oN, ↓e_oS, ↓e_sl, ↓e_gVar, ↓e_gSub, ↓e_gTp, ↓e_gN, ↓e_gC, ↓e_next, ↓e_seq, ↓e_drop, ↓e_ret, ↓e_retN, ↓e_brk, ↓e_cnt, ↓e_if, ↓e_asg, ↓e_as2, ↓e_as3, ↓e_par, ↓e_aug, ↓e_augS, ↓e_for, ↓e_f0, ↓e_f1, ↓e_while, ↓e_asS1, ↓e_asS2, ↓e_asS3, ↓e_iSeq, ↓e_enum, ↓e_asTI, ↓e_enumC, ↓e_rng1, ↓e_zip, ↓e_zipX, ↓e_comp, ↓e_c0, ↓e_c1, ↓e_y, ↓e_body, ↓e_addI, ↓e_addT, ↓e_addL, ↓e_subI, ↓e_iadd, ↓e_mulI, ↓e_divI, ↓e_modI, ↓e_powI, ↓e_negI, ↓e_mulT, ↓e_mulL, ↓e_cmp, ↓e_eq, ↓e_ne, ↓e_isN, ↓e_isB, ↓e_isNotN, ↓e_isNotB, ↓e_ix, ↓e_abs, ↓e_toI, ↓e_toB1, ↓e_toB0, ↓e_lenT, ↓e_lenL, ↓e_lenRo, ↓e_lenR, ↓e_tupT, ↓e_tupL, ↓e_tupR, ↓e_lstT, ↓e_lstL, ↓e_allM, ↓e_in, ↓e_notIn, ↓e_sum, ↓e_max, ↓e_par3, ↓e_pop, ↓e_frz, ↓e_frzR, ↓e_isi, ↓e_slT, ↓e_slL, ↓e_slRo, ↓e_app, ↓e_ext, ↓e_setM, r_it1, r_it2, r_it3, r_it4, r_ls2, r_ls3, r_ml2, r_ml3, r_mg0, r_mgn, r_at0, r_at1, r_at2, r_at3, r_ix0, r_ix1, r_ix2, r_ty1, r_ty2, r_ty3, r_ty4, r_ty5, r_ty6, r_ty7, r_ty8, r_sNt, r_sNi, r_sNb, r_sNs, r_sbt, r_sbi, r_sbb, r_sbs, r_sit, r_sii, r_sib, r_sis, r_sst, r_ssi, r_ssb, r_sss, r_stt, r_sti, r_stb, r_sts, r_slt, r_sli, r_slb, r_sls, r_aN, r_ab, r_ai, r_as, r_at, r_al, r_eqI, r_eqB, r_eqS, r_pu1, r_pu2, r_eqN, r_fr1, r_fx1, r_fx2, r_fx3, r_bo0, r_bo1, r_c0, r_c1, r_c2, r_c3, r_c4, r_c5, r_c6, r_c7, r_c8, r_c9, r_c10, r_c11, r_c12, r_pd0, r_pd1, r_pd2, r_wi0, r_wi1, List.set_cons_zero, List.set_cons_succ, List.getElem?_cons_zero, List.getElem?_cons_succ, ↓reduceIte, List.length_cons, List.length_nil, Nat.zero_add, Nat.reduceAdd, and_true, true_and, decide_true, decide_false, eq_self, beq_self_eq_true, Bool.true_beq, Bool.false_beq, Bool.not_true, Bool.not_false, Int.reduceEq, Int.reduceLT, Int.reduceLE, Int.reduceAdd, Int.reduceSub, Int.reduceMul, Int.reduceNeg, Bool.not_not, List.append_nil, List.nil_append, List.cons_append, z_int, z_bl, z_non, z_tup, z_lst, z_str, z_lint, z_lbl, z_lnon, z_ltup, z_llst, z_lstr, z_whole, kD, aD, w_tn, s2, in_t, ih]
    exact ⟨lenS (by rw [List.length_append, List.length_map, List.length_map]; omega), by rw [nums, List.map_append]⟩
  | .par x y, a, r + 1, hr, hl => by
    rw [nums, List.length_append] at hl
    rw [dep] at hr
    have ih := sp_numbers (h := h) x a.1 r (by omega) (by omega)
    have ih2 := sp_numbers (h := h) y a.2 r (by omega) (by omega)
    refine Ev_eq (rec_iff.mpr ?_)
    generalize recF 2 b_numbers_in r = me at ih ih2 ⊢
    unfold b_numbers_in
    simp (config := {dsimp := false}) only [↓e_pr, ↓e_some, ↓e_an, ↓e_brT, ↓e_brF, ↓e_asB, ↓e_asI, ↓e_asV, ↓e_stE, ↓e_stE0, ↓e_stL, ↓e_stL0, ↓e_sqN, ↓e_sqR, ↓e_sqB, ↓e_sqC, ↓e_afN, ↓e_afR, ↓e_afB, ↓e_afC, ↓e_rtN, ↓e_rtR, ↓e_var, ↓e_c, ↓e_op, ↓e_un, ↓e_t, ↓e_nt, ↓e_anT, ↓e_orT, ↓e_and, ↓e_or, ↓e_not, ↓e_ite, ↓e_ch, ↓e_nil, ↓e_cons, ↓e_star, ↓e_tup, ↓e_lst, ↓e_mut, ↓e_call, ↓e_isiT, ↓e_lz, ↓e_meth, ↓e_meth0, ↓e_oN, ↓e_oS, ↓e_sl, ↓e_gVar, ↓e_gSub, ↓e_gTp, ↓e_gN, ↓e_gC, ↓e_next, ↓e_seq, ↓e_drop, ↓e_ret, ↓e_retN, ↓e_brk, ↓e_cnt, ↓e_if, ↓e_asg, ↓e_as2, ↓e_as3, ↓e_par, ↓e_aug, ↓e_augS, ↓e_for, ↓e_f0, ↓e_f1, ↓e_while, ↓e_asS1, ↓e_asS2, ↓e_asS3, ↓e_iSeq, ↓e_enum, ↓e_asTI, ↓e_enumC, ↓e_rng1, ↓e_zip, ↓e_zipX, ↓e_comp, ↓e_c0, ↓e_c1, ↓e_y, ↓e_body, ↓e_addI, ↓e_addT, ↓e_addL, ↓e_subI, ↓e_iadd, ↓e_mulI, ↓e_divI, ↓e_modI, ↓e_powI, ↓e_negI, ↓e_mulT, ↓e_mulL, ↓e_cmp, ↓e_eq, ↓e_ne, ↓e_isN, ↓e_isB, ↓e_isNotN, ↓e_isNotB, ↓e_ix, ↓e_abs, ↓e_toI, ↓e_toB1, ↓e_toB0, ↓e_lenT, ↓e_lenL, ↓e_lenRo, ↓e_lenR, ↓e_tupT, ↓e_tupL, ↓e_tupR, ↓e_lstT, ↓e_lstL, ↓e_allM, ↓e_in, ↓e_notIn, ↓e_sum, ↓e_max, ↓e_par3, ↓e_pop, ↓e_frz, ↓e_frzR, ↓e_isi, ↓e_slT, ↓e_slL, ↓e_slRo, ↓e_app, ↓e_ext, ↓e_setM, r_it1, r_it2, r_it3, r_it4, r_ls2, r_ls3, r_ml2, r_ml3, r_mg0, r_mgn, r_at0, r_at1, r_at2, r_at3, r_ix0, r_ix1, r_ix2, r_ty1, r_ty2, r_ty3, r_ty4, r_ty5, r_ty6, r_ty7, r_ty8, r_sNt, r_sNi, r_sNb, r_sNs, r_sbt, r_sbi, r_sbb, r_sbs, r_sit, r_sii, r_sib, r_sis, r_sst, r_ssi, r_ssb, r_sss, r_stt, r_sti, r_stb, r_sts, r_slt, r_sli, r_slb, r_sls, r_aN, r_ab, r_ai, r_as, r_at, r_al, r_eqI, r_eqB, r_eqS, r_pu1, r_pu2, r_eqN, r_fr1, r_fx1, r_fx2, r_fx3, r_bo0, r_bo1, r_c0, r_c1, r_c2, r_c3, r_c4, r_c5, r_c6, r_c7, r_c8, r_c9, r_c10, r_c11, r_c12, r_pd0, r_pd1, r_pd2, r_wi0, r_wi1, List.set_cons_zero, List.set_cons_succ, List.getElem?_cons_zero, List.getElem?_cons_succ, ↓reduceIte, List.length_cons, List.length_nil, Nat.zero_add, Nat.reduceAdd, and_true, true_and, decide_true, decide_false, eq_self, beq_self_eq_true, Bool.true_beq, Bool.false_beq, Bool.not_true, Bool.not_false, Int.reduceEq, Int.reduceLT, Int.reduceLE, Int.reduceAdd, Int.reduceSub, Int.reduceMul, Int.reduceNeg, Bool.not_not, List.append_nil, List.nil_append, List.cons_append, z_int, z_bl, z_non, z_tup, z_lst, z_str, z_lint, z_lbl, z_lnon, z_ltup, z_llst, z_lstr, z_whole, kD, aD, w_pn, s2, in_p, ih, ih2]
    exact ⟨lenS (by rw [List.length_append, List.length_map, List.length_map]; omega), by rw [nums, List.map_append]⟩
theorem sp_width {h : Sto} {g : Nat} : ∀ (k : Kd) (r : Nat), dep k < r → recF 4 b_width_of r [kD k, .int g] h = some (.int (width g k), h)
  | .num, r + 1, _ => by
    refine Ev_eq (rec_iff.mpr ?_)
    unfold b_width_of
    simp (config := {dsimp := false}) only [↓e_pr, ↓e_some, ↓e_an, ↓e_brT, ↓e_brF, ↓e_asB, ↓e_asI, ↓e_asV, ↓e_stE, ↓e_stE0, ↓e_stL, ↓e_stL0, ↓e_sqN, ↓e_sqR, ↓e_sqB, ↓e_sqC, ↓e_afN, ↓e_afR, ↓e_afB, ↓e_afC, ↓e_rtN, ↓e_rtR, ↓e_var, ↓e_c, ↓e_op, ↓e_un, ↓e_t, ↓e_nt, ↓e_anT, ↓e_orT, ↓e_and, ↓e_or, ↓e_not, ↓e_ite, ↓e_ch, ↓e_nil, ↓e_cons, ↓e_star, ↓e_tup, ↓e_lst, ↓e_mut, ↓e_call, ↓e_isiT, ↓e_lz, ↓e_meth, ↓e_meth0, ↓e_oN, ↓e_oS, ↓e_sl, ↓e_gVar, ↓e_gSub, ↓e_gTp, ↓e_gN, ↓e_gC, ↓e_next, ↓e_seq, ↓e_drop, ↓e_ret, ↓e_retN, ↓e_brk, ↓e_cnt, ↓e_if, ↓e_asg, ↓e_as2, ↓e_as3, ↓e_par, ↓e_aug, ↓e_augS, ↓e_for, ↓e_f0, ↓e_f1, ↓e_while, ↓e_asS1, ↓e_asS2, ↓e_asS3, ↓e_iSeq, ↓e_enum, ↓e_asTI, ↓e_enumC, ↓e_rng1, ↓e_zip, ↓e_zipX, ↓e_comp, ↓e_c0, ↓e_c1, ↓e_y, ↓e_body, ↓e_addI, ↓e_addT, ↓e_addL, ↓e_subI, ↓e_iadd, ↓e_mulI, ↓e_divI, ↓e_modI, ↓e_powI, ↓e_negI, ↓e_mulT, ↓e_mulL, ↓e_cmp, ↓e_eq, ↓e_ne, ↓e_isN, ↓e_isB, ↓e_isNotN, ↓e_isNotB, ↓e_ix, ↓e_abs, ↓e_toI, ↓e_toB1, ↓e_toB0, ↓e_lenT, ↓e_lenL, ↓e_lenRo, ↓e_lenR, ↓e_tupT, ↓e_tupL, ↓e_tupR, ↓e_lstT, ↓e_lstL, ↓e_allM, ↓e_in, ↓e_notIn, ↓e_sum, ↓e_max, ↓e_par3, ↓e_pop, ↓e_frz, ↓e_frzR, ↓e_isi, ↓e_slT, ↓e_slL, ↓e_slRo, ↓e_app, ↓e_ext, ↓e_setM, r_it1, r_it2, r_it3, r_it4, r_ls2, r_ls3, r_ml2, r_ml3, r_mg0, r_mgn, r_at0, r_at1, r_at2, r_at3, r_ix0, r_ix1, r_ix2, r_ty1, r_ty2, r_ty3, r_ty4, r_ty5, r_ty6, r_ty7, r_ty8, r_sNt, r_sNi, r_sNb, r_sNs, r_sbt, r_sbi, r_sbb, r_sbs, r_sit, r_sii, r_sib, r_sis, r_sst, r_ssi, r_ssb, r_sss, r_stt, r_sti, r_stb, r_sts, r_slt, r_sli, r_slb, r_sls, r_aN, r_ab, r_ai, r_as, r_at, r_al, r_eqI, r_eqB, r_eqS, r_pu1, r_pu2, r_eqN, r_fr1, r_fx1, r_fx2, r_fx3, r_bo0, r_bo1, r_c0, r_c1, r_c2, r_c3, r_c4, r_c5, r_c6, r_c7, r_c8, r_c9, r_c10, r_c11, r_c12, r_pd0, r_pd1, r_pd2, r_wi0, r_wi1, List.set_cons_zero, List.set_cons_succ, List.getElem?_cons_zero, List.getElem?_cons_succ, ↓reduceIte, List.length_cons, List.length_nil, Nat.zero_add, Nat.reduceAdd, and_true, true_and, decide_true, decide_false, eq_self, beq_self_eq_true, Bool.true_beq, Bool.false_beq, Bool.not_true, Bool.not_false, Int.reduceEq, Int.reduceLT, Int.reduceLE, Int.reduceAdd, Int.reduceSub, Int.reduceMul, Int.reduceNeg, Bool.not_not, List.append_nil, List.nil_append, List.cons_append, z_int, z_bl, z_non, z_tup, z_lst, z_str, z_lint, z_lbl, z_lnon, z_ltup, z_llst, z_lstr, z_whole, kD, w_nn]
    rfl
  | .lst k, r + 1, hr => by
    have ih := sp_width (h := h) (g := g) k r (by rw [dep] at hr; omega)
    refine Ev_eq (rec_iff.mpr ?_)
    generalize recF 4 b_width_of r = me at ih ⊢
    unfold b_width_of
    simp (config := {dsimp := false}) only [↓e_pr, ↓e_some, ↓e_an, ↓e_brT, ↓e_brF, ↓e_asB, ↓e_asI, ↓e_asV, ↓e_stE, ↓e_stE0, ↓e_stL, ↓e_stL0, ↓e_sqN, ↓e_sqR, ↓e_sqB, ↓e_sqC, ↓e_afN, ↓e_afR, ↓e_afB, ↓e_afC, ↓e_rtN, ↓e_rtR, ↓e_var, ↓e_c, ↓e_op, ↓e_un, ↓e_t, ↓e_nt, ↓e_anT, ↓e_orT, ↓e_and, ↓e_or, ↓e_not, ↓e_ite, ↓e_ch, ↓e_nil, ↓e_cons, ↓e_star, ↓e_tup, ↓e_lst, ↓e_mut, ↓e_call, ↓e_isiT, ↓e_lz, ↓e_meth, ↓e_meth0, ↓e_oN, ↓e_oS, ↓e_sl, ↓e_gVar, ↓e_gSub, ↓e_gTp, ↓e_gN, ↓e_gC, ↓e_next, ↓e_seq, ↓e_drop, ↓e_ret, ↓e_retN, ↓e_brk, ↓e_cnt, ↓e_if, ↓e_asg, ↓e_as2, ↓e_as3, ↓e_par, ↓e_aug, ↓e_augS, ↓e_for, ↓e_f0, ↓e_f1, ↓e_while, ↓e_asS1, ↓e_asS2, ↓e_asS3, ↓e_iSeq, ↓e_enum, ↓e_asTI, ↓e_enumC, ↓e_rng1, ↓e_zip, ↓e_zipX, ↓e_comp, ↓e_c0, ↓e_c1, ↓e_y, ↓e_body, ↓e_addI, ↓e_addT, ↓e_addL, ↓e_subI, ↓e_iadd, ↓e_mulI, ↓e_divI, ↓e_modI, ↓e_powI, ↓e_negI, ↓e_mulT, ↓e_mulL, ↓e_cmp, ↓e_eq, ↓e_ne, ↓e_isN, ↓e_isB, ↓e_isNotN, ↓e_isNotB, ↓e_ix, ↓e_abs, ↓e_toI, ↓e_toB1, ↓e_toB0, ↓e_lenT, ↓e_lenL, ↓e_lenRo, ↓e_lenR, ↓e_tupT, ↓e_tupL, ↓e_tupR, ↓e_lstT, ↓e_lstL, ↓e_allM, ↓e_in, ↓e_notIn, ↓e_sum, ↓e_max, ↓e_par3, ↓e_pop, ↓e_frz, ↓e_frzR, ↓e_isi, ↓e_slT, ↓e_slL, ↓e_slRo, ↓e_app, ↓e_ext, ↓e_setM, r_it1, r_it2, r_it3, r_it4, r_ls2, r_ls3, r_ml2, r_ml3, r_mg0, r_mgn, r_at0, r_at1, r_at2, r_at3, r_ix0, r_ix1, r_ix2, r_ty1, r_ty2, r_ty3, r_ty4, r_ty5, r_ty6, r_ty7, r_ty8, r_sNt, r_sNi, r_sNb, r_sNs, r_sbt, r_sbi, r_sbb, r_sbs, r_sit, r_sii, r_sib, r_sis, r_sst, r_ssi, r_ssb, r_sss, r_stt, r_sti, r_stb, r_sts, r_slt, r_sli, r_slb, r_sls, r_aN, r_ab, r_ai, r_as, r_at, r_al, r_eqI, r_eqB, r_eqS, r_pu1, r_pu2, r_eqN, r_fr1, r_fx1, r_fx2, r_fx3, r_bo0, r_bo1, r_c0, r_c1, r_c2, r_c3, r_c4, r_c5, r_c6, r_c7, r_c8, r_c9, r_c10, r_c11, r_c12, r_pd0, r_pd1, r_pd2, r_wi0, r_wi1, List.set_cons_zero, List.set_cons_succ, List.getElem?_cons_zero, List.getElem?_cons_succ, ↓reduceIte, List.length_cons, List.length_nil, Nat.zero_add, Nat.reduceAdd, and_true, true_and, decide_true, decide_false, eq_self, beq_self_eq_true, Bool.true_beq, Bool.false_beq, Bool.not_true, Bool.not_false, Int.reduceEq, Int.reduceLT, Int.reduceLE, Int.reduceAdd, Int.reduceSub, Int.reduceMul, Int.reduceNeg, Bool.not_not, List.append_nil, List.nil_append, List.cons_append, z_int, z_bl, z_non, z_tup, z_lst, z_str, z_lint, z_lbl, z_lnon, z_ltup, z_llst, z_lstr, z_whole, kD, w_ln, s2, s1, in_l, ih, ↓sl1, List.drop_succ_cons, List.drop_zero, ioc, ion, Option.map_some]
    rw [width]; simp
  | .tre k, r + 1, hr => by
    have ih := sp_width (h := h) (g := g) k r (by rw [dep] at hr; omega)
    refine Ev_eq (rec_iff.mpr ?_)
    generalize recF 4 b_width_of r = me at ih ⊢
    unfold b_width_of
    simp (config := {dsimp := false}) only [↓e_pr, ↓e_some, ↓e_an, ↓e_brT, ↓e_brF, ↓e_asB, ↓e_asI, ↓e_asV, ↓e_stE, ↓e_stE0, ↓e_stL, ↓e_stL0, ↓e_sqN, ↓e_sqR, ↓e_sqB, ↓e_sqC, ↓e_afN, ↓e_afR, ↓e_afB, ↓e_afC, ↓e_rtN, ↓e_rtR, ↓e_var, ↓e_c, ↓e_op, ↓e_un, ↓e_t, ↓e_nt, ↓e_anT, ↓e_orT, ↓e_and, ↓e_or, ↓e_not, ↓e_ite, ↓e_ch, ↓e_nil, ↓e_cons, ↓e_star, ↓e_tup, ↓e_lst, ↓e_mut, ↓e_call, ↓e_isiT, ↓e_lz, ↓e_meth, ↓e_meth0, ↓e_oN, ↓e_oS, ↓e_sl, ↓e_gVar, ↓e_gSub, ↓e_gTp, ↓e_gN, ↓e_gC, ↓e_next, ↓e_seq, ↓e_drop, ↓e_ret, ↓e_retN, ↓e_brk, ↓e_cnt, ↓e_if, ↓e_asg, ↓e_as2, ↓e_as3, ↓e_par, ↓e_aug, ↓e_augS, ↓e_for, ↓e_f0, ↓e_f1, ↓e_while, ↓e_asS1, ↓e_asS2, ↓e_asS3, ↓e_iSeq, ↓e_enum, ↓e_asTI, ↓e_enumC, ↓e_rng1, ↓e_zip, ↓e_zipX, ↓e_comp, ↓e_c0, ↓e_c1, ↓e_y, ↓e_body, ↓e_addI, ↓e_addT, ↓e_addL, ↓e_subI, ↓e_iadd, ↓e_mulI, ↓e_divI, ↓e_modI, ↓e_powI, ↓e_negI, ↓e_mulT, ↓e_mulL, ↓e_cmp, ↓e_eq, ↓e_ne, ↓e_isN, ↓e_isB, ↓e_isNotN, ↓e_isNotB, ↓e_ix, ↓e_abs, ↓e_toI, ↓e_toB1, ↓e_toB0, ↓e_lenT, ↓e_lenL, ↓e_lenRo, ↓e_lenR, ↓e_tupT, ↓e_tupL, ↓e_tupR, ↓e_lstT, ↓e_lstL, ↓e_allM, ↓e_in, ↓e_notIn, ↓e_sum, ↓e_max, ↓e_par3, ↓e_pop, ↓e_frz, ↓e_frzR, ↓e_isi, ↓e_slT, ↓e_slL, ↓e_slRo, ↓e_app, ↓e_ext, ↓e_setM, r_it1, r_it2, r_it3, r_it4, r_ls2, r_ls3, r_ml2, r_ml3, r_mg0, r_mgn, r_at0, r_at1, r_at2, r_at3, r_ix0, r_ix1, r_ix2, r_ty1, r_ty2, r_ty3, r_ty4, r_ty5, r_ty6, r_ty7, r_ty8, r_sNt, r_sNi, r_sNb, r_sNs, r_sbt, r_sbi, r_sbb, r_sbs, r_sit, r_sii, r_sib, r_sis, r_sst, r_ssi, r_ssb, r_sss, r_stt, r_sti, r_stb, r_sts, r_slt, r_sli, r_slb, r_sls, r_aN, r_ab, r_ai, r_as, r_at, r_al, r_eqI, r_eqB, r_eqS, r_pu1, r_pu2, r_eqN, r_fr1, r_fx1, r_fx2, r_fx3, r_bo0, r_bo1, r_c0, r_c1, r_c2, r_c3, r_c4, r_c5, r_c6, r_c7, r_c8, r_c9, r_c10, r_c11, r_c12, r_pd0, r_pd1, r_pd2, r_wi0, r_wi1, List.set_cons_zero, List.set_cons_succ, List.getElem?_cons_zero, List.getElem?_cons_succ, ↓reduceIte, List.length_cons, List.length_nil, Nat.zero_add, Nat.reduceAdd, and_true, true_and, decide_true, decide_false, eq_self, beq_self_eq_true, Bool.true_beq, Bool.false_beq, Bool.not_true, Bool.not_false, Int.reduceEq, Int.reduceLT, Int.reduceLE, Int.reduceAdd, Int.reduceSub, Int.reduceMul, Int.reduceNeg, Bool.not_not, List.append_nil, List.nil_append, List.cons_append, z_int, z_bl, z_non, z_tup, z_lst, z_str, z_lint, z_lbl, z_lnon, z_ltup, z_llst, z_lstr, z_whole, kD, w_tn, s2, s1, in_t, ih, ↓sl1, List.drop_succ_cons, List.drop_zero, ioc, ion, Option.map_some]
    rw [width]; simp
  | .par x y, r + 1, hr => by
    rw [dep] at hr
    have ih := sp_width (h := h) (g := g) x r (by omega)
    have ih2 := sp_width (h := h) (g := g) y r (by omega)
    refine Ev_eq (rec_iff.mpr ?_)
    generalize recF 4 b_width_of r = me at ih ih2 ⊢
    unfold b_width_of
    simp (config := {dsimp := false}) only [↓e_pr, ↓e_some, ↓e_an, ↓e_brT, ↓e_brF, ↓e_asB, ↓e_asI, ↓e_asV, ↓e_stE, ↓e_stE0, ↓e_stL, ↓e_stL0, ↓e_sqN, ↓e_sqR, ↓e_sqB, ↓e_sqC, ↓e_afN, ↓e_afR, ↓e_afB, ↓e_afC, ↓e_rtN, ↓e_rtR, ↓e_var, ↓e_c, ↓e_op, ↓e_un, ↓e_t, ↓e_nt, ↓e_anT, ↓e_orT, ↓e_and, ↓e_or, ↓e_not, ↓e_ite, ↓e_ch, ↓e_nil, ↓e_cons, ↓e_star, ↓e_tup, ↓e_lst, ↓e_mut, ↓e_call, ↓e_isiT, ↓e_lz, ↓e_meth, ↓e_meth0, ↓e_oN, ↓e_oS, ↓e_sl, ↓e_gVar, ↓e_gSub, ↓e_gTp, ↓e_gN, ↓e_gC, ↓e_next, ↓e_seq, ↓e_drop, ↓e_ret, ↓e_retN, ↓e_brk, ↓e_cnt, ↓e_if, ↓e_asg, ↓e_as2, ↓e_as3, ↓e_par, ↓e_aug, ↓e_augS, ↓e_for, ↓e_f0, ↓e_f1, ↓e_while, ↓e_asS1, ↓e_asS2, ↓e_asS3, ↓e_iSeq, ↓e_enum, ↓e_asTI, ↓e_enumC, ↓e_rng1, ↓e_zip, ↓e_zipX, ↓e_comp, ↓e_c0, ↓e_c1, ↓e_y, ↓e_body, ↓e_addI, ↓e_addT, ↓e_addL, ↓e_subI, ↓e_iadd, ↓e_mulI, ↓e_divI, ↓e_modI, ↓e_powI, ↓e_negI, ↓e_mulT, ↓e_mulL, ↓e_cmp, ↓e_eq, ↓e_ne, ↓e_isN, ↓e_isB, ↓e_isNotN, ↓e_isNotB, ↓e_ix, ↓e_abs, ↓e_toI, ↓e_toB1, ↓e_toB0, ↓e_lenT, ↓e_lenL, ↓e_lenRo, ↓e_lenR, ↓e_tupT, ↓e_tupL, ↓e_tupR, ↓e_lstT, ↓e_lstL, ↓e_allM, ↓e_in, ↓e_notIn, ↓e_sum, ↓e_max, ↓e_par3, ↓e_pop, ↓e_frz, ↓e_frzR, ↓e_isi, ↓e_slT, ↓e_slL, ↓e_slRo, ↓e_app, ↓e_ext, ↓e_setM, r_it1, r_it2, r_it3, r_it4, r_ls2, r_ls3, r_ml2, r_ml3, r_mg0, r_mgn, r_at0, r_at1, r_at2, r_at3, r_ix0, r_ix1, r_ix2, r_ty1, r_ty2, r_ty3, r_ty4, r_ty5, r_ty6, r_ty7, r_ty8, r_sNt, r_sNi, r_sNb, r_sNs, r_sbt, r_sbi, r_sbb, r_sbs, r_sit, r_sii, r_sib, r_sis, r_sst, r_ssi, r_ssb, r_sss, r_stt, r_sti, r_stb, r_sts, r_slt, r_sli, r_slb, r_sls, r_aN, r_ab, r_ai, r_as, r_at, r_al, r_eqI, r_eqB, r_eqS, r_pu1, r_pu2, r_eqN, r_fr1, r_fx1, r_fx2, r_fx3, r_bo0, r_bo1, r_c0, r_c1, r_c2, r_c3, r_c4, r_c5, r_c6, r_c7, r_c8, r_c9, r_c10, r_c11, r_c12, r_pd0, r_pd1, r_pd2, r_wi0, r_wi1, List.set_cons_zero, List.set_cons_succ, List.getElem?_cons_zero, List.getElem?_cons_succ, ↓reduceIte, List.length_cons, List.length_nil, Nat.zero_add, Nat.reduceAdd, and_true, true_and, decide_true, decide_false, eq_self, beq_self_eq_true, Bool.true_beq, Bool.false_beq, Bool.not_true, Bool.not_false, Int.reduceEq, Int.reduceLT, Int.reduceLE, Int.reduceAdd, Int.reduceSub, Int.reduceMul, Int.reduceNeg, Bool.not_not, List.append_nil, List.nil_append, List.cons_append, z_int, z_bl, z_non, z_tup, z_lst, z_str, z_lint, z_lbl, z_lnon, z_ltup, z_llst, z_lstr, z_whole, kD, w_pn, s2, s1, in_p, ih, ih2, ↓sl1, List.drop_succ_cons, List.drop_zero, ioc, ion, Option.map_some]
    rw [width]; simp

end K19
namespace K19
open Sh ShR Iv PySem PySem.Spec PyProof.Rows L2
theorem slHi (ds : List D) (g : Nat) : ((ds.drop (HT.sIx ds.length 0 none)).take (HT.sIx ds.length ds.length (some (g : Int)) - HT.sIx ds.length 0 none)) = ds.take g := by
  rw [HT.sIx_none, HT.sIx_nat, List.drop_zero, Nat.sub_zero]
  by_cases z : g ≤ ds.length
  · rw [Nat.min_eq_left z]
  · rw [Nat.min_eq_right (by omega), List.take_length, List.take_of_length_le (by omega)]
theorem slLo (ds : List D) (g : Nat) : ((ds.drop (HT.sIx ds.length 0 (some (g : Int)))).take (HT.sIx ds.length ds.length none - HT.sIx ds.length 0 (some (g : Int)))) = ds.drop g := by
  rw [HT.sIx_none, HT.sIx_nat]
  by_cases z : g ≤ ds.length
  · rw [Nat.min_eq_left z, List.take_of_length_le (by rw [List.length_drop]; omega)]
  · rw [Nat.min_eq_right (by omega), Nat.sub_self, List.take_zero, List.drop_of_length_le (by omega)]
def degI : (k : Kd) → An k → Nat
  | .num, _ => 1
  | .lst _, a => a.1.length
  | .tre _, a => a.1.length
  | .par x y, a => max (degI x a.1) (degI y a.2)
/-- no rows -/
def bare : Kd → Prop
  | .num => True
  | .lst _ => False
  | .tre _ => False
  | .par a b => bare a ∧ bare b
theorem bare_fit {g : Nat} : ∀ (k : Kd) (a : An k), bare k → AFit g k a
  | .num, _, _ => trivial
  | .lst _, _, h => h.elim
  | .tre _, _, h => h.elim
  | .par x y, a, h => ⟨bare_fit x a.1 h.1, bare_fit y a.2 h.2⟩
theorem degI_or {g : Nat} (g1 : 1 ≤ g) : ∀ (k : Kd) (a : An k), AFit g k a → degI k a = g ∨ (bare k ∧ degI k a = 1)
  | .num, _, _ => .inr ⟨trivial, rfl⟩
  | .lst _, a, h => .inl h.1
  | .tre _, a, h => .inl h.1
  | .par x y, a, h => by
    show max (degI x a.1) (degI y a.2) = g ∨ _ ∧ max (degI x a.1) (degI y a.2) = 1
    rcases degI_or g1 x a.1 h.1 with e | ⟨e, e'⟩
    · rcases degI_or g1 y a.2 h.2 with f | ⟨f, f'⟩
      · left; omega
      · left; omega
    · rcases degI_or g1 y a.2 h.2 with f | ⟨f, f'⟩
      · left; omega
      · right; exact ⟨⟨e, f⟩, by omega⟩
theorem degI_fit {g : Nat} (g1 : 1 ≤ g) {k : Kd} {a : An k} (h : AFit g k a) (b : An k) (hb : AFit g k b) : AFit (degI k a) k b := by
  rcases degI_or g1 k a h with e | ⟨e, _⟩
  · rw [e]; exact hb
  · exact bare_fit k b e
theorem sp_degree {h : Sto} : ∀ (k : Kd) (a : An k) (r : Nat), dep k < r → recF 2 b_degree_in r [kD k, aD k a] h = some (.int (degI k a), h)
  | .num, a, r + 1, _ => by
    refine Ev_eq (rec_iff.mpr ?_)
    unfold b_degree_in
    simp (config := {dsimp := false}) only [↓e_pr, ↓e_some, ↓e_an, ↓e_brT, ↓e_brF, ↓e_asB, ↓e_asI, ↓e_asV, ↓e_stE, ↓e_stE0, ↓e_stL, ↓e_stL0, ↓e_sqN, ↓e_sqR, ↓e_sqB, ↓e_sqC, ↓e_afN, ↓e_afR, ↓e_afB, ↓e_afC, ↓e_rtN, ↓e_rtR, ↓e_var, ↓e_c, ↓e_op, ↓e_un, ↓e_t, ↓e_nt, ↓e_anT, ↓e_orT, ↓e_and, ↓e_or, ↓e_not, ↓e_ite, ↓e_ch, ↓e_nil, ↓e_cons, ↓e_star, ↓e_tup, ↓e_lst, ↓e_mut, ↓e_call, ↓e_isiT, ↓e_lz, ↓e_meth, ↓e_meth0, ↓e_oN, ↓e_oS, ↓e_sl, ↓e_gVar, ↓e_gSub, ↓e_gTp, ↓e_gN, ↓e_gC, ↓e_next, ↓e_seq, ↓e_drop, ↓e_ret, ↓e_retN, ↓e_brk, ↓e_cnt, ↓e_if, ↓e_asg, ↓e_as2, ↓e_as3, ↓e_par, ↓e_aug, ↓e_augS, ↓e_for, ↓e_f0, ↓e_f1, ↓e_while, ↓e_asS1, ↓e_asS2, ↓e_asS3, ↓e_iSeq, ↓e_enum, ↓e_asTI, ↓e_enumC, ↓e_rng1, ↓e_zip, ↓e_zipX, ↓e_comp, ↓e_c0, ↓e_c1, ↓e_y, ↓e_body, ↓e_addI, ↓e_addT, ↓e_addL, ↓e_subI, ↓e_iadd, ↓e_mulI, ↓e_divI, ↓e_modI, ↓e_powI, ↓e_negI, ↓e_mulT, ↓e_mulL, ↓e_cmp, ↓e_eq, ↓e_ne, ↓e_isN, ↓e_isB, ↓e_isNotN, ↓e_isNotB, ↓e_ix, ↓e_abs, ↓e_toI, ↓e_toB1, ↓e_toB0, ↓e_lenT, ↓e_lenL, ↓e_lenRo, ↓e_lenR, ↓e_tupT, ↓e_tupL, ↓e_tupR, ↓e_lstT, ↓e_lstL, ↓e_allM, ↓e_in, ↓e_notIn, ↓e_sum, ↓e_max, ↓e_par3, ↓e_pop, ↓e_frz, ↓e_frzR, ↓e_isi, ↓e_slT, ↓e_slL, ↓e_slRo, ↓e_app, ↓e_ext, ↓e_setM, r_it1, r_it2, r_it3, r_it4, r_ls2, r_ls3, r_ml2, r_ml3, r_mg0, r_mgn, r_at0, r_at1, r_at2, r_at3, r_ix0, r_ix1, r_ix2, r_ty1, r_ty2, r_ty3, r_ty4, r_ty5, r_ty6, r_ty7, r_ty8, r_sNt, r_sNi, r_sNb, r_sNs, r_sbt, r_sbi, r_sbb, r_sbs, r_sit, r_sii, r_sib, r_sis, r_sst, r_ssi, r_ssb, r_sss, r_stt, r_sti, r_stb, r_sts, r_slt, r_sli, r_slb, r_sls, r_aN, r_ab, r_ai, r_as, r_at, r_al, r_eqI, r_eqB, r_eqS, r_pu1, r_pu2, r_eqN, r_fr1, r_fx1, r_fx2, r_fx3, r_bo0, r_bo1, r_c0, r_c1, r_c2, r_c3, r_c4, r_c5, r_c6, r_c7, r_c8, r_c9, r_c10, r_c11, r_c12, r_pd0, r_pd1, r_pd2, r_wi0, r_wi1, List.set_cons_zero, List.set_cons_succ, List.getElem?_cons_zero, List.getElem?_cons_succ, ↓reduceIte, List.length_cons, List.length_nil, Nat.zero_add, Nat.reduceAdd, and_true, true_and, decide_true, decide_false, eq_self, beq_self_eq_true, Bool.true_beq, Bool.false_beq, Bool.not_true, Bool.not_false, Int.reduceEq, Int.reduceLT, Int.reduceLE, Int.reduceAdd, Int.reduceSub, Int.reduceMul, Int.reduceNeg, Bool.not_not, List.append_nil, List.nil_append, List.cons_append, z_int, z_bl, z_non, z_tup, z_lst, z_str, z_lint, z_lbl, z_lnon, z_ltup, z_llst, z_lstr, z_whole, kD, w_nn, s0]
    rfl
  | .lst k, a, r + 1, hr => by
    refine Ev_eq (rec_iff.mpr ?_)
    generalize recF 2 b_degree_in r = me
    unfold b_degree_in
    simp (config := {dsimp := false}) only [↓e_pr, ↓e_some, ↓e_an, ↓e_brT, ↓e_brF, ↓e_asB, ↓e_asI, ↓e_asV, ↓e_stE, ↓e_stE0, ↓e_stL, ↓e_stL0, ↓e_sqN, ↓e_sqR, ↓e_sqB, ↓e_sqC, ↓e_afN, ↓e_afR, ↓e_afB, ↓e_afC, ↓e_rtN, ↓e_rtR, ↓e_var, ↓e_c, ↓e_op, ↓e_un, ↓e_t, ↓e_nt, ↓e_anT, ↓e_orT, ↓e_and, ↓e_or, ↓e_not, ↓e_ite, ↓e_ch, ↓e_nil, ↓e_cons, ↓e_star, ↓e_tup, ↓e_lst, ↓e_mut, ↓e_call, ↓e_isiT, ↓e_lz, ↓e_meth, ↓e_meth0, ↓e_oN, ↓e_oS, ↓e_sl, ↓e_gVar, ↓e_gSub, ↓e_gTp, ↓e_gN, ↓e_gC, ↓e_next, ↓e_seq, ↓e_drop, ↓e_ret, ↓e_retN, ↓e_brk, ↓e_cnt, ↓e_if, ↓e_asg, ↓e_as2, ↓e_as3, ↓e_par, ↓e_aug, ↓e_augS, ↓e_for, ↓e_f0, ↓e_f1, ↓e_while, ↓e_asS1, ↓e_asS2, ↓e_asS3, ↓e_iSeq, ↓e_enum, ↓e_asTI, ↓e_enumC, ↓e_rng1, ↓e_zip, ↓e_zipX, ↓e_comp, ↓e_c0, ↓e_c1, ↓e_y, ↓e_body, ↓e_addI, ↓e_addT, ↓e_addL, ↓e_subI, ↓e_iadd, ↓e_mulI, ↓e_divI, ↓e_modI, ↓e_powI, ↓e_negI, ↓e_mulT, ↓e_mulL, ↓e_cmp, ↓e_eq, ↓e_ne, ↓e_isN, ↓e_isB, ↓e_isNotN, ↓e_isNotB, ↓e_ix, ↓e_abs, ↓e_toI, ↓e_toB1, ↓e_toB0, ↓e_lenT, ↓e_lenL, ↓e_lenRo, ↓e_lenR, ↓e_tupT, ↓e_tupL, ↓e_tupR, ↓e_lstT, ↓e_lstL, ↓e_allM, ↓e_in, ↓e_notIn, ↓e_sum, ↓e_max, ↓e_par3, ↓e_pop, ↓e_frz, ↓e_frzR, ↓e_isi, ↓e_slT, ↓e_slL, ↓e_slRo, ↓e_app, ↓e_ext, ↓e_setM, r_it1, r_it2, r_it3, r_it4, r_ls2, r_ls3, r_ml2, r_ml3, r_mg0, r_mgn, r_at0, r_at1, r_at2, r_at3, r_ix0, r_ix1, r_ix2, r_ty1, r_ty2, r_ty3, r_ty4, r_ty5, r_ty6, r_ty7, r_ty8, r_sNt, r_sNi, r_sNb, r_sNs, r_sbt, r_sbi, r_sbb, r_sbs, r_sit, r_sii, r_sib, r_sis, r_sst, r_ssi, r_ssb, r_sss, r_stt, r_sti, r_stb, r_sts, r_slt, r_sli, r_slb, r_sls, r_aN, r_ab, r_ai, r_as, r_at, r_al, r_eqI, r_eqB, r_eqS, r_pu1, r_pu2, r_eqN, r_fr1, r_fx1, r_fx2, r_fx3, r_bo0, r_bo1, r_c0, r_c1, r_c2, r_c3, r_c4, r_c5, r_c6, r_c7, r_c8, r_c9, r_c10, r_c11, r_c12, r_pd0, r_pd1, r_pd2, r_wi0, r_wi1, List.set_cons_zero, List.set_cons_succ, List.getElem?_cons_zero, List.getElem?_cons_succ, ↓reduceIte, List.length_cons, List.length_nil, Nat.zero_add, Nat.reduceAdd, and_true, true_and, decide_true, decide_false, eq_self, beq_self_eq_true, Bool.true_beq, Bool.false_beq, Bool.not_true, Bool.not_false, Int.reduceEq, Int.reduceLT, Int.reduceLE, Int.reduceAdd, Int.reduceSub, Int.reduceMul, Int.reduceNeg, Bool.not_not, List.append_nil, List.nil_append, List.cons_append, z_int, z_bl, z_non, z_tup, z_lst, z_str, z_lint, z_lbl, z_lnon, z_ltup, z_llst, z_lstr, z_whole, kD, aD, w_ln, s2, in_l, List.length_map]
    rfl
  | .tre k, a, r + 1, hr => by
    refine Ev_eq (rec_iff.mpr ?_)
    generalize recF 2 b_degree_in r = me
    unfold b_degree_in
    simp (config := {dsimp := false}) only [↓e_pr, ↓e_some, ↓e_an, ↓e_brT, ↓e_brF, ↓e_asB, ↓e_asI, ↓e_asV, ↓e_stE, ↓e_stE0, ↓e_stL, ↓e_stL0, ↓e_sqN, ↓e_sqR, ↓e_sqB, ↓e_sqC, ↓e_afN, ↓e_afR, ↓e_afB, ↓e_afC, ↓e_rtN, ↓e_rtR, ↓e_var, ↓e_c, ↓e_op, ↓e_un, ↓e_t, ↓e_nt, ↓e_anT, ↓e_orT, ↓e_and, ↓e_or, ↓e_not, ↓e_ite, ↓e_ch, ↓e_nil, ↓e_cons, ↓e_star, ↓e_tup, ↓e_lst, ↓e_mut, ↓e_call, ↓e_isiT, ↓e_lz, ↓e_meth, ↓e_meth0, ↓e_oN, ↓e_oS, ↓e_sl, ↓e_gVar, ↓e_gSub, ↓e_gTp, ↓e_gN, ↓e_gC, ↓e_next, ↓e_seq, ↓e_drop, ↓e_ret, ↓e_retN, ↓e_brk, ↓e_cnt, ↓e_if, ↓e_asg, ↓e_as2, ↓e_as3, ↓e_par, ↓e_aug, ↓e_augS, ↓e_for, ↓e_f0, ↓e_f1, ↓e_while, ↓e_asS1, ↓e_asS2, ↓e_asS3, ↓e_iSeq, ↓e_enum, ↓e_asTI, ↓e_enumC, ↓e_rng1, ↓e_zip, ↓e_zipX, ↓e_comp, ↓e_c0, ↓e_c1, ↓e_y, ↓e_body, ↓e_addI, ↓e_addT, ↓e_addL, ↓e_subI, ↓e_iadd, ↓e_mulI, ↓e_divI, ↓e_modI, ↓e_powI, ↓e_negI, ↓e_mulT, ↓e_mulL, ↓e_cmp, ↓e_eq, ↓e_ne, ↓e_isN, ↓e_isB, ↓e_isNotN, ↓e_isNotB, ↓e_ix, ↓e_abs, ↓e_toI, ↓e_toB1, ↓e_toB0, ↓e_lenT, ↓e_lenL, ↓e_lenRo, ↓e_lenR, ↓e_tupT, ↓e_tupL, ↓e_tupR, ↓e_lstT, ↓e_lstL, ↓e_allM, ↓e_in, ↓e_notIn, ↓e_sum, ↓e_max, ↓e_par3, ↓e_pop, ↓e_frz, ↓e_frzR, ↓e_isi, ↓e_slT, ↓e_slL, ↓e_slRo, ↓e_app, ↓e_ext, ↓e_setM, r_it1, r_it2, r_it3, r_it4, r_ls2, r_ls3, r_ml2, r_ml3, r_mg0, r_mgn, r_at0, r_at1, r_at2, r_at3, r_ix0, r_ix1, r_ix2, r_ty1, r_ty2, r_ty3, r_ty4, r_ty5, r_ty6, r_ty7, r_ty8, r_sNt, r_sNi, r_sNb, r_sNs, r_sbt, r_sbi, r_sbb, r_sbs, r_sit, r_sii, r_sib, r_sis, r_sst, r_ssi, r_ssb, r_sss, r_stt, r_sti, r_stb, r_sts, r_slt, r_sli, r_slb, r_sls, r_aN, r_ab, r_ai, r_as, r_at, r_al, r_eqI, r_eqB, r_eqS, r_pu1, r_pu2, r_eqN, r_fr1, r_fx1, r_fx2, r_fx3, r_bo0, r_bo1, r_c0, r_c1, r_c2, r_c3, r_c4, r_c5, r_c6, r_c7, r_c8, r_c9, r_c10, r_c11, r_c12, r_pd0, r_pd1, r_pd2, r_wi0, r_wi1, List.set_cons_zero, List.set_cons_succ, List.getElem?_cons_zero, List.getElem?_cons_succ, ↓reduceIte, List.length_cons, List.length_nil, Nat.zero_add, Nat.reduceAdd, and_true, true_and, decide_true, decide_false, eq_self, beq_self_eq_true, Bool.true_beq, Bool.false_beq, Bool.not_true, Bool.not_false, Int.reduceEq, Int.reduceLT, Int.reduceLE, Int.reduceAdd, Int.reduceSub, Int.reduceMul, Int.reduceNeg, Bool.not_not, List.append_nil, List.nil_append, List.cons_append, z_int, z_bl, z_non, z_tup, z_lst, z_str, z_lint, z_lbl, z_lnon, z_ltup, z_llst, z_lstr, z_whole, kD, aD, w_tn, s2, in_t, List.length_map]
    rfl
  | .par x y, a, r + 1, hr => by
    rw [dep] at hr
    have ih := sp_degree (h := h) x a.1 r (by omega)
    have ih2 := sp_degree (h := h) y a.2 r (by omega)
    refine Ev_eq (rec_iff.mpr ?_)
    generalize recF 2 b_degree_in r = me at ih ih2 ⊢
    unfold b_degree_in
    simp (config := {dsimp := false}) only [↓e_pr, ↓e_some, ↓e_an, ↓e_brT, ↓e_brF, ↓e_asB, ↓e_asI, ↓e_asV, ↓e_stE, ↓e_stE0, ↓e_stL, ↓e_stL0, ↓e_sqN, ↓e_sqR, ↓e_sqB, ↓e_sqC, ↓e_afN, ↓e_afR, ↓e_afB, ↓e_afC, ↓e_rtN, ↓e_rtR, ↓e_var, ↓e_c, ↓e_op, ↓e_un, ↓e_t, ↓e_nt, ↓e_anT, ↓e_orT, ↓e_and, ↓e_or, ↓e_not, ↓e_ite, ↓e_ch, ↓e_nil, ↓e_cons, ↓e_star, ↓e_tup, ↓e_lst, ↓e_mut, ↓e_call, ↓e_isiT, ↓e_lz, ↓e_meth, ↓e_meth0, ↓e_oN, ↓e_oS, ↓e_sl, ↓e_gVar, ↓e_gSub, ↓e_gTp, ↓e_gN, ↓e_gC, ↓e_next, ↓e_seq, ↓e_drop, ↓e_ret, ↓e_retN, ↓e_brk, ↓e_cnt, ↓e_if, ↓e_asg, ↓e_as2, ↓e_as3, ↓e_par, ↓e_aug, ↓e_augS, ↓e_for, ↓e_f0, ↓e_f1, ↓e_while, ↓e_asS1, ↓e_asS2, ↓e_asS3, ↓e_iSeq, ↓e_enum, ↓e_asTI, ↓e_enumC, ↓e_rng1, ↓e_zip, ↓e_zipX, ↓e_comp, ↓e_c0, ↓e_c1, ↓e_y, ↓e_body, ↓e_addI, ↓e_addT, ↓e_addL, ↓e_subI, ↓e_iadd, ↓e_mulI, ↓e_divI, ↓e_modI, ↓e_powI, ↓e_negI, ↓e_mulT, ↓e_mulL, ↓e_cmp, ↓e_eq, ↓e_ne, ↓e_isN, ↓e_isB, ↓e_isNotN, ↓e_isNotB, ↓e_ix, ↓e_abs, ↓e_toI, ↓e_toB1, ↓e_toB0, ↓e_lenT, ↓e_lenL, ↓e_lenRo, ↓e_lenR, ↓e_tupT, ↓e_tupL, ↓e_tupR, ↓e_lstT, ↓e_lstL, ↓e_allM, ↓e_in, ↓e_notIn, ↓e_sum, ↓e_max, ↓e_par3, ↓e_pop, ↓e_frz, ↓e_frzR, ↓e_isi, ↓e_slT, ↓e_slL, ↓e_slRo, ↓e_app, ↓e_ext, ↓e_setM, r_it1, r_it2, r_it3, r_it4, r_ls2, r_ls3, r_ml2, r_ml3, r_mg0, r_mgn, r_at0, r_at1, r_at2, r_at3, r_ix0, r_ix1, r_ix2, r_ty1, r_ty2, r_ty3, r_ty4, r_ty5, r_ty6, r_ty7, r_ty8, r_sNt, r_sNi, r_sNb, r_sNs, r_sbt, r_sbi, r_sbb, r_sbs, r_sit, r_sii, r_sib, r_sis, r_sst, r_ssi, r_ssb, r_sss, r_stt, r_sti, r_stb, r_sts, r_slt, r_sli, r_slb, r_sls, r_aN, r_ab, r_ai, r_as, r_at, r_al, r_eqI, r_eqB, r_eqS, r_pu1, r_pu2, r_eqN, r_fr1, r_fx1, r_fx2, r_fx3, r_bo0, r_bo1, r_c0, r_c1, r_c2, r_c3, r_c4, r_c5, r_c6, r_c7, r_c8, r_c9, r_c10, r_c11, r_c12, r_pd0, r_pd1, r_pd2, r_wi0, r_wi1, List.set_cons_zero, List.set_cons_succ, List.getElem?_cons_zero, List.getElem?_cons_succ, ↓reduceIte, List.length_cons, List.length_nil, Nat.zero_add, Nat.reduceAdd, and_true, true_and, decide_true, decide_false, eq_self, beq_self_eq_true, Bool.true_beq, Bool.false_beq, Bool.not_true, Bool.not_false, Int.reduceEq, Int.reduceLT, Int.reduceLE, Int.reduceAdd, Int.reduceSub, Int.reduceMul, Int.reduceNeg, Bool.not_not, List.append_nil, List.nil_append, List.cons_append, z_int, z_bl, z_non, z_tup, z_lst, z_str, z_lint, z_lbl, z_lnon, z_ltup, z_llst, z_lstr, z_whole, kD, aD, w_pn, s2, in_p, ih, ih2]
    rw [degI]
    congr 1
    split <;> omega
theorem sp_built {h : Sto} {g : Nat} : ∀ (k : Kd) (qs : List Rat) (r : Nat), dep k < r → dep k < 10 → qs.length ≤ 1000 → recF 4 b_built r [kD k, .int g, .tup (qs.map qD)] h = some (aD k (mkA g k qs), h)
  | .num, qs, r + 1, _, _, _ => by
    refine Ev_eq (rec_iff.mpr ?_)
    unfold b_built
    simp (config := {dsimp := false}) only [↓e_pr, ↓e_some, ↓e_an, ↓e_brT, ↓e_brF, ↓e_asB, ↓e_asI, ↓e_asV, ↓e_stE, ↓e_stE0, ↓e_stL, ↓e_stL0, ↓e_sqN, ↓e_sqR, ↓e_sqB, ↓e_sqC, ↓e_afN, ↓e_afR, ↓e_afB, ↓e_afC, ↓e_rtN, ↓e_rtR, ↓e_var, ↓e_c, ↓e_op, ↓e_un, ↓e_t, ↓e_nt, ↓e_anT, ↓e_orT, ↓e_and, ↓e_or, ↓e_not, ↓e_ite, ↓e_ch, ↓e_nil, ↓e_cons, ↓e_star, ↓e_tup, ↓e_lst, ↓e_mut, ↓e_call, ↓e_isiT, ↓e_lz, ↓e_meth, ↓e_meth0, ↓e_oN, ↓e_oS, ↓e_sl, ↓e_gVar, ↓e_gSub, ↓e_gTp, ↓e_gN, ↓e_gC, ↓e_next, ↓e_seq, ↓e_drop, ↓e_ret, ↓e_retN, ↓e_brk, ↓e_cnt, ↓e_if, ↓e_asg, ↓e_as2, ↓e_as3, ↓e_par, ↓e_aug, ↓e_augS, ↓e_for, ↓e_f0, ↓e_f1, ↓e_while, ↓e_asS1, ↓e_asS2, ↓e_asS3, ↓e_iSeq, ↓e_enum, ↓e_asTI, ↓e_enumC, ↓e_rng1, ↓e_zip, ↓e_zipX, ↓e_comp, ↓e_c0, ↓e_c1, ↓e_y, ↓e_body, ↓e_addI, ↓e_addT, ↓e_addL, ↓e_subI, ↓e_iadd, ↓e_mulI, ↓e_divI, ↓e_modI, ↓e_powI, ↓e_negI, ↓e_mulT, ↓e_mulL, ↓e_cmp, ↓e_eq, ↓e_ne, ↓e_isN, ↓e_isB, ↓e_isNotN, ↓e_isNotB, ↓e_ix, ↓e_abs, ↓e_toI, ↓e_toB1, ↓e_toB0, ↓e_lenT, ↓e_lenL, ↓e_lenRo, ↓e_lenR, ↓e_tupT, ↓e_tupL, ↓e_tupR, ↓e_lstT, ↓e_lstL, ↓e_allM, ↓e_in, ↓e_notIn, ↓e_sum, ↓e_max, ↓e_par3, ↓e_pop, ↓e_frz, ↓e_frzR, ↓e_isi, ↓e_slT, ↓e_slL, ↓e_slRo, ↓e_app, ↓e_ext, ↓e_setM, r_it1, r_it2, r_it3, r_it4, r_ls2, r_ls3, r_ml2, r_ml3, r_mg0, r_mgn, r_at0, r_at1, r_at2, r_at3, r_ix0, r_ix1, r_ix2, r_ty1, r_ty2, r_ty3, r_ty4, r_ty5, r_ty6, r_ty7, r_ty8, r_sNt, r_sNi, r_sNb, r_sNs, r_sbt, r_sbi, r_sbb, r_sbs, r_sit, r_sii, r_sib, r_sis, r_sst, r_ssi, r_ssb, r_sss, r_stt, r_sti, r_stb, r_sts, r_slt, r_sli, r_slb, r_sls, r_aN, r_ab, r_ai, r_as, r_at, r_al, r_eqI, r_eqB, r_eqS, r_pu1, r_pu2, r_eqN, r_fr1, r_fx1, r_fx2, r_fx3, r_bo0, r_bo1, r_c0, r_c1, r_c2, r_c3, r_c4, r_c5, r_c6, r_c7, r_c8, r_c9, r_c10, r_c11, r_c12, r_pd0, r_pd1, r_pd2, r_wi0, r_wi1, List.set_cons_zero, List.set_cons_succ, List.getElem?_cons_zero, List.getElem?_cons_succ, ↓reduceIte, List.length_cons, List.length_nil, Nat.zero_add, Nat.reduceAdd, and_true, true_and, decide_true, decide_false, eq_self, beq_self_eq_true, Bool.true_beq, Bool.false_beq, Bool.not_true, Bool.not_false, Int.reduceEq, Int.reduceLT, Int.reduceLE, Int.reduceAdd, Int.reduceSub, Int.reduceMul, Int.reduceNeg, Bool.not_not, List.append_nil, List.nil_append, List.cons_append, z_int, z_bl, z_non, z_tup, z_lst, z_str, z_lint, z_lbl, z_lnon, z_ltup, z_llst, z_lstr, z_whole, kD, w_nn, s0]
    rfl
  | .lst k, qs, r + 1, hr, h10, hl => by
    rw [dep] at hr h10
    have ih := sp_built (h := h) (g := g) k (qs.drop g) r (by omega) (by omega) (by rw [List.length_drop]; omega)
    refine Ev_eq (rec_iff.mpr ?_)
    generalize recF 4 b_built r = me at ih ⊢
    unfold b_built
    rw [List.map_drop] at ih
    simp (config := {dsimp := false}) only [↓e_pr, ↓e_some, ↓e_an, ↓e_brT, ↓e_brF, ↓e_asB, ↓e_asI, ↓e_asV, ↓e_stE, ↓e_stE0, ↓e_stL, ↓e_stL0, ↓e_sqN, ↓e_sqR, ↓e_sqB, ↓e_sqC, ↓e_afN, ↓e_afR, ↓e_afB, ↓e_afC, ↓e_rtN, ↓e_rtR, ↓e_var, ↓e_c, ↓e_op, ↓e_un, ↓e_t, ↓e_nt, ↓e_anT, ↓e_orT, ↓e_and, ↓e_or, ↓e_not, ↓e_ite, ↓e_ch, ↓e_nil, ↓e_cons, ↓e_star, ↓e_tup, ↓e_lst, ↓e_mut, ↓e_call, ↓e_isiT, ↓e_lz, ↓e_meth, ↓e_meth0, ↓e_oN, ↓e_oS, ↓e_sl, ↓e_gVar, ↓e_gSub, ↓e_gTp, ↓e_gN, ↓e_gC, ↓e_next, ↓e_seq, ↓e_drop, ↓e_ret, ↓e_retN, ↓e_brk, ↓e_cnt, ↓e_if, ↓e_asg, ↓e_as2, ↓e_as3, ↓e_par, ↓e_aug, ↓e_augS, ↓e_for, ↓e_f0, ↓e_f1, ↓e_while, ↓e_asS1, ↓e_asS2, ↓e_asS3, ↓e_iSeq, ↓e_enum, ↓e_asTI, ↓e_enumC, ↓e_rng1, ↓e_zip, ↓e_zipX, ↓e_comp, ↓e_c0, ↓e_c1, ↓e_y, ↓e_body, ↓e_addI, ↓e_addT, ↓e_addL, ↓e_subI, ↓e_iadd, ↓e_mulI, ↓e_divI, ↓e_modI, ↓e_powI, ↓e_negI, ↓e_mulT, ↓e_mulL, ↓e_cmp, ↓e_eq, ↓e_ne, ↓e_isN, ↓e_isB, ↓e_isNotN, ↓e_isNotB, ↓e_ix, ↓e_abs, ↓e_toI, ↓e_toB1, ↓e_toB0, ↓e_lenT, ↓e_lenL, ↓e_lenRo, ↓e_lenR, ↓e_tupT, ↓e_tupL, ↓e_tupR, ↓e_lstT, ↓e_lstL, ↓e_allM, ↓e_in, ↓e_notIn, ↓e_sum, ↓e_max, ↓e_par3, ↓e_pop, ↓e_frz, ↓e_frzR, ↓e_isi, ↓e_slT, ↓e_slL, ↓e_slRo, ↓e_app, ↓e_ext, ↓e_setM, r_it1, r_it2, r_it3, r_it4, r_ls2, r_ls3, r_ml2, r_ml3, r_mg0, r_mgn, r_at0, r_at1, r_at2, r_at3, r_ix0, r_ix1, r_ix2, r_ty1, r_ty2, r_ty3, r_ty4, r_ty5, r_ty6, r_ty7, r_ty8, r_sNt, r_sNi, r_sNb, r_sNs, r_sbt, r_sbi, r_sbb, r_sbs, r_sit, r_sii, r_sib, r_sis, r_sst, r_ssi, r_ssb, r_sss, r_stt, r_sti, r_stb, r_sts, r_slt, r_sli, r_slb, r_sls, r_aN, r_ab, r_ai, r_as, r_at, r_al, r_eqI, r_eqB, r_eqS, r_pu1, r_pu2, r_eqN, r_fr1, r_fx1, r_fx2, r_fx3, r_bo0, r_bo1, r_c0, r_c1, r_c2, r_c3, r_c4, r_c5, r_c6, r_c7, r_c8, r_c9, r_c10, r_c11, r_c12, r_pd0, r_pd1, r_pd2, r_wi0, r_wi1, List.set_cons_zero, List.set_cons_succ, List.getElem?_cons_zero, List.getElem?_cons_succ, ↓reduceIte, List.length_cons, List.length_nil, Nat.zero_add, Nat.reduceAdd, and_true, true_and, decide_true, decide_false, eq_self, beq_self_eq_true, Bool.true_beq, Bool.false_beq, Bool.not_true, Bool.not_false, Int.reduceEq, Int.reduceLT, Int.reduceLE, Int.reduceAdd, Int.reduceSub, Int.reduceMul, Int.reduceNeg, Bool.not_not, List.append_nil, List.nil_append, List.cons_append, z_int, z_bl, z_non, z_tup, z_lst, z_str, z_lint, z_lbl, z_lnon, z_ltup, z_llst, z_lstr, z_whole, kD, w_ln, s2, in_l, ↓slHi, ↓slLo, ih]
    rw [← List.map_take]
    rfl
  | .tre k, qs, r + 1, hr, h10, hl => by
    rw [dep] at hr h10
    have ih := sp_built (h := h) (g := g) k (qs.drop g) r (by omega) (by omega) (by rw [List.length_drop]; omega)
    refine Ev_eq (rec_iff.mpr ?_)
    generalize recF 4 b_built r = me at ih ⊢
    unfold b_built
    rw [List.map_drop] at ih
    simp (config := {dsimp := false}) only [↓e_pr, ↓e_some, ↓e_an, ↓e_brT, ↓e_brF, ↓e_asB, ↓e_asI, ↓e_asV, ↓e_stE, ↓e_stE0, ↓e_stL, ↓e_stL0, ↓e_sqN, ↓e_sqR, ↓e_sqB, ↓e_sqC, ↓e_afN, ↓e_afR, ↓e_afB, ↓e_afC, ↓e_rtN, ↓e_rtR, ↓e_var, ↓e_c, ↓e_op, ↓e_un, ↓e_t, ↓e_nt, ↓e_anT, ↓e_orT, ↓e_and, ↓e_or, ↓e_not, ↓e_ite, ↓e_ch, ↓e_nil, ↓e_cons, ↓e_star, ↓e_tup, ↓e_lst, ↓e_mut, ↓e_call, ↓e_isiT, ↓e_lz, ↓e_meth, ↓e_meth0, ↓e_oN, ↓e_oS, ↓e_sl, ↓e_gVar, ↓e_gSub, ↓e_gTp, ↓e_gN, ↓e_gC, ↓e_next, ↓e_seq, ↓e_drop, ↓e_ret, ↓e_retN, ↓e_brk, ↓e_cnt, ↓e_if, ↓e_asg, ↓e_as2, ↓e_as3, ↓e_par, ↓e_aug, ↓e_augS, ↓e_for, ↓e_f0, ↓e_f1, ↓e_while, ↓e_asS1, ↓e_asS2, ↓e_asS3, ↓e_iSeq, ↓e_enum, ↓e_asTI, ↓e_enumC, ↓e_rng1, ↓e_zip, ↓e_zipX, ↓e_comp, ↓e_c0, ↓e_c1, ↓e_y, ↓e_body, ↓e_addI, ↓e_addT, ↓e_addL, ↓e_subI, ↓e_iadd, ↓e_mulI, ↓e_divI, ↓e_modI, ↓e_powI, ↓e_negI, ↓e_mulT, ↓e_mulL, ↓e_cmp, ↓e_eq, ↓e_ne, ↓e_isN, ↓e_isB, ↓e_isNotN, ↓e_isNotB, ↓e_ix, ↓e_abs, ↓e_toI, ↓e_toB1, ↓e_toB0, ↓e_lenT, ↓e_lenL, ↓e_lenRo, ↓e_lenR, ↓e_tupT, ↓e_tupL, ↓e_tupR, ↓e_lstT, ↓e_lstL, ↓e_allM, ↓e_in, ↓e_notIn, ↓e_sum, ↓e_max, ↓e_par3, ↓e_pop, ↓e_frz, ↓e_frzR, ↓e_isi, ↓e_slT, ↓e_slL, ↓e_slRo, ↓e_app, ↓e_ext, ↓e_setM, r_it1, r_it2, r_it3, r_it4, r_ls2, r_ls3, r_ml2, r_ml3, r_mg0, r_mgn, r_at0, r_at1, r_at2, r_at3, r_ix0, r_ix1, r_ix2, r_ty1, r_ty2, r_ty3, r_ty4, r_ty5, r_ty6, r_ty7, r_ty8, r_sNt, r_sNi, r_sNb, r_sNs, r_sbt, r_sbi, r_sbb, r_sbs, r_sit, r_sii, r_sib, r_sis, r_sst, r_ssi, r_ssb, r_sss, r_stt, r_sti, r_stb, r_sts, r_slt, r_sli, r_slb, r_sls, r_aN, r_ab, r_ai, r_as, r_at, r_al, r_eqI, r_eqB, r_eqS, r_pu1, r_pu2, r_eqN, r_fr1, r_fx1, r_fx2, r_fx3, r_bo0, r_bo1, r_c0, r_c1, r_c2, r_c3, r_c4, r_c5, r_c6, r_c7, r_c8, r_c9, r_c10, r_c11, r_c12, r_pd0, r_pd1, r_pd2, r_wi0, r_wi1, List.set_cons_zero, List.set_cons_succ, List.getElem?_cons_zero, List.getElem?_cons_succ, ↓reduceIte, List.length_cons, List.length_nil, Nat.zero_add, Nat.reduceAdd, and_true, true_and, decide_true, decide_false, eq_self, beq_self_eq_true, Bool.true_beq, Bool.false_beq, Bool.not_true, Bool.not_false, Int.reduceEq, Int.reduceLT, Int.reduceLE, Int.reduceAdd, Int.reduceSub, Int.reduceMul, Int.reduceNeg, Bool.not_not, List.append_nil, List.nil_append, List.cons_append, z_int, z_bl, z_non, z_tup, z_lst, z_str, z_lint, z_lbl, z_lnon, z_ltup, z_llst, z_lstr, z_whole, kD, w_tn, s2, in_t, ↓slHi, ↓slLo, ih]
    rw [← List.map_take]
    rfl
  | .par x y, qs, r + 1, hr, h10, hl => by
    rw [dep] at hr h10
    have ih := sp_built (h := h) (g := g) x (qs.take (width g x)) r (by omega) (by omega) (by rw [List.length_take]; omega)
    have ih2 := sp_built (h := h) (g := g) y (qs.drop (width g x)) r (by omega) (by omega) (by rw [List.length_drop]; omega)
    have ih3 := sp_width (h := h) (g := g) x 10 (by omega)
    refine Ev_eq (rec_iff.mpr ?_)
    generalize recF 4 b_built r = me at ih ih2 ⊢
    unfold b_built
    rw [List.map_drop] at ih2
    rw [List.map_take] at ih
    simp (config := {dsimp := false}) only [↓e_pr, ↓e_some, ↓e_an, ↓e_brT, ↓e_brF, ↓e_asB, ↓e_asI, ↓e_asV, ↓e_stE, ↓e_stE0, ↓e_stL, ↓e_stL0, ↓e_sqN, ↓e_sqR, ↓e_sqB, ↓e_sqC, ↓e_afN, ↓e_afR, ↓e_afB, ↓e_afC, ↓e_rtN, ↓e_rtR, ↓e_var, ↓e_c, ↓e_op, ↓e_un, ↓e_t, ↓e_nt, ↓e_anT, ↓e_orT, ↓e_and, ↓e_or, ↓e_not, ↓e_ite, ↓e_ch, ↓e_nil, ↓e_cons, ↓e_star, ↓e_tup, ↓e_lst, ↓e_mut, ↓e_call, ↓e_isiT, ↓e_lz, ↓e_meth, ↓e_meth0, ↓e_oN, ↓e_oS, ↓e_sl, ↓e_gVar, ↓e_gSub, ↓e_gTp, ↓e_gN, ↓e_gC, ↓e_next, ↓e_seq, ↓e_drop, ↓e_ret, ↓e_retN, ↓e_brk, ↓e_cnt, ↓e_if, ↓e_asg, ↓e_as2, ↓e_as3, ↓e_par, ↓e_aug, ↓e_augS, ↓e_for, ↓e_f0, ↓e_f1, ↓e_while, ↓e_asS1, ↓e_asS2, ↓e_asS3, ↓e_iSeq, ↓e_enum, ↓e_asTI, ↓e_enumC, ↓e_rng1, ↓e_zip, ↓e_zipX, ↓e_comp, ↓e_c0, ↓e_c1, ↓e_y, ↓e_body, ↓e_addI, ↓e_addT, ↓e_addL, ↓e_subI, ↓e_iadd, ↓e_mulI, ↓e_divI, ↓e_modI, ↓e_powI, ↓e_negI, ↓e_mulT, ↓e_mulL, ↓e_cmp, ↓e_eq, ↓e_ne, ↓e_isN, ↓e_isB, ↓e_isNotN, ↓e_isNotB, ↓e_ix, ↓e_abs, ↓e_toI, ↓e_toB1, ↓e_toB0, ↓e_lenT, ↓e_lenL, ↓e_lenRo, ↓e_lenR, ↓e_tupT, ↓e_tupL, ↓e_tupR, ↓e_lstT, ↓e_lstL, ↓e_allM, ↓e_in, ↓e_notIn, ↓e_sum, ↓e_max, ↓e_par3, ↓e_pop, ↓e_frz, ↓e_frzR, ↓e_isi, ↓e_slT, ↓e_slL, ↓e_slRo, ↓e_app, ↓e_ext, ↓e_setM, r_it1, r_it2, r_it3, r_it4, r_ls2, r_ls3, r_ml2, r_ml3, r_mg0, r_mgn, r_at0, r_at1, r_at2, r_at3, r_ix0, r_ix1, r_ix2, r_ty1, r_ty2, r_ty3, r_ty4, r_ty5, r_ty6, r_ty7, r_ty8, r_sNt, r_sNi, r_sNb, r_sNs, r_sbt, r_sbi, r_sbb, r_sbs, r_sit, r_sii, r_sib, r_sis, r_sst, r_ssi, r_ssb, r_sss, r_stt, r_sti, r_stb, r_sts, r_slt, r_sli, r_slb, r_sls, r_aN, r_ab, r_ai, r_as, r_at, r_al, r_eqI, r_eqB, r_eqS, r_pu1, r_pu2, r_eqN, r_fr1, r_fx1, r_fx2, r_fx3, r_bo0, r_bo1, r_c0, r_c1, r_c2, r_c3, r_c4, r_c5, r_c6, r_c7, r_c8, r_c9, r_c10, r_c11, r_c12, r_pd0, r_pd1, r_pd2, r_wi0, r_wi1, List.set_cons_zero, List.set_cons_succ, List.getElem?_cons_zero, List.getElem?_cons_succ, ↓reduceIte, List.length_cons, List.length_nil, Nat.zero_add, Nat.reduceAdd, and_true, true_and, decide_true, decide_false, eq_self, beq_self_eq_true, Bool.true_beq, Bool.false_beq, Bool.not_true, Bool.not_false, Int.reduceEq, Int.reduceLT, Int.reduceLE, Int.reduceAdd, Int.reduceSub, Int.reduceMul, Int.reduceNeg, Bool.not_not, List.append_nil, List.nil_append, List.cons_append, z_int, z_bl, z_non, z_tup, z_lst, z_str, z_lint, z_lbl, z_lnon, z_ltup, z_llst, z_lstr, z_whole, kD, w_pn, s2, in_p, ↓slHi, ↓slLo, ih, ih2, d_width_of, ih3]
    rfl

end K19
namespace K19
open Sh ShR Iv PySem PySem.Spec PyProof.Rows L2
/-! ### comprehensions over lists of a kind -/
theorem comp_evf {α : Type} {γ : DenG} {τ : DenT} {φ : Den} {ρ : Rho} {h : Sto} {Q : List D → Sto → Prop} (e f : α → D) (p : α → Bool) (xs : List α) (H : ∀ x ∈ xs, Pr (Ev (γ (e x) ρ h) fun ρ1 h1 => Ev (τ ρ1 h1) fun k h2 => k = p x ∧ h2 = h ∧ (p x = true → Pr (Ev (φ ρ1 h) fun y h3 => y = f x ∧ h3 = h)))) (q : Q ((xs.filter p).map f) h) : Ev (compL γ τ φ ρ (xs.map e) h) Q := by
  refine (Ev_iff ?_).mpr q
  clear q
  induction xs with
  | nil => rfl
  | cons x xs ih =>
    have ih := ih fun y hy => H y (List.mem_cons_of_mem _ hy)
    obtain ⟨ρ1, h1, e1, k, h2, e2, hk, hh, q⟩ := H x List.mem_cons_self
    subst hk hh
    show compL γ τ φ ρ (e x :: xs.map e) h2 = _
    cases z : p x with
    | false =>
      rw [List.filter_cons_of_neg (by rw [z]; decide)]
      unfold compL
      rw [e1]; show (τ ρ1 h1).bind _ = _
      rw [e2]; show (if p x = true then _ else _) = _
      rw [z]; exact ih
    | true =>
      rw [List.filter_cons_of_pos z]
      obtain ⟨y, h3, e3, rfl, rfl⟩ := q z
      unfold compL
      rw [e1]; show (τ ρ1 h1).bind _ = _
      rw [e2]; show (if p x = true then _ else _) = _
      rw [z, if_pos rfl]
      show (φ ρ1 h3).bind _ = _
      rw [e3]; show (compL γ τ φ ρ _ _).map _ = _
      rw [ih]; rfl
theorem comp_evm {α : Type} {γ : DenG} {φ : Den} {ρ : Rho} {h : Sto} {Q : List D → Sto → Prop} (e f : α → D) (xs : List α) (H : ∀ x ∈ xs, Pr (Ev (γ (e x) ρ h) fun ρ1 h1 => Ev (φ ρ1 h1) fun y h3 => y = f x ∧ h3 = h)) (q : Q (xs.map f) h) : Ev (compL γ tauY φ ρ (xs.map e) h) Q := by
  refine (Ev_iff ?_).mpr q
  clear q
  induction xs with
  | nil => rfl
  | cons x xs ih =>
    have ih := ih fun y hy => H y (List.mem_cons_of_mem _ hy)
    obtain ⟨ρ1, h1, e1, y, h3, e3, rfl, rfl⟩ := H x List.mem_cons_self
    show compL γ tauY φ ρ (e x :: xs.map e) h3 = _
    unfold compL
    rw [e1]; show (φ ρ1 h1).bind _ = _
    rw [e3]; show (compL γ tauY φ ρ _ _).map _ = _
    rw [ih]; rfl
theorem zip_maps {α β : Type} (e : α → D) (f : β → D) (xs : List α) (ys : List β) : zipL (xs.map e) (ys.map f) = (xs.zip ys).map fun p => .tup [e p.1, f p.2] := by
  unfold zipL
  rw [List.zip_map, List.map_map]; rfl
theorem x_anyM {α : Type} {xs : List α} {g : α → Bool} {h : Sto} {Q : D → Sto → Prop} : Ev (anyF [.lst (xs.map fun x => .bl (g x))] h) Q ↔ Q (.bl (xs.any g)) h := by
  show Ev ((boolsOf (xs.map fun x => D.bl (g x))).map fun bs => (D.bl (bs.any id), h)) Q ↔ _
  have : boolsOf (xs.map fun x => .bl (g x)) = some (xs.map g) := by
    have := boolsOf_map (xs.map g)
    rwa [List.map_map] at this
  rw [this, Ev_omap, An_some, List.any_map]; rfl
mutual
theorem pl_plain : ∀ d : D, Pl d → ∃ p, toP d = some p ∧ p.plain = true ∧ p.depth = dpD d
  | .non, _ => ⟨.none, rfl, rfl, rfl⟩
  | .bl b, _ => ⟨.bool b, rfl, rfl, rfl⟩
  | .int i, _ => ⟨.int i, rfl, rfl, rfl⟩
  | .str x, _ => ⟨.str x, rfl, rfl, rfl⟩
  | .tup ds, z => by
    obtain ⟨ps, a1, a2, a3⟩ := pl_plainL ds z
    exact ⟨.tuple ps, by show (toPs ds).map _ = _; rw [a1]; rfl, a2, by simp only [PyData.depth, dpD, a3]⟩
  | .lst ds, z => by
    obtain ⟨ps, a1, a2, a3⟩ := pl_plainL ds z
    exact ⟨.list ps, by show (toPs ds).map _ = _; rw [a1]; rfl, a2, by simp only [PyData.depth, dpD, a3]⟩
theorem pl_plainL : ∀ ds : List D, PlL ds → ∃ ps, toPs ds = some ps ∧ PyData.plainAll ps = true ∧ PyData.depthAll ps = dpL ds
  | [], _ => ⟨[], rfl, rfl, rfl⟩
  | d :: ds, z => by
    have z : Pl d ∧ PlL ds := z
    obtain ⟨p, b1, b2, b3⟩ := pl_plain d z.1
    obtain ⟨ps, a1, a2, a3⟩ := pl_plainL ds z.2
    exact ⟨p :: ps, by show (toP d).bind _ = _; rw [b1]; show (toPs ds).map _ = _; rw [a1]; rfl, by simp only [PyData.plainAll, a2, b2, Bool.and_self], by simp only [PyData.depthAll, dpL, a3, b3]⟩
end
theorem eqTE {h : Sto} {ds : List D} (z : PlL ds) (hd : dpL ds ≤ 60) : eqB h (.tup ds) (.tup []) = some ds.isEmpty := by
  obtain ⟨ps, a1, a2, a3⟩ := pl_plainL ds z
  show ((toPs ds).map PyData.tuple).bind (fun p => if p.plain = true ∧ (PyData.tuple []).plain = true ∧ p.depth ≤ 64 then some (PyData.eqv p (.tuple [])) else none) = _
  rw [a1]
  show (if (PyData.tuple ps).plain = true ∧ _ ∧ (PyData.tuple ps).depth ≤ 64 then some (PyData.eqv (.tuple ps) (.tuple [])) else none) = _
  rw [if_pos ⟨a2, rfl, by show PyData.depthAll ps + 1 ≤ 64; omega⟩]
  cases ds with
  | nil => cases a1; simp [PyData.eqv, PyData.eqvAll]
  | cons d ds =>
    cases ps with
    | nil =>
      exfalso
      unfold toPs at a1
      obtain ⟨p, _, a1⟩ := Option.bind_eq_some_iff.mp a1
      obtain ⟨_, _, a1⟩ := Option.map_eq_some_iff.mp a1
      cases a1
    | cons p ps => simp [PyData.eqv, PyData.eqvAll]
theorem q_pl (q : Rat) : Pl (qD q) := ⟨trivial, trivial, trivial⟩
theorem q_dp (q : Rat) : dpD (qD q) = 1 := rfl
theorem rw_pl (r : List Rat) : PlL (r.map qD) := plL_map r fun q _ => q_pl q
theorem rw_dp (r : List Rat) : dpL (r.map qD) ≤ 1 := dpL_map r fun q _ => Nat.le_refl 1
theorem a_pl : ∀ (k : Kd) (a : An k), Pl (aD k a)
  | .num, _ => trivial
  | .lst k, a => ⟨rw_pl a.1, a_pl k a.2, trivial⟩
  | .tre k, a => ⟨rw_pl a.1, a_pl k a.2, trivial⟩
  | .par x y, a => ⟨a_pl x a.1, a_pl y a.2, trivial⟩
theorem a_dp : ∀ (k : Kd) (a : An k), dpD (aD k a) ≤ dep k + 3
  | .num, _ => by show 0 + 1 ≤ 0 + 3; omega
  | .lst k, a => by
    have h1 := rw_dp a.1
    have h2 := a_dp k a.2
    show max (dpL (a.1.map qD) + 1) (max (dpD (aD k a.2)) 0) + 1 ≤ dep k + 1 + 3
    omega
  | .tre k, a => by
    have h1 := rw_dp a.1
    have h2 := a_dp k a.2
    show max (dpL (a.1.map qD) + 1) (max (dpD (aD k a.2)) 0) + 1 ≤ dep k + 1 + 3
    omega
  | .par x y, a => by
    have h1 := a_dp x a.1
    have h2 := a_dp y a.2
    show max (dpD (aD x a.1)) (max (dpD (aD y a.2)) 0) + 1 ≤ max (dep x) (dep y) + 1 + 3
    omega
/-! ### flat -/
theorem flat_q {h : Sto} {q : Rat} {r : Nat} : recF 3 b_law_flat (r + 1) [qD q] h = some (.lst [qD q], h) := by
  refine Ev_eq (rec_iff.mpr ?_)
  generalize recF 3 b_law_flat r = me
  unfold b_law_flat
  have e := eqTE (h := h) (ds := [.int q.num, .int q.den]) ⟨trivial, trivial, trivial⟩ (Nat.zero_le _)
  rw [List.isEmpty_cons] at e
  simp (config := {dsimp := false}) only [↓e_pr, ↓e_some, ↓e_an, ↓e_brT, ↓e_brF, ↓e_asB, ↓e_asI, ↓e_asV, ↓e_stE, ↓e_stE0, ↓e_stL, ↓e_stL0, ↓e_sqN, ↓e_sqR, ↓e_sqB, ↓e_sqC, ↓e_afN, ↓e_afR, ↓e_afB, ↓e_afC, ↓e_rtN, ↓e_rtR, ↓e_var, ↓e_c, ↓e_op, ↓e_un, ↓e_t, ↓e_nt, ↓e_anT, ↓e_orT, ↓e_and, ↓e_or, ↓e_not, ↓e_ite, ↓e_ch, ↓e_nil, ↓e_cons, ↓e_star, ↓e_tup, ↓e_lst, ↓e_mut, ↓e_call, ↓e_isiT, ↓e_lz, ↓e_meth, ↓e_meth0, ↓e_oN, ↓e_oS, ↓e_sl, ↓e_gVar, ↓e_gSub, ↓e_gTp, ↓e_gN, ↓e_gC, ↓e_next, ↓e_seq, ↓e_drop, ↓e_ret, ↓e_retN, ↓e_brk, ↓e_cnt, ↓e_if, ↓e_asg, ↓e_as2, ↓e_as3, ↓e_par, ↓e_aug, ↓e_augS, ↓e_for, ↓e_f0, ↓e_f1, ↓e_while, ↓e_asS1, ↓e_asS2, ↓e_asS3, ↓e_iSeq, ↓e_enum, ↓e_asTI, ↓e_enumC, ↓e_rng1, ↓e_zip, ↓e_zipX, ↓e_comp, ↓e_c0, ↓e_c1, ↓e_y, ↓e_body, ↓e_addI, ↓e_addT, ↓e_addL, ↓e_subI, ↓e_iadd, ↓e_mulI, ↓e_divI, ↓e_modI, ↓e_powI, ↓e_negI, ↓e_mulT, ↓e_mulL, ↓e_cmp, ↓e_eq, ↓e_ne, ↓e_isN, ↓e_isB, ↓e_isNotN, ↓e_isNotB, ↓e_ix, ↓e_abs, ↓e_toI, ↓e_toB1, ↓e_toB0, ↓e_lenT, ↓e_lenL, ↓e_lenRo, ↓e_lenR, ↓e_tupT, ↓e_tupL, ↓e_tupR, ↓e_lstT, ↓e_lstL, ↓e_allM, ↓e_in, ↓e_notIn, ↓e_sum, ↓e_max, ↓e_par3, ↓e_pop, ↓e_frz, ↓e_frzR, ↓e_isi, ↓e_slT, ↓e_slL, ↓e_slRo, ↓e_app, ↓e_ext, ↓e_setM, r_it1, r_it2, r_it3, r_it4, r_ls2, r_ls3, r_ml2, r_ml3, r_mg0, r_mgn, r_at0, r_at1, r_at2, r_at3, r_ix0, r_ix1, r_ix2, r_ty1, r_ty2, r_ty3, r_ty4, r_ty5, r_ty6, r_ty7, r_ty8, r_sNt, r_sNi, r_sNb, r_sNs, r_sbt, r_sbi, r_sbb, r_sbs, r_sit, r_sii, r_sib, r_sis, r_sst, r_ssi, r_ssb, r_sss, r_stt, r_sti, r_stb, r_sts, r_slt, r_sli, r_slb, r_sls, r_aN, r_ab, r_ai, r_as, r_at, r_al, r_eqI, r_eqB, r_eqS, r_pu1, r_pu2, r_eqN, r_fr1, r_fx1, r_fx2, r_fx3, r_bo0, r_bo1, r_c0, r_c1, r_c2, r_c3, r_c4, r_c5, r_c6, r_c7, r_c8, r_c9, r_c10, r_c11, r_c12, r_pd0, r_pd1, r_pd2, r_wi0, r_wi1, List.set_cons_zero, List.set_cons_succ, List.getElem?_cons_zero, List.getElem?_cons_succ, ↓reduceIte, List.length_cons, List.length_nil, Nat.zero_add, Nat.reduceAdd, and_true, true_and, decide_true, decide_false, eq_self, beq_self_eq_true, Bool.true_beq, Bool.false_beq, Bool.not_true, Bool.not_false, Int.reduceEq, Int.reduceLT, Int.reduceLE, Int.reduceAdd, Int.reduceSub, Int.reduceMul, Int.reduceNeg, Bool.not_not, List.append_nil, List.nil_append, List.cons_append, z_int, z_bl, z_non, z_tup, z_lst, z_str, z_lint, z_lbl, z_lnon, z_ltup, z_llst, z_lstr, z_whole, e, s0, s1]
theorem flat_rw {h : Sto} {l : List Rat} {r : Nat} (hl : l.length ≤ 1000) : recF 3 b_law_flat (r + 2) [rwD l] h = some (.lst (l.map qD), h) := by
  refine Ev_eq (rec_iff.mpr ?_)
  have ih := fun q => flat_q (h := h) (q := q) (r := r)
  generalize recF 3 b_law_flat (r + 1) = me at ih ⊢
  unfold b_law_flat
  have e := eqTE (h := h) (rw_pl l) (Nat.le_trans (rw_dp l) (by decide))
  cases l with
  | nil =>
    rw [show ((List.map qD ([] : List Rat)).isEmpty) = true from rfl] at e
    simp (config := {dsimp := false}) only [↓e_pr, ↓e_some, ↓e_an, ↓e_brT, ↓e_brF, ↓e_asB, ↓e_asI, ↓e_asV, ↓e_stE, ↓e_stE0, ↓e_stL, ↓e_stL0, ↓e_sqN, ↓e_sqR, ↓e_sqB, ↓e_sqC, ↓e_afN, ↓e_afR, ↓e_afB, ↓e_afC, ↓e_rtN, ↓e_rtR, ↓e_var, ↓e_c, ↓e_op, ↓e_un, ↓e_t, ↓e_nt, ↓e_anT, ↓e_orT, ↓e_and, ↓e_or, ↓e_not, ↓e_ite, ↓e_ch, ↓e_nil, ↓e_cons, ↓e_star, ↓e_tup, ↓e_lst, ↓e_mut, ↓e_call, ↓e_isiT, ↓e_lz, ↓e_meth, ↓e_meth0, ↓e_oN, ↓e_oS, ↓e_sl, ↓e_gVar, ↓e_gSub, ↓e_gTp, ↓e_gN, ↓e_gC, ↓e_next, ↓e_seq, ↓e_drop, ↓e_ret, ↓e_retN, ↓e_brk, ↓e_cnt, ↓e_if, ↓e_asg, ↓e_as2, ↓e_as3, ↓e_par, ↓e_aug, ↓e_augS, ↓e_for, ↓e_f0, ↓e_f1, ↓e_while, ↓e_asS1, ↓e_asS2, ↓e_asS3, ↓e_iSeq, ↓e_enum, ↓e_asTI, ↓e_enumC, ↓e_rng1, ↓e_zip, ↓e_zipX, ↓e_comp, ↓e_c0, ↓e_c1, ↓e_y, ↓e_body, ↓e_addI, ↓e_addT, ↓e_addL, ↓e_subI, ↓e_iadd, ↓e_mulI, ↓e_divI, ↓e_modI, ↓e_powI, ↓e_negI, ↓e_mulT, ↓e_mulL, ↓e_cmp, ↓e_eq, ↓e_ne, ↓e_isN, ↓e_isB, ↓e_isNotN, ↓e_isNotB, ↓e_ix, ↓e_abs, ↓e_toI, ↓e_toB1, ↓e_toB0, ↓e_lenT, ↓e_lenL, ↓e_lenRo, ↓e_lenR, ↓e_tupT, ↓e_tupL, ↓e_tupR, ↓e_lstT, ↓e_lstL, ↓e_allM, ↓e_in, ↓e_notIn, ↓e_sum, ↓e_max, ↓e_par3, ↓e_pop, ↓e_frz, ↓e_frzR, ↓e_isi, ↓e_slT, ↓e_slL, ↓e_slRo, ↓e_app, ↓e_ext, ↓e_setM, r_it1, r_it2, r_it3, r_it4, r_ls2, r_ls3, r_ml2, r_ml3, r_mg0, r_mgn, r_at0, r_at1, r_at2, r_at3, r_ix0, r_ix1, r_ix2, r_ty1, r_ty2, r_ty3, r_ty4, r_ty5, r_ty6, r_ty7, r_ty8, r_sNt, r_sNi, r_sNb, r_sNs, r_sbt, r_sbi, r_sbb, r_sbs, r_sit, r_sii, r_sib, r_sis, r_sst, r_ssi, r_ssb, r_sss, r_stt, r_sti, r_stb, r_sts, r_slt, r_sli, r_slb, r_sls, r_aN, r_ab, r_ai, r_as, r_at, r_al, r_eqI, r_eqB, r_eqS, r_pu1, r_pu2, r_eqN, r_fr1, r_fx1, r_fx2, r_fx3, r_bo0, r_bo1, r_c0, r_c1, r_c2, r_c3, r_c4, r_c5, r_c6, r_c7, r_c8, r_c9, r_c10, r_c11, r_c12, r_pd0, r_pd1, r_pd2, r_wi0, r_wi1, List.set_cons_zero, List.set_cons_succ, List.getElem?_cons_zero, List.getElem?_cons_succ, ↓reduceIte, List.length_cons, List.length_nil, Nat.zero_add, Nat.reduceAdd, and_true, true_and, decide_true, decide_false, eq_self, beq_self_eq_true, Bool.true_beq, Bool.false_beq, Bool.not_true, Bool.not_false, Int.reduceEq, Int.reduceLT, Int.reduceLE, Int.reduceAdd, Int.reduceSub, Int.reduceMul, Int.reduceNeg, Bool.not_not, List.append_nil, List.nil_append, List.cons_append, z_int, z_bl, z_non, z_tup, z_lst, z_str, z_lint, z_lbl, z_lnon, z_ltup, z_llst, z_lstr, z_whole, e, s0]
    rfl
  | cons q l =>
    rw [show ((List.map qD (q :: l)).isEmpty) = false from rfl] at e
    have x0 : atI (List.map qD (q :: l)) 0 = some (qD q) := r_at0
    have tail : EvS (loopF (gVar 2) (sAsg (dOp addD (dVar 1) (dCall me (lCons (dVar 2) lNil))) (gVar 1)) ((q :: l).map qD) [some (rwD (q :: l)), some (.lst []), none] h) fun f ρ h' => f = .nx ∧ h' = h ∧ ∃ o, ρ = [some (rwD (q :: l)), some (.lst ((q :: l).map qD)), o] := by
      refine (for_inv (fun i ρ h' => h' = h ∧ ∃ o, ρ = [some (rwD (q :: l)), some (.lst (((q :: l).take i).map qD)), o]) _ 0 _ _ ⟨rfl, none, rfl⟩ ?_).mono ?_
      · rintro j d ρ h' hd ⟨rfl, o, rfl⟩
        rw [List.getElem?_map] at hd
        obtain ⟨x, hx, rfl⟩ := Option.map_eq_some_iff.mp hd
        simp (config := {dsimp := false}) only [↓e_pr, ↓e_some, ↓e_an, ↓e_brT, ↓e_brF, ↓e_asB, ↓e_asI, ↓e_asV, ↓e_stE, ↓e_stE0, ↓e_stL, ↓e_stL0, ↓e_sqN, ↓e_sqR, ↓e_sqB, ↓e_sqC, ↓e_afN, ↓e_afR, ↓e_afB, ↓e_afC, ↓e_rtN, ↓e_rtR, ↓e_var, ↓e_c, ↓e_op, ↓e_un, ↓e_t, ↓e_nt, ↓e_anT, ↓e_orT, ↓e_and, ↓e_or, ↓e_not, ↓e_ite, ↓e_ch, ↓e_nil, ↓e_cons, ↓e_star, ↓e_tup, ↓e_lst, ↓e_mut, ↓e_call, ↓e_isiT, ↓e_lz, ↓e_meth, ↓e_meth0, ↓e_oN, ↓e_oS, ↓e_sl, ↓e_gVar, ↓e_gSub, ↓e_gTp, ↓e_gN, ↓e_gC, ↓e_next, ↓e_seq, ↓e_drop, ↓e_ret, ↓e_retN, ↓e_brk, ↓e_cnt, ↓e_if, ↓e_asg, ↓e_as2, ↓e_as3, ↓e_par, ↓e_aug, ↓e_augS, ↓e_for, ↓e_f0, ↓e_f1, ↓e_while, ↓e_asS1, ↓e_asS2, ↓e_asS3, ↓e_iSeq, ↓e_enum, ↓e_asTI, ↓e_enumC, ↓e_rng1, ↓e_zip, ↓e_zipX, ↓e_comp, ↓e_c0, ↓e_c1, ↓e_y, ↓e_body, ↓e_addI, ↓e_addT, ↓e_addL, ↓e_subI, ↓e_iadd, ↓e_mulI, ↓e_divI, ↓e_modI, ↓e_powI, ↓e_negI, ↓e_mulT, ↓e_mulL, ↓e_cmp, ↓e_eq, ↓e_ne, ↓e_isN, ↓e_isB, ↓e_isNotN, ↓e_isNotB, ↓e_ix, ↓e_abs, ↓e_toI, ↓e_toB1, ↓e_toB0, ↓e_lenT, ↓e_lenL, ↓e_lenRo, ↓e_lenR, ↓e_tupT, ↓e_tupL, ↓e_tupR, ↓e_lstT, ↓e_lstL, ↓e_allM, ↓e_in, ↓e_notIn, ↓e_sum, ↓e_max, ↓e_par3, ↓e_pop, ↓e_frz, ↓e_frzR, ↓e_isi, ↓e_slT, ↓e_slL, ↓e_slRo, ↓e_app, ↓e_ext, ↓e_setM, r_it1, r_it2, r_it3, r_it4, r_ls2, r_ls3, r_ml2, r_ml3, r_mg0, r_mgn, r_at0, r_at1, r_at2, r_at3, r_ix0, r_ix1, r_ix2, r_ty1, r_ty2, r_ty3, r_ty4, r_ty5, r_ty6, r_ty7, r_ty8, r_sNt, r_sNi, r_sNb, r_sNs, r_sbt, r_sbi, r_sbb, r_sbs, r_sit, r_sii, r_sib, r_sis, r_sst, r_ssi, r_ssb, r_sss, r_stt, r_sti, r_stb, r_sts, r_slt, r_sli, r_slb, r_sls, r_aN, r_ab, r_ai, r_as, r_at, r_al, r_eqI, r_eqB, r_eqS, r_pu1, r_pu2, r_eqN, r_fr1, r_fx1, r_fx2, r_fx3, r_bo0, r_bo1, r_c0, r_c1, r_c2, r_c3, r_c4, r_c5, r_c6, r_c7, r_c8, r_c9, r_c10, r_c11, r_c12, r_pd0, r_pd1, r_pd2, r_wi0, r_wi1, List.set_cons_zero, List.set_cons_succ, List.getElem?_cons_zero, List.getElem?_cons_succ, ↓reduceIte, List.length_cons, List.length_nil, Nat.zero_add, Nat.reduceAdd, and_true, true_and, decide_true, decide_false, eq_self, beq_self_eq_true, Bool.true_beq, Bool.false_beq, Bool.not_true, Bool.not_false, Int.reduceEq, Int.reduceLT, Int.reduceLE, Int.reduceAdd, Int.reduceSub, Int.reduceMul, Int.reduceNeg, Bool.not_not, List.append_nil, List.nil_append, List.cons_append, z_int, z_bl, z_non, z_tup, z_lst, z_str, z_lint, z_lbl, z_lnon, z_ltup, z_llst, z_lstr, z_whole, ih]
        refine ⟨lenS (by rw [List.length_map, List.length_take]; have := (List.getElem?_eq_some_iff.mp hx).1; omega), some (qD x), ?_⟩
        rw [List.take_add_one, hx, List.map_append]; rfl
      · rintro f ρ h' ⟨rfl, rfl, o, rfl⟩
        rw [List.length_map, Nat.zero_add, List.take_length]
        exact ⟨rfl, rfl, o, rfl⟩
    by_cases z : (((List.map qD (q :: l)).length : Nat) : Int) = 2
    · simp (config := {dsimp := false}) only [↓e_pr, ↓e_some, ↓e_an, ↓e_brT, ↓e_brF, ↓e_asB, ↓e_asI, ↓e_asV, ↓e_stE, ↓e_stE0, ↓e_stL, ↓e_stL0, ↓e_sqN, ↓e_sqR, ↓e_sqB, ↓e_sqC, ↓e_afN, ↓e_afR, ↓e_afB, ↓e_afC, ↓e_rtN, ↓e_rtR, ↓e_var, ↓e_c, ↓e_op, ↓e_un, ↓e_t, ↓e_nt, ↓e_anT, ↓e_orT, ↓e_and, ↓e_or, ↓e_not, ↓e_ite, ↓e_ch, ↓e_nil, ↓e_cons, ↓e_star, ↓e_tup, ↓e_lst, ↓e_mut, ↓e_call, ↓e_isiT, ↓e_lz, ↓e_meth, ↓e_meth0, ↓e_oN, ↓e_oS, ↓e_sl, ↓e_gVar, ↓e_gSub, ↓e_gTp, ↓e_gN, ↓e_gC, ↓e_next, ↓e_seq, ↓e_drop, ↓e_ret, ↓e_retN, ↓e_brk, ↓e_cnt, ↓e_if, ↓e_asg, ↓e_as2, ↓e_as3, ↓e_par, ↓e_aug, ↓e_augS, ↓e_for, ↓e_f0, ↓e_f1, ↓e_while, ↓e_asS1, ↓e_asS2, ↓e_asS3, ↓e_iSeq, ↓e_enum, ↓e_asTI, ↓e_enumC, ↓e_rng1, ↓e_zip, ↓e_zipX, ↓e_comp, ↓e_c0, ↓e_c1, ↓e_y, ↓e_body, ↓e_addI, ↓e_addT, ↓e_addL, ↓e_subI, ↓e_iadd, ↓e_mulI, ↓e_divI, ↓e_modI, ↓e_powI, ↓e_negI, ↓e_mulT, ↓e_mulL, ↓e_cmp, ↓e_eq, ↓e_ne, ↓e_isN, ↓e_isB, ↓e_isNotN, ↓e_isNotB, ↓e_ix, ↓e_abs, ↓e_toI, ↓e_toB1, ↓e_toB0, ↓e_lenT, ↓e_lenL, ↓e_lenRo, ↓e_lenR, ↓e_tupT, ↓e_tupL, ↓e_tupR, ↓e_lstT, ↓e_lstL, ↓e_allM, ↓e_in, ↓e_notIn, ↓e_sum, ↓e_max, ↓e_par3, ↓e_pop, ↓e_frz, ↓e_frzR, ↓e_isi, ↓e_slT, ↓e_slL, ↓e_slRo, ↓e_app, ↓e_ext, ↓e_setM, r_it1, r_it2, r_it3, r_it4, r_ls2, r_ls3, r_ml2, r_ml3, r_mg0, r_mgn, r_at0, r_at1, r_at2, r_at3, r_ix0, r_ix1, r_ix2, r_ty1, r_ty2, r_ty3, r_ty4, r_ty5, r_ty6, r_ty7, r_ty8, r_sNt, r_sNi, r_sNb, r_sNs, r_sbt, r_sbi, r_sbb, r_sbs, r_sit, r_sii, r_sib, r_sis, r_sst, r_ssi, r_ssb, r_sss, r_stt, r_sti, r_stb, r_sts, r_slt, r_sli, r_slb, r_sls, r_aN, r_ab, r_ai, r_as, r_at, r_al, r_eqI, r_eqB, r_eqS, r_pu1, r_pu2, r_eqN, r_fr1, r_fx1, r_fx2, r_fx3, r_bo0, r_bo1, r_c0, r_c1, r_c2, r_c3, r_c4, r_c5, r_c6, r_c7, r_c8, r_c9, r_c10, r_c11, r_c12, r_pd0, r_pd1, r_pd2, r_wi0, r_wi1, List.set_cons_zero, List.set_cons_succ, List.getElem?_cons_zero, List.getElem?_cons_succ, ↓reduceIte, List.length_cons, List.length_nil, Nat.zero_add, Nat.reduceAdd, and_true, true_and, decide_true, decide_false, eq_self, beq_self_eq_true, Bool.true_beq, Bool.false_beq, Bool.not_true, Bool.not_false, Int.reduceEq, Int.reduceLT, Int.reduceLE, Int.reduceAdd, Int.reduceSub, Int.reduceMul, Int.reduceNeg, Bool.not_not, List.append_nil, List.nil_append, List.cons_append, z_int, z_bl, z_non, z_tup, z_lst, z_str, z_lint, z_lbl, z_lnon, z_ltup, z_llst, z_lstr, z_whole, e, s0, x0, z]
      refine tail.mono ?_
      rintro f ρ h' ⟨rfl, rfl, o, rfl⟩
      simp (config := {dsimp := false}) only [↓e_pr, ↓e_some, ↓e_an, ↓e_brT, ↓e_brF, ↓e_asB, ↓e_asI, ↓e_asV, ↓e_stE, ↓e_stE0, ↓e_stL, ↓e_stL0, ↓e_sqN, ↓e_sqR, ↓e_sqB, ↓e_sqC, ↓e_afN, ↓e_afR, ↓e_afB, ↓e_afC, ↓e_rtN, ↓e_rtR, ↓e_var, ↓e_c, ↓e_op, ↓e_un, ↓e_t, ↓e_nt, ↓e_anT, ↓e_orT, ↓e_and, ↓e_or, ↓e_not, ↓e_ite, ↓e_ch, ↓e_nil, ↓e_cons, ↓e_star, ↓e_tup, ↓e_lst, ↓e_mut, ↓e_call, ↓e_isiT, ↓e_lz, ↓e_meth, ↓e_meth0, ↓e_oN, ↓e_oS, ↓e_sl, ↓e_gVar, ↓e_gSub, ↓e_gTp, ↓e_gN, ↓e_gC, ↓e_next, ↓e_seq, ↓e_drop, ↓e_ret, ↓e_retN, ↓e_brk, ↓e_cnt, ↓e_if, ↓e_asg, ↓e_as2, ↓e_as3, ↓e_par, ↓e_aug, ↓e_augS, ↓e_for, ↓e_f0, ↓e_f1, ↓e_while, ↓e_asS1, ↓e_asS2, ↓e_asS3, ↓e_iSeq, ↓e_enum, ↓e_asTI, ↓e_enumC, ↓e_rng1, ↓e_zip, ↓e_zipX, ↓e_comp, ↓e_c0, ↓e_c1, ↓e_y, ↓e_body, ↓e_addI, ↓e_addT, ↓e_addL, ↓e_subI, ↓e_iadd, ↓e_mulI, ↓e_divI, ↓e_modI, ↓e_powI, ↓e_negI, ↓e_mulT, ↓e_mulL, ↓e_cmp, ↓e_eq, ↓e_ne, ↓e_isN, ↓e_isB, ↓e_isNotN, ↓e_isNotB, ↓e_ix, ↓e_abs, ↓e_toI, ↓e_toB1, ↓e_toB0, ↓e_lenT, ↓e_lenL, ↓e_lenRo, ↓e_lenR, ↓e_tupT, ↓e_tupL, ↓e_tupR, ↓e_lstT, ↓e_lstL, ↓e_allM, ↓e_in, ↓e_notIn, ↓e_sum, ↓e_max, ↓e_par3, ↓e_pop, ↓e_frz, ↓e_frzR, ↓e_isi, ↓e_slT, ↓e_slL, ↓e_slRo, ↓e_app, ↓e_ext, ↓e_setM, r_it1, r_it2, r_it3, r_it4, r_ls2, r_ls3, r_ml2, r_ml3, r_mg0, r_mgn, r_at0, r_at1, r_at2, r_at3, r_ix0, r_ix1, r_ix2, r_ty1, r_ty2, r_ty3, r_ty4, r_ty5, r_ty6, r_ty7, r_ty8, r_sNt, r_sNi, r_sNb, r_sNs, r_sbt, r_sbi, r_sbb, r_sbs, r_sit, r_sii, r_sib, r_sis, r_sst, r_ssi, r_ssb, r_sss, r_stt, r_sti, r_stb, r_sts, r_slt, r_sli, r_slb, r_sls, r_aN, r_ab, r_ai, r_as, r_at, r_al, r_eqI, r_eqB, r_eqS, r_pu1, r_pu2, r_eqN, r_fr1, r_fx1, r_fx2, r_fx3, r_bo0, r_bo1, r_c0, r_c1, r_c2, r_c3, r_c4, r_c5, r_c6, r_c7, r_c8, r_c9, r_c10, r_c11, r_c12, r_pd0, r_pd1, r_pd2, r_wi0, r_wi1, List.set_cons_zero, List.set_cons_succ, List.getElem?_cons_zero, List.getElem?_cons_succ, ↓reduceIte, List.length_cons, List.length_nil, Nat.zero_add, Nat.reduceAdd, and_true, true_and, decide_true, decide_false, eq_self, beq_self_eq_true, Bool.true_beq, Bool.false_beq, Bool.not_true, Bool.not_false, Int.reduceEq, Int.reduceLT, Int.reduceLE, Int.reduceAdd, Int.reduceSub, Int.reduceMul, Int.reduceNeg, Bool.not_not, List.append_nil, List.nil_append, List.cons_append, z_int, z_bl, z_non, z_tup, z_lst, z_str, z_lint, z_lbl, z_lnon, z_ltup, z_llst, z_lstr, z_whole]
    · simp (config := {dsimp := false}) only [↓e_pr, ↓e_some, ↓e_an, ↓e_brT, ↓e_brF, ↓e_asB, ↓e_asI, ↓e_asV, ↓e_stE, ↓e_stE0, ↓e_stL, ↓e_stL0, ↓e_sqN, ↓e_sqR, ↓e_sqB, ↓e_sqC, ↓e_afN, ↓e_afR, ↓e_afB, ↓e_afC, ↓e_rtN, ↓e_rtR, ↓e_var, ↓e_c, ↓e_op, ↓e_un, ↓e_t, ↓e_nt, ↓e_anT, ↓e_orT, ↓e_and, ↓e_or, ↓e_not, ↓e_ite, ↓e_ch, ↓e_nil, ↓e_cons, ↓e_star, ↓e_tup, ↓e_lst, ↓e_mut, ↓e_call, ↓e_isiT, ↓e_lz, ↓e_meth, ↓e_meth0, ↓e_oN, ↓e_oS, ↓e_sl, ↓e_gVar, ↓e_gSub, ↓e_gTp, ↓e_gN, ↓e_gC, ↓e_next, ↓e_seq, ↓e_drop, ↓e_ret, ↓e_retN, ↓e_brk, ↓e_cnt, ↓e_if, ↓e_asg, ↓e_as2, ↓e_as3, ↓e_par, ↓e_aug, ↓e_augS, ↓e_for, ↓e_f0, ↓e_f1, ↓e_while, ↓e_asS1, ↓e_asS2, ↓e_asS3, ↓e_iSeq, ↓e_enum, ↓e_asTI, ↓e_enumC, ↓e_rng1, ↓e_zip, ↓e_zipX, ↓e_comp, ↓e_c0, ↓e_c1, ↓e_y, ↓e_body, ↓e_addI, ↓e_addT, ↓e_addL, ↓e_subI, ↓e_iadd, ↓e_mulI, ↓e_divI, ↓e_modI, ↓e_powI, ↓e_negI, ↓e_mulT, ↓e_mulL, ↓e_cmp, ↓e_eq, ↓e_ne, ↓e_isN, ↓e_isB, ↓e_isNotN, ↓e_isNotB, ↓e_ix, ↓e_abs, ↓e_toI, ↓e_toB1, ↓e_toB0, ↓e_lenT, ↓e_lenL, ↓e_lenRo, ↓e_lenR, ↓e_tupT, ↓e_tupL, ↓e_tupR, ↓e_lstT, ↓e_lstL, ↓e_allM, ↓e_in, ↓e_notIn, ↓e_sum, ↓e_max, ↓e_par3, ↓e_pop, ↓e_frz, ↓e_frzR, ↓e_isi, ↓e_slT, ↓e_slL, ↓e_slRo, ↓e_app, ↓e_ext, ↓e_setM, r_it1, r_it2, r_it3, r_it4, r_ls2, r_ls3, r_ml2, r_ml3, r_mg0, r_mgn, r_at0, r_at1, r_at2, r_at3, r_ix0, r_ix1, r_ix2, r_ty1, r_ty2, r_ty3, r_ty4, r_ty5, r_ty6, r_ty7, r_ty8, r_sNt, r_sNi, r_sNb, r_sNs, r_sbt, r_sbi, r_sbb, r_sbs, r_sit, r_sii, r_sib, r_sis, r_sst, r_ssi, r_ssb, r_sss, r_stt, r_sti, r_stb, r_sts, r_slt, r_sli, r_slb, r_sls, r_aN, r_ab, r_ai, r_as, r_at, r_al, r_eqI, r_eqB, r_eqS, r_pu1, r_pu2, r_eqN, r_fr1, r_fx1, r_fx2, r_fx3, r_bo0, r_bo1, r_c0, r_c1, r_c2, r_c3, r_c4, r_c5, r_c6, r_c7, r_c8, r_c9, r_c10, r_c11, r_c12, r_pd0, r_pd1, r_pd2, r_wi0, r_wi1, List.set_cons_zero, List.set_cons_succ, List.getElem?_cons_zero, List.getElem?_cons_succ, ↓reduceIte, List.length_cons, List.length_nil, Nat.zero_add, Nat.reduceAdd, and_true, true_and, decide_true, decide_false, eq_self, beq_self_eq_true, Bool.true_beq, Bool.false_beq, Bool.not_true, Bool.not_false, Int.reduceEq, Int.reduceLT, Int.reduceLE, Int.reduceAdd, Int.reduceSub, Int.reduceMul, Int.reduceNeg, Bool.not_not, List.append_nil, List.nil_append, List.cons_append, z_int, z_bl, z_non, z_tup, z_lst, z_str, z_lint, z_lbl, z_lnon, z_ltup, z_llst, z_lstr, z_whole, e, s0, x0, decide_eq_false z]
      refine tail.mono ?_
      rintro f ρ h' ⟨rfl, rfl, o, rfl⟩
      simp (config := {dsimp := false}) only [↓e_pr, ↓e_some, ↓e_an, ↓e_brT, ↓e_brF, ↓e_asB, ↓e_asI, ↓e_asV, ↓e_stE, ↓e_stE0, ↓e_stL, ↓e_stL0, ↓e_sqN, ↓e_sqR, ↓e_sqB, ↓e_sqC, ↓e_afN, ↓e_afR, ↓e_afB, ↓e_afC, ↓e_rtN, ↓e_rtR, ↓e_var, ↓e_c, ↓e_op, ↓e_un, ↓e_t, ↓e_nt, ↓e_anT, ↓e_orT, ↓e_and, ↓e_or, ↓e_not, ↓e_ite, ↓e_ch, ↓e_nil, ↓e_cons, ↓e_star, ↓e_tup, ↓e_lst, ↓e_mut, ↓e_call, ↓e_isiT, ↓e_lz, ↓e_meth, ↓e_meth0, ↓e_oN, ↓e_oS, ↓e_sl, ↓e_gVar, ↓e_gSub, ↓e_gTp, ↓e_gN, ↓e_gC, ↓e_next, ↓e_seq, ↓e_drop, ↓e_ret, ↓e_retN, ↓e_brk, ↓e_cnt, ↓e_if, ↓e_asg, ↓e_as2, ↓e_as3, ↓e_par, ↓e_aug, ↓e_augS, ↓e_for, ↓e_f0, ↓e_f1, ↓e_while, ↓e_asS1, ↓e_asS2, ↓e_asS3, ↓e_iSeq, ↓e_enum, ↓e_asTI, ↓e_enumC, ↓e_rng1, ↓e_zip, ↓e_zipX, ↓e_comp, ↓e_c0, ↓e_c1, ↓e_y, ↓e_body, ↓e_addI, ↓e_addT, ↓e_addL, ↓e_subI, ↓e_iadd, ↓e_mulI, ↓e_divI, ↓e_modI, ↓e_powI, ↓e_negI, ↓e_mulT, ↓e_mulL, ↓e_cmp, ↓e_eq, ↓e_ne, ↓e_isN, ↓e_isB, ↓e_isNotN, ↓e_isNotB, ↓e_ix, ↓e_abs, ↓e_toI, ↓e_toB1, ↓e_toB0, ↓e_lenT, ↓e_lenL, ↓e_lenRo, ↓e_lenR, ↓e_tupT, ↓e_tupL, ↓e_tupR, ↓e_lstT, ↓e_lstL, ↓e_allM, ↓e_in, ↓e_notIn, ↓e_sum, ↓e_max, ↓e_par3, ↓e_pop, ↓e_frz, ↓e_frzR, ↓e_isi, ↓e_slT, ↓e_slL, ↓e_slRo, ↓e_app, ↓e_ext, ↓e_setM, r_it1, r_it2, r_it3, r_it4, r_ls2, r_ls3, r_ml2, r_ml3, r_mg0, r_mgn, r_at0, r_at1, r_at2, r_at3, r_ix0, r_ix1, r_ix2, r_ty1, r_ty2, r_ty3, r_ty4, r_ty5, r_ty6, r_ty7, r_ty8, r_sNt, r_sNi, r_sNb, r_sNs, r_sbt, r_sbi, r_sbb, r_sbs, r_sit, r_sii, r_sib, r_sis, r_sst, r_ssi, r_ssb, r_sss, r_stt, r_sti, r_stb, r_sts, r_slt, r_sli, r_slb, r_sls, r_aN, r_ab, r_ai, r_as, r_at, r_al, r_eqI, r_eqB, r_eqS, r_pu1, r_pu2, r_eqN, r_fr1, r_fx1, r_fx2, r_fx3, r_bo0, r_bo1, r_c0, r_c1, r_c2, r_c3, r_c4, r_c5, r_c6, r_c7, r_c8, r_c9, r_c10, r_c11, r_c12, r_pd0, r_pd1, r_pd2, r_wi0, r_wi1, List.set_cons_zero, List.set_cons_succ, List.getElem?_cons_zero, List.getElem?_cons_succ, ↓reduceIte, List.length_cons, List.length_nil, Nat.zero_add, Nat.reduceAdd, and_true, true_and, decide_true, decide_false, eq_self, beq_self_eq_true, Bool.true_beq, Bool.false_beq, Bool.not_true, Bool.not_false, Int.reduceEq, Int.reduceLT, Int.reduceLE, Int.reduceAdd, Int.reduceSub, Int.reduceMul, Int.reduceNeg, Bool.not_not, List.append_nil, List.nil_append, List.cons_append, z_int, z_bl, z_non, z_tup, z_lst, z_str, z_lint, z_lbl, z_lnon, z_ltup, z_llst, z_lstr, z_whole]

end K19
namespace K19
open Sh ShR Iv PySem PySem.Spec PyProof.Rows L2
theorem r_eqLE {h : Sto} {l : List Int} : eqB h (.lst (l.map .int)) (.lst []) = some l.isEmpty := by
  have e : toPs (l.map D.int) = some (l.map PyData.int) := by
    induction l with
    | nil => rfl
    | cons a l ih => rw [List.map_cons]; unfold toPs; show (toPs (l.map D.int)).map _ = _; rw [ih]; rfl
  have e1 : PyData.plainAll (l.map PyData.int) = true := by
    clear e
    induction l with
    | nil => rfl
    | cons a l ih => rw [List.map_cons]; exact ih
  have e2 : PyData.depthAll (l.map PyData.int) = 0 := by
    clear e e1
    induction l with
    | nil => rfl
    | cons a l ih => rw [List.map_cons, PyData.depthAll, ih]; rfl
  show ((toPs (l.map D.int)).map PyData.list).bind (fun p => if p.plain = true ∧ (PyData.list []).plain = true ∧ p.depth ≤ 64 then some (PyData.eqv p (.list [])) else none) = _
  rw [e]
  show (if (PyData.list (l.map PyData.int)).plain = true ∧ _ ∧ (PyData.list (l.map PyData.int)).depth ≤ 64 then some (PyData.eqv (.list (l.map PyData.int)) (.list [])) else none) = _
  rw [if_pos ⟨e1, rfl, by show PyData.depthAll _ + 1 ≤ 64; rw [e2]; decide⟩]
  cases l <;> simp [PyData.eqv, PyData.eqvAll]
theorem flat_two {h : Sto} {me : Fun1} {x y : D} {xs ys : List Rat} (hx : ∃ ds, x = .tup ds) (hp : Pl x ∧ Pl y) (hd : dpD x ≤ 50 ∧ dpD y ≤ 50) (e1 : me [x] h = some (.lst (xs.map qD), h)) (e2 : me [y] h = some (.lst (ys.map qD), h)) (hl : xs.length + ys.length ≤ 1000) :
    Ev (bodyF 3 (b_law_flat me) [.tup [x, y]] h) fun d h' => d = .lst ((xs ++ ys).map qD) ∧ h' = h := by
  refine e_pr.mp ?_
  obtain ⟨ds, rfl⟩ := hx
  unfold b_law_flat
  have e := eqTE (h := h) (ds := [.tup ds, y]) ⟨hp.1, hp.2, trivial⟩ (by show max (dpD (.tup ds)) (max (dpD y) 0) ≤ 60; omega)
  rw [List.isEmpty_cons] at e
  simp (config := {dsimp := false}) only [↓e_pr, ↓e_some, ↓e_an, ↓e_brT, ↓e_brF, ↓e_asB, ↓e_asI, ↓e_asV, ↓e_stE, ↓e_stE0, ↓e_stL, ↓e_stL0, ↓e_sqN, ↓e_sqR, ↓e_sqB, ↓e_sqC, ↓e_afN, ↓e_afR, ↓e_afB, ↓e_afC, ↓e_rtN, ↓e_rtR, ↓e_var, ↓e_c, ↓e_op, ↓e_un, ↓e_t, ↓e_nt, ↓e_anT, ↓e_orT, ↓e_and, ↓e_or, ↓e_not, ↓e_ite, ↓e_ch, ↓e_nil, ↓e_cons, ↓e_star, ↓e_tup, ↓e_lst, ↓e_mut, ↓e_call, ↓e_isiT, ↓e_lz, ↓e_meth, ↓e_meth0, ↓e_oN, ↓e_oS, ↓e_sl, ↓e_gVar, ↓e_gSub, ↓e_gTp, ↓e_gN, ↓e_gC, ↓e_next, ↓e_seq, ↓e_drop, ↓e_ret, ↓e_retN, ↓e_brk, ↓e_cnt, ↓e_if, ↓e_asg, ↓e_as2, ↓e_as3, ↓e_par, ↓e_aug, ↓e_augS, ↓e_for, ↓e_f0, ↓e_f1, ↓e_while, ↓e_asS1, ↓e_asS2, ↓e_asS3, ↓e_iSeq, ↓e_enum, ↓e_asTI, ↓e_enumC, ↓e_rng1, ↓e_zip, ↓e_zipX, ↓e_comp, ↓e_c0, ↓e_c1, ↓e_y, ↓e_body, ↓e_addI, ↓e_addT, ↓e_addL, ↓e_subI, ↓e_iadd, ↓e_mulI, ↓e_divI, ↓e_modI, ↓e_powI, ↓e_negI, ↓e_mulT, ↓e_mulL, ↓e_cmp, ↓e_eq, ↓e_ne, ↓e_isN, ↓e_isB, ↓e_isNotN, ↓e_isNotB, ↓e_ix, ↓e_abs, ↓e_toI, ↓e_toB1, ↓e_toB0, ↓e_lenT, ↓e_lenL, ↓e_lenRo, ↓e_lenR, ↓e_tupT, ↓e_tupL, ↓e_tupR, ↓e_lstT, ↓e_lstL, ↓e_allM, ↓e_in, ↓e_notIn, ↓e_sum, ↓e_max, ↓e_par3, ↓e_pop, ↓e_frz, ↓e_frzR, ↓e_isi, ↓e_slT, ↓e_slL, ↓e_slRo, ↓e_app, ↓e_ext, ↓e_setM, r_it1, r_it2, r_it3, r_it4, r_ls2, r_ls3, r_ml2, r_ml3, r_mg0, r_mgn, r_at0, r_at1, r_at2, r_at3, r_ix0, r_ix1, r_ix2, r_ty1, r_ty2, r_ty3, r_ty4, r_ty5, r_ty6, r_ty7, r_ty8, r_sNt, r_sNi, r_sNb, r_sNs, r_sbt, r_sbi, r_sbb, r_sbs, r_sit, r_sii, r_sib, r_sis, r_sst, r_ssi, r_ssb, r_sss, r_stt, r_sti, r_stb, r_sts, r_slt, r_sli, r_slb, r_sls, r_aN, r_ab, r_ai, r_as, r_at, r_al, r_eqI, r_eqB, r_eqS, r_pu1, r_pu2, r_eqN, r_fr1, r_fx1, r_fx2, r_fx3, r_bo0, r_bo1, r_c0, r_c1, r_c2, r_c3, r_c4, r_c5, r_c6, r_c7, r_c8, r_c9, r_c10, r_c11, r_c12, r_pd0, r_pd1, r_pd2, r_wi0, r_wi1, List.set_cons_zero, List.set_cons_succ, List.getElem?_cons_zero, List.getElem?_cons_succ, ↓reduceIte, List.length_cons, List.length_nil, Nat.zero_add, Nat.reduceAdd, and_true, true_and, decide_true, decide_false, eq_self, beq_self_eq_true, Bool.true_beq, Bool.false_beq, Bool.not_true, Bool.not_false, Int.reduceEq, Int.reduceLT, Int.reduceLE, Int.reduceAdd, Int.reduceSub, Int.reduceMul, Int.reduceNeg, Bool.not_not, List.append_nil, List.nil_append, List.cons_append, z_int, z_bl, z_non, z_tup, z_lst, z_str, z_lint, z_lbl, z_lnon, z_ltup, z_llst, z_lstr, z_whole, e, s0, e1, e2]
  exact ⟨lenS (by rw [List.length_map]; omega), lenS (by rw [List.length_map, List.length_map]; omega), by rw [List.map_append]⟩
theorem aD_tup : ∀ (k : Kd) (a : An k), ∃ ds, aD k a = .tup ds
  | .num, _ => ⟨_, rfl⟩
  | .lst _, _ => ⟨_, rfl⟩
  | .tre _, _ => ⟨_, rfl⟩
  | .par _ _, _ => ⟨_, rfl⟩
theorem sp_flat {h : Sto} : ∀ (k : Kd) (a : An k) (r : Nat), dep k + 2 ≤ r → dep k ≤ 20 → (nums k a).length ≤ 1000 → recF 3 b_law_flat r [aD k a] h = some (.lst ((nums k a).map qD), h)
  | .num, a, r + 2, _, _, _ => flat_rw (l := []) (by decide)
  | .lst k, a, r + 3, hr, hd, hl => by
    rw [nums, List.length_append] at hl
    rw [dep] at hr hd
    exact Ev_eq (rec_iff.mpr (flat_two ⟨_, rfl⟩ ⟨rw_pl a.1, a_pl k a.2⟩ ⟨by have := rw_dp a.1; show dpL (a.1.map qD) + 1 ≤ 50; omega, by have := a_dp k a.2; omega⟩ (flat_rw (by omega)) (sp_flat k a.2 (r + 2) (by omega) (by omega) (by omega)) hl))
  | .tre k, a, r + 3, hr, hd, hl => by
    rw [nums, List.length_append] at hl
    rw [dep] at hr hd
    exact Ev_eq (rec_iff.mpr (flat_two ⟨_, rfl⟩ ⟨rw_pl a.1, a_pl k a.2⟩ ⟨by have := rw_dp a.1; show dpL (a.1.map qD) + 1 ≤ 50; omega, by have := a_dp k a.2; omega⟩ (flat_rw (by omega)) (sp_flat k a.2 (r + 2) (by omega) (by omega) (by omega)) hl))
  | .par x y, a, r + 3, hr, hd, hl => by
    rw [nums, List.length_append] at hl
    rw [dep] at hr hd
    exact Ev_eq (rec_iff.mpr (flat_two (aD_tup x a.1) ⟨a_pl x a.1, a_pl y a.2⟩ ⟨by have := a_dp x a.1; omega, by have := a_dp y a.2; omega⟩ (sp_flat x a.1 (r + 2) (by omega) (by omega) (by omega)) (sp_flat y a.2 (r + 2) (by omega) (by omega) (by omega)) hl))
  | .num, _, 0, hr, _, _ => by omega
  | .num, _, 1, hr, _, _ => by omega
  | .lst k, _, 0, hr, _, _ => by omega
  | .lst k, _, 1, hr, _, _ => by omega
  | .lst k, _, 2, hr, _, _ => by rw [dep] at hr; omega
  | .tre k, _, 0, hr, _, _ => by omega
  | .tre k, _, 1, hr, _, _ => by omega
  | .tre k, _, 2, hr, _, _ => by rw [dep] at hr; omega
  | .par x y, _, 0, hr, _, _ => by omega
  | .par x y, _, 1, hr, _, _ => by omega
  | .par x y, _, 2, hr, _, _ => by rw [dep] at hr; omega
/-! ### annotations of annotations -/
def zeroA (g : Nat) (k : Kd) : An k := mkA g k (List.replicate (width g k) 0)
theorem rep_one {n : Nat} {x : D} : (List.replicate ((n : Int).toNat) [x]).flatten = List.replicate n x := by
  rw [Int.toNat_natCast]
  induction n with
  | zero => rfl
  | succ m ih => rw [List.replicate_succ, List.flatten_cons, ih]; rfl
theorem sp_none {h : Sto} {k : Kd} {g : Nat} (hd : dep k < 10) (hw : width g k ≤ 900) : d_none_of [kD k, .int g] h = some (aD k (zeroA g k), h) := by
  refine Ev_eq ?_
  unfold d_none_of b_none_of
  have e1 := sp_width (h := h) (g := g) k 10 hd
  have e2 := sp_built (h := h) (g := g) k (List.replicate (width g k) 0) 10 hd hd (by rw [List.length_replicate]; omega)
  rw [List.map_replicate] at e2
  have e2 : recF 4 b_built 10 [kD k, .int g, .tup (List.replicate (width g k) (.tup [.int 0, .int 1]))] h = _ := e2
  simp (config := {dsimp := false}) only [↓e_pr, ↓e_some, ↓e_an, ↓e_brT, ↓e_brF, ↓e_asB, ↓e_asI, ↓e_asV, ↓e_stE, ↓e_stE0, ↓e_stL, ↓e_stL0, ↓e_sqN, ↓e_sqR, ↓e_sqB, ↓e_sqC, ↓e_afN, ↓e_afR, ↓e_afB, ↓e_afC, ↓e_rtN, ↓e_rtR, ↓e_var, ↓e_c, ↓e_op, ↓e_un, ↓e_t, ↓e_nt, ↓e_anT, ↓e_orT, ↓e_and, ↓e_or, ↓e_not, ↓e_ite, ↓e_ch, ↓e_nil, ↓e_cons, ↓e_star, ↓e_tup, ↓e_lst, ↓e_mut, ↓e_call, ↓e_isiT, ↓e_lz, ↓e_meth, ↓e_meth0, ↓e_oN, ↓e_oS, ↓e_sl, ↓e_gVar, ↓e_gSub, ↓e_gTp, ↓e_gN, ↓e_gC, ↓e_next, ↓e_seq, ↓e_drop, ↓e_ret, ↓e_retN, ↓e_brk, ↓e_cnt, ↓e_if, ↓e_asg, ↓e_as2, ↓e_as3, ↓e_par, ↓e_aug, ↓e_augS, ↓e_for, ↓e_f0, ↓e_f1, ↓e_while, ↓e_asS1, ↓e_asS2, ↓e_asS3, ↓e_iSeq, ↓e_enum, ↓e_asTI, ↓e_enumC, ↓e_rng1, ↓e_zip, ↓e_zipX, ↓e_comp, ↓e_c0, ↓e_c1, ↓e_y, ↓e_body, ↓e_addI, ↓e_addT, ↓e_addL, ↓e_subI, ↓e_iadd, ↓e_mulI, ↓e_divI, ↓e_modI, ↓e_powI, ↓e_negI, ↓e_mulT, ↓e_mulL, ↓e_cmp, ↓e_eq, ↓e_ne, ↓e_isN, ↓e_isB, ↓e_isNotN, ↓e_isNotB, ↓e_ix, ↓e_abs, ↓e_toI, ↓e_toB1, ↓e_toB0, ↓e_lenT, ↓e_lenL, ↓e_lenRo, ↓e_lenR, ↓e_tupT, ↓e_tupL, ↓e_tupR, ↓e_lstT, ↓e_lstL, ↓e_allM, ↓e_in, ↓e_notIn, ↓e_sum, ↓e_max, ↓e_par3, ↓e_pop, ↓e_frz, ↓e_frzR, ↓e_isi, ↓e_slT, ↓e_slL, ↓e_slRo, ↓e_app, ↓e_ext, ↓e_setM, r_it1, r_it2, r_it3, r_it4, r_ls2, r_ls3, r_ml2, r_ml3, r_mg0, r_mgn, r_at0, r_at1, r_at2, r_at3, r_ix0, r_ix1, r_ix2, r_ty1, r_ty2, r_ty3, r_ty4, r_ty5, r_ty6, r_ty7, r_ty8, r_sNt, r_sNi, r_sNb, r_sNs, r_sbt, r_sbi, r_sbb, r_sbs, r_sit, r_sii, r_sib, r_sis, r_sst, r_ssi, r_ssb, r_sss, r_stt, r_sti, r_stb, r_sts, r_slt, r_sli, r_slb, r_sls, r_aN, r_ab, r_ai, r_as, r_at, r_al, r_eqI, r_eqB, r_eqS, r_pu1, r_pu2, r_eqN, r_fr1, r_fx1, r_fx2, r_fx3, r_bo0, r_bo1, r_c0, r_c1, r_c2, r_c3, r_c4, r_c5, r_c6, r_c7, r_c8, r_c9, r_c10, r_c11, r_c12, r_pd0, r_pd1, r_pd2, r_wi0, r_wi1, List.set_cons_zero, List.set_cons_succ, List.getElem?_cons_zero, List.getElem?_cons_succ, ↓reduceIte, List.length_cons, List.length_nil, Nat.zero_add, Nat.reduceAdd, and_true, true_and, decide_true, decide_false, eq_self, beq_self_eq_true, Bool.true_beq, Bool.false_beq, Bool.not_true, Bool.not_false, Int.reduceEq, Int.reduceLT, Int.reduceLE, Int.reduceAdd, Int.reduceSub, Int.reduceMul, Int.reduceNeg, Bool.not_not, List.append_nil, List.nil_append, List.cons_append, z_int, z_bl, z_non, z_tup, z_lst, z_str, z_lint, z_lbl, z_lnon, z_ltup, z_llst, z_lstr, z_whole, d_width_of, e1, d_built, s1, ↓rep_one, e2]
  exact ⟨⟨by simp, by omega, by omega, by decide⟩, rfl⟩
theorem sp_shared {h : Sto} {k : Kd} {g c : Nat} {a b : An k} (hd : dep k < 10) (hw : width g k ≤ 900) (fa : AFit g k a) (fb : AFit g k b) (ba : ∀ q ∈ nums k a, BQ c q) (bb : ∀ q ∈ nums k b, BQ c q) (hc : c ≤ 90) :
    d_shared [kD k, aD k a, aD k b] h = some (aD k (mkA (degI k a) k (List.zipWith (· + ·) (nums k a) (nums k b))), h) := by
  refine Ev_eq ?_
  unfold d_shared b_shared
  have la := nums_len k a fa
  have lb := nums_len k b fb
  have e1 := sp_numbers (h := h) k a 10 hd (by omega)
  have e2 := sp_numbers (h := h) k b 10 hd (by omega)
  have e3 := sp_degree (h := h) k a 10 hd
  have e4 := sp_built (h := h) (g := degI k a) k (List.zipWith (· + ·) (nums k a) (nums k b)) 10 hd hd (by rw [List.length_zipWith]; omega)
  simp (config := {dsimp := false}) only [↓e_pr, ↓e_some, ↓e_an, ↓e_brT, ↓e_brF, ↓e_asB, ↓e_asI, ↓e_asV, ↓e_stE, ↓e_stE0, ↓e_stL, ↓e_stL0, ↓e_sqN, ↓e_sqR, ↓e_sqB, ↓e_sqC, ↓e_afN, ↓e_afR, ↓e_afB, ↓e_afC, ↓e_rtN, ↓e_rtR, ↓e_var, ↓e_c, ↓e_op, ↓e_un, ↓e_t, ↓e_nt, ↓e_anT, ↓e_orT, ↓e_and, ↓e_or, ↓e_not, ↓e_ite, ↓e_ch, ↓e_nil, ↓e_cons, ↓e_star, ↓e_tup, ↓e_lst, ↓e_mut, ↓e_call, ↓e_isiT, ↓e_lz, ↓e_meth, ↓e_meth0, ↓e_oN, ↓e_oS, ↓e_sl, ↓e_gVar, ↓e_gSub, ↓e_gTp, ↓e_gN, ↓e_gC, ↓e_next, ↓e_seq, ↓e_drop, ↓e_ret, ↓e_retN, ↓e_brk, ↓e_cnt, ↓e_if, ↓e_asg, ↓e_as2, ↓e_as3, ↓e_par, ↓e_aug, ↓e_augS, ↓e_for, ↓e_f0, ↓e_f1, ↓e_while, ↓e_asS1, ↓e_asS2, ↓e_asS3, ↓e_iSeq, ↓e_enum, ↓e_asTI, ↓e_enumC, ↓e_rng1, ↓e_zip, ↓e_zipX, ↓e_comp, ↓e_c0, ↓e_c1, ↓e_y, ↓e_body, ↓e_addI, ↓e_addT, ↓e_addL, ↓e_subI, ↓e_iadd, ↓e_mulI, ↓e_divI, ↓e_modI, ↓e_powI, ↓e_negI, ↓e_mulT, ↓e_mulL, ↓e_cmp, ↓e_eq, ↓e_ne, ↓e_isN, ↓e_isB, ↓e_isNotN, ↓e_isNotB, ↓e_ix, ↓e_abs, ↓e_toI, ↓e_toB1, ↓e_toB0, ↓e_lenT, ↓e_lenL, ↓e_lenRo, ↓e_lenR, ↓e_tupT, ↓e_tupL, ↓e_tupR, ↓e_lstT, ↓e_lstL, ↓e_allM, ↓e_in, ↓e_notIn, ↓e_sum, ↓e_max, ↓e_par3, ↓e_pop, ↓e_frz, ↓e_frzR, ↓e_isi, ↓e_slT, ↓e_slL, ↓e_slRo, ↓e_app, ↓e_ext, ↓e_setM, r_it1, r_it2, r_it3, r_it4, r_ls2, r_ls3, r_ml2, r_ml3, r_mg0, r_mgn, r_at0, r_at1, r_at2, r_at3, r_ix0, r_ix1, r_ix2, r_ty1, r_ty2, r_ty3, r_ty4, r_ty5, r_ty6, r_ty7, r_ty8, r_sNt, r_sNi, r_sNb, r_sNs, r_sbt, r_sbi, r_sbb, r_sbs, r_sit, r_sii, r_sib, r_sis, r_sst, r_ssi, r_ssb, r_sss, r_stt, r_sti, r_stb, r_sts, r_slt, r_sli, r_slb, r_sls, r_aN, r_ab, r_ai, r_as, r_at, r_al, r_eqI, r_eqB, r_eqS, r_pu1, r_pu2, r_eqN, r_fr1, r_fx1, r_fx2, r_fx3, r_bo0, r_bo1, r_c0, r_c1, r_c2, r_c3, r_c4, r_c5, r_c6, r_c7, r_c8, r_c9, r_c10, r_c11, r_c12, r_pd0, r_pd1, r_pd2, r_wi0, r_wi1, List.set_cons_zero, List.set_cons_succ, List.getElem?_cons_zero, List.getElem?_cons_succ, ↓reduceIte, List.length_cons, List.length_nil, Nat.zero_add, Nat.reduceAdd, and_true, true_and, decide_true, decide_false, eq_self, beq_self_eq_true, Bool.true_beq, Bool.false_beq, Bool.not_true, Bool.not_false, Int.reduceEq, Int.reduceLT, Int.reduceLE, Int.reduceAdd, Int.reduceSub, Int.reduceMul, Int.reduceNeg, Bool.not_not, List.append_nil, List.nil_append, List.cons_append, z_int, z_bl, z_non, z_tup, z_lst, z_str, z_lint, z_lbl, z_lnon, z_ltup, z_llst, z_lstr, z_whole, d_numbers_in, e1, e2, d_degree_in, e3, ↓zip_maps]
  refine ⟨lenS (by rw [List.length_map, List.length_zip]; omega), ?_⟩
  refine comp_evm (fun p : Rat × Rat => .tup [qD p.1, qD p.2]) (fun p => qD (p.1 + p.2)) ((nums k a).zip (nums k b)) (fun p hp => ?_) ?_
  · have hp := List.of_mem_zip hp
    simp (config := {dsimp := false}) only [↓e_pr, ↓e_some, ↓e_an, ↓e_brT, ↓e_brF, ↓e_asB, ↓e_asI, ↓e_asV, ↓e_stE, ↓e_stE0, ↓e_stL, ↓e_stL0, ↓e_sqN, ↓e_sqR, ↓e_sqB, ↓e_sqC, ↓e_afN, ↓e_afR, ↓e_afB, ↓e_afC, ↓e_rtN, ↓e_rtR, ↓e_var, ↓e_c, ↓e_op, ↓e_un, ↓e_t, ↓e_nt, ↓e_anT, ↓e_orT, ↓e_and, ↓e_or, ↓e_not, ↓e_ite, ↓e_ch, ↓e_nil, ↓e_cons, ↓e_star, ↓e_tup, ↓e_lst, ↓e_mut, ↓e_call, ↓e_isiT, ↓e_lz, ↓e_meth, ↓e_meth0, ↓e_oN, ↓e_oS, ↓e_sl, ↓e_gVar, ↓e_gSub, ↓e_gTp, ↓e_gN, ↓e_gC, ↓e_next, ↓e_seq, ↓e_drop, ↓e_ret, ↓e_retN, ↓e_brk, ↓e_cnt, ↓e_if, ↓e_asg, ↓e_as2, ↓e_as3, ↓e_par, ↓e_aug, ↓e_augS, ↓e_for, ↓e_f0, ↓e_f1, ↓e_while, ↓e_asS1, ↓e_asS2, ↓e_asS3, ↓e_iSeq, ↓e_enum, ↓e_asTI, ↓e_enumC, ↓e_rng1, ↓e_zip, ↓e_zipX, ↓e_comp, ↓e_c0, ↓e_c1, ↓e_y, ↓e_body, ↓e_addI, ↓e_addT, ↓e_addL, ↓e_subI, ↓e_iadd, ↓e_mulI, ↓e_divI, ↓e_modI, ↓e_powI, ↓e_negI, ↓e_mulT, ↓e_mulL, ↓e_cmp, ↓e_eq, ↓e_ne, ↓e_isN, ↓e_isB, ↓e_isNotN, ↓e_isNotB, ↓e_ix, ↓e_abs, ↓e_toI, ↓e_toB1, ↓e_toB0, ↓e_lenT, ↓e_lenL, ↓e_lenRo, ↓e_lenR, ↓e_tupT, ↓e_tupL, ↓e_tupR, ↓e_lstT, ↓e_lstL, ↓e_allM, ↓e_in, ↓e_notIn, ↓e_sum, ↓e_max, ↓e_par3, ↓e_pop, ↓e_frz, ↓e_frzR, ↓e_isi, ↓e_slT, ↓e_slL, ↓e_slRo, ↓e_app, ↓e_ext, ↓e_setM, r_it1, r_it2, r_it3, r_it4, r_ls2, r_ls3, r_ml2, r_ml3, r_mg0, r_mgn, r_at0, r_at1, r_at2, r_at3, r_ix0, r_ix1, r_ix2, r_ty1, r_ty2, r_ty3, r_ty4, r_ty5, r_ty6, r_ty7, r_ty8, r_sNt, r_sNi, r_sNb, r_sNs, r_sbt, r_sbi, r_sbb, r_sbs, r_sit, r_sii, r_sib, r_sis, r_sst, r_ssi, r_ssb, r_sss, r_stt, r_sti, r_stb, r_sts, r_slt, r_sli, r_slb, r_sls, r_aN, r_ab, r_ai, r_as, r_at, r_al, r_eqI, r_eqB, r_eqS, r_pu1, r_pu2, r_eqN, r_fr1, r_fx1, r_fx2, r_fx3, r_bo0, r_bo1, r_c0, r_c1, r_c2, r_c3, r_c4, r_c5, r_c6, r_c7, r_c8, r_c9, r_c10, r_c11, r_c12, r_pd0, r_pd1, r_pd2, r_wi0, r_wi1, List.set_cons_zero, List.set_cons_succ, List.getElem?_cons_zero, List.getElem?_cons_succ, ↓reduceIte, List.length_cons, List.length_nil, Nat.zero_add, Nat.reduceAdd, and_true, true_and, decide_true, decide_false, eq_self, beq_self_eq_true, Bool.true_beq, Bool.false_beq, Bool.not_true, Bool.not_false, Int.reduceEq, Int.reduceLT, Int.reduceLE, Int.reduceAdd, Int.reduceSub, Int.reduceMul, Int.reduceNeg, Bool.not_not, List.append_nil, List.nil_append, List.cons_append, z_int, z_bl, z_non, z_tup, z_lst, z_str, z_lint, z_lbl, z_lnon, z_ltup, z_llst, z_lstr, z_whole, q_plus (ba _ hp.1) (bb _ hp.2) (by omega)]
  · have e5 : ((nums k a).zip (nums k b)).map (fun p => qD (p.1 + p.2)) = (List.zipWith (· + ·) (nums k a) (nums k b)).map qD := by
      rw [List.zip, List.map_zipWith, List.map_zipWith]
    rw [e5]
    simp (config := {dsimp := false}) only [↓e_pr, ↓e_some, ↓e_an, ↓e_brT, ↓e_brF, ↓e_asB, ↓e_asI, ↓e_asV, ↓e_stE, ↓e_stE0, ↓e_stL, ↓e_stL0, ↓e_sqN, ↓e_sqR, ↓e_sqB, ↓e_sqC, ↓e_afN, ↓e_afR, ↓e_afB, ↓e_afC, ↓e_rtN, ↓e_rtR, ↓e_var, ↓e_c, ↓e_op, ↓e_un, ↓e_t, ↓e_nt, ↓e_anT, ↓e_orT, ↓e_and, ↓e_or, ↓e_not, ↓e_ite, ↓e_ch, ↓e_nil, ↓e_cons, ↓e_star, ↓e_tup, ↓e_lst, ↓e_mut, ↓e_call, ↓e_isiT, ↓e_lz, ↓e_meth, ↓e_meth0, ↓e_oN, ↓e_oS, ↓e_sl, ↓e_gVar, ↓e_gSub, ↓e_gTp, ↓e_gN, ↓e_gC, ↓e_next, ↓e_seq, ↓e_drop, ↓e_ret, ↓e_retN, ↓e_brk, ↓e_cnt, ↓e_if, ↓e_asg, ↓e_as2, ↓e_as3, ↓e_par, ↓e_aug, ↓e_augS, ↓e_for, ↓e_f0, ↓e_f1, ↓e_while, ↓e_asS1, ↓e_asS2, ↓e_asS3, ↓e_iSeq, ↓e_enum, ↓e_asTI, ↓e_enumC, ↓e_rng1, ↓e_zip, ↓e_zipX, ↓e_comp, ↓e_c0, ↓e_c1, ↓e_y, ↓e_body, ↓e_addI, ↓e_addT, ↓e_addL, ↓e_subI, ↓e_iadd, ↓e_mulI, ↓e_divI, ↓e_modI, ↓e_powI, ↓e_negI, ↓e_mulT, ↓e_mulL, ↓e_cmp, ↓e_eq, ↓e_ne, ↓e_isN, ↓e_isB, ↓e_isNotN, ↓e_isNotB, ↓e_ix, ↓e_abs, ↓e_toI, ↓e_toB1, ↓e_toB0, ↓e_lenT, ↓e_lenL, ↓e_lenRo, ↓e_lenR, ↓e_tupT, ↓e_tupL, ↓e_tupR, ↓e_lstT, ↓e_lstL, ↓e_allM, ↓e_in, ↓e_notIn, ↓e_sum, ↓e_max, ↓e_par3, ↓e_pop, ↓e_frz, ↓e_frzR, ↓e_isi, ↓e_slT, ↓e_slL, ↓e_slRo, ↓e_app, ↓e_ext, ↓e_setM, r_it1, r_it2, r_it3, r_it4, r_ls2, r_ls3, r_ml2, r_ml3, r_mg0, r_mgn, r_at0, r_at1, r_at2, r_at3, r_ix0, r_ix1, r_ix2, r_ty1, r_ty2, r_ty3, r_ty4, r_ty5, r_ty6, r_ty7, r_ty8, r_sNt, r_sNi, r_sNb, r_sNs, r_sbt, r_sbi, r_sbb, r_sbs, r_sit, r_sii, r_sib, r_sis, r_sst, r_ssi, r_ssb, r_sss, r_stt, r_sti, r_stb, r_sts, r_slt, r_sli, r_slb, r_sls, r_aN, r_ab, r_ai, r_as, r_at, r_al, r_eqI, r_eqB, r_eqS, r_pu1, r_pu2, r_eqN, r_fr1, r_fx1, r_fx2, r_fx3, r_bo0, r_bo1, r_c0, r_c1, r_c2, r_c3, r_c4, r_c5, r_c6, r_c7, r_c8, r_c9, r_c10, r_c11, r_c12, r_pd0, r_pd1, r_pd2, r_wi0, r_wi1, List.set_cons_zero, List.set_cons_succ, List.getElem?_cons_zero, List.getElem?_cons_succ, ↓reduceIte, List.length_cons, List.length_nil, Nat.zero_add, Nat.reduceAdd, and_true, true_and, decide_true, decide_false, eq_self, beq_self_eq_true, Bool.true_beq, Bool.false_beq, Bool.not_true, Bool.not_false, Int.reduceEq, Int.reduceLT, Int.reduceLE, Int.reduceAdd, Int.reduceSub, Int.reduceMul, Int.reduceNeg, Bool.not_not, List.append_nil, List.nil_append, List.cons_append, z_int, z_bl, z_non, z_tup, z_lst, z_str, z_lint, z_lbl, z_lnon, z_ltup, z_llst, z_lstr, z_whole, d_built, e4]
theorem sp_scaled {h : Sto} {k : Kd} {g c : Nat} {a : An k} {f : Rat} (hd : dep k < 10) (hw : width g k ≤ 900) (fa : AFit g k a) (ba : ∀ q ∈ nums k a, BQ c q) (bf : BQ c f) (hc : c ≤ 90) :
    d_scaled [kD k, aD k a, qD f] h = some (aD k (mkA (degI k a) k ((nums k a).map (· * f))), h) := by
  refine Ev_eq ?_
  unfold d_scaled b_scaled
  have la := nums_len k a fa
  have e1 := sp_numbers (h := h) k a 10 hd (by omega)
  have e3 := sp_degree (h := h) k a 10 hd
  have e4 := sp_built (h := h) (g := degI k a) k ((nums k a).map (· * f)) 10 hd hd (by rw [List.length_map]; omega)
  simp (config := {dsimp := false}) only [↓e_pr, ↓e_some, ↓e_an, ↓e_brT, ↓e_brF, ↓e_asB, ↓e_asI, ↓e_asV, ↓e_stE, ↓e_stE0, ↓e_stL, ↓e_stL0, ↓e_sqN, ↓e_sqR, ↓e_sqB, ↓e_sqC, ↓e_afN, ↓e_afR, ↓e_afB, ↓e_afC, ↓e_rtN, ↓e_rtR, ↓e_var, ↓e_c, ↓e_op, ↓e_un, ↓e_t, ↓e_nt, ↓e_anT, ↓e_orT, ↓e_and, ↓e_or, ↓e_not, ↓e_ite, ↓e_ch, ↓e_nil, ↓e_cons, ↓e_star, ↓e_tup, ↓e_lst, ↓e_mut, ↓e_call, ↓e_isiT, ↓e_lz, ↓e_meth, ↓e_meth0, ↓e_oN, ↓e_oS, ↓e_sl, ↓e_gVar, ↓e_gSub, ↓e_gTp, ↓e_gN, ↓e_gC, ↓e_next, ↓e_seq, ↓e_drop, ↓e_ret, ↓e_retN, ↓e_brk, ↓e_cnt, ↓e_if, ↓e_asg, ↓e_as2, ↓e_as3, ↓e_par, ↓e_aug, ↓e_augS, ↓e_for, ↓e_f0, ↓e_f1, ↓e_while, ↓e_asS1, ↓e_asS2, ↓e_asS3, ↓e_iSeq, ↓e_enum, ↓e_asTI, ↓e_enumC, ↓e_rng1, ↓e_zip, ↓e_zipX, ↓e_comp, ↓e_c0, ↓e_c1, ↓e_y, ↓e_body, ↓e_addI, ↓e_addT, ↓e_addL, ↓e_subI, ↓e_iadd, ↓e_mulI, ↓e_divI, ↓e_modI, ↓e_powI, ↓e_negI, ↓e_mulT, ↓e_mulL, ↓e_cmp, ↓e_eq, ↓e_ne, ↓e_isN, ↓e_isB, ↓e_isNotN, ↓e_isNotB, ↓e_ix, ↓e_abs, ↓e_toI, ↓e_toB1, ↓e_toB0, ↓e_lenT, ↓e_lenL, ↓e_lenRo, ↓e_lenR, ↓e_tupT, ↓e_tupL, ↓e_tupR, ↓e_lstT, ↓e_lstL, ↓e_allM, ↓e_in, ↓e_notIn, ↓e_sum, ↓e_max, ↓e_par3, ↓e_pop, ↓e_frz, ↓e_frzR, ↓e_isi, ↓e_slT, ↓e_slL, ↓e_slRo, ↓e_app, ↓e_ext, ↓e_setM, r_it1, r_it2, r_it3, r_it4, r_ls2, r_ls3, r_ml2, r_ml3, r_mg0, r_mgn, r_at0, r_at1, r_at2, r_at3, r_ix0, r_ix1, r_ix2, r_ty1, r_ty2, r_ty3, r_ty4, r_ty5, r_ty6, r_ty7, r_ty8, r_sNt, r_sNi, r_sNb, r_sNs, r_sbt, r_sbi, r_sbb, r_sbs, r_sit, r_sii, r_sib, r_sis, r_sst, r_ssi, r_ssb, r_sss, r_stt, r_sti, r_stb, r_sts, r_slt, r_sli, r_slb, r_sls, r_aN, r_ab, r_ai, r_as, r_at, r_al, r_eqI, r_eqB, r_eqS, r_pu1, r_pu2, r_eqN, r_fr1, r_fx1, r_fx2, r_fx3, r_bo0, r_bo1, r_c0, r_c1, r_c2, r_c3, r_c4, r_c5, r_c6, r_c7, r_c8, r_c9, r_c10, r_c11, r_c12, r_pd0, r_pd1, r_pd2, r_wi0, r_wi1, List.set_cons_zero, List.set_cons_succ, List.getElem?_cons_zero, List.getElem?_cons_succ, ↓reduceIte, List.length_cons, List.length_nil, Nat.zero_add, Nat.reduceAdd, and_true, true_and, decide_true, decide_false, eq_self, beq_self_eq_true, Bool.true_beq, Bool.false_beq, Bool.not_true, Bool.not_false, Int.reduceEq, Int.reduceLT, Int.reduceLE, Int.reduceAdd, Int.reduceSub, Int.reduceMul, Int.reduceNeg, Bool.not_not, List.append_nil, List.nil_append, List.cons_append, z_int, z_bl, z_non, z_tup, z_lst, z_str, z_lint, z_lbl, z_lnon, z_ltup, z_llst, z_lstr, z_whole, d_numbers_in, e1]
  refine ⟨lenS (by rw [List.length_map]; omega), comp_evm qD (fun q => qD (q * f)) (nums k a) (fun q hq => ?_) ?_⟩
  · simp (config := {dsimp := false}) only [↓e_pr, ↓e_some, ↓e_an, ↓e_brT, ↓e_brF, ↓e_asB, ↓e_asI, ↓e_asV, ↓e_stE, ↓e_stE0, ↓e_stL, ↓e_stL0, ↓e_sqN, ↓e_sqR, ↓e_sqB, ↓e_sqC, ↓e_afN, ↓e_afR, ↓e_afB, ↓e_afC, ↓e_rtN, ↓e_rtR, ↓e_var, ↓e_c, ↓e_op, ↓e_un, ↓e_t, ↓e_nt, ↓e_anT, ↓e_orT, ↓e_and, ↓e_or, ↓e_not, ↓e_ite, ↓e_ch, ↓e_nil, ↓e_cons, ↓e_star, ↓e_tup, ↓e_lst, ↓e_mut, ↓e_call, ↓e_isiT, ↓e_lz, ↓e_meth, ↓e_meth0, ↓e_oN, ↓e_oS, ↓e_sl, ↓e_gVar, ↓e_gSub, ↓e_gTp, ↓e_gN, ↓e_gC, ↓e_next, ↓e_seq, ↓e_drop, ↓e_ret, ↓e_retN, ↓e_brk, ↓e_cnt, ↓e_if, ↓e_asg, ↓e_as2, ↓e_as3, ↓e_par, ↓e_aug, ↓e_augS, ↓e_for, ↓e_f0, ↓e_f1, ↓e_while, ↓e_asS1, ↓e_asS2, ↓e_asS3, ↓e_iSeq, ↓e_enum, ↓e_asTI, ↓e_enumC, ↓e_rng1, ↓e_zip, ↓e_zipX, ↓e_comp, ↓e_c0, ↓e_c1, ↓e_y, ↓e_body, ↓e_addI, ↓e_addT, ↓e_addL, ↓e_subI, ↓e_iadd, ↓e_mulI, ↓e_divI, ↓e_modI, ↓e_powI, ↓e_negI, ↓e_mulT, ↓e_mulL, ↓e_cmp, ↓e_eq, ↓e_ne, ↓e_isN, ↓e_isB, ↓e_isNotN, ↓e_isNotB, ↓e_ix, ↓e_abs, ↓e_toI, ↓e_toB1, ↓e_toB0, ↓e_lenT, ↓e_lenL, ↓e_lenRo, ↓e_lenR, ↓e_tupT, ↓e_tupL, ↓e_tupR, ↓e_lstT, ↓e_lstL, ↓e_allM, ↓e_in, ↓e_notIn, ↓e_sum, ↓e_max, ↓e_par3, ↓e_pop, ↓e_frz, ↓e_frzR, ↓e_isi, ↓e_slT, ↓e_slL, ↓e_slRo, ↓e_app, ↓e_ext, ↓e_setM, r_it1, r_it2, r_it3, r_it4, r_ls2, r_ls3, r_ml2, r_ml3, r_mg0, r_mgn, r_at0, r_at1, r_at2, r_at3, r_ix0, r_ix1, r_ix2, r_ty1, r_ty2, r_ty3, r_ty4, r_ty5, r_ty6, r_ty7, r_ty8, r_sNt, r_sNi, r_sNb, r_sNs, r_sbt, r_sbi, r_sbb, r_sbs, r_sit, r_sii, r_sib, r_sis, r_sst, r_ssi, r_ssb, r_sss, r_stt, r_sti, r_stb, r_sts, r_slt, r_sli, r_slb, r_sls, r_aN, r_ab, r_ai, r_as, r_at, r_al, r_eqI, r_eqB, r_eqS, r_pu1, r_pu2, r_eqN, r_fr1, r_fx1, r_fx2, r_fx3, r_bo0, r_bo1, r_c0, r_c1, r_c2, r_c3, r_c4, r_c5, r_c6, r_c7, r_c8, r_c9, r_c10, r_c11, r_c12, r_pd0, r_pd1, r_pd2, r_wi0, r_wi1, List.set_cons_zero, List.set_cons_succ, List.getElem?_cons_zero, List.getElem?_cons_succ, ↓reduceIte, List.length_cons, List.length_nil, Nat.zero_add, Nat.reduceAdd, and_true, true_and, decide_true, decide_false, eq_self, beq_self_eq_true, Bool.true_beq, Bool.false_beq, Bool.not_true, Bool.not_false, Int.reduceEq, Int.reduceLT, Int.reduceLE, Int.reduceAdd, Int.reduceSub, Int.reduceMul, Int.reduceNeg, Bool.not_not, List.append_nil, List.nil_append, List.cons_append, z_int, z_bl, z_non, z_tup, z_lst, z_str, z_lint, z_lbl, z_lnon, z_ltup, z_llst, z_lstr, z_whole, q_times (ba _ hq) bf (by omega)]
  · rw [List.map_map] at e4
    have e4 : recF 4 b_built 10 [kD k, .int (degI k a), .tup ((nums k a).map fun q => qD (q * f))] h = _ := e4
    simp (config := {dsimp := false}) only [↓e_pr, ↓e_some, ↓e_an, ↓e_brT, ↓e_brF, ↓e_asB, ↓e_asI, ↓e_asV, ↓e_stE, ↓e_stE0, ↓e_stL, ↓e_stL0, ↓e_sqN, ↓e_sqR, ↓e_sqB, ↓e_sqC, ↓e_afN, ↓e_afR, ↓e_afB, ↓e_afC, ↓e_rtN, ↓e_rtR, ↓e_var, ↓e_c, ↓e_op, ↓e_un, ↓e_t, ↓e_nt, ↓e_anT, ↓e_orT, ↓e_and, ↓e_or, ↓e_not, ↓e_ite, ↓e_ch, ↓e_nil, ↓e_cons, ↓e_star, ↓e_tup, ↓e_lst, ↓e_mut, ↓e_call, ↓e_isiT, ↓e_lz, ↓e_meth, ↓e_meth0, ↓e_oN, ↓e_oS, ↓e_sl, ↓e_gVar, ↓e_gSub, ↓e_gTp, ↓e_gN, ↓e_gC, ↓e_next, ↓e_seq, ↓e_drop, ↓e_ret, ↓e_retN, ↓e_brk, ↓e_cnt, ↓e_if, ↓e_asg, ↓e_as2, ↓e_as3, ↓e_par, ↓e_aug, ↓e_augS, ↓e_for, ↓e_f0, ↓e_f1, ↓e_while, ↓e_asS1, ↓e_asS2, ↓e_asS3, ↓e_iSeq, ↓e_enum, ↓e_asTI, ↓e_enumC, ↓e_rng1, ↓e_zip, ↓e_zipX, ↓e_comp, ↓e_c0, ↓e_c1, ↓e_y, ↓e_body, ↓e_addI, ↓e_addT, ↓e_addL, ↓e_subI, ↓e_iadd, ↓e_mulI, ↓e_divI, ↓e_modI, ↓e_powI, ↓e_negI, ↓e_mulT, ↓e_mulL, ↓e_cmp, ↓e_eq, ↓e_ne, ↓e_isN, ↓e_isB, ↓e_isNotN, ↓e_isNotB, ↓e_ix, ↓e_abs, ↓e_toI, ↓e_toB1, ↓e_toB0, ↓e_lenT, ↓e_lenL, ↓e_lenRo, ↓e_lenR, ↓e_tupT, ↓e_tupL, ↓e_tupR, ↓e_lstT, ↓e_lstL, ↓e_allM, ↓e_in, ↓e_notIn, ↓e_sum, ↓e_max, ↓e_par3, ↓e_pop, ↓e_frz, ↓e_frzR, ↓e_isi, ↓e_slT, ↓e_slL, ↓e_slRo, ↓e_app, ↓e_ext, ↓e_setM, r_it1, r_it2, r_it3, r_it4, r_ls2, r_ls3, r_ml2, r_ml3, r_mg0, r_mgn, r_at0, r_at1, r_at2, r_at3, r_ix0, r_ix1, r_ix2, r_ty1, r_ty2, r_ty3, r_ty4, r_ty5, r_ty6, r_ty7, r_ty8, r_sNt, r_sNi, r_sNb, r_sNs, r_sbt, r_sbi, r_sbb, r_sbs, r_sit, r_sii, r_sib, r_sis, r_sst, r_ssi, r_ssb, r_sss, r_stt, r_sti, r_stb, r_sts, r_slt, r_sli, r_slb, r_sls, r_aN, r_ab, r_ai, r_as, r_at, r_al, r_eqI, r_eqB, r_eqS, r_pu1, r_pu2, r_eqN, r_fr1, r_fx1, r_fx2, r_fx3, r_bo0, r_bo1, r_c0, r_c1, r_c2, r_c3, r_c4, r_c5, r_c6, r_c7, r_c8, r_c9, r_c10, r_c11, r_c12, r_pd0, r_pd1, r_pd2, r_wi0, r_wi1, List.set_cons_zero, List.set_cons_succ, List.getElem?_cons_zero, List.getElem?_cons_succ, ↓reduceIte, List.length_cons, List.length_nil, Nat.zero_add, Nat.reduceAdd, and_true, true_and, decide_true, decide_false, eq_self, beq_self_eq_true, Bool.true_beq, Bool.false_beq, Bool.not_true, Bool.not_false, Int.reduceEq, Int.reduceLT, Int.reduceLE, Int.reduceAdd, Int.reduceSub, Int.reduceMul, Int.reduceNeg, Bool.not_not, List.append_nil, List.nil_append, List.cons_append, z_int, z_bl, z_non, z_tup, z_lst, z_str, z_lint, z_lbl, z_lnon, z_ltup, z_llst, z_lstr, z_whole, d_degree_in, e3, d_built, e4]
def lessIn {k : Kd} (a b : An k) : Bool := ((nums k a).zip (nums k b)).any fun p => decide (p.1 < p.2)
theorem sp_covers {h : Sto} {k : Kd} {g c : Nat} {a b : An k} (hd : dep k < 10) (hw : width g k ≤ 900) (fa : AFit g k a) (fb : AFit g k b) (ba : ∀ q ∈ nums k a, BQ c q) (bb : ∀ q ∈ nums k b, BQ c q) (hc : c ≤ 90) :
    d_covers [kD k, aD k a, aD k b] h = some (.bl (!lessIn a b), h) := by
  refine Ev_eq ?_
  unfold d_covers b_covers
  have la := nums_len k a fa
  have lb := nums_len k b fb
  have e1 := sp_numbers (h := h) k a 10 hd (by omega)
  have e2 := sp_numbers (h := h) k b 10 hd (by omega)
  simp (config := {dsimp := false}) only [↓e_pr, ↓e_some, ↓e_an, ↓e_brT, ↓e_brF, ↓e_asB, ↓e_asI, ↓e_asV, ↓e_stE, ↓e_stE0, ↓e_stL, ↓e_stL0, ↓e_sqN, ↓e_sqR, ↓e_sqB, ↓e_sqC, ↓e_afN, ↓e_afR, ↓e_afB, ↓e_afC, ↓e_rtN, ↓e_rtR, ↓e_var, ↓e_c, ↓e_op, ↓e_un, ↓e_t, ↓e_nt, ↓e_anT, ↓e_orT, ↓e_and, ↓e_or, ↓e_not, ↓e_ite, ↓e_ch, ↓e_nil, ↓e_cons, ↓e_star, ↓e_tup, ↓e_lst, ↓e_mut, ↓e_call, ↓e_isiT, ↓e_lz, ↓e_meth, ↓e_meth0, ↓e_oN, ↓e_oS, ↓e_sl, ↓e_gVar, ↓e_gSub, ↓e_gTp, ↓e_gN, ↓e_gC, ↓e_next, ↓e_seq, ↓e_drop, ↓e_ret, ↓e_retN, ↓e_brk, ↓e_cnt, ↓e_if, ↓e_asg, ↓e_as2, ↓e_as3, ↓e_par, ↓e_aug, ↓e_augS, ↓e_for, ↓e_f0, ↓e_f1, ↓e_while, ↓e_asS1, ↓e_asS2, ↓e_asS3, ↓e_iSeq, ↓e_enum, ↓e_asTI, ↓e_enumC, ↓e_rng1, ↓e_zip, ↓e_zipX, ↓e_comp, ↓e_c0, ↓e_c1, ↓e_y, ↓e_body, ↓e_addI, ↓e_addT, ↓e_addL, ↓e_subI, ↓e_iadd, ↓e_mulI, ↓e_divI, ↓e_modI, ↓e_powI, ↓e_negI, ↓e_mulT, ↓e_mulL, ↓e_cmp, ↓e_eq, ↓e_ne, ↓e_isN, ↓e_isB, ↓e_isNotN, ↓e_isNotB, ↓e_ix, ↓e_abs, ↓e_toI, ↓e_toB1, ↓e_toB0, ↓e_lenT, ↓e_lenL, ↓e_lenRo, ↓e_lenR, ↓e_tupT, ↓e_tupL, ↓e_tupR, ↓e_lstT, ↓e_lstL, ↓e_allM, ↓e_in, ↓e_notIn, ↓e_sum, ↓e_max, ↓e_par3, ↓e_pop, ↓e_frz, ↓e_frzR, ↓e_isi, ↓e_slT, ↓e_slL, ↓e_slRo, ↓e_app, ↓e_ext, ↓e_setM, r_it1, r_it2, r_it3, r_it4, r_ls2, r_ls3, r_ml2, r_ml3, r_mg0, r_mgn, r_at0, r_at1, r_at2, r_at3, r_ix0, r_ix1, r_ix2, r_ty1, r_ty2, r_ty3, r_ty4, r_ty5, r_ty6, r_ty7, r_ty8, r_sNt, r_sNi, r_sNb, r_sNs, r_sbt, r_sbi, r_sbb, r_sbs, r_sit, r_sii, r_sib, r_sis, r_sst, r_ssi, r_ssb, r_sss, r_stt, r_sti, r_stb, r_sts, r_slt, r_sli, r_slb, r_sls, r_aN, r_ab, r_ai, r_as, r_at, r_al, r_eqI, r_eqB, r_eqS, r_pu1, r_pu2, r_eqN, r_fr1, r_fx1, r_fx2, r_fx3, r_bo0, r_bo1, r_c0, r_c1, r_c2, r_c3, r_c4, r_c5, r_c6, r_c7, r_c8, r_c9, r_c10, r_c11, r_c12, r_pd0, r_pd1, r_pd2, r_wi0, r_wi1, List.set_cons_zero, List.set_cons_succ, List.getElem?_cons_zero, List.getElem?_cons_succ, ↓reduceIte, List.length_cons, List.length_nil, Nat.zero_add, Nat.reduceAdd, and_true, true_and, decide_true, decide_false, eq_self, beq_self_eq_true, Bool.true_beq, Bool.false_beq, Bool.not_true, Bool.not_false, Int.reduceEq, Int.reduceLT, Int.reduceLE, Int.reduceAdd, Int.reduceSub, Int.reduceMul, Int.reduceNeg, Bool.not_not, List.append_nil, List.nil_append, List.cons_append, z_int, z_bl, z_non, z_tup, z_lst, z_str, z_lint, z_lbl, z_lnon, z_ltup, z_llst, z_lstr, z_whole, d_numbers_in, e1, e2, ↓zip_maps]
  refine ⟨lenS (by rw [List.length_map, List.length_zip]; omega), ?_⟩
  refine comp_evm (fun p : Rat × Rat => .tup [qD p.1, qD p.2]) (fun p => .bl (decide (p.1 < p.2))) ((nums k a).zip (nums k b)) (fun p hp => ?_) ?_
  · have hp := List.of_mem_zip hp
    simp (config := {dsimp := false}) only [↓e_pr, ↓e_some, ↓e_an, ↓e_brT, ↓e_brF, ↓e_asB, ↓e_asI, ↓e_asV, ↓e_stE, ↓e_stE0, ↓e_stL, ↓e_stL0, ↓e_sqN, ↓e_sqR, ↓e_sqB, ↓e_sqC, ↓e_afN, ↓e_afR, ↓e_afB, ↓e_afC, ↓e_rtN, ↓e_rtR, ↓e_var, ↓e_c, ↓e_op, ↓e_un, ↓e_t, ↓e_nt, ↓e_anT, ↓e_orT, ↓e_and, ↓e_or, ↓e_not, ↓e_ite, ↓e_ch, ↓e_nil, ↓e_cons, ↓e_star, ↓e_tup, ↓e_lst, ↓e_mut, ↓e_call, ↓e_isiT, ↓e_lz, ↓e_meth, ↓e_meth0, ↓e_oN, ↓e_oS, ↓e_sl, ↓e_gVar, ↓e_gSub, ↓e_gTp, ↓e_gN, ↓e_gC, ↓e_next, ↓e_seq, ↓e_drop, ↓e_ret, ↓e_retN, ↓e_brk, ↓e_cnt, ↓e_if, ↓e_asg, ↓e_as2, ↓e_as3, ↓e_par, ↓e_aug, ↓e_augS, ↓e_for, ↓e_f0, ↓e_f1, ↓e_while, ↓e_asS1, ↓e_asS2, ↓e_asS3, ↓e_iSeq, ↓e_enum, ↓e_asTI, ↓e_enumC, ↓e_rng1, ↓e_zip, ↓e_zipX, ↓e_comp, ↓e_c0, ↓e_c1, ↓e_y, ↓e_body, ↓e_addI, ↓e_addT, ↓e_addL, ↓e_subI, ↓e_iadd, ↓e_mulI, ↓e_divI, ↓e_modI, ↓e_powI, ↓e_negI, ↓e_mulT, ↓e_mulL, ↓e_cmp, ↓e_eq, ↓e_ne, ↓e_isN, ↓e_isB, ↓e_isNotN, ↓e_isNotB, ↓e_ix, ↓e_abs, ↓e_toI, ↓e_toB1, ↓e_toB0, ↓e_lenT, ↓e_lenL, ↓e_lenRo, ↓e_lenR, ↓e_tupT, ↓e_tupL, ↓e_tupR, ↓e_lstT, ↓e_lstL, ↓e_allM, ↓e_in, ↓e_notIn, ↓e_sum, ↓e_max, ↓e_par3, ↓e_pop, ↓e_frz, ↓e_frzR, ↓e_isi, ↓e_slT, ↓e_slL, ↓e_slRo, ↓e_app, ↓e_ext, ↓e_setM, r_it1, r_it2, r_it3, r_it4, r_ls2, r_ls3, r_ml2, r_ml3, r_mg0, r_mgn, r_at0, r_at1, r_at2, r_at3, r_ix0, r_ix1, r_ix2, r_ty1, r_ty2, r_ty3, r_ty4, r_ty5, r_ty6, r_ty7, r_ty8, r_sNt, r_sNi, r_sNb, r_sNs, r_sbt, r_sbi, r_sbb, r_sbs, r_sit, r_sii, r_sib, r_sis, r_sst, r_ssi, r_ssb, r_sss, r_stt, r_sti, r_stb, r_sts, r_slt, r_sli, r_slb, r_sls, r_aN, r_ab, r_ai, r_as, r_at, r_al, r_eqI, r_eqB, r_eqS, r_pu1, r_pu2, r_eqN, r_fr1, r_fx1, r_fx2, r_fx3, r_bo0, r_bo1, r_c0, r_c1, r_c2, r_c3, r_c4, r_c5, r_c6, r_c7, r_c8, r_c9, r_c10, r_c11, r_c12, r_pd0, r_pd1, r_pd2, r_wi0, r_wi1, List.set_cons_zero, List.set_cons_succ, List.getElem?_cons_zero, List.getElem?_cons_succ, ↓reduceIte, List.length_cons, List.length_nil, Nat.zero_add, Nat.reduceAdd, and_true, true_and, decide_true, decide_false, eq_self, beq_self_eq_true, Bool.true_beq, Bool.false_beq, Bool.not_true, Bool.not_false, Int.reduceEq, Int.reduceLT, Int.reduceLE, Int.reduceAdd, Int.reduceSub, Int.reduceMul, Int.reduceNeg, Bool.not_not, List.append_nil, List.nil_append, List.cons_append, z_int, z_bl, z_non, z_tup, z_lst, z_str, z_lint, z_lbl, z_lnon, z_ltup, z_llst, z_lstr, z_whole, q_is_less (ba _ hp.1) (bb _ hp.2) (by omega)]
  · simp (config := {dsimp := false}) only [↓e_pr, ↓e_some, ↓e_an, ↓e_brT, ↓e_brF, ↓e_asB, ↓e_asI, ↓e_asV, ↓e_stE, ↓e_stE0, ↓e_stL, ↓e_stL0, ↓e_sqN, ↓e_sqR, ↓e_sqB, ↓e_sqC, ↓e_afN, ↓e_afR, ↓e_afB, ↓e_afC, ↓e_rtN, ↓e_rtR, ↓e_var, ↓e_c, ↓e_op, ↓e_un, ↓e_t, ↓e_nt, ↓e_anT, ↓e_orT, ↓e_and, ↓e_or, ↓e_not, ↓e_ite, ↓e_ch, ↓e_nil, ↓e_cons, ↓e_star, ↓e_tup, ↓e_lst, ↓e_mut, ↓e_call, ↓e_isiT, ↓e_lz, ↓e_meth, ↓e_meth0, ↓e_oN, ↓e_oS, ↓e_sl, ↓e_gVar, ↓e_gSub, ↓e_gTp, ↓e_gN, ↓e_gC, ↓e_next, ↓e_seq, ↓e_drop, ↓e_ret, ↓e_retN, ↓e_brk, ↓e_cnt, ↓e_if, ↓e_asg, ↓e_as2, ↓e_as3, ↓e_par, ↓e_aug, ↓e_augS, ↓e_for, ↓e_f0, ↓e_f1, ↓e_while, ↓e_asS1, ↓e_asS2, ↓e_asS3, ↓e_iSeq, ↓e_enum, ↓e_asTI, ↓e_enumC, ↓e_rng1, ↓e_zip, ↓e_zipX, ↓e_comp, ↓e_c0, ↓e_c1, ↓e_y, ↓e_body, ↓e_addI, ↓e_addT, ↓e_addL, ↓e_subI, ↓e_iadd, ↓e_mulI, ↓e_divI, ↓e_modI, ↓e_powI, ↓e_negI, ↓e_mulT, ↓e_mulL, ↓e_cmp, ↓e_eq, ↓e_ne, ↓e_isN, ↓e_isB, ↓e_isNotN, ↓e_isNotB, ↓e_ix, ↓e_abs, ↓e_toI, ↓e_toB1, ↓e_toB0, ↓e_lenT, ↓e_lenL, ↓e_lenRo, ↓e_lenR, ↓e_tupT, ↓e_tupL, ↓e_tupR, ↓e_lstT, ↓e_lstL, ↓e_allM, ↓e_in, ↓e_notIn, ↓e_sum, ↓e_max, ↓e_par3, ↓e_pop, ↓e_frz, ↓e_frzR, ↓e_isi, ↓e_slT, ↓e_slL, ↓e_slRo, ↓e_app, ↓e_ext, ↓e_setM, r_it1, r_it2, r_it3, r_it4, r_ls2, r_ls3, r_ml2, r_ml3, r_mg0, r_mgn, r_at0, r_at1, r_at2, r_at3, r_ix0, r_ix1, r_ix2, r_ty1, r_ty2, r_ty3, r_ty4, r_ty5, r_ty6, r_ty7, r_ty8, r_sNt, r_sNi, r_sNb, r_sNs, r_sbt, r_sbi, r_sbb, r_sbs, r_sit, r_sii, r_sib, r_sis, r_sst, r_ssi, r_ssb, r_sss, r_stt, r_sti, r_stb, r_sts, r_slt, r_sli, r_slb, r_sls, r_aN, r_ab, r_ai, r_as, r_at, r_al, r_eqI, r_eqB, r_eqS, r_pu1, r_pu2, r_eqN, r_fr1, r_fx1, r_fx2, r_fx3, r_bo0, r_bo1, r_c0, r_c1, r_c2, r_c3, r_c4, r_c5, r_c6, r_c7, r_c8, r_c9, r_c10, r_c11, r_c12, r_pd0, r_pd1, r_pd2, r_wi0, r_wi1, List.set_cons_zero, List.set_cons_succ, List.getElem?_cons_zero, List.getElem?_cons_succ, ↓reduceIte, List.length_cons, List.length_nil, Nat.zero_add, Nat.reduceAdd, and_true, true_and, decide_true, decide_false, eq_self, beq_self_eq_true, Bool.true_beq, Bool.false_beq, Bool.not_true, Bool.not_false, Int.reduceEq, Int.reduceLT, Int.reduceLE, Int.reduceAdd, Int.reduceSub, Int.reduceMul, Int.reduceNeg, Bool.not_not, List.append_nil, List.nil_append, List.cons_append, z_int, z_bl, z_non, z_tup, z_lst, z_str, z_lint, z_lbl, z_lnon, z_ltup, z_llst, z_lstr, z_whole, ↓x_anyM]
    rfl
theorem sp_law_less {i j : Nat} {a b : Rat} {h : Sto} (x : BQ i a) (y : BQ j b) (z : i + j ≤ 2999) : d_law_less [qD a, qD b] h = some (.bl (decide (a < b)), h) := by
  have := q_is_less (h := h) x y z
  exact this
theorem sp_law_covers {h : Sto} {k : Kd} {g c : Nat} {a b : An k} (hd : dep k < 8) (hw : width g k ≤ 900) (fa : AFit g k a) (fb : AFit g k b) (ba : ∀ q ∈ nums k a, BQ c q) (bb : ∀ q ∈ nums k b, BQ c q) (hc : c ≤ 90) :
    d_law_covers [aD k a, aD k b] h = some (.bl (!lessIn a b), h) := by
  refine Ev_eq ?_
  unfold d_law_covers b_law_covers
  have la := nums_len k a fa
  have lb := nums_len k b fb
  have e1 := sp_flat (h := h) k a 10 (by omega) (by omega) (by omega)
  have e2 := sp_flat (h := h) k b 10 (by omega) (by omega) (by omega)
  simp (config := {dsimp := false}) only [↓e_pr, ↓e_some, ↓e_an, ↓e_brT, ↓e_brF, ↓e_asB, ↓e_asI, ↓e_asV, ↓e_stE, ↓e_stE0, ↓e_stL, ↓e_stL0, ↓e_sqN, ↓e_sqR, ↓e_sqB, ↓e_sqC, ↓e_afN, ↓e_afR, ↓e_afB, ↓e_afC, ↓e_rtN, ↓e_rtR, ↓e_var, ↓e_c, ↓e_op, ↓e_un, ↓e_t, ↓e_nt, ↓e_anT, ↓e_orT, ↓e_and, ↓e_or, ↓e_not, ↓e_ite, ↓e_ch, ↓e_nil, ↓e_cons, ↓e_star, ↓e_tup, ↓e_lst, ↓e_mut, ↓e_call, ↓e_isiT, ↓e_lz, ↓e_meth, ↓e_meth0, ↓e_oN, ↓e_oS, ↓e_sl, ↓e_gVar, ↓e_gSub, ↓e_gTp, ↓e_gN, ↓e_gC, ↓e_next, ↓e_seq, ↓e_drop, ↓e_ret, ↓e_retN, ↓e_brk, ↓e_cnt, ↓e_if, ↓e_asg, ↓e_as2, ↓e_as3, ↓e_par, ↓e_aug, ↓e_augS, ↓e_for, ↓e_f0, ↓e_f1, ↓e_while, ↓e_asS1, ↓e_asS2, ↓e_asS3, ↓e_iSeq, ↓e_enum, ↓e_asTI, ↓e_enumC, ↓e_rng1, ↓e_zip, ↓e_zipX, ↓e_comp, ↓e_c0, ↓e_c1, ↓e_y, ↓e_body, ↓e_addI, ↓e_addT, ↓e_addL, ↓e_subI, ↓e_iadd, ↓e_mulI, ↓e_divI, ↓e_modI, ↓e_powI, ↓e_negI, ↓e_mulT, ↓e_mulL, ↓e_cmp, ↓e_eq, ↓e_ne, ↓e_isN, ↓e_isB, ↓e_isNotN, ↓e_isNotB, ↓e_ix, ↓e_abs, ↓e_toI, ↓e_toB1, ↓e_toB0, ↓e_lenT, ↓e_lenL, ↓e_lenRo, ↓e_lenR, ↓e_tupT, ↓e_tupL, ↓e_tupR, ↓e_lstT, ↓e_lstL, ↓e_allM, ↓e_in, ↓e_notIn, ↓e_sum, ↓e_max, ↓e_par3, ↓e_pop, ↓e_frz, ↓e_frzR, ↓e_isi, ↓e_slT, ↓e_slL, ↓e_slRo, ↓e_app, ↓e_ext, ↓e_setM, r_it1, r_it2, r_it3, r_it4, r_ls2, r_ls3, r_ml2, r_ml3, r_mg0, r_mgn, r_at0, r_at1, r_at2, r_at3, r_ix0, r_ix1, r_ix2, r_ty1, r_ty2, r_ty3, r_ty4, r_ty5, r_ty6, r_ty7, r_ty8, r_sNt, r_sNi, r_sNb, r_sNs, r_sbt, r_sbi, r_sbb, r_sbs, r_sit, r_sii, r_sib, r_sis, r_sst, r_ssi, r_ssb, r_sss, r_stt, r_sti, r_stb, r_sts, r_slt, r_sli, r_slb, r_sls, r_aN, r_ab, r_ai, r_as, r_at, r_al, r_eqI, r_eqB, r_eqS, r_pu1, r_pu2, r_eqN, r_fr1, r_fx1, r_fx2, r_fx3, r_bo0, r_bo1, r_c0, r_c1, r_c2, r_c3, r_c4, r_c5, r_c6, r_c7, r_c8, r_c9, r_c10, r_c11, r_c12, r_pd0, r_pd1, r_pd2, r_wi0, r_wi1, List.set_cons_zero, List.set_cons_succ, List.getElem?_cons_zero, List.getElem?_cons_succ, ↓reduceIte, List.length_cons, List.length_nil, Nat.zero_add, Nat.reduceAdd, and_true, true_and, decide_true, decide_false, eq_self, beq_self_eq_true, Bool.true_beq, Bool.false_beq, Bool.not_true, Bool.not_false, Int.reduceEq, Int.reduceLT, Int.reduceLE, Int.reduceAdd, Int.reduceSub, Int.reduceMul, Int.reduceNeg, Bool.not_not, List.append_nil, List.nil_append, List.cons_append, z_int, z_bl, z_non, z_tup, z_lst, z_str, z_lint, z_lbl, z_lnon, z_ltup, z_llst, z_lstr, z_whole, d_law_flat, e1, e2, ↓zip_maps]
  refine ⟨lenS (by rw [List.length_map, List.length_zip]; omega), ?_⟩
  refine comp_evf (fun p : Rat × Rat => .tup [qD p.1, qD p.2]) (fun _ => .int 1) (fun p => decide (p.1 < p.2)) ((nums k a).zip (nums k b)) (fun p hp => ?_) ?_
  · have hp := List.of_mem_zip hp
    simp (config := {dsimp := false}) only [↓e_pr, ↓e_some, ↓e_an, ↓e_brT, ↓e_brF, ↓e_asB, ↓e_asI, ↓e_asV, ↓e_stE, ↓e_stE0, ↓e_stL, ↓e_stL0, ↓e_sqN, ↓e_sqR, ↓e_sqB, ↓e_sqC, ↓e_afN, ↓e_afR, ↓e_afB, ↓e_afC, ↓e_rtN, ↓e_rtR, ↓e_var, ↓e_c, ↓e_op, ↓e_un, ↓e_t, ↓e_nt, ↓e_anT, ↓e_orT, ↓e_and, ↓e_or, ↓e_not, ↓e_ite, ↓e_ch, ↓e_nil, ↓e_cons, ↓e_star, ↓e_tup, ↓e_lst, ↓e_mut, ↓e_call, ↓e_isiT, ↓e_lz, ↓e_meth, ↓e_meth0, ↓e_oN, ↓e_oS, ↓e_sl, ↓e_gVar, ↓e_gSub, ↓e_gTp, ↓e_gN, ↓e_gC, ↓e_next, ↓e_seq, ↓e_drop, ↓e_ret, ↓e_retN, ↓e_brk, ↓e_cnt, ↓e_if, ↓e_asg, ↓e_as2, ↓e_as3, ↓e_par, ↓e_aug, ↓e_augS, ↓e_for, ↓e_f0, ↓e_f1, ↓e_while, ↓e_asS1, ↓e_asS2, ↓e_asS3, ↓e_iSeq, ↓e_enum, ↓e_asTI, ↓e_enumC, ↓e_rng1, ↓e_zip, ↓e_zipX, ↓e_comp, ↓e_c0, ↓e_c1, ↓e_y, ↓e_body, ↓e_addI, ↓e_addT, ↓e_addL, ↓e_subI, ↓e_iadd, ↓e_mulI, ↓e_divI, ↓e_modI, ↓e_powI, ↓e_negI, ↓e_mulT, ↓e_mulL, ↓e_cmp, ↓e_eq, ↓e_ne, ↓e_isN, ↓e_isB, ↓e_isNotN, ↓e_isNotB, ↓e_ix, ↓e_abs, ↓e_toI, ↓e_toB1, ↓e_toB0, ↓e_lenT, ↓e_lenL, ↓e_lenRo, ↓e_lenR, ↓e_tupT, ↓e_tupL, ↓e_tupR, ↓e_lstT, ↓e_lstL, ↓e_allM, ↓e_in, ↓e_notIn, ↓e_sum, ↓e_max, ↓e_par3, ↓e_pop, ↓e_frz, ↓e_frzR, ↓e_isi, ↓e_slT, ↓e_slL, ↓e_slRo, ↓e_app, ↓e_ext, ↓e_setM, r_it1, r_it2, r_it3, r_it4, r_ls2, r_ls3, r_ml2, r_ml3, r_mg0, r_mgn, r_at0, r_at1, r_at2, r_at3, r_ix0, r_ix1, r_ix2, r_ty1, r_ty2, r_ty3, r_ty4, r_ty5, r_ty6, r_ty7, r_ty8, r_sNt, r_sNi, r_sNb, r_sNs, r_sbt, r_sbi, r_sbb, r_sbs, r_sit, r_sii, r_sib, r_sis, r_sst, r_ssi, r_ssb, r_sss, r_stt, r_sti, r_stb, r_sts, r_slt, r_sli, r_slb, r_sls, r_aN, r_ab, r_ai, r_as, r_at, r_al, r_eqI, r_eqB, r_eqS, r_pu1, r_pu2, r_eqN, r_fr1, r_fx1, r_fx2, r_fx3, r_bo0, r_bo1, r_c0, r_c1, r_c2, r_c3, r_c4, r_c5, r_c6, r_c7, r_c8, r_c9, r_c10, r_c11, r_c12, r_pd0, r_pd1, r_pd2, r_wi0, r_wi1, List.set_cons_zero, List.set_cons_succ, List.getElem?_cons_zero, List.getElem?_cons_succ, ↓reduceIte, List.length_cons, List.length_nil, Nat.zero_add, Nat.reduceAdd, and_true, true_and, decide_true, decide_false, eq_self, beq_self_eq_true, Bool.true_beq, Bool.false_beq, Bool.not_true, Bool.not_false, Int.reduceEq, Int.reduceLT, Int.reduceLE, Int.reduceAdd, Int.reduceSub, Int.reduceMul, Int.reduceNeg, Bool.not_not, List.append_nil, List.nil_append, List.cons_append, z_int, z_bl, z_non, z_tup, z_lst, z_str, z_lint, z_lbl, z_lnon, z_ltup, z_llst, z_lstr, z_whole, sp_law_less (ba _ hp.1) (bb _ hp.2) (by omega)]
    intro _
    simp (config := {dsimp := false}) only [↓e_pr, ↓e_some, ↓e_an, ↓e_brT, ↓e_brF, ↓e_asB, ↓e_asI, ↓e_asV, ↓e_stE, ↓e_stE0, ↓e_stL, ↓e_stL0, ↓e_sqN, ↓e_sqR, ↓e_sqB, ↓e_sqC, ↓e_afN, ↓e_afR, ↓e_afB, ↓e_afC, ↓e_rtN, ↓e_rtR, ↓e_var, ↓e_c, ↓e_op, ↓e_un, ↓e_t, ↓e_nt, ↓e_anT, ↓e_orT, ↓e_and, ↓e_or, ↓e_not, ↓e_ite, ↓e_ch, ↓e_nil, ↓e_cons, ↓e_star, ↓e_tup, ↓e_lst, ↓e_mut, ↓e_call, ↓e_isiT, ↓e_lz, ↓e_meth, ↓e_meth0, ↓e_oN, ↓e_oS, ↓e_sl, ↓e_gVar, ↓e_gSub, ↓e_gTp, ↓e_gN, ↓e_gC, ↓e_next, ↓e_seq, ↓e_drop, ↓e_ret, ↓e_retN, ↓e_brk, ↓e_cnt, ↓e_if, ↓e_asg, ↓e_as2, ↓e_as3, ↓e_par, ↓e_aug, ↓e_augS, ↓e_for, ↓e_f0, ↓e_f1, ↓e_while, ↓e_asS1, ↓e_asS2, ↓e_asS3, ↓e_iSeq, ↓e_enum, ↓e_asTI, ↓e_enumC, ↓e_rng1, ↓e_zip, ↓e_zipX, ↓e_comp, ↓e_c0, ↓e_c1, ↓e_y, ↓e_body, ↓e_addI, ↓e_addT, ↓e_addL, ↓e_subI, ↓e_iadd, ↓e_mulI, ↓e_divI, ↓e_modI, ↓e_powI, ↓e_negI, ↓e_mulT, ↓e_mulL, ↓e_cmp, ↓e_eq, ↓e_ne, ↓e_isN, ↓e_isB, ↓e_isNotN, ↓e_isNotB, ↓e_ix, ↓e_abs, ↓e_toI, ↓e_toB1, ↓e_toB0, ↓e_lenT, ↓e_lenL, ↓e_lenRo, ↓e_lenR, ↓e_tupT, ↓e_tupL, ↓e_tupR, ↓e_lstT, ↓e_lstL, ↓e_allM, ↓e_in, ↓e_notIn, ↓e_sum, ↓e_max, ↓e_par3, ↓e_pop, ↓e_frz, ↓e_frzR, ↓e_isi, ↓e_slT, ↓e_slL, ↓e_slRo, ↓e_app, ↓e_ext, ↓e_setM, r_it1, r_it2, r_it3, r_it4, r_ls2, r_ls3, r_ml2, r_ml3, r_mg0, r_mgn, r_at0, r_at1, r_at2, r_at3, r_ix0, r_ix1, r_ix2, r_ty1, r_ty2, r_ty3, r_ty4, r_ty5, r_ty6, r_ty7, r_ty8, r_sNt, r_sNi, r_sNb, r_sNs, r_sbt, r_sbi, r_sbb, r_sbs, r_sit, r_sii, r_sib, r_sis, r_sst, r_ssi, r_ssb, r_sss, r_stt, r_sti, r_stb, r_sts, r_slt, r_sli, r_slb, r_sls, r_aN, r_ab, r_ai, r_as, r_at, r_al, r_eqI, r_eqB, r_eqS, r_pu1, r_pu2, r_eqN, r_fr1, r_fx1, r_fx2, r_fx3, r_bo0, r_bo1, r_c0, r_c1, r_c2, r_c3, r_c4, r_c5, r_c6, r_c7, r_c8, r_c9, r_c10, r_c11, r_c12, r_pd0, r_pd1, r_pd2, r_wi0, r_wi1, List.set_cons_zero, List.set_cons_succ, List.getElem?_cons_zero, List.getElem?_cons_succ, ↓reduceIte, List.length_cons, List.length_nil, Nat.zero_add, Nat.reduceAdd, and_true, true_and, decide_true, decide_false, eq_self, beq_self_eq_true, Bool.true_beq, Bool.false_beq, Bool.not_true, Bool.not_false, Int.reduceEq, Int.reduceLT, Int.reduceLE, Int.reduceAdd, Int.reduceSub, Int.reduceMul, Int.reduceNeg, Bool.not_not, List.append_nil, List.nil_append, List.cons_append, z_int, z_bl, z_non, z_tup, z_lst, z_str, z_lint, z_lbl, z_lnon, z_ltup, z_llst, z_lstr, z_whole]
  · have e4 : ∀ l : List (Rat × Rat), l.map (fun _ => D.int 1) = (l.map fun _ => (1 : Int)).map .int := fun l => by rw [List.map_map]; rfl
    rw [e4]
    simp (config := {dsimp := false}) only [↓e_pr, ↓e_some, ↓e_an, ↓e_brT, ↓e_brF, ↓e_asB, ↓e_asI, ↓e_asV, ↓e_stE, ↓e_stE0, ↓e_stL, ↓e_stL0, ↓e_sqN, ↓e_sqR, ↓e_sqB, ↓e_sqC, ↓e_afN, ↓e_afR, ↓e_afB, ↓e_afC, ↓e_rtN, ↓e_rtR, ↓e_var, ↓e_c, ↓e_op, ↓e_un, ↓e_t, ↓e_nt, ↓e_anT, ↓e_orT, ↓e_and, ↓e_or, ↓e_not, ↓e_ite, ↓e_ch, ↓e_nil, ↓e_cons, ↓e_star, ↓e_tup, ↓e_lst, ↓e_mut, ↓e_call, ↓e_isiT, ↓e_lz, ↓e_meth, ↓e_meth0, ↓e_oN, ↓e_oS, ↓e_sl, ↓e_gVar, ↓e_gSub, ↓e_gTp, ↓e_gN, ↓e_gC, ↓e_next, ↓e_seq, ↓e_drop, ↓e_ret, ↓e_retN, ↓e_brk, ↓e_cnt, ↓e_if, ↓e_asg, ↓e_as2, ↓e_as3, ↓e_par, ↓e_aug, ↓e_augS, ↓e_for, ↓e_f0, ↓e_f1, ↓e_while, ↓e_asS1, ↓e_asS2, ↓e_asS3, ↓e_iSeq, ↓e_enum, ↓e_asTI, ↓e_enumC, ↓e_rng1, ↓e_zip, ↓e_zipX, ↓e_comp, ↓e_c0, ↓e_c1, ↓e_y, ↓e_body, ↓e_addI, ↓e_addT, ↓e_addL, ↓e_subI, ↓e_iadd, ↓e_mulI, ↓e_divI, ↓e_modI, ↓e_powI, ↓e_negI, ↓e_mulT, ↓e_mulL, ↓e_cmp, ↓e_eq, ↓e_ne, ↓e_isN, ↓e_isB, ↓e_isNotN, ↓e_isNotB, ↓e_ix, ↓e_abs, ↓e_toI, ↓e_toB1, ↓e_toB0, ↓e_lenT, ↓e_lenL, ↓e_lenRo, ↓e_lenR, ↓e_tupT, ↓e_tupL, ↓e_tupR, ↓e_lstT, ↓e_lstL, ↓e_allM, ↓e_in, ↓e_notIn, ↓e_sum, ↓e_max, ↓e_par3, ↓e_pop, ↓e_frz, ↓e_frzR, ↓e_isi, ↓e_slT, ↓e_slL, ↓e_slRo, ↓e_app, ↓e_ext, ↓e_setM, r_it1, r_it2, r_it3, r_it4, r_ls2, r_ls3, r_ml2, r_ml3, r_mg0, r_mgn, r_at0, r_at1, r_at2, r_at3, r_ix0, r_ix1, r_ix2, r_ty1, r_ty2, r_ty3, r_ty4, r_ty5, r_ty6, r_ty7, r_ty8, r_sNt, r_sNi, r_sNb, r_sNs, r_sbt, r_sbi, r_sbb, r_sbs, r_sit, r_sii, r_sib, r_sis, r_sst, r_ssi, r_ssb, r_sss, r_stt, r_sti, r_stb, r_sts, r_slt, r_sli, r_slb, r_sls, r_aN, r_ab, r_ai, r_as, r_at, r_al, r_eqI, r_eqB, r_eqS, r_pu1, r_pu2, r_eqN, r_fr1, r_fx1, r_fx2, r_fx3, r_bo0, r_bo1, r_c0, r_c1, r_c2, r_c3, r_c4, r_c5, r_c6, r_c7, r_c8, r_c9, r_c10, r_c11, r_c12, r_pd0, r_pd1, r_pd2, r_wi0, r_wi1, List.set_cons_zero, List.set_cons_succ, List.getElem?_cons_zero, List.getElem?_cons_succ, ↓reduceIte, List.length_cons, List.length_nil, Nat.zero_add, Nat.reduceAdd, and_true, true_and, decide_true, decide_false, eq_self, beq_self_eq_true, Bool.true_beq, Bool.false_beq, Bool.not_true, Bool.not_false, Int.reduceEq, Int.reduceLT, Int.reduceLE, Int.reduceAdd, Int.reduceSub, Int.reduceMul, Int.reduceNeg, Bool.not_not, List.append_nil, List.nil_append, List.cons_append, z_int, z_bl, z_non, z_tup, z_lst, z_str, z_lint, z_lbl, z_lnon, z_ltup, z_llst, z_lstr, z_whole, r_eqLE, s0]
    unfold lessIn
    congr 1
    rw [List.isEmpty_map]
    cases z : ((nums k a).zip (nums k b)).any fun p => decide (p.1 < p.2) with
    | true =>
      obtain ⟨p, hp, hq⟩ := List.any_eq_true.mp z
      cases zz : ((nums k a).zip (nums k b)).filter fun p => decide (p.1 < p.2) with
      | nil => exact absurd hq (by simpa using List.filter_eq_nil_iff.mp zz p hp)
      | cons _ _ => rfl
    | false =>
      rw [List.filter_eq_nil_iff.mpr fun p hp => by simpa using List.any_eq_false.mp z p hp]
      rfl

end K19
namespace K19
open Sh ShR Iv PySem PySem.Spec PyProof.Rows L2
/-! ### values -/
inductive Tr (α : Type) where
  | leaf | node (l : Tr α) (x : α) (r : Tr α)
def Tr.toD {α : Type} (f : α → D) : Tr α → D
  | .leaf => .tup []
  | .node l x r => .tup [l.toD f, f x, r.toD f]
def Tr.size {α : Type} : Tr α → Nat
  | .leaf => 0
  | .node l _ r => l.size + r.size + 1
/-- nodes with their depths, the root first -/
def Tr.pre {α : Type} : Tr α → Nat → List (α × Nat)
  | .leaf, _ => []
  | .node l x r, d => (x, d) :: (l.pre (d + 1) ++ r.pre (d + 1))
/-- .. from left to right -/
def Tr.ino {α : Type} : Tr α → Nat → List (α × Nat)
  | .leaf, _ => []
  | .node l x r, d => l.ino (d + 1) ++ [(x, d)] ++ r.ino (d + 1)
theorem Tr.pre_len {α : Type} : ∀ (t : Tr α) (d : Nat), (t.pre d).length = t.size
  | .leaf, _ => rfl
  | .node l x r, d => by rw [Tr.pre, List.length_cons, List.length_append, Tr.pre_len l, Tr.pre_len r, Tr.size]
theorem Tr.perm {α : Type} : ∀ (t : Tr α) (d : Nat), (t.ino d).Perm (t.pre d)
  | .leaf, _ => .refl _
  | .node l x r, d => by
    rw [Tr.pre, Tr.ino]
    have h1 := Tr.perm l (d + 1)
    have h2 := Tr.perm r (d + 1)
    have h3 : (l.ino (d + 1) ++ [(x, d)] ++ r.ino (d + 1)).Perm ((x, d) :: (l.ino (d + 1) ++ r.ino (d + 1))) := by
      rw [List.append_assoc]; exact List.perm_middle
    exact h3.trans (.cons _ (h1.append h2))
def Vt : Kd → Type
  | .num => Int
  | .lst k => List (Vt k)
  | .tre k => Tr (Vt k)
  | .par a b => Vt a × Vt b
def vD : (k : Kd) → Vt k → D
  | .num, n => .int n
  | .lst k, l => .tup (List.map (vD k) l)
  | .tre k, t => Tr.toD (vD k) t
  | .par x y, v => .tup [vD x v.1, vD y v.2]
/-! ### sums of products -/
theorem qD_int (n : Int) : qD (n : Rat) = frD (n, 1) := rfl
def linQ : List Rat → List Rat → Rat
  | a :: r, b :: s => a * b + linQ r s
  | _, _ => 0
theorem sp_choose1 {h : Sto} {n : Nat} (hn : n < 2 ^ 50) : d_choose [.int n, .int 1] h = some (.int n, h) := by
  refine Ev_eq ?_
  unfold d_choose b_choose
  have e : rangeL 0 (Int.toNat 1) = [.int 0] := rfl
  by_cases z : (1 : Int) ≤ n
  · simp (config := {dsimp := false}) only [↓e_pr, ↓e_some, ↓e_an, ↓e_brT, ↓e_brF, ↓e_asB, ↓e_asI, ↓e_asV, ↓e_stE, ↓e_stE0, ↓e_stL, ↓e_stL0, ↓e_sqN, ↓e_sqR, ↓e_sqB, ↓e_sqC, ↓e_afN, ↓e_afR, ↓e_afB, ↓e_afC, ↓e_rtN, ↓e_rtR, ↓e_var, ↓e_c, ↓e_op, ↓e_un, ↓e_t, ↓e_nt, ↓e_anT, ↓e_orT, ↓e_and, ↓e_or, ↓e_not, ↓e_ite, ↓e_ch, ↓e_nil, ↓e_cons, ↓e_star, ↓e_tup, ↓e_lst, ↓e_mut, ↓e_call, ↓e_isiT, ↓e_lz, ↓e_meth, ↓e_meth0, ↓e_oN, ↓e_oS, ↓e_sl, ↓e_gVar, ↓e_gSub, ↓e_gTp, ↓e_gN, ↓e_gC, ↓e_next, ↓e_seq, ↓e_drop, ↓e_ret, ↓e_retN, ↓e_brk, ↓e_cnt, ↓e_if, ↓e_asg, ↓e_as2, ↓e_as3, ↓e_par, ↓e_aug, ↓e_augS, ↓e_for, ↓e_f0, ↓e_f1, ↓e_while, ↓e_asS1, ↓e_asS2, ↓e_asS3, ↓e_iSeq, ↓e_enum, ↓e_asTI, ↓e_enumC, ↓e_rng1, ↓e_zip, ↓e_zipX, ↓e_comp, ↓e_c0, ↓e_c1, ↓e_y, ↓e_body, ↓e_addI, ↓e_addT, ↓e_addL, ↓e_subI, ↓e_iadd, ↓e_mulI, ↓e_divI, ↓e_modI, ↓e_powI, ↓e_negI, ↓e_mulT, ↓e_mulL, ↓e_cmp, ↓e_eq, ↓e_ne, ↓e_isN, ↓e_isB, ↓e_isNotN, ↓e_isNotB, ↓e_ix, ↓e_abs, ↓e_toI, ↓e_toB1, ↓e_toB0, ↓e_lenT, ↓e_lenL, ↓e_lenRo, ↓e_lenR, ↓e_tupT, ↓e_tupL, ↓e_tupR, ↓e_lstT, ↓e_lstL, ↓e_allM, ↓e_in, ↓e_notIn, ↓e_sum, ↓e_max, ↓e_par3, ↓e_pop, ↓e_frz, ↓e_frzR, ↓e_isi, ↓e_slT, ↓e_slL, ↓e_slRo, ↓e_app, ↓e_ext, ↓e_setM, r_it1, r_it2, r_it3, r_it4, r_ls2, r_ls3, r_ml2, r_ml3, r_mg0, r_mgn, r_at0, r_at1, r_at2, r_at3, r_ix0, r_ix1, r_ix2, r_ty1, r_ty2, r_ty3, r_ty4, r_ty5, r_ty6, r_ty7, r_ty8, r_sNt, r_sNi, r_sNb, r_sNs, r_sbt, r_sbi, r_sbb, r_sbs, r_sit, r_sii, r_sib, r_sis, r_sst, r_ssi, r_ssb, r_sss, r_stt, r_sti, r_stb, r_sts, r_slt, r_sli, r_slb, r_sls, r_aN, r_ab, r_ai, r_as, r_at, r_al, r_eqI, r_eqB, r_eqS, r_pu1, r_pu2, r_eqN, r_fr1, r_fx1, r_fx2, r_fx3, r_bo0, r_bo1, r_c0, r_c1, r_c2, r_c3, r_c4, r_c5, r_c6, r_c7, r_c8, r_c9, r_c10, r_c11, r_c12, r_pd0, r_pd1, r_pd2, r_wi0, r_wi1, List.set_cons_zero, List.set_cons_succ, List.getElem?_cons_zero, List.getElem?_cons_succ, ↓reduceIte, List.length_cons, List.length_nil, Nat.zero_add, Nat.reduceAdd, and_true, true_and, decide_true, decide_false, eq_self, beq_self_eq_true, Bool.true_beq, Bool.false_beq, Bool.not_true, Bool.not_false, Int.reduceEq, Int.reduceLT, Int.reduceLE, Int.reduceAdd, Int.reduceSub, Int.reduceMul, Int.reduceNeg, Bool.not_not, List.append_nil, List.nil_append, List.cons_append, z_int, z_bl, z_non, z_tup, z_lst, z_str, z_lint, z_lbl, z_lnon, z_ltup, z_llst, z_lstr, z_whole, z, e, Int.sub_zero, Int.one_mul]
    exact ⟨⟨by decide, by decide⟩, .s (by decide) (by decide) (by omega) (by omega), .s (by decide) (by decide), by rw [Int.ediv_one]⟩
  · simp (config := {dsimp := false}) only [↓e_pr, ↓e_some, ↓e_an, ↓e_brT, ↓e_brF, ↓e_asB, ↓e_asI, ↓e_asV, ↓e_stE, ↓e_stE0, ↓e_stL, ↓e_stL0, ↓e_sqN, ↓e_sqR, ↓e_sqB, ↓e_sqC, ↓e_afN, ↓e_afR, ↓e_afB, ↓e_afC, ↓e_rtN, ↓e_rtR, ↓e_var, ↓e_c, ↓e_op, ↓e_un, ↓e_t, ↓e_nt, ↓e_anT, ↓e_orT, ↓e_and, ↓e_or, ↓e_not, ↓e_ite, ↓e_ch, ↓e_nil, ↓e_cons, ↓e_star, ↓e_tup, ↓e_lst, ↓e_mut, ↓e_call, ↓e_isiT, ↓e_lz, ↓e_meth, ↓e_meth0, ↓e_oN, ↓e_oS, ↓e_sl, ↓e_gVar, ↓e_gSub, ↓e_gTp, ↓e_gN, ↓e_gC, ↓e_next, ↓e_seq, ↓e_drop, ↓e_ret, ↓e_retN, ↓e_brk, ↓e_cnt, ↓e_if, ↓e_asg, ↓e_as2, ↓e_as3, ↓e_par, ↓e_aug, ↓e_augS, ↓e_for, ↓e_f0, ↓e_f1, ↓e_while, ↓e_asS1, ↓e_asS2, ↓e_asS3, ↓e_iSeq, ↓e_enum, ↓e_asTI, ↓e_enumC, ↓e_rng1, ↓e_zip, ↓e_zipX, ↓e_comp, ↓e_c0, ↓e_c1, ↓e_y, ↓e_body, ↓e_addI, ↓e_addT, ↓e_addL, ↓e_subI, ↓e_iadd, ↓e_mulI, ↓e_divI, ↓e_modI, ↓e_powI, ↓e_negI, ↓e_mulT, ↓e_mulL, ↓e_cmp, ↓e_eq, ↓e_ne, ↓e_isN, ↓e_isB, ↓e_isNotN, ↓e_isNotB, ↓e_ix, ↓e_abs, ↓e_toI, ↓e_toB1, ↓e_toB0, ↓e_lenT, ↓e_lenL, ↓e_lenRo, ↓e_lenR, ↓e_tupT, ↓e_tupL, ↓e_tupR, ↓e_lstT, ↓e_lstL, ↓e_allM, ↓e_in, ↓e_notIn, ↓e_sum, ↓e_max, ↓e_par3, ↓e_pop, ↓e_frz, ↓e_frzR, ↓e_isi, ↓e_slT, ↓e_slL, ↓e_slRo, ↓e_app, ↓e_ext, ↓e_setM, r_it1, r_it2, r_it3, r_it4, r_ls2, r_ls3, r_ml2, r_ml3, r_mg0, r_mgn, r_at0, r_at1, r_at2, r_at3, r_ix0, r_ix1, r_ix2, r_ty1, r_ty2, r_ty3, r_ty4, r_ty5, r_ty6, r_ty7, r_ty8, r_sNt, r_sNi, r_sNb, r_sNs, r_sbt, r_sbi, r_sbb, r_sbs, r_sit, r_sii, r_sib, r_sis, r_sst, r_ssi, r_ssb, r_sss, r_stt, r_sti, r_stb, r_sts, r_slt, r_sli, r_slb, r_sls, r_aN, r_ab, r_ai, r_as, r_at, r_al, r_eqI, r_eqB, r_eqS, r_pu1, r_pu2, r_eqN, r_fr1, r_fx1, r_fx2, r_fx3, r_bo0, r_bo1, r_c0, r_c1, r_c2, r_c3, r_c4, r_c5, r_c6, r_c7, r_c8, r_c9, r_c10, r_c11, r_c12, r_pd0, r_pd1, r_pd2, r_wi0, r_wi1, List.set_cons_zero, List.set_cons_succ, List.getElem?_cons_zero, List.getElem?_cons_succ, ↓reduceIte, List.length_cons, List.length_nil, Nat.zero_add, Nat.reduceAdd, and_true, true_and, decide_true, decide_false, eq_self, beq_self_eq_true, Bool.true_beq, Bool.false_beq, Bool.not_true, Bool.not_false, Int.reduceEq, Int.reduceLT, Int.reduceLE, Int.reduceAdd, Int.reduceSub, Int.reduceMul, Int.reduceNeg, Bool.not_not, List.append_nil, List.nil_append, List.cons_append, z_int, z_bl, z_non, z_tup, z_lst, z_str, z_lint, z_lbl, z_lnon, z_ltup, z_llst, z_lstr, z_whole, z]
    have : n = 0 := by omega
    subst this; rfl
theorem sp_choose2 {h : Sto} {n : Nat} (hn : n < 2 ^ 50) : d_choose [.int n, .int 2] h = some (.int ((n : Int) * (n - 1) / 2), h) := by
  refine Ev_eq ?_
  unfold d_choose b_choose
  have e : rangeL 0 (Int.toNat 2) = [.int 0, .int 1] := rfl
  by_cases z : (2 : Int) ≤ n
  · simp (config := {dsimp := false}) only [↓e_pr, ↓e_some, ↓e_an, ↓e_brT, ↓e_brF, ↓e_asB, ↓e_asI, ↓e_asV, ↓e_stE, ↓e_stE0, ↓e_stL, ↓e_stL0, ↓e_sqN, ↓e_sqR, ↓e_sqB, ↓e_sqC, ↓e_afN, ↓e_afR, ↓e_afB, ↓e_afC, ↓e_rtN, ↓e_rtR, ↓e_var, ↓e_c, ↓e_op, ↓e_un, ↓e_t, ↓e_nt, ↓e_anT, ↓e_orT, ↓e_and, ↓e_or, ↓e_not, ↓e_ite, ↓e_ch, ↓e_nil, ↓e_cons, ↓e_star, ↓e_tup, ↓e_lst, ↓e_mut, ↓e_call, ↓e_isiT, ↓e_lz, ↓e_meth, ↓e_meth0, ↓e_oN, ↓e_oS, ↓e_sl, ↓e_gVar, ↓e_gSub, ↓e_gTp, ↓e_gN, ↓e_gC, ↓e_next, ↓e_seq, ↓e_drop, ↓e_ret, ↓e_retN, ↓e_brk, ↓e_cnt, ↓e_if, ↓e_asg, ↓e_as2, ↓e_as3, ↓e_par, ↓e_aug, ↓e_augS, ↓e_for, ↓e_f0, ↓e_f1, ↓e_while, ↓e_asS1, ↓e_asS2, ↓e_asS3, ↓e_iSeq, ↓e_enum, ↓e_asTI, ↓e_enumC, ↓e_rng1, ↓e_zip, ↓e_zipX, ↓e_comp, ↓e_c0, ↓e_c1, ↓e_y, ↓e_body, ↓e_addI, ↓e_addT, ↓e_addL, ↓e_subI, ↓e_iadd, ↓e_mulI, ↓e_divI, ↓e_modI, ↓e_powI, ↓e_negI, ↓e_mulT, ↓e_mulL, ↓e_cmp, ↓e_eq, ↓e_ne, ↓e_isN, ↓e_isB, ↓e_isNotN, ↓e_isNotB, ↓e_ix, ↓e_abs, ↓e_toI, ↓e_toB1, ↓e_toB0, ↓e_lenT, ↓e_lenL, ↓e_lenRo, ↓e_lenR, ↓e_tupT, ↓e_tupL, ↓e_tupR, ↓e_lstT, ↓e_lstL, ↓e_allM, ↓e_in, ↓e_notIn, ↓e_sum, ↓e_max, ↓e_par3, ↓e_pop, ↓e_frz, ↓e_frzR, ↓e_isi, ↓e_slT, ↓e_slL, ↓e_slRo, ↓e_app, ↓e_ext, ↓e_setM, r_it1, r_it2, r_it3, r_it4, r_ls2, r_ls3, r_ml2, r_ml3, r_mg0, r_mgn, r_at0, r_at1, r_at2, r_at3, r_ix0, r_ix1, r_ix2, r_ty1, r_ty2, r_ty3, r_ty4, r_ty5, r_ty6, r_ty7, r_ty8, r_sNt, r_sNi, r_sNb, r_sNs, r_sbt, r_sbi, r_sbb, r_sbs, r_sit, r_sii, r_sib, r_sis, r_sst, r_ssi, r_ssb, r_sss, r_stt, r_sti, r_stb, r_sts, r_slt, r_sli, r_slb, r_sls, r_aN, r_ab, r_ai, r_as, r_at, r_al, r_eqI, r_eqB, r_eqS, r_pu1, r_pu2, r_eqN, r_fr1, r_fx1, r_fx2, r_fx3, r_bo0, r_bo1, r_c0, r_c1, r_c2, r_c3, r_c4, r_c5, r_c6, r_c7, r_c8, r_c9, r_c10, r_c11, r_c12, r_pd0, r_pd1, r_pd2, r_wi0, r_wi1, List.set_cons_zero, List.set_cons_succ, List.getElem?_cons_zero, List.getElem?_cons_succ, ↓reduceIte, List.length_cons, List.length_nil, Nat.zero_add, Nat.reduceAdd, and_true, true_and, decide_true, decide_false, eq_self, beq_self_eq_true, Bool.true_beq, Bool.false_beq, Bool.not_true, Bool.not_false, Int.reduceEq, Int.reduceLT, Int.reduceLE, Int.reduceAdd, Int.reduceSub, Int.reduceMul, Int.reduceNeg, Bool.not_not, List.append_nil, List.nil_append, List.cons_append, z_int, z_bl, z_non, z_tup, z_lst, z_str, z_lint, z_lbl, z_lnon, z_ltup, z_llst, z_lstr, z_whole, z, e, Int.sub_zero, Int.one_mul]
    rw [Int.ediv_one]
    exact ⟨⟨by decide, by decide⟩, .s (by decide) (by decide) (by omega) (by omega), .s (by decide) (by decide), .s (by omega) (by omega) (by omega) (by omega), .s (by decide) (by decide), rfl⟩
  · simp (config := {dsimp := false}) only [↓e_pr, ↓e_some, ↓e_an, ↓e_brT, ↓e_brF, ↓e_asB, ↓e_asI, ↓e_asV, ↓e_stE, ↓e_stE0, ↓e_stL, ↓e_stL0, ↓e_sqN, ↓e_sqR, ↓e_sqB, ↓e_sqC, ↓e_afN, ↓e_afR, ↓e_afB, ↓e_afC, ↓e_rtN, ↓e_rtR, ↓e_var, ↓e_c, ↓e_op, ↓e_un, ↓e_t, ↓e_nt, ↓e_anT, ↓e_orT, ↓e_and, ↓e_or, ↓e_not, ↓e_ite, ↓e_ch, ↓e_nil, ↓e_cons, ↓e_star, ↓e_tup, ↓e_lst, ↓e_mut, ↓e_call, ↓e_isiT, ↓e_lz, ↓e_meth, ↓e_meth0, ↓e_oN, ↓e_oS, ↓e_sl, ↓e_gVar, ↓e_gSub, ↓e_gTp, ↓e_gN, ↓e_gC, ↓e_next, ↓e_seq, ↓e_drop, ↓e_ret, ↓e_retN, ↓e_brk, ↓e_cnt, ↓e_if, ↓e_asg, ↓e_as2, ↓e_as3, ↓e_par, ↓e_aug, ↓e_augS, ↓e_for, ↓e_f0, ↓e_f1, ↓e_while, ↓e_asS1, ↓e_asS2, ↓e_asS3, ↓e_iSeq, ↓e_enum, ↓e_asTI, ↓e_enumC, ↓e_rng1, ↓e_zip, ↓e_zipX, ↓e_comp, ↓e_c0, ↓e_c1, ↓e_y, ↓e_body, ↓e_addI, ↓e_addT, ↓e_addL, ↓e_subI, ↓e_iadd, ↓e_mulI, ↓e_divI, ↓e_modI, ↓e_powI, ↓e_negI, ↓e_mulT, ↓e_mulL, ↓e_cmp, ↓e_eq, ↓e_ne, ↓e_isN, ↓e_isB, ↓e_isNotN, ↓e_isNotB, ↓e_ix, ↓e_abs, ↓e_toI, ↓e_toB1, ↓e_toB0, ↓e_lenT, ↓e_lenL, ↓e_lenRo, ↓e_lenR, ↓e_tupT, ↓e_tupL, ↓e_tupR, ↓e_lstT, ↓e_lstL, ↓e_allM, ↓e_in, ↓e_notIn, ↓e_sum, ↓e_max, ↓e_par3, ↓e_pop, ↓e_frz, ↓e_frzR, ↓e_isi, ↓e_slT, ↓e_slL, ↓e_slRo, ↓e_app, ↓e_ext, ↓e_setM, r_it1, r_it2, r_it3, r_it4, r_ls2, r_ls3, r_ml2, r_ml3, r_mg0, r_mgn, r_at0, r_at1, r_at2, r_at3, r_ix0, r_ix1, r_ix2, r_ty1, r_ty2, r_ty3, r_ty4, r_ty5, r_ty6, r_ty7, r_ty8, r_sNt, r_sNi, r_sNb, r_sNs, r_sbt, r_sbi, r_sbb, r_sbs, r_sit, r_sii, r_sib, r_sis, r_sst, r_ssi, r_ssb, r_sss, r_stt, r_sti, r_stb, r_sts, r_slt, r_sli, r_slb, r_sls, r_aN, r_ab, r_ai, r_as, r_at, r_al, r_eqI, r_eqB, r_eqS, r_pu1, r_pu2, r_eqN, r_fr1, r_fx1, r_fx2, r_fx3, r_bo0, r_bo1, r_c0, r_c1, r_c2, r_c3, r_c4, r_c5, r_c6, r_c7, r_c8, r_c9, r_c10, r_c11, r_c12, r_pd0, r_pd1, r_pd2, r_wi0, r_wi1, List.set_cons_zero, List.set_cons_succ, List.getElem?_cons_zero, List.getElem?_cons_succ, ↓reduceIte, List.length_cons, List.length_nil, Nat.zero_add, Nat.reduceAdd, and_true, true_and, decide_true, decide_false, eq_self, beq_self_eq_true, Bool.true_beq, Bool.false_beq, Bool.not_true, Bool.not_false, Int.reduceEq, Int.reduceLT, Int.reduceLE, Int.reduceAdd, Int.reduceSub, Int.reduceMul, Int.reduceNeg, Bool.not_not, List.append_nil, List.nil_append, List.cons_append, z_int, z_bl, z_non, z_tup, z_lst, z_str, z_lint, z_lbl, z_lnon, z_ltup, z_llst, z_lstr, z_whole, z]
    have : n = 0 ∨ n = 1 := by omega
    rcases this with rfl | rfl <;> rfl
/-- counts of a size: items, couples of items -/
def cnt (n : Nat) : List Rat := [((n : Int) : Rat), (((n : Int) * (n - 1) / 2 : Int) : Rat)]
theorem cnt_nat (n : Nat) : 0 ≤ (n : Int) * (n - 1) / 2 := by
  cases n with
  | zero => decide
  | succ n => exact Int.ediv_nonneg (Int.mul_nonneg (by omega) (by omega)) (by decide)
theorem cnt2_le {n : Nat} (hn : n ≤ 8) : ((n : Int) * (n - 1) / 2).natAbs ≤ 2 ^ 5 := by
  rcases (show n = 0 ∨ n = 1 ∨ n = 2 ∨ n = 3 ∨ n = 4 ∨ n = 5 ∨ n = 6 ∨ n = 7 ∨ n = 8 by omega) with rfl | rfl | rfl | rfl | rfl | rfl | rfl | rfl | rfl <;> decide
theorem row_cases {r : List Rat} (h1 : 1 ≤ r.length) (h2 : r.length ≤ 2) : (∃ a, r = [a]) ∨ ∃ a b, r = [a, b] := by
  match r, h1, h2 with
  | [a], _, _ => exact .inl ⟨a, rfl⟩
  | [a, b], _, _ => exact .inr ⟨a, b, rfl⟩
theorem sum1 {h : Sto} {c : Nat} {a : Rat} (x : BQ c a) (z : c ≤ 90) : d_summed [.lst [qD a]] h = some (qD (a + 0), h) := by
  have := q_summed (k := c) (qs := [a]) (h := h) (fun q hq => by rw [List.mem_singleton] at hq; subst hq; exact x) (by show (c + 1) * 1 + c ≤ 2999; omega)
  exact this
theorem sum2 {h : Sto} {c : Nat} {a b : Rat} (x : BQ c a) (y : BQ c b) (z : c ≤ 60) : d_summed [.lst [qD a, qD b]] h = some (qD (a + (b + 0)), h) := by
  have := q_summed (k := c) (qs := [a, b]) (h := h) (fun q hq => by
    rcases List.mem_cons.mp hq with rfl | hq
    · exact x
    · rw [List.mem_singleton] at hq; subst hq; exact y) (by show (c + 1) * 2 + c ≤ 2999; omega)
  exact this
theorem sp_list_pot {h : Sto} {c n : Nat} {r : List Rat} (h1 : 1 ≤ r.length) (h2 : r.length ≤ 2) (hr : ∀ q ∈ r, BQ c q) (hc : c ≤ 50) (hn : n ≤ 8) : d_list_potential [rwD r, .int n] h = some (qD (linQ r (cnt n)), h) := by
  refine Ev_eq ?_
  unfold d_list_potential b_list_potential
  have b1 : BQ 5 (((n : Int)) : Rat) := .int (by omega)
  have b2 : BQ 5 ((((n : Int) * (n - 1) / 2 : Int)) : Rat) := .int (cnt2_le hn)
  have c1 := sp_choose1 (h := h) (n := n) (by omega)
  have c2 := sp_choose2 (h := h) (n := n) (by omega)
  rcases row_cases h1 h2 with ⟨a, rfl⟩ | ⟨a, b, rfl⟩
  · have ba := hr a (by simp)
    have e : enumCL 1 (List.map qD [a]) = [.tup [.int 1, qD a]] := rfl
    have t1 := q_times (h := h) ba b1 (by omega)
    rw [qD_int] at t1
    simp (config := {dsimp := false}) only [↓e_pr, ↓e_some, ↓e_an, ↓e_brT, ↓e_brF, ↓e_asB, ↓e_asI, ↓e_asV, ↓e_stE, ↓e_stE0, ↓e_stL, ↓e_stL0, ↓e_sqN, ↓e_sqR, ↓e_sqB, ↓e_sqC, ↓e_afN, ↓e_afR, ↓e_afB, ↓e_afC, ↓e_rtN, ↓e_rtR, ↓e_var, ↓e_c, ↓e_op, ↓e_un, ↓e_t, ↓e_nt, ↓e_anT, ↓e_orT, ↓e_and, ↓e_or, ↓e_not, ↓e_ite, ↓e_ch, ↓e_nil, ↓e_cons, ↓e_star, ↓e_tup, ↓e_lst, ↓e_mut, ↓e_call, ↓e_isiT, ↓e_lz, ↓e_meth, ↓e_meth0, ↓e_oN, ↓e_oS, ↓e_sl, ↓e_gVar, ↓e_gSub, ↓e_gTp, ↓e_gN, ↓e_gC, ↓e_next, ↓e_seq, ↓e_drop, ↓e_ret, ↓e_retN, ↓e_brk, ↓e_cnt, ↓e_if, ↓e_asg, ↓e_as2, ↓e_as3, ↓e_par, ↓e_aug, ↓e_augS, ↓e_for, ↓e_f0, ↓e_f1, ↓e_while, ↓e_asS1, ↓e_asS2, ↓e_asS3, ↓e_iSeq, ↓e_enum, ↓e_asTI, ↓e_enumC, ↓e_rng1, ↓e_zip, ↓e_zipX, ↓e_comp, ↓e_c0, ↓e_c1, ↓e_y, ↓e_body, ↓e_addI, ↓e_addT, ↓e_addL, ↓e_subI, ↓e_iadd, ↓e_mulI, ↓e_divI, ↓e_modI, ↓e_powI, ↓e_negI, ↓e_mulT, ↓e_mulL, ↓e_cmp, ↓e_eq, ↓e_ne, ↓e_isN, ↓e_isB, ↓e_isNotN, ↓e_isNotB, ↓e_ix, ↓e_abs, ↓e_toI, ↓e_toB1, ↓e_toB0, ↓e_lenT, ↓e_lenL, ↓e_lenRo, ↓e_lenR, ↓e_tupT, ↓e_tupL, ↓e_tupR, ↓e_lstT, ↓e_lstL, ↓e_allM, ↓e_in, ↓e_notIn, ↓e_sum, ↓e_max, ↓e_par3, ↓e_pop, ↓e_frz, ↓e_frzR, ↓e_isi, ↓e_slT, ↓e_slL, ↓e_slRo, ↓e_app, ↓e_ext, ↓e_setM, r_it1, r_it2, r_it3, r_it4, r_ls2, r_ls3, r_ml2, r_ml3, r_mg0, r_mgn, r_at0, r_at1, r_at2, r_at3, r_ix0, r_ix1, r_ix2, r_ty1, r_ty2, r_ty3, r_ty4, r_ty5, r_ty6, r_ty7, r_ty8, r_sNt, r_sNi, r_sNb, r_sNs, r_sbt, r_sbi, r_sbb, r_sbs, r_sit, r_sii, r_sib, r_sis, r_sst, r_ssi, r_ssb, r_sss, r_stt, r_sti, r_stb, r_sts, r_slt, r_sli, r_slb, r_sls, r_aN, r_ab, r_ai, r_as, r_at, r_al, r_eqI, r_eqB, r_eqS, r_pu1, r_pu2, r_eqN, r_fr1, r_fx1, r_fx2, r_fx3, r_bo0, r_bo1, r_c0, r_c1, r_c2, r_c3, r_c4, r_c5, r_c6, r_c7, r_c8, r_c9, r_c10, r_c11, r_c12, r_pd0, r_pd1, r_pd2, r_wi0, r_wi1, List.set_cons_zero, List.set_cons_succ, List.getElem?_cons_zero, List.getElem?_cons_succ, ↓reduceIte, List.length_cons, List.length_nil, Nat.zero_add, Nat.reduceAdd, and_true, true_and, decide_true, decide_false, eq_self, beq_self_eq_true, Bool.true_beq, Bool.false_beq, Bool.not_true, Bool.not_false, Int.reduceEq, Int.reduceLT, Int.reduceLE, Int.reduceAdd, Int.reduceSub, Int.reduceMul, Int.reduceNeg, Bool.not_not, List.append_nil, List.nil_append, List.cons_append, z_int, z_bl, z_non, z_tup, z_lst, z_str, z_lint, z_lbl, z_lnon, z_ltup, z_llst, z_lstr, z_whole, e, c1, t1, sum1 (ba.mul b1) (by omega)]
    exact ⟨⟨by decide, by decide⟩, by decide, rfl⟩
  · have ba := hr a (by simp)
    have bb := hr b (by simp)
    have e : enumCL 1 (List.map qD [a, b]) = [.tup [.int 1, qD a], .tup [.int 2, qD b]] := rfl
    have t1 := q_times (h := h) ba b1 (by omega)
    rw [qD_int] at t1
    have t2 := q_times (h := h) bb b2 (by omega)
    rw [qD_int] at t2
    simp (config := {dsimp := false}) only [↓e_pr, ↓e_some, ↓e_an, ↓e_brT, ↓e_brF, ↓e_asB, ↓e_asI, ↓e_asV, ↓e_stE, ↓e_stE0, ↓e_stL, ↓e_stL0, ↓e_sqN, ↓e_sqR, ↓e_sqB, ↓e_sqC, ↓e_afN, ↓e_afR, ↓e_afB, ↓e_afC, ↓e_rtN, ↓e_rtR, ↓e_var, ↓e_c, ↓e_op, ↓e_un, ↓e_t, ↓e_nt, ↓e_anT, ↓e_orT, ↓e_and, ↓e_or, ↓e_not, ↓e_ite, ↓e_ch, ↓e_nil, ↓e_cons, ↓e_star, ↓e_tup, ↓e_lst, ↓e_mut, ↓e_call, ↓e_isiT, ↓e_lz, ↓e_meth, ↓e_meth0, ↓e_oN, ↓e_oS, ↓e_sl, ↓e_gVar, ↓e_gSub, ↓e_gTp, ↓e_gN, ↓e_gC, ↓e_next, ↓e_seq, ↓e_drop, ↓e_ret, ↓e_retN, ↓e_brk, ↓e_cnt, ↓e_if, ↓e_asg, ↓e_as2, ↓e_as3, ↓e_par, ↓e_aug, ↓e_augS, ↓e_for, ↓e_f0, ↓e_f1, ↓e_while, ↓e_asS1, ↓e_asS2, ↓e_asS3, ↓e_iSeq, ↓e_enum, ↓e_asTI, ↓e_enumC, ↓e_rng1, ↓e_zip, ↓e_zipX, ↓e_comp, ↓e_c0, ↓e_c1, ↓e_y, ↓e_body, ↓e_addI, ↓e_addT, ↓e_addL, ↓e_subI, ↓e_iadd, ↓e_mulI, ↓e_divI, ↓e_modI, ↓e_powI, ↓e_negI, ↓e_mulT, ↓e_mulL, ↓e_cmp, ↓e_eq, ↓e_ne, ↓e_isN, ↓e_isB, ↓e_isNotN, ↓e_isNotB, ↓e_ix, ↓e_abs, ↓e_toI, ↓e_toB1, ↓e_toB0, ↓e_lenT, ↓e_lenL, ↓e_lenRo, ↓e_lenR, ↓e_tupT, ↓e_tupL, ↓e_tupR, ↓e_lstT, ↓e_lstL, ↓e_allM, ↓e_in, ↓e_notIn, ↓e_sum, ↓e_max, ↓e_par3, ↓e_pop, ↓e_frz, ↓e_frzR, ↓e_isi, ↓e_slT, ↓e_slL, ↓e_slRo, ↓e_app, ↓e_ext, ↓e_setM, r_it1, r_it2, r_it3, r_it4, r_ls2, r_ls3, r_ml2, r_ml3, r_mg0, r_mgn, r_at0, r_at1, r_at2, r_at3, r_ix0, r_ix1, r_ix2, r_ty1, r_ty2, r_ty3, r_ty4, r_ty5, r_ty6, r_ty7, r_ty8, r_sNt, r_sNi, r_sNb, r_sNs, r_sbt, r_sbi, r_sbb, r_sbs, r_sit, r_sii, r_sib, r_sis, r_sst, r_ssi, r_ssb, r_sss, r_stt, r_sti, r_stb, r_sts, r_slt, r_sli, r_slb, r_sls, r_aN, r_ab, r_ai, r_as, r_at, r_al, r_eqI, r_eqB, r_eqS, r_pu1, r_pu2, r_eqN, r_fr1, r_fx1, r_fx2, r_fx3, r_bo0, r_bo1, r_c0, r_c1, r_c2, r_c3, r_c4, r_c5, r_c6, r_c7, r_c8, r_c9, r_c10, r_c11, r_c12, r_pd0, r_pd1, r_pd2, r_wi0, r_wi1, List.set_cons_zero, List.set_cons_succ, List.getElem?_cons_zero, List.getElem?_cons_succ, ↓reduceIte, List.length_cons, List.length_nil, Nat.zero_add, Nat.reduceAdd, and_true, true_and, decide_true, decide_false, eq_self, beq_self_eq_true, Bool.true_beq, Bool.false_beq, Bool.not_true, Bool.not_false, Int.reduceEq, Int.reduceLT, Int.reduceLE, Int.reduceAdd, Int.reduceSub, Int.reduceMul, Int.reduceNeg, Bool.not_not, List.append_nil, List.nil_append, List.cons_append, z_int, z_bl, z_non, z_tup, z_lst, z_str, z_lint, z_lbl, z_lnon, z_ltup, z_llst, z_lstr, z_whole, e, c1, c2, t1, t2, sum2 (ba.mul b1) (bb.mul b2) (by omega)]
    exact ⟨⟨by decide, by decide⟩, by decide, rfl⟩
theorem sp_tree_pot {h : Sto} {c n m : Nat} {r : List Rat} (h1 : 1 ≤ r.length) (h2 : r.length ≤ 2) (hr : ∀ q ∈ r, BQ c q) (hc : c ≤ 50) (hn : n ≤ 2 ^ 5) (hm : m ≤ 2 ^ 5) : d_tree_potential [rwD r, .int n, .int m] h = some (qD (linQ r [((n : Int) : Rat), ((m : Int) : Rat)]), h) := by
  refine Ev_eq ?_
  unfold d_tree_potential b_tree_potential
  have b1 : BQ 5 (((n : Int)) : Rat) := .int (by omega)
  have b2 : BQ 5 (((m : Int)) : Rat) := .int (by omega)
  rcases row_cases h1 h2 with ⟨a, rfl⟩ | ⟨a, b, rfl⟩
  · have ba := hr a (by simp)
    have e : zipL (List.map qD [a]) [.int n, .int m] = [.tup [qD a, .int n]] := rfl
    have t1 := q_times (h := h) ba b1 (by omega)
    rw [qD_int] at t1
    simp (config := {dsimp := false}) only [↓e_pr, ↓e_some, ↓e_an, ↓e_brT, ↓e_brF, ↓e_asB, ↓e_asI, ↓e_asV, ↓e_stE, ↓e_stE0, ↓e_stL, ↓e_stL0, ↓e_sqN, ↓e_sqR, ↓e_sqB, ↓e_sqC, ↓e_afN, ↓e_afR, ↓e_afB, ↓e_afC, ↓e_rtN, ↓e_rtR, ↓e_var, ↓e_c, ↓e_op, ↓e_un, ↓e_t, ↓e_nt, ↓e_anT, ↓e_orT, ↓e_and, ↓e_or, ↓e_not, ↓e_ite, ↓e_ch, ↓e_nil, ↓e_cons, ↓e_star, ↓e_tup, ↓e_lst, ↓e_mut, ↓e_call, ↓e_isiT, ↓e_lz, ↓e_meth, ↓e_meth0, ↓e_oN, ↓e_oS, ↓e_sl, ↓e_gVar, ↓e_gSub, ↓e_gTp, ↓e_gN, ↓e_gC, ↓e_next, ↓e_seq, ↓e_drop, ↓e_ret, ↓e_retN, ↓e_brk, ↓e_cnt, ↓e_if, ↓e_asg, ↓e_as2, ↓e_as3, ↓e_par, ↓e_aug, ↓e_augS, ↓e_for, ↓e_f0, ↓e_f1, ↓e_while, ↓e_asS1, ↓e_asS2, ↓e_asS3, ↓e_iSeq, ↓e_enum, ↓e_asTI, ↓e_enumC, ↓e_rng1, ↓e_zip, ↓e_zipX, ↓e_comp, ↓e_c0, ↓e_c1, ↓e_y, ↓e_body, ↓e_addI, ↓e_addT, ↓e_addL, ↓e_subI, ↓e_iadd, ↓e_mulI, ↓e_divI, ↓e_modI, ↓e_powI, ↓e_negI, ↓e_mulT, ↓e_mulL, ↓e_cmp, ↓e_eq, ↓e_ne, ↓e_isN, ↓e_isB, ↓e_isNotN, ↓e_isNotB, ↓e_ix, ↓e_abs, ↓e_toI, ↓e_toB1, ↓e_toB0, ↓e_lenT, ↓e_lenL, ↓e_lenRo, ↓e_lenR, ↓e_tupT, ↓e_tupL, ↓e_tupR, ↓e_lstT, ↓e_lstL, ↓e_allM, ↓e_in, ↓e_notIn, ↓e_sum, ↓e_max, ↓e_par3, ↓e_pop, ↓e_frz, ↓e_frzR, ↓e_isi, ↓e_slT, ↓e_slL, ↓e_slRo, ↓e_app, ↓e_ext, ↓e_setM, r_it1, r_it2, r_it3, r_it4, r_ls2, r_ls3, r_ml2, r_ml3, r_mg0, r_mgn, r_at0, r_at1, r_at2, r_at3, r_ix0, r_ix1, r_ix2, r_ty1, r_ty2, r_ty3, r_ty4, r_ty5, r_ty6, r_ty7, r_ty8, r_sNt, r_sNi, r_sNb, r_sNs, r_sbt, r_sbi, r_sbb, r_sbs, r_sit, r_sii, r_sib, r_sis, r_sst, r_ssi, r_ssb, r_sss, r_stt, r_sti, r_stb, r_sts, r_slt, r_sli, r_slb, r_sls, r_aN, r_ab, r_ai, r_as, r_at, r_al, r_eqI, r_eqB, r_eqS, r_pu1, r_pu2, r_eqN, r_fr1, r_fx1, r_fx2, r_fx3, r_bo0, r_bo1, r_c0, r_c1, r_c2, r_c3, r_c4, r_c5, r_c6, r_c7, r_c8, r_c9, r_c10, r_c11, r_c12, r_pd0, r_pd1, r_pd2, r_wi0, r_wi1, List.set_cons_zero, List.set_cons_succ, List.getElem?_cons_zero, List.getElem?_cons_succ, ↓reduceIte, List.length_cons, List.length_nil, Nat.zero_add, Nat.reduceAdd, and_true, true_and, decide_true, decide_false, eq_self, beq_self_eq_true, Bool.true_beq, Bool.false_beq, Bool.not_true, Bool.not_false, Int.reduceEq, Int.reduceLT, Int.reduceLE, Int.reduceAdd, Int.reduceSub, Int.reduceMul, Int.reduceNeg, Bool.not_not, List.append_nil, List.nil_append, List.cons_append, z_int, z_bl, z_non, z_tup, z_lst, z_str, z_lint, z_lbl, z_lnon, z_ltup, z_llst, z_lstr, z_whole, e, t1, sum1 (ba.mul b1) (by omega), s1, s2]
    rfl
  · have ba := hr a (by simp)
    have bb := hr b (by simp)
    have e : zipL (List.map qD [a, b]) [.int n, .int m] = [.tup [qD a, .int n], .tup [qD b, .int m]] := rfl
    have t1 := q_times (h := h) ba b1 (by omega)
    rw [qD_int] at t1
    have t2 := q_times (h := h) bb b2 (by omega)
    rw [qD_int] at t2
    simp (config := {dsimp := false}) only [↓e_pr, ↓e_some, ↓e_an, ↓e_brT, ↓e_brF, ↓e_asB, ↓e_asI, ↓e_asV, ↓e_stE, ↓e_stE0, ↓e_stL, ↓e_stL0, ↓e_sqN, ↓e_sqR, ↓e_sqB, ↓e_sqC, ↓e_afN, ↓e_afR, ↓e_afB, ↓e_afC, ↓e_rtN, ↓e_rtR, ↓e_var, ↓e_c, ↓e_op, ↓e_un, ↓e_t, ↓e_nt, ↓e_anT, ↓e_orT, ↓e_and, ↓e_or, ↓e_not, ↓e_ite, ↓e_ch, ↓e_nil, ↓e_cons, ↓e_star, ↓e_tup, ↓e_lst, ↓e_mut, ↓e_call, ↓e_isiT, ↓e_lz, ↓e_meth, ↓e_meth0, ↓e_oN, ↓e_oS, ↓e_sl, ↓e_gVar, ↓e_gSub, ↓e_gTp, ↓e_gN, ↓e_gC, ↓e_next, ↓e_seq, ↓e_drop, ↓e_ret, ↓e_retN, ↓e_brk, ↓e_cnt, ↓e_if, ↓e_asg, ↓e_as2, ↓e_as3, ↓e_par, ↓e_aug, ↓e_augS, ↓e_for, ↓e_f0, ↓e_f1, ↓e_while, ↓e_asS1, ↓e_asS2, ↓e_asS3, ↓e_iSeq, ↓e_enum, ↓e_asTI, ↓e_enumC, ↓e_rng1, ↓e_zip, ↓e_zipX, ↓e_comp, ↓e_c0, ↓e_c1, ↓e_y, ↓e_body, ↓e_addI, ↓e_addT, ↓e_addL, ↓e_subI, ↓e_iadd, ↓e_mulI, ↓e_divI, ↓e_modI, ↓e_powI, ↓e_negI, ↓e_mulT, ↓e_mulL, ↓e_cmp, ↓e_eq, ↓e_ne, ↓e_isN, ↓e_isB, ↓e_isNotN, ↓e_isNotB, ↓e_ix, ↓e_abs, ↓e_toI, ↓e_toB1, ↓e_toB0, ↓e_lenT, ↓e_lenL, ↓e_lenRo, ↓e_lenR, ↓e_tupT, ↓e_tupL, ↓e_tupR, ↓e_lstT, ↓e_lstL, ↓e_allM, ↓e_in, ↓e_notIn, ↓e_sum, ↓e_max, ↓e_par3, ↓e_pop, ↓e_frz, ↓e_frzR, ↓e_isi, ↓e_slT, ↓e_slL, ↓e_slRo, ↓e_app, ↓e_ext, ↓e_setM, r_it1, r_it2, r_it3, r_it4, r_ls2, r_ls3, r_ml2, r_ml3, r_mg0, r_mgn, r_at0, r_at1, r_at2, r_at3, r_ix0, r_ix1, r_ix2, r_ty1, r_ty2, r_ty3, r_ty4, r_ty5, r_ty6, r_ty7, r_ty8, r_sNt, r_sNi, r_sNb, r_sNs, r_sbt, r_sbi, r_sbb, r_sbs, r_sit, r_sii, r_sib, r_sis, r_sst, r_ssi, r_ssb, r_sss, r_stt, r_sti, r_stb, r_sts, r_slt, r_sli, r_slb, r_sls, r_aN, r_ab, r_ai, r_as, r_at, r_al, r_eqI, r_eqB, r_eqS, r_pu1, r_pu2, r_eqN, r_fr1, r_fx1, r_fx2, r_fx3, r_bo0, r_bo1, r_c0, r_c1, r_c2, r_c3, r_c4, r_c5, r_c6, r_c7, r_c8, r_c9, r_c10, r_c11, r_c12, r_pd0, r_pd1, r_pd2, r_wi0, r_wi1, List.set_cons_zero, List.set_cons_succ, List.getElem?_cons_zero, List.getElem?_cons_succ, ↓reduceIte, List.length_cons, List.length_nil, Nat.zero_add, Nat.reduceAdd, and_true, true_and, decide_true, decide_false, eq_self, beq_self_eq_true, Bool.true_beq, Bool.false_beq, Bool.not_true, Bool.not_false, Int.reduceEq, Int.reduceLT, Int.reduceLE, Int.reduceAdd, Int.reduceSub, Int.reduceMul, Int.reduceNeg, Bool.not_not, List.append_nil, List.nil_append, List.cons_append, z_int, z_bl, z_non, z_tup, z_lst, z_str, z_lint, z_lbl, z_lnon, z_ltup, z_llst, z_lstr, z_whole, e, t1, t2, sum2 (ba.mul b1) (bb.mul b2) (by omega), s2]
    rfl

end K19
namespace K19
open Sh ShR Iv PySem PySem.Spec PyProof.Rows L2
def LN : DenS := (sSeq (sAsg (dMeth0 popM (dVar 1)) (gTp 2 (gC (gVar 3) (gC (gVar 4) gN)))) (sIf (dT (dOp eqD (dCall lenF (lCons (dVar 3) lNil)) (dC (D.int 3)))) (sSeq (sDrop (dMeth appendM (dVar 2) (lCons (dTup (lCons (dOp ixD (dVar 3) (dC (D.int 1))) (lCons (dVar 4) lNil))) lNil))) (sDrop (dMeth extendM (dVar 1) (lCons (dLst (lCons (dTup (lCons (dOp ixD (dVar 3) (dC (D.int 2))) (lCons (dOp addD (dVar 4) (dC (D.int 1))) lNil))) (lCons (dTup (lCons (dOp ixD (dVar 3) (dC (D.int 0))) (lCons (dOp addD (dVar 4) (dC (D.int 1))) lNil))) lNil))) lNil)))) sNext))
/-! ### the nodes of a tree -/
section
variable {α : Type} {f : α → D}
abbrev stD (f : α → D) (p : Tr α × Nat) : D := .tup [p.1.toD f, .int p.2]
abbrev itD (f : α → D) (p : α × Nat) : D := .tup [f p.1, .int p.2]
theorem tr_pl (hp : ∀ x, Pl (f x)) : ∀ t : Tr α, Pl (t.toD f)
  | .leaf => trivial
  | .node l x r => ⟨tr_pl hp l, hp x, tr_pl hp r, trivial⟩
theorem tr_dp {c : Nat} (hc : ∀ x, dpD (f x) ≤ c) : ∀ t : Tr α, dpD (t.toD f) ≤ t.size + c + 1
  | .leaf => by show 0 + 1 ≤ 0 + c + 1; omega
  | .node l x r => by
    have h1 := tr_dp hc l
    have h2 := tr_dp hc r
    have h3 := hc x
    show max (dpD (l.toD f)) (max (dpD (f x)) (max (dpD (r.toD f)) 0)) + 1 ≤ l.size + r.size + 1 + c + 1
    omega
def mu : List (Tr α × Nat) → Nat
  | [] => 0
  | p :: st => 2 * p.1.size + 1 + mu st
theorem mu_len : ∀ st : List (Tr α × Nat), st.length ≤ mu st
  | [] => Nat.le_refl _
  | p :: st => by have := mu_len st; rw [List.length_cons, mu]; omega
theorem mg0 (h : Sto) (L F : List D) : mget (h ++ [.lst L, .lst F]) h.length = some L := by unfold mget; rw [List.getElem?_append_right (Nat.le_refl _)]; simp
theorem mg1 (h : Sto) (L F : List D) : mget (h ++ [.lst L, .lst F]) (h.length + 1) = some F := by
  unfold mget; rw [List.getElem?_append_right (by omega)]; simp
theorem st0 (h : Sto) (L F : MO) (o : MO) : (h ++ [L, F]).set h.length o = h ++ [o, F] := by rw [List.set_append_right _ _ (Nat.le_refl _)]; simp
theorem st1 (h : Sto) (L F : MO) (o : MO) : (h ++ [L, F]).set (h.length + 1) o = h ++ [L, o] := by rw [List.set_append_right _ _ (by omega)]; simp
theorem eqRE {h : Sto} {n : Nat} {ds : List D} (e : mget h n = some ds) (z : PlL ds) (hd : dpL ds ≤ 60) : eqB h (.ref n) (.lst []) = some ds.isEmpty := by
  obtain ⟨ps, a1, a2, a3⟩ := pl_plainL ds z
  have e0 : toPh h (.ref n) = some (.list ps) := by
    unfold mget at e
    split at e
    · rename_i q
      cases e
      show (match h[n]? with | some (MO.lst ds) => (toPs ds).map PyData.list | _ => none) = _
      rw [q]
      show (toPs ds).map PyData.list = _
      rw [a1]; rfl
    · cases e
  unfold eqB
  rw [e0]
  show (if (PyData.list ps).plain = true ∧ _ ∧ (PyData.list ps).depth ≤ 64 then some (PyData.eqv (.list ps) (.list [])) else none) = _
  rw [if_pos ⟨a2, rfl, by show PyData.depthAll ps + 1 ≤ 64; omega⟩]
  cases ds with
  | nil => cases a1; simp [PyData.eqv, PyData.eqvAll]
  | cons d ds =>
    cases ps with
    | nil =>
      exfalso
      unfold toPs at a1
      obtain ⟨p, _, a1⟩ := Option.bind_eq_some_iff.mp a1
      obtain ⟨_, _, a1⟩ := Option.map_eq_some_iff.mp a1
      cases a1
    | cons p ps => simp [PyData.eqv, PyData.eqvAll]
theorem last_snoc {xs : List D} {x : D} : (xs ++ [x])[(xs ++ [x]).length - 1]? = some x := by
  rw [List.length_append]; simp
theorem nodes_loop {h : Sto} {t0 : Option D} {c S : Nat} (hp : ∀ x, Pl (f x)) (hc : ∀ x, dpD (f x) ≤ c) (hS : S + c ≤ 50) : ∀ (n : Nat) (st : List (Tr α × Nat)) (fs : List (α × Nat)) (o3 o4 : Option D), mu st < n → mu st + fs.length ≤ 1000 → (∀ p ∈ st, p.1.size ≤ S) →
    EvS (loopW (dT (dOp neD (dVar 1) (dLst lNil))) LN n [t0, some (.ref h.length), some (.ref (h.length + 1)), o3, o4] (h ++ [.lst (st.reverse.map (stD f)), .lst (fs.map (itD f))]))
      fun fl ρ h' => fl = .nx ∧ (∃ o3 o4, ρ = [t0, some (.ref h.length), some (.ref (h.length + 1)), o3, o4]) ∧ h' = h ++ [.lst [], .lst ((fs ++ st.flatMap fun p => p.1.pre p.2).map (itD f))] := by
  intro n
  induction n with
  | zero => intro st fs o3 o4 z; omega
  | succ n ih =>
    intro st fs o3 o4 z1 z2 z3
    rw [w1]
    have e0 := mg0 h (st.reverse.map (stD f)) (fs.map (itD f))
    have ee := eqRE e0 (plL_map _ fun p _ => ⟨tr_pl hp p.1, trivial, trivial⟩) (dpL_map (c := 60) _ fun p hm => by
      have h1 := tr_dp hc p.1
      have h2 := z3 p (List.mem_reverse.mp hm)
      show max (dpD (p.1.toD f)) (max 0 0) + 1 ≤ 60
      omega)
    cases st with
    | nil =>
      rw [show ((List.map (stD f) ([] : List (Tr α × Nat)).reverse).isEmpty) = true from rfl] at ee
      simp (config := {dsimp := false}) only [↓e_pr, ↓e_some, ↓e_an, ↓e_brT, ↓e_brF, ↓e_asB, ↓e_asI, ↓e_asV, ↓e_stE, ↓e_stE0, ↓e_stL, ↓e_stL0, ↓e_sqN, ↓e_sqR, ↓e_sqB, ↓e_sqC, ↓e_afN, ↓e_afR, ↓e_afB, ↓e_afC, ↓e_rtN, ↓e_rtR, ↓e_var, ↓e_c, ↓e_op, ↓e_un, ↓e_t, ↓e_nt, ↓e_anT, ↓e_orT, ↓e_and, ↓e_or, ↓e_not, ↓e_ite, ↓e_ch, ↓e_nil, ↓e_cons, ↓e_star, ↓e_tup, ↓e_lst, ↓e_mut, ↓e_call, ↓e_isiT, ↓e_lz, ↓e_meth, ↓e_meth0, ↓e_oN, ↓e_oS, ↓e_sl, ↓e_gVar, ↓e_gSub, ↓e_gTp, ↓e_gN, ↓e_gC, ↓e_next, ↓e_seq, ↓e_drop, ↓e_ret, ↓e_retN, ↓e_brk, ↓e_cnt, ↓e_if, ↓e_asg, ↓e_as2, ↓e_as3, ↓e_par, ↓e_aug, ↓e_augS, ↓e_for, ↓e_f0, ↓e_f1, ↓e_while, ↓e_asS1, ↓e_asS2, ↓e_asS3, ↓e_iSeq, ↓e_enum, ↓e_asTI, ↓e_enumC, ↓e_rng1, ↓e_zip, ↓e_zipX, ↓e_comp, ↓e_c0, ↓e_c1, ↓e_y, ↓e_body, ↓e_addI, ↓e_addT, ↓e_addL, ↓e_subI, ↓e_iadd, ↓e_mulI, ↓e_divI, ↓e_modI, ↓e_powI, ↓e_negI, ↓e_mulT, ↓e_mulL, ↓e_cmp, ↓e_eq, ↓e_ne, ↓e_isN, ↓e_isB, ↓e_isNotN, ↓e_isNotB, ↓e_ix, ↓e_abs, ↓e_toI, ↓e_toB1, ↓e_toB0, ↓e_lenT, ↓e_lenL, ↓e_lenRo, ↓e_lenR, ↓e_tupT, ↓e_tupL, ↓e_tupR, ↓e_lstT, ↓e_lstL, ↓e_allM, ↓e_in, ↓e_notIn, ↓e_sum, ↓e_max, ↓e_par3, ↓e_pop, ↓e_frz, ↓e_frzR, ↓e_isi, ↓e_slT, ↓e_slL, ↓e_slRo, ↓e_app, ↓e_ext, ↓e_setM, r_it1, r_it2, r_it3, r_it4, r_ls2, r_ls3, r_ml2, r_ml3, r_mg0, r_mgn, r_at0, r_at1, r_at2, r_at3, r_ix0, r_ix1, r_ix2, r_ty1, r_ty2, r_ty3, r_ty4, r_ty5, r_ty6, r_ty7, r_ty8, r_sNt, r_sNi, r_sNb, r_sNs, r_sbt, r_sbi, r_sbb, r_sbs, r_sit, r_sii, r_sib, r_sis, r_sst, r_ssi, r_ssb, r_sss, r_stt, r_sti, r_stb, r_sts, r_slt, r_sli, r_slb, r_sls, r_aN, r_ab, r_ai, r_as, r_at, r_al, r_eqI, r_eqB, r_eqS, r_pu1, r_pu2, r_eqN, r_fr1, r_fx1, r_fx2, r_fx3, r_bo0, r_bo1, r_c0, r_c1, r_c2, r_c3, r_c4, r_c5, r_c6, r_c7, r_c8, r_c9, r_c10, r_c11, r_c12, r_pd0, r_pd1, r_pd2, r_wi0, r_wi1, List.set_cons_zero, List.set_cons_succ, List.getElem?_cons_zero, List.getElem?_cons_succ, ↓reduceIte, List.length_cons, List.length_nil, Nat.zero_add, Nat.reduceAdd, and_true, true_and, decide_true, decide_false, eq_self, beq_self_eq_true, Bool.true_beq, Bool.false_beq, Bool.not_true, Bool.not_false, Int.reduceEq, Int.reduceLT, Int.reduceLE, Int.reduceAdd, Int.reduceSub, Int.reduceMul, Int.reduceNeg, Bool.not_not, List.append_nil, List.nil_append, List.cons_append, z_int, z_bl, z_non, z_tup, z_lst, z_str, z_lint, z_lbl, z_lnon, z_ltup, z_llst, z_lstr, z_whole, ee, s0]
      exact ⟨⟨o3, o4, rfl⟩, by simp⟩
    | cons p st =>
      obtain ⟨t, d⟩ := p
      rw [List.reverse_cons, List.map_append] at e0 ee ⊢
      have e1 : (List.map (stD f) st.reverse ++ List.map (stD f) [(t, d)]) = List.map (stD f) st.reverse ++ [stD f (t, d)] := rfl
      rw [e1] at e0 ee ⊢
      have e2 : (List.map (stD f) st.reverse ++ [stD f (t, d)]).isEmpty = false := by simp
      rw [e2] at ee
      have e3 := mg0 h (st.reverse.map (stD f)) (fs.map (itD f))
      have e4 := mg1 h (st.reverse.map (stD f)) (fs.map (itD f))
      rw [mu] at z1 z2
      have hl := mu_len st
      unfold LN
      cases t with
      | leaf =>
        have := ih st fs (some (.tup [])) (some (.int d)) (by omega) (by omega) fun p hp => z3 p (List.mem_cons_of_mem _ hp)
        simp (config := {dsimp := false}) only [↓e_pr, ↓e_some, ↓e_an, ↓e_brT, ↓e_brF, ↓e_asB, ↓e_asI, ↓e_asV, ↓e_stE, ↓e_stE0, ↓e_stL, ↓e_stL0, ↓e_sqN, ↓e_sqR, ↓e_sqB, ↓e_sqC, ↓e_afN, ↓e_afR, ↓e_afB, ↓e_afC, ↓e_rtN, ↓e_rtR, ↓e_var, ↓e_c, ↓e_op, ↓e_un, ↓e_t, ↓e_nt, ↓e_anT, ↓e_orT, ↓e_and, ↓e_or, ↓e_not, ↓e_ite, ↓e_ch, ↓e_nil, ↓e_cons, ↓e_star, ↓e_tup, ↓e_lst, ↓e_mut, ↓e_call, ↓e_isiT, ↓e_lz, ↓e_meth, ↓e_meth0, ↓e_oN, ↓e_oS, ↓e_sl, ↓e_gVar, ↓e_gSub, ↓e_gTp, ↓e_gN, ↓e_gC, ↓e_next, ↓e_seq, ↓e_drop, ↓e_ret, ↓e_retN, ↓e_brk, ↓e_cnt, ↓e_if, ↓e_asg, ↓e_as2, ↓e_as3, ↓e_par, ↓e_aug, ↓e_augS, ↓e_for, ↓e_f0, ↓e_f1, ↓e_while, ↓e_asS1, ↓e_asS2, ↓e_asS3, ↓e_iSeq, ↓e_enum, ↓e_asTI, ↓e_enumC, ↓e_rng1, ↓e_zip, ↓e_zipX, ↓e_comp, ↓e_c0, ↓e_c1, ↓e_y, ↓e_body, ↓e_addI, ↓e_addT, ↓e_addL, ↓e_subI, ↓e_iadd, ↓e_mulI, ↓e_divI, ↓e_modI, ↓e_powI, ↓e_negI, ↓e_mulT, ↓e_mulL, ↓e_cmp, ↓e_eq, ↓e_ne, ↓e_isN, ↓e_isB, ↓e_isNotN, ↓e_isNotB, ↓e_ix, ↓e_abs, ↓e_toI, ↓e_toB1, ↓e_toB0, ↓e_lenT, ↓e_lenL, ↓e_lenRo, ↓e_lenR, ↓e_tupT, ↓e_tupL, ↓e_tupR, ↓e_lstT, ↓e_lstL, ↓e_allM, ↓e_in, ↓e_notIn, ↓e_sum, ↓e_max, ↓e_par3, ↓e_pop, ↓e_frz, ↓e_frzR, ↓e_isi, ↓e_slT, ↓e_slL, ↓e_slRo, ↓e_app, ↓e_ext, ↓e_setM, r_it1, r_it2, r_it3, r_it4, r_ls2, r_ls3, r_ml2, r_ml3, r_mg0, r_mgn, r_at0, r_at1, r_at2, r_at3, r_ix0, r_ix1, r_ix2, r_ty1, r_ty2, r_ty3, r_ty4, r_ty5, r_ty6, r_ty7, r_ty8, r_sNt, r_sNi, r_sNb, r_sNs, r_sbt, r_sbi, r_sbb, r_sbs, r_sit, r_sii, r_sib, r_sis, r_sst, r_ssi, r_ssb, r_sss, r_stt, r_sti, r_stb, r_sts, r_slt, r_sli, r_slb, r_sls, r_aN, r_ab, r_ai, r_as, r_at, r_al, r_eqI, r_eqB, r_eqS, r_pu1, r_pu2, r_eqN, r_fr1, r_fx1, r_fx2, r_fx3, r_bo0, r_bo1, r_c0, r_c1, r_c2, r_c3, r_c4, r_c5, r_c6, r_c7, r_c8, r_c9, r_c10, r_c11, r_c12, r_pd0, r_pd1, r_pd2, r_wi0, r_wi1, List.set_cons_zero, List.set_cons_succ, List.getElem?_cons_zero, List.getElem?_cons_succ, ↓reduceIte, List.length_cons, List.length_nil, Nat.zero_add, Nat.reduceAdd, and_true, true_and, decide_true, decide_false, eq_self, beq_self_eq_true, Bool.true_beq, Bool.false_beq, Bool.not_true, Bool.not_false, Int.reduceEq, Int.reduceLT, Int.reduceLE, Int.reduceAdd, Int.reduceSub, Int.reduceMul, Int.reduceNeg, Bool.not_not, List.append_nil, List.nil_append, List.cons_append, z_int, z_bl, z_non, z_tup, z_lst, z_str, z_lint, z_lbl, z_lnon, z_ltup, z_llst, z_lstr, z_whole, ee, s0, e0, last_snoc, List.dropLast_concat, st0, Tr.toD]
        refine ⟨rfl, ?_⟩
        exact this
      | node l x r =>
        have hs : l.size + r.size + 1 ≤ S := z3 _ List.mem_cons_self
        have z1 : 2 * (l.size + r.size + 1) + 1 + mu st < n + 1 := z1
        have z2 : 2 * (l.size + r.size + 1) + 1 + mu st + fs.length ≤ 1000 := z2
        have := ih ((l, d + 1) :: (r, d + 1) :: st) (fs ++ [(x, d)]) (some (.tup [l.toD f, f x, r.toD f])) (some (.int d)) (by rw [mu, mu]; show 2 * l.size + 1 + (2 * r.size + 1 + mu st) < n; omega) (by rw [mu, mu, List.length_append]; show 2 * l.size + 1 + (2 * r.size + 1 + mu st) + (fs.length + 1) ≤ 1000; omega) (by
          intro p hp
          rcases List.mem_cons.mp hp with rfl | hp
          · show l.size ≤ S; omega
          · rcases List.mem_cons.mp hp with rfl | hp
            · show r.size ≤ S; omega
            · exact z3 p (List.mem_cons_of_mem _ hp))
        have e5 := mg0 h (st.reverse.map (stD f)) (fs.map (itD f) ++ [itD f (x, d)])
        simp (config := {dsimp := false}) only [↓e_pr, ↓e_some, ↓e_an, ↓e_brT, ↓e_brF, ↓e_asB, ↓e_asI, ↓e_asV, ↓e_stE, ↓e_stE0, ↓e_stL, ↓e_stL0, ↓e_sqN, ↓e_sqR, ↓e_sqB, ↓e_sqC, ↓e_afN, ↓e_afR, ↓e_afB, ↓e_afC, ↓e_rtN, ↓e_rtR, ↓e_var, ↓e_c, ↓e_op, ↓e_un, ↓e_t, ↓e_nt, ↓e_anT, ↓e_orT, ↓e_and, ↓e_or, ↓e_not, ↓e_ite, ↓e_ch, ↓e_nil, ↓e_cons, ↓e_star, ↓e_tup, ↓e_lst, ↓e_mut, ↓e_call, ↓e_isiT, ↓e_lz, ↓e_meth, ↓e_meth0, ↓e_oN, ↓e_oS, ↓e_sl, ↓e_gVar, ↓e_gSub, ↓e_gTp, ↓e_gN, ↓e_gC, ↓e_next, ↓e_seq, ↓e_drop, ↓e_ret, ↓e_retN, ↓e_brk, ↓e_cnt, ↓e_if, ↓e_asg, ↓e_as2, ↓e_as3, ↓e_par, ↓e_aug, ↓e_augS, ↓e_for, ↓e_f0, ↓e_f1, ↓e_while, ↓e_asS1, ↓e_asS2, ↓e_asS3, ↓e_iSeq, ↓e_enum, ↓e_asTI, ↓e_enumC, ↓e_rng1, ↓e_zip, ↓e_zipX, ↓e_comp, ↓e_c0, ↓e_c1, ↓e_y, ↓e_body, ↓e_addI, ↓e_addT, ↓e_addL, ↓e_subI, ↓e_iadd, ↓e_mulI, ↓e_divI, ↓e_modI, ↓e_powI, ↓e_negI, ↓e_mulT, ↓e_mulL, ↓e_cmp, ↓e_eq, ↓e_ne, ↓e_isN, ↓e_isB, ↓e_isNotN, ↓e_isNotB, ↓e_ix, ↓e_abs, ↓e_toI, ↓e_toB1, ↓e_toB0, ↓e_lenT, ↓e_lenL, ↓e_lenRo, ↓e_lenR, ↓e_tupT, ↓e_tupL, ↓e_tupR, ↓e_lstT, ↓e_lstL, ↓e_allM, ↓e_in, ↓e_notIn, ↓e_sum, ↓e_max, ↓e_par3, ↓e_pop, ↓e_frz, ↓e_frzR, ↓e_isi, ↓e_slT, ↓e_slL, ↓e_slRo, ↓e_app, ↓e_ext, ↓e_setM, r_it1, r_it2, r_it3, r_it4, r_ls2, r_ls3, r_ml2, r_ml3, r_mg0, r_mgn, r_at0, r_at1, r_at2, r_at3, r_ix0, r_ix1, r_ix2, r_ty1, r_ty2, r_ty3, r_ty4, r_ty5, r_ty6, r_ty7, r_ty8, r_sNt, r_sNi, r_sNb, r_sNs, r_sbt, r_sbi, r_sbb, r_sbs, r_sit, r_sii, r_sib, r_sis, r_sst, r_ssi, r_ssb, r_sss, r_stt, r_sti, r_stb, r_sts, r_slt, r_sli, r_slb, r_sls, r_aN, r_ab, r_ai, r_as, r_at, r_al, r_eqI, r_eqB, r_eqS, r_pu1, r_pu2, r_eqN, r_fr1, r_fx1, r_fx2, r_fx3, r_bo0, r_bo1, r_c0, r_c1, r_c2, r_c3, r_c4, r_c5, r_c6, r_c7, r_c8, r_c9, r_c10, r_c11, r_c12, r_pd0, r_pd1, r_pd2, r_wi0, r_wi1, List.set_cons_zero, List.set_cons_succ, List.getElem?_cons_zero, List.getElem?_cons_succ, ↓reduceIte, List.length_cons, List.length_nil, Nat.zero_add, Nat.reduceAdd, and_true, true_and, decide_true, decide_false, eq_self, beq_self_eq_true, Bool.true_beq, Bool.false_beq, Bool.not_true, Bool.not_false, Int.reduceEq, Int.reduceLT, Int.reduceLE, Int.reduceAdd, Int.reduceSub, Int.reduceMul, Int.reduceNeg, Bool.not_not, List.append_nil, List.nil_append, List.cons_append, z_int, z_bl, z_non, z_tup, z_lst, z_str, z_lint, z_lbl, z_lnon, z_ltup, z_llst, z_lstr, z_whole, ee, s0, s2, e0, last_snoc, List.dropLast_concat, st0, st1, Tr.toD, e3, e4, e5]
        have E1 : List.map (stD f) ((l, d + 1) :: (r, d + 1) :: st).reverse = List.map (stD f) st.reverse ++ [.tup [r.toD f, .int ((d : Int) + 1)], .tup [l.toD f, .int ((d : Int) + 1)]] := by
          rw [List.reverse_cons, List.reverse_cons, List.map_append, List.map_append, List.append_assoc]; rfl
        have E2 : List.map (itD f) (fs ++ [(x, d)]) = List.map (itD f) fs ++ [itD f (x, d)] := by rw [List.map_append]; rfl
        have E3 : fs ++ [(x, d)] ++ List.flatMap (fun p => p.fst.pre p.snd) ((l, d + 1) :: (r, d + 1) :: st) = fs ++ List.flatMap (fun p => p.fst.pre p.snd) ((Tr.node l x r, d) :: st) := by
          rw [List.flatMap_cons, List.flatMap_cons, List.flatMap_cons, List.append_assoc]
          show fs ++ ((x, d) :: (l.pre (d + 1) ++ (r.pre (d + 1) ++ _))) = fs ++ ((x, d) :: (l.pre (d + 1) ++ r.pre (d + 1)) ++ _)
          rw [List.cons_append, List.append_assoc]
        rw [E1, E2, E3] at this
        refine ⟨rfl, rfl, Nat.lt_of_lt_of_le (m := 1001) (by rw [List.length_map]; omega) (by decide), rfl, Nat.le_trans (m := 1002) (by rw [List.length_map, List.length_reverse]; omega) (by decide), ?_⟩
        exact this
theorem sp_nodes {t : Tr α} {h : Sto} {c : Nat} (hp : ∀ x, Pl (f x)) (hc : ∀ x, dpD (f x) ≤ c) (hS : t.size + c ≤ 50) : Ev (d_nodes_of [t.toD f] h) fun d h' => d = .lst ((t.pre 0).map (itD f)) ∧ ∃ e, h' = h ++ e := by
  unfold d_nodes_of b_nodes_of
  simp (config := {dsimp := false}) only [↓e_pr, ↓e_some, ↓e_an, ↓e_brT, ↓e_brF, ↓e_asB, ↓e_asI, ↓e_asV, ↓e_stE, ↓e_stE0, ↓e_stL, ↓e_stL0, ↓e_sqN, ↓e_sqR, ↓e_sqB, ↓e_sqC, ↓e_afN, ↓e_afR, ↓e_afB, ↓e_afC, ↓e_rtN, ↓e_rtR, ↓e_var, ↓e_c, ↓e_op, ↓e_un, ↓e_t, ↓e_nt, ↓e_anT, ↓e_orT, ↓e_and, ↓e_or, ↓e_not, ↓e_ite, ↓e_ch, ↓e_nil, ↓e_cons, ↓e_star, ↓e_tup, ↓e_lst, ↓e_mut, ↓e_call, ↓e_isiT, ↓e_lz, ↓e_meth, ↓e_meth0, ↓e_oN, ↓e_oS, ↓e_sl, ↓e_gVar, ↓e_gSub, ↓e_gTp, ↓e_gN, ↓e_gC, ↓e_next, ↓e_seq, ↓e_drop, ↓e_ret, ↓e_retN, ↓e_brk, ↓e_cnt, ↓e_if, ↓e_asg, ↓e_as2, ↓e_as3, ↓e_par, ↓e_aug, ↓e_augS, ↓e_for, ↓e_f0, ↓e_f1, ↓e_while, ↓e_asS1, ↓e_asS2, ↓e_asS3, ↓e_iSeq, ↓e_enum, ↓e_asTI, ↓e_enumC, ↓e_rng1, ↓e_zip, ↓e_zipX, ↓e_comp, ↓e_c0, ↓e_c1, ↓e_y, ↓e_body, ↓e_addI, ↓e_addT, ↓e_addL, ↓e_subI, ↓e_iadd, ↓e_mulI, ↓e_divI, ↓e_modI, ↓e_powI, ↓e_negI, ↓e_mulT, ↓e_mulL, ↓e_cmp, ↓e_eq, ↓e_ne, ↓e_isN, ↓e_isB, ↓e_isNotN, ↓e_isNotB, ↓e_ix, ↓e_abs, ↓e_toI, ↓e_toB1, ↓e_toB0, ↓e_lenT, ↓e_lenL, ↓e_lenRo, ↓e_lenR, ↓e_tupT, ↓e_tupL, ↓e_tupR, ↓e_lstT, ↓e_lstL, ↓e_allM, ↓e_in, ↓e_notIn, ↓e_sum, ↓e_max, ↓e_par3, ↓e_pop, ↓e_frz, ↓e_frzR, ↓e_isi, ↓e_slT, ↓e_slL, ↓e_slRo, ↓e_app, ↓e_ext, ↓e_setM, r_it1, r_it2, r_it3, r_it4, r_ls2, r_ls3, r_ml2, r_ml3, r_mg0, r_mgn, r_at0, r_at1, r_at2, r_at3, r_ix0, r_ix1, r_ix2, r_ty1, r_ty2, r_ty3, r_ty4, r_ty5, r_ty6, r_ty7, r_ty8, r_sNt, r_sNi, r_sNb, r_sNs, r_sbt, r_sbi, r_sbb, r_sbs, r_sit, r_sii, r_sib, r_sis, r_sst, r_ssi, r_ssb, r_sss, r_stt, r_sti, r_stb, r_sts, r_slt, r_sli, r_slb, r_sls, r_aN, r_ab, r_ai, r_as, r_at, r_al, r_eqI, r_eqB, r_eqS, r_pu1, r_pu2, r_eqN, r_fr1, r_fx1, r_fx2, r_fx3, r_bo0, r_bo1, r_c0, r_c1, r_c2, r_c3, r_c4, r_c5, r_c6, r_c7, r_c8, r_c9, r_c10, r_c11, r_c12, r_pd0, r_pd1, r_pd2, r_wi0, r_wi1, List.set_cons_zero, List.set_cons_succ, List.getElem?_cons_zero, List.getElem?_cons_succ, ↓reduceIte, List.length_cons, List.length_nil, Nat.zero_add, Nat.reduceAdd, and_true, true_and, decide_true, decide_false, eq_self, beq_self_eq_true, Bool.true_beq, Bool.false_beq, Bool.not_true, Bool.not_false, Int.reduceEq, Int.reduceLT, Int.reduceLE, Int.reduceAdd, Int.reduceSub, Int.reduceMul, Int.reduceNeg, Bool.not_not, List.append_nil, List.nil_append, List.cons_append, z_int, z_bl, z_non, z_tup, z_lst, z_str, z_lint, z_lbl, z_lnon, z_ltup, z_llst, z_lstr, z_whole, s2, s1, s0]
  have e : (h ++ [MO.lst [D.tup [Tr.toD f t, D.int 0]]]).length = h.length + 1 := by rw [List.length_append]; rfl
  rw [e, List.append_assoc]
  have l := nodes_loop (h := h) (t0 := some (t.toD f)) hp hc hS fuel [(t, 0)] [] none none (by
    show 2 * t.size + 1 + 0 < fuel
    exact Nat.lt_of_lt_of_le (m := 2 ^ 10) (by omega) (Nat.pow_le_pow_right (by decide) (by decide))) (by show 2 * t.size + 1 + 0 + 0 ≤ 1000; omega) (by intro p hp; rw [List.mem_singleton] at hp; subst hp; exact Nat.le_refl _)
  unfold LN at l
  refine l.mono ?_
  rintro fl ρ h' ⟨rfl, ⟨o3, o4, rfl⟩, rfl⟩
  have e0 : (([] : List (α × Nat)) ++ [(t, 0)].flatMap fun p : Tr α × Nat => p.1.pre p.2) = t.pre 0 := by rw [List.nil_append, List.flatMap_cons, List.flatMap_nil, List.append_nil]
  rw [e0]
  have e1 := mg1 h [] ((t.pre 0).map (itD f))
  simp (config := {dsimp := false}) only [↓e_pr, ↓e_some, ↓e_an, ↓e_brT, ↓e_brF, ↓e_asB, ↓e_asI, ↓e_asV, ↓e_stE, ↓e_stE0, ↓e_stL, ↓e_stL0, ↓e_sqN, ↓e_sqR, ↓e_sqB, ↓e_sqC, ↓e_afN, ↓e_afR, ↓e_afB, ↓e_afC, ↓e_rtN, ↓e_rtR, ↓e_var, ↓e_c, ↓e_op, ↓e_un, ↓e_t, ↓e_nt, ↓e_anT, ↓e_orT, ↓e_and, ↓e_or, ↓e_not, ↓e_ite, ↓e_ch, ↓e_nil, ↓e_cons, ↓e_star, ↓e_tup, ↓e_lst, ↓e_mut, ↓e_call, ↓e_isiT, ↓e_lz, ↓e_meth, ↓e_meth0, ↓e_oN, ↓e_oS, ↓e_sl, ↓e_gVar, ↓e_gSub, ↓e_gTp, ↓e_gN, ↓e_gC, ↓e_next, ↓e_seq, ↓e_drop, ↓e_ret, ↓e_retN, ↓e_brk, ↓e_cnt, ↓e_if, ↓e_asg, ↓e_as2, ↓e_as3, ↓e_par, ↓e_aug, ↓e_augS, ↓e_for, ↓e_f0, ↓e_f1, ↓e_while, ↓e_asS1, ↓e_asS2, ↓e_asS3, ↓e_iSeq, ↓e_enum, ↓e_asTI, ↓e_enumC, ↓e_rng1, ↓e_zip, ↓e_zipX, ↓e_comp, ↓e_c0, ↓e_c1, ↓e_y, ↓e_body, ↓e_addI, ↓e_addT, ↓e_addL, ↓e_subI, ↓e_iadd, ↓e_mulI, ↓e_divI, ↓e_modI, ↓e_powI, ↓e_negI, ↓e_mulT, ↓e_mulL, ↓e_cmp, ↓e_eq, ↓e_ne, ↓e_isN, ↓e_isB, ↓e_isNotN, ↓e_isNotB, ↓e_ix, ↓e_abs, ↓e_toI, ↓e_toB1, ↓e_toB0, ↓e_lenT, ↓e_lenL, ↓e_lenRo, ↓e_lenR, ↓e_tupT, ↓e_tupL, ↓e_tupR, ↓e_lstT, ↓e_lstL, ↓e_allM, ↓e_in, ↓e_notIn, ↓e_sum, ↓e_max, ↓e_par3, ↓e_pop, ↓e_frz, ↓e_frzR, ↓e_isi, ↓e_slT, ↓e_slL, ↓e_slRo, ↓e_app, ↓e_ext, ↓e_setM, r_it1, r_it2, r_it3, r_it4, r_ls2, r_ls3, r_ml2, r_ml3, r_mg0, r_mgn, r_at0, r_at1, r_at2, r_at3, r_ix0, r_ix1, r_ix2, r_ty1, r_ty2, r_ty3, r_ty4, r_ty5, r_ty6, r_ty7, r_ty8, r_sNt, r_sNi, r_sNb, r_sNs, r_sbt, r_sbi, r_sbb, r_sbs, r_sit, r_sii, r_sib, r_sis, r_sst, r_ssi, r_ssb, r_sss, r_stt, r_sti, r_stb, r_sts, r_slt, r_sli, r_slb, r_sls, r_aN, r_ab, r_ai, r_as, r_at, r_al, r_eqI, r_eqB, r_eqS, r_pu1, r_pu2, r_eqN, r_fr1, r_fx1, r_fx2, r_fx3, r_bo0, r_bo1, r_c0, r_c1, r_c2, r_c3, r_c4, r_c5, r_c6, r_c7, r_c8, r_c9, r_c10, r_c11, r_c12, r_pd0, r_pd1, r_pd2, r_wi0, r_wi1, List.set_cons_zero, List.set_cons_succ, List.getElem?_cons_zero, List.getElem?_cons_succ, ↓reduceIte, List.length_cons, List.length_nil, Nat.zero_add, Nat.reduceAdd, and_true, true_and, decide_true, decide_false, eq_self, beq_self_eq_true, Bool.true_beq, Bool.false_beq, Bool.not_true, Bool.not_false, Int.reduceEq, Int.reduceLT, Int.reduceLE, Int.reduceAdd, Int.reduceSub, Int.reduceMul, Int.reduceNeg, Bool.not_not, List.append_nil, List.nil_append, List.cons_append, z_int, z_bl, z_non, z_tup, z_lst, z_str, z_lint, z_lbl, z_lnon, z_ltup, z_llst, z_lstr, z_whole, e1, st1]
  exact ⟨_, rfl⟩
end

end K19
namespace K19
open Sh ShR Iv PySem PySem.Spec PyProof.Rows L2
/-! ### potentials -/
theorem law_nodes {α : Type} {f : α → D} {c : Nat} {h : Sto} (hp : ∀ x, Pl (f x)) (hc : ∀ x, dpD (f x) ≤ c) : ∀ (t : Tr α) (r d : Nat), t.size < r → t.size + c ≤ 50 → recF 2 b_law_nodes r [t.toD f, .int d] h = some (.lst ((t.ino d).map (itD f)), h)
  | .leaf, r + 1, d, _, _ => by
    refine Ev_eq (rec_iff.mpr ?_)
    unfold b_law_nodes
    have e := eqTE (h := h) (ds := []) trivial (Nat.zero_le _)
    simp (config := {dsimp := false}) only [↓e_pr, ↓e_some, ↓e_an, ↓e_brT, ↓e_brF, ↓e_asB, ↓e_asI, ↓e_asV, ↓e_stE, ↓e_stE0, ↓e_stL, ↓e_stL0, ↓e_sqN, ↓e_sqR, ↓e_sqB, ↓e_sqC, ↓e_afN, ↓e_afR, ↓e_afB, ↓e_afC, ↓e_rtN, ↓e_rtR, ↓e_var, ↓e_c, ↓e_op, ↓e_un, ↓e_t, ↓e_nt, ↓e_anT, ↓e_orT, ↓e_and, ↓e_or, ↓e_not, ↓e_ite, ↓e_ch, ↓e_nil, ↓e_cons, ↓e_star, ↓e_tup, ↓e_lst, ↓e_mut, ↓e_call, ↓e_isiT, ↓e_lz, ↓e_meth, ↓e_meth0, ↓e_oN, ↓e_oS, ↓e_sl, ↓e_gVar, ↓e_gSub, ↓e_gTp, ↓e_gN, ↓e_gC, ↓e_next, ↓e_seq, ↓e_drop, ↓e_ret, ↓e_retN, ↓e_brk, ↓e_cnt, ↓e_if, ↓e_asg, ↓e_as2, ↓e_as3, ↓e_par, ↓e_aug, ↓e_augS, ↓e_for, ↓e_f0, ↓e_f1, ↓e_while, ↓e_asS1, ↓e_asS2, ↓e_asS3, ↓e_iSeq, ↓e_enum, ↓e_asTI, ↓e_enumC, ↓e_rng1, ↓e_zip, ↓e_zipX, ↓e_comp, ↓e_c0, ↓e_c1, ↓e_y, ↓e_body, ↓e_addI, ↓e_addT, ↓e_addL, ↓e_subI, ↓e_iadd, ↓e_mulI, ↓e_divI, ↓e_modI, ↓e_powI, ↓e_negI, ↓e_mulT, ↓e_mulL, ↓e_cmp, ↓e_eq, ↓e_ne, ↓e_isN, ↓e_isB, ↓e_isNotN, ↓e_isNotB, ↓e_ix, ↓e_abs, ↓e_toI, ↓e_toB1, ↓e_toB0, ↓e_lenT, ↓e_lenL, ↓e_lenRo, ↓e_lenR, ↓e_tupT, ↓e_tupL, ↓e_tupR, ↓e_lstT, ↓e_lstL, ↓e_allM, ↓e_in, ↓e_notIn, ↓e_sum, ↓e_max, ↓e_par3, ↓e_pop, ↓e_frz, ↓e_frzR, ↓e_isi, ↓e_slT, ↓e_slL, ↓e_slRo, ↓e_app, ↓e_ext, ↓e_setM, r_it1, r_it2, r_it3, r_it4, r_ls2, r_ls3, r_ml2, r_ml3, r_mg0, r_mgn, r_at0, r_at1, r_at2, r_at3, r_ix0, r_ix1, r_ix2, r_ty1, r_ty2, r_ty3, r_ty4, r_ty5, r_ty6, r_ty7, r_ty8, r_sNt, r_sNi, r_sNb, r_sNs, r_sbt, r_sbi, r_sbb, r_sbs, r_sit, r_sii, r_sib, r_sis, r_sst, r_ssi, r_ssb, r_sss, r_stt, r_sti, r_stb, r_sts, r_slt, r_sli, r_slb, r_sls, r_aN, r_ab, r_ai, r_as, r_at, r_al, r_eqI, r_eqB, r_eqS, r_pu1, r_pu2, r_eqN, r_fr1, r_fx1, r_fx2, r_fx3, r_bo0, r_bo1, r_c0, r_c1, r_c2, r_c3, r_c4, r_c5, r_c6, r_c7, r_c8, r_c9, r_c10, r_c11, r_c12, r_pd0, r_pd1, r_pd2, r_wi0, r_wi1, List.set_cons_zero, List.set_cons_succ, List.getElem?_cons_zero, List.getElem?_cons_succ, ↓reduceIte, List.length_cons, List.length_nil, Nat.zero_add, Nat.reduceAdd, and_true, true_and, decide_true, decide_false, eq_self, beq_self_eq_true, Bool.true_beq, Bool.false_beq, Bool.not_true, Bool.not_false, Int.reduceEq, Int.reduceLT, Int.reduceLE, Int.reduceAdd, Int.reduceSub, Int.reduceMul, Int.reduceNeg, Bool.not_not, List.append_nil, List.nil_append, List.cons_append, z_int, z_bl, z_non, z_tup, z_lst, z_str, z_lint, z_lbl, z_lnon, z_ltup, z_llst, z_lstr, z_whole, Tr.toD, e, List.isEmpty_nil, s0]
    rfl
  | .node a x b, r + 1, d, hr, hs => by
    rw [Tr.size] at hr hs
    have h1 := law_nodes hp hc (h := h) a r (d + 1) (by omega) (by omega)
    have h2 := law_nodes hp hc (h := h) b r (d + 1) (by omega) (by omega)
    refine Ev_eq (rec_iff.mpr ?_)
    generalize recF 2 b_law_nodes r = me at h1 h2 ⊢
    unfold b_law_nodes
    have e := eqTE (h := h) (ds := [a.toD f, f x, b.toD f]) ⟨tr_pl hp a, hp x, tr_pl hp b, trivial⟩ (by
      have q1 := tr_dp hc a
      have q2 := tr_dp hc b
      have q3 := hc x
      show max (dpD (a.toD f)) (max (dpD (f x)) (max (dpD (b.toD f)) 0)) ≤ 60
      omega)
    have k1 := (Tr.perm a (d + 1)).length_eq
    have k2 := (Tr.perm b (d + 1)).length_eq
    rw [Tr.pre_len] at k1 k2
    simp (config := {dsimp := false}) only [↓e_pr, ↓e_some, ↓e_an, ↓e_brT, ↓e_brF, ↓e_asB, ↓e_asI, ↓e_asV, ↓e_stE, ↓e_stE0, ↓e_stL, ↓e_stL0, ↓e_sqN, ↓e_sqR, ↓e_sqB, ↓e_sqC, ↓e_afN, ↓e_afR, ↓e_afB, ↓e_afC, ↓e_rtN, ↓e_rtR, ↓e_var, ↓e_c, ↓e_op, ↓e_un, ↓e_t, ↓e_nt, ↓e_anT, ↓e_orT, ↓e_and, ↓e_or, ↓e_not, ↓e_ite, ↓e_ch, ↓e_nil, ↓e_cons, ↓e_star, ↓e_tup, ↓e_lst, ↓e_mut, ↓e_call, ↓e_isiT, ↓e_lz, ↓e_meth, ↓e_meth0, ↓e_oN, ↓e_oS, ↓e_sl, ↓e_gVar, ↓e_gSub, ↓e_gTp, ↓e_gN, ↓e_gC, ↓e_next, ↓e_seq, ↓e_drop, ↓e_ret, ↓e_retN, ↓e_brk, ↓e_cnt, ↓e_if, ↓e_asg, ↓e_as2, ↓e_as3, ↓e_par, ↓e_aug, ↓e_augS, ↓e_for, ↓e_f0, ↓e_f1, ↓e_while, ↓e_asS1, ↓e_asS2, ↓e_asS3, ↓e_iSeq, ↓e_enum, ↓e_asTI, ↓e_enumC, ↓e_rng1, ↓e_zip, ↓e_zipX, ↓e_comp, ↓e_c0, ↓e_c1, ↓e_y, ↓e_body, ↓e_addI, ↓e_addT, ↓e_addL, ↓e_subI, ↓e_iadd, ↓e_mulI, ↓e_divI, ↓e_modI, ↓e_powI, ↓e_negI, ↓e_mulT, ↓e_mulL, ↓e_cmp, ↓e_eq, ↓e_ne, ↓e_isN, ↓e_isB, ↓e_isNotN, ↓e_isNotB, ↓e_ix, ↓e_abs, ↓e_toI, ↓e_toB1, ↓e_toB0, ↓e_lenT, ↓e_lenL, ↓e_lenRo, ↓e_lenR, ↓e_tupT, ↓e_tupL, ↓e_tupR, ↓e_lstT, ↓e_lstL, ↓e_allM, ↓e_in, ↓e_notIn, ↓e_sum, ↓e_max, ↓e_par3, ↓e_pop, ↓e_frz, ↓e_frzR, ↓e_isi, ↓e_slT, ↓e_slL, ↓e_slRo, ↓e_app, ↓e_ext, ↓e_setM, r_it1, r_it2, r_it3, r_it4, r_ls2, r_ls3, r_ml2, r_ml3, r_mg0, r_mgn, r_at0, r_at1, r_at2, r_at3, r_ix0, r_ix1, r_ix2, r_ty1, r_ty2, r_ty3, r_ty4, r_ty5, r_ty6, r_ty7, r_ty8, r_sNt, r_sNi, r_sNb, r_sNs, r_sbt, r_sbi, r_sbb, r_sbs, r_sit, r_sii, r_sib, r_sis, r_sst, r_ssi, r_ssb, r_sss, r_stt, r_sti, r_stb, r_sts, r_slt, r_sli, r_slb, r_sls, r_aN, r_ab, r_ai, r_as, r_at, r_al, r_eqI, r_eqB, r_eqS, r_pu1, r_pu2, r_eqN, r_fr1, r_fx1, r_fx2, r_fx3, r_bo0, r_bo1, r_c0, r_c1, r_c2, r_c3, r_c4, r_c5, r_c6, r_c7, r_c8, r_c9, r_c10, r_c11, r_c12, r_pd0, r_pd1, r_pd2, r_wi0, r_wi1, List.set_cons_zero, List.set_cons_succ, List.getElem?_cons_zero, List.getElem?_cons_succ, ↓reduceIte, List.length_cons, List.length_nil, Nat.zero_add, Nat.reduceAdd, and_true, true_and, decide_true, decide_false, eq_self, beq_self_eq_true, Bool.true_beq, Bool.false_beq, Bool.not_true, Bool.not_false, Int.reduceEq, Int.reduceLT, Int.reduceLE, Int.reduceAdd, Int.reduceSub, Int.reduceMul, Int.reduceNeg, Bool.not_not, List.append_nil, List.nil_append, List.cons_append, z_int, z_bl, z_non, z_tup, z_lst, z_str, z_lint, z_lbl, z_lnon, z_ltup, z_llst, z_lstr, z_whole, Tr.toD, e, List.isEmpty_cons, s0, s1, s2, show ((d : Int) + 1) = ((d + 1 : Nat) : Int) from rfl, h1, h2]
    refine ⟨lenS (by rw [List.length_map]; omega), lenS (by rw [List.length_append, List.length_map, List.length_map]; show _ + 1 + _ ≤ 1000; omega), ?_⟩
    rw [Tr.ino, List.map_append, List.map_append]
    rfl
/-- the counts of a tree: nodes, all their depths -/
def dsum {α : Type} (t : Tr α) : Nat := ((t.pre 0).map (·.2)).sum
def pot : (k : Kd) → An k → Vt k → Rat
  | .num, _, _ => 0
  | .lst k, a, v => linQ a.1 (cnt (List.length v)) + (List.map (pot k a.2) v).sum
  | .tre k, a, v => linQ a.1 [((Tr.size v : Int) : Rat), ((dsum v : Int) : Rat)] + ((Tr.pre v 0).map fun p => pot k a.2 p.1).sum
  | .par x y, a, v => pot x a.1 v.1 + pot y a.2 v.2
/-- values of a size -/
def VOk : (k : Kd) → Vt k → Prop
  | .num, n => (0 : Int) ≤ (show Int from n) ∧ (show Int from n) < 10000
  | .lst k, l => List.length l ≤ 5 ∧ ∀ x ∈ (show List (Vt k) from l), VOk k x
  | .tre k, t => Tr.size t ≤ 5 ∧ (∀ p ∈ Tr.pre t 0, VOk k p.1) ∧ dsum t ≤ 32
  | .par x y, v => VOk x v.1 ∧ VOk y v.2
def bits (c : Nat) : Kd → Nat
  | .num => 0
  | .lst k => 2 * c + 13 + (bits c k + 1) * 5
  | .tre k => 2 * c + 13 + (bits c k + 1) * 5
  | .par a b => bits c a + bits c b + 1
theorem linQ_bq {c : Nat} {r : List Rat} {a b : Rat} (hr : ∀ q ∈ r, BQ c q) (ha : BQ 5 a) (hb : BQ 5 b) : BQ (2 * c + 12) (linQ r [a, b]) := by
  match r with
  | [] => exact .zero
  | [x] =>
    have := (hr x (by simp)).mul ha
    exact (this.add (.zero (k := 0))).mono (by omega)
  | [x, y] =>
    have h1 := (hr x (by simp)).mul ha
    have h2 := (hr y (by simp)).mul hb
    exact (h1.add (h2.add (.zero (k := 0)))).mono (by omega)
  | x :: y :: z :: r =>
    have h1 := (hr x (by simp)).mul ha
    have h2 := (hr y (by simp)).mul hb
    exact (h1.add (h2.add (.zero (k := 0)))).mono (by omega)
theorem cnt_bq {n : Nat} (hn : n ≤ 8) : BQ 5 (((n : Int)) : Rat) ∧ BQ 5 ((((n : Int) * (n - 1) / 2 : Int)) : Rat) := ⟨.int (by omega), .int (cnt2_le hn)⟩
theorem pot_bq {c : Nat} : ∀ (k : Kd) (a : An k) (v : Vt k), (∀ q ∈ nums k a, BQ c q) → VOk k v → BQ (bits c k) (pot k a v)
  | .num, _, _, _, _ => .zero
  | .lst k, a, v, ha, hv => by
    have h1 := linQ_bq (r := a.1) (fun q hq => ha q (List.mem_append_left _ hq)) (cnt_bq (n := List.length v) (by have := hv.1; omega)).1 (cnt_bq (n := List.length v) (by have := hv.1; omega)).2
    have h2 := sum_bq (k := bits c k) (List.map (pot k a.2) v) fun q hq => by
      obtain ⟨x, hx, rfl⟩ := List.mem_map.mp hq
      exact pot_bq k a.2 x (fun q hq => ha q (List.mem_append_right _ hq)) (hv.2 x hx)
    have hlen : (List.map (pot k a.2) v).length = List.length v := List.length_map ..
    rw [hlen] at h2
    have h3 := Nat.mul_le_mul_left (bits c k + 1) hv.1
    exact (h1.add h2).mono (by rw [bits]; omega)
  | .tre k, a, v, ha, hv => by
    have h1 := linQ_bq (r := a.1) (a := ((Tr.size v : Int) : Rat)) (b := ((dsum v : Int) : Rat)) (fun q hq => ha q (List.mem_append_left _ hq)) (.int (by have := hv.1; omega)) (.int (by have := hv.2.2; omega))
    have h2 := sum_bq (k := bits c k) ((Tr.pre v 0).map fun p => pot k a.2 p.1) fun q hq => by
      obtain ⟨p, hp, rfl⟩ := List.mem_map.mp hq
      exact pot_bq k a.2 p.1 (fun q hq => ha q (List.mem_append_right _ hq)) (hv.2.1 p hp)
    have hlen : ((Tr.pre v 0).map fun p => pot k a.2 p.1).length = Tr.size v := (List.length_map ..).trans (Tr.pre_len ..)
    rw [hlen] at h2
    have h3 := Nat.mul_le_mul_left (bits c k + 1) hv.1
    exact (h1.add h2).mono (by rw [bits]; omega)
  | .par x y, a, v, ha, hv => by
    have h1 := pot_bq x a.1 v.1 (fun q hq => ha q (List.mem_append_left _ hq)) hv.1
    have h2 := pot_bq y a.2 v.2 (fun q hq => ha q (List.mem_append_right _ hq)) hv.2
    exact (h1.add h2).mono (by rw [bits]; omega)
theorem v_pl : ∀ (k : Kd) (v : Vt k), Pl (vD k v)
  | .num, _ => trivial
  | .lst k, v => plL_map v fun x _ => v_pl k x
  | .tre k, v => tr_pl (v_pl k) v
  | .par x y, v => ⟨v_pl x v.1, v_pl y v.2, trivial⟩
theorem comp_evx {α : Type} {γ : DenG} {φ : Den} {ρ : Rho} (e f : α → D) : ∀ (xs : List α) (h : Sto), (∀ x ∈ xs, ∀ h, Pr (Ev (γ (e x) ρ h) fun ρ1 h1 => Ev (φ ρ1 h1) fun y h3 => y = f x ∧ ∃ z, h3 = h ++ z)) → Ev (compL γ tauY φ ρ (xs.map e) h) fun ys h' => ys = xs.map f ∧ ∃ z, h' = h ++ z
  | [], h, _ => ⟨[], h, rfl, rfl, [], (List.append_nil h).symm⟩
  | x :: xs, h, H => by
    obtain ⟨ρ1, h1, e1, y, h3, e3, rfl, z, rfl⟩ := H x List.mem_cons_self h
    obtain ⟨ys, h4, e4, rfl, z2, rfl⟩ := comp_evx e f xs (h ++ z) fun y hy => H y (List.mem_cons_of_mem _ hy)
    refine ⟨f x :: xs.map f, _, ?_, rfl, z ++ z2, List.append_assoc ..⟩
    show compL γ tauY φ ρ (e x :: xs.map e) h = _
    unfold compL
    rw [e1]; show (φ ρ1 h1).bind _ = _
    rw [e3]; show (compL γ tauY φ ρ _ _).map _ = _
    rw [e4]; rfl

end K19
namespace K19
open Sh ShR Iv PySem PySem.Spec PyProof.Rows L2
/-- trees of numbers alone -/
def TN : Kd → Prop
  | .num => True
  | .lst k => TN k
  | .tre k => k = .num
  | .par a b => TN a ∧ TN b
theorem num_dp (x : Vt .num) : dpD (vD .num x) ≤ 0 := Nat.le_refl _
theorem pot_lst {c : Nat} {k : Kd} {al : List Rat} {a2 : An k} {l : List (Vt k)} {me : Fun1} {h : Sto} (hc : c ≤ 50) (g1 : 1 ≤ al.length) (g2 : al.length ≤ 2) (ha : ∀ q ∈ al, BQ c q) (h5 : l.length ≤ 5) (hqs : ∀ x ∈ l, BQ (bits c k) (pot k a2 x)) (hb : bits c (.lst k) ≤ 2000)
    (ih : ∀ x ∈ l, ∀ h, Ev (me [kD k, aD k a2, vD k x] h) fun d h' => d = qD (pot k a2 x) ∧ ∃ z, h' = h ++ z) :
    Ev (bodyF 7 (b_potential me) [kD (.lst k), .tup [rwD al, aD k a2], .tup (l.map (vD k))] h) fun d h' => d = qD (linQ al (cnt l.length) + (l.map (pot k a2)).sum) ∧ ∃ z, h' = h ++ z := by
  rw [bits] at hb
  have hlin : BQ (2 * c + 12) (linQ al (cnt l.length)) := linQ_bq (r := al) ha (cnt_bq (n := l.length) (by omega)).1 (cnt_bq (n := l.length) (by omega)).2
  have hqs' : ∀ q ∈ l.map (pot k a2), BQ (bits c k) q := fun q hq => by
    obtain ⟨x, hx, rfl⟩ := List.mem_map.mp hq
    exact hqs x hx
  have hlp := fun h => sp_list_pot (h := h) (n := l.length) g1 g2 ha hc (by omega)
  have h3 := Nat.mul_le_mul_left (bits c k + 1) h5
  have hsum := fun h => q_summed (h := h) hqs' (by rw [List.length_map]; omega)
  have hsb := sum_bq _ hqs'
  rw [List.length_map] at hsb
  unfold b_potential
  simp (config := {dsimp := false}) only [↓e_pr, ↓e_some, ↓e_an, ↓e_brT, ↓e_brF, ↓e_asB, ↓e_asI, ↓e_asV, ↓e_stE, ↓e_stE0, ↓e_stL, ↓e_stL0, ↓e_sqN, ↓e_sqR, ↓e_sqB, ↓e_sqC, ↓e_afN, ↓e_afR, ↓e_afB, ↓e_afC, ↓e_rtN, ↓e_rtR, ↓e_var, ↓e_c, ↓e_op, ↓e_un, ↓e_t, ↓e_nt, ↓e_anT, ↓e_orT, ↓e_and, ↓e_or, ↓e_not, ↓e_ite, ↓e_ch, ↓e_nil, ↓e_cons, ↓e_star, ↓e_tup, ↓e_lst, ↓e_mut, ↓e_call, ↓e_isiT, ↓e_lz, ↓e_meth, ↓e_meth0, ↓e_oN, ↓e_oS, ↓e_sl, ↓e_gVar, ↓e_gSub, ↓e_gTp, ↓e_gN, ↓e_gC, ↓e_next, ↓e_seq, ↓e_drop, ↓e_ret, ↓e_retN, ↓e_brk, ↓e_cnt, ↓e_if, ↓e_asg, ↓e_as2, ↓e_as3, ↓e_par, ↓e_aug, ↓e_augS, ↓e_for, ↓e_f0, ↓e_f1, ↓e_while, ↓e_asS1, ↓e_asS2, ↓e_asS3, ↓e_iSeq, ↓e_enum, ↓e_asTI, ↓e_enumC, ↓e_rng1, ↓e_zip, ↓e_zipX, ↓e_comp, ↓e_c0, ↓e_c1, ↓e_y, ↓e_body, ↓e_addI, ↓e_addT, ↓e_addL, ↓e_subI, ↓e_iadd, ↓e_mulI, ↓e_divI, ↓e_modI, ↓e_powI, ↓e_negI, ↓e_mulT, ↓e_mulL, ↓e_cmp, ↓e_eq, ↓e_ne, ↓e_isN, ↓e_isB, ↓e_isNotN, ↓e_isNotB, ↓e_ix, ↓e_abs, ↓e_toI, ↓e_toB1, ↓e_toB0, ↓e_lenT, ↓e_lenL, ↓e_lenRo, ↓e_lenR, ↓e_tupT, ↓e_tupL, ↓e_tupR, ↓e_lstT, ↓e_lstL, ↓e_allM, ↓e_in, ↓e_notIn, ↓e_sum, ↓e_max, ↓e_par3, ↓e_pop, ↓e_frz, ↓e_frzR, ↓e_isi, ↓e_slT, ↓e_slL, ↓e_slRo, ↓e_app, ↓e_ext, ↓e_setM, r_it1, r_it2, r_it3, r_it4, r_ls2, r_ls3, r_ml2, r_ml3, r_mg0, r_mgn, r_at0, r_at1, r_at2, r_at3, r_ix0, r_ix1, r_ix2, r_ty1, r_ty2, r_ty3, r_ty4, r_ty5, r_ty6, r_ty7, r_ty8, r_sNt, r_sNi, r_sNb, r_sNs, r_sbt, r_sbi, r_sbb, r_sbs, r_sit, r_sii, r_sib, r_sis, r_sst, r_ssi, r_ssb, r_sss, r_stt, r_sti, r_stb, r_sts, r_slt, r_sli, r_slb, r_sls, r_aN, r_ab, r_ai, r_as, r_at, r_al, r_eqI, r_eqB, r_eqS, r_pu1, r_pu2, r_eqN, r_fr1, r_fx1, r_fx2, r_fx3, r_bo0, r_bo1, r_c0, r_c1, r_c2, r_c3, r_c4, r_c5, r_c6, r_c7, r_c8, r_c9, r_c10, r_c11, r_c12, r_pd0, r_pd1, r_pd2, r_wi0, r_wi1, List.set_cons_zero, List.set_cons_succ, List.getElem?_cons_zero, List.getElem?_cons_succ, ↓reduceIte, List.length_cons, List.length_nil, Nat.zero_add, Nat.reduceAdd, and_true, true_and, decide_true, decide_false, eq_self, beq_self_eq_true, Bool.true_beq, Bool.false_beq, Bool.not_true, Bool.not_false, Int.reduceEq, Int.reduceLT, Int.reduceLE, Int.reduceAdd, Int.reduceSub, Int.reduceMul, Int.reduceNeg, Bool.not_not, List.append_nil, List.nil_append, List.cons_append, z_int, z_bl, z_non, z_tup, z_lst, z_str, z_lint, z_lbl, z_lnon, z_ltup, z_llst, z_lstr, z_whole, kD, w_ln, w_ll]
  refine ⟨lenS (by rw [List.length_map]; omega), ?_⟩
  refine (comp_evx (vD k) (fun x => qD (pot k a2 x)) l h ?_).mono ?_
  · intro x hx h'
    simp (config := {dsimp := false}) only [↓e_pr, ↓e_some, ↓e_an, ↓e_brT, ↓e_brF, ↓e_asB, ↓e_asI, ↓e_asV, ↓e_stE, ↓e_stE0, ↓e_stL, ↓e_stL0, ↓e_sqN, ↓e_sqR, ↓e_sqB, ↓e_sqC, ↓e_afN, ↓e_afR, ↓e_afB, ↓e_afC, ↓e_rtN, ↓e_rtR, ↓e_var, ↓e_c, ↓e_op, ↓e_un, ↓e_t, ↓e_nt, ↓e_anT, ↓e_orT, ↓e_and, ↓e_or, ↓e_not, ↓e_ite, ↓e_ch, ↓e_nil, ↓e_cons, ↓e_star, ↓e_tup, ↓e_lst, ↓e_mut, ↓e_call, ↓e_isiT, ↓e_lz, ↓e_meth, ↓e_meth0, ↓e_oN, ↓e_oS, ↓e_sl, ↓e_gVar, ↓e_gSub, ↓e_gTp, ↓e_gN, ↓e_gC, ↓e_next, ↓e_seq, ↓e_drop, ↓e_ret, ↓e_retN, ↓e_brk, ↓e_cnt, ↓e_if, ↓e_asg, ↓e_as2, ↓e_as3, ↓e_par, ↓e_aug, ↓e_augS, ↓e_for, ↓e_f0, ↓e_f1, ↓e_while, ↓e_asS1, ↓e_asS2, ↓e_asS3, ↓e_iSeq, ↓e_enum, ↓e_asTI, ↓e_enumC, ↓e_rng1, ↓e_zip, ↓e_zipX, ↓e_comp, ↓e_c0, ↓e_c1, ↓e_y, ↓e_body, ↓e_addI, ↓e_addT, ↓e_addL, ↓e_subI, ↓e_iadd, ↓e_mulI, ↓e_divI, ↓e_modI, ↓e_powI, ↓e_negI, ↓e_mulT, ↓e_mulL, ↓e_cmp, ↓e_eq, ↓e_ne, ↓e_isN, ↓e_isB, ↓e_isNotN, ↓e_isNotB, ↓e_ix, ↓e_abs, ↓e_toI, ↓e_toB1, ↓e_toB0, ↓e_lenT, ↓e_lenL, ↓e_lenRo, ↓e_lenR, ↓e_tupT, ↓e_tupL, ↓e_tupR, ↓e_lstT, ↓e_lstL, ↓e_allM, ↓e_in, ↓e_notIn, ↓e_sum, ↓e_max, ↓e_par3, ↓e_pop, ↓e_frz, ↓e_frzR, ↓e_isi, ↓e_slT, ↓e_slL, ↓e_slRo, ↓e_app, ↓e_ext, ↓e_setM, r_it1, r_it2, r_it3, r_it4, r_ls2, r_ls3, r_ml2, r_ml3, r_mg0, r_mgn, r_at0, r_at1, r_at2, r_at3, r_ix0, r_ix1, r_ix2, r_ty1, r_ty2, r_ty3, r_ty4, r_ty5, r_ty6, r_ty7, r_ty8, r_sNt, r_sNi, r_sNb, r_sNs, r_sbt, r_sbi, r_sbb, r_sbs, r_sit, r_sii, r_sib, r_sis, r_sst, r_ssi, r_ssb, r_sss, r_stt, r_sti, r_stb, r_sts, r_slt, r_sli, r_slb, r_sls, r_aN, r_ab, r_ai, r_as, r_at, r_al, r_eqI, r_eqB, r_eqS, r_pu1, r_pu2, r_eqN, r_fr1, r_fx1, r_fx2, r_fx3, r_bo0, r_bo1, r_c0, r_c1, r_c2, r_c3, r_c4, r_c5, r_c6, r_c7, r_c8, r_c9, r_c10, r_c11, r_c12, r_pd0, r_pd1, r_pd2, r_wi0, r_wi1, List.set_cons_zero, List.set_cons_succ, List.getElem?_cons_zero, List.getElem?_cons_succ, ↓reduceIte, List.length_cons, List.length_nil, Nat.zero_add, Nat.reduceAdd, and_true, true_and, decide_true, decide_false, eq_self, beq_self_eq_true, Bool.true_beq, Bool.false_beq, Bool.not_true, Bool.not_false, Int.reduceEq, Int.reduceLT, Int.reduceLE, Int.reduceAdd, Int.reduceSub, Int.reduceMul, Int.reduceNeg, Bool.not_not, List.append_nil, List.nil_append, List.cons_append, z_int, z_bl, z_non, z_tup, z_lst, z_str, z_lint, z_lbl, z_lnon, z_ltup, z_llst, z_lstr, z_whole]
    refine (ih x hx h').mono ?_
    rintro d h2 ⟨rfl, z, rfl⟩
    simp (config := {dsimp := false}) only [↓e_pr, ↓e_some, ↓e_an, ↓e_brT, ↓e_brF, ↓e_asB, ↓e_asI, ↓e_asV, ↓e_stE, ↓e_stE0, ↓e_stL, ↓e_stL0, ↓e_sqN, ↓e_sqR, ↓e_sqB, ↓e_sqC, ↓e_afN, ↓e_afR, ↓e_afB, ↓e_afC, ↓e_rtN, ↓e_rtR, ↓e_var, ↓e_c, ↓e_op, ↓e_un, ↓e_t, ↓e_nt, ↓e_anT, ↓e_orT, ↓e_and, ↓e_or, ↓e_not, ↓e_ite, ↓e_ch, ↓e_nil, ↓e_cons, ↓e_star, ↓e_tup, ↓e_lst, ↓e_mut, ↓e_call, ↓e_isiT, ↓e_lz, ↓e_meth, ↓e_meth0, ↓e_oN, ↓e_oS, ↓e_sl, ↓e_gVar, ↓e_gSub, ↓e_gTp, ↓e_gN, ↓e_gC, ↓e_next, ↓e_seq, ↓e_drop, ↓e_ret, ↓e_retN, ↓e_brk, ↓e_cnt, ↓e_if, ↓e_asg, ↓e_as2, ↓e_as3, ↓e_par, ↓e_aug, ↓e_augS, ↓e_for, ↓e_f0, ↓e_f1, ↓e_while, ↓e_asS1, ↓e_asS2, ↓e_asS3, ↓e_iSeq, ↓e_enum, ↓e_asTI, ↓e_enumC, ↓e_rng1, ↓e_zip, ↓e_zipX, ↓e_comp, ↓e_c0, ↓e_c1, ↓e_y, ↓e_body, ↓e_addI, ↓e_addT, ↓e_addL, ↓e_subI, ↓e_iadd, ↓e_mulI, ↓e_divI, ↓e_modI, ↓e_powI, ↓e_negI, ↓e_mulT, ↓e_mulL, ↓e_cmp, ↓e_eq, ↓e_ne, ↓e_isN, ↓e_isB, ↓e_isNotN, ↓e_isNotB, ↓e_ix, ↓e_abs, ↓e_toI, ↓e_toB1, ↓e_toB0, ↓e_lenT, ↓e_lenL, ↓e_lenRo, ↓e_lenR, ↓e_tupT, ↓e_tupL, ↓e_tupR, ↓e_lstT, ↓e_lstL, ↓e_allM, ↓e_in, ↓e_notIn, ↓e_sum, ↓e_max, ↓e_par3, ↓e_pop, ↓e_frz, ↓e_frzR, ↓e_isi, ↓e_slT, ↓e_slL, ↓e_slRo, ↓e_app, ↓e_ext, ↓e_setM, r_it1, r_it2, r_it3, r_it4, r_ls2, r_ls3, r_ml2, r_ml3, r_mg0, r_mgn, r_at0, r_at1, r_at2, r_at3, r_ix0, r_ix1, r_ix2, r_ty1, r_ty2, r_ty3, r_ty4, r_ty5, r_ty6, r_ty7, r_ty8, r_sNt, r_sNi, r_sNb, r_sNs, r_sbt, r_sbi, r_sbb, r_sbs, r_sit, r_sii, r_sib, r_sis, r_sst, r_ssi, r_ssb, r_sss, r_stt, r_sti, r_stb, r_sts, r_slt, r_sli, r_slb, r_sls, r_aN, r_ab, r_ai, r_as, r_at, r_al, r_eqI, r_eqB, r_eqS, r_pu1, r_pu2, r_eqN, r_fr1, r_fx1, r_fx2, r_fx3, r_bo0, r_bo1, r_c0, r_c1, r_c2, r_c3, r_c4, r_c5, r_c6, r_c7, r_c8, r_c9, r_c10, r_c11, r_c12, r_pd0, r_pd1, r_pd2, r_wi0, r_wi1, List.set_cons_zero, List.set_cons_succ, List.getElem?_cons_zero, List.getElem?_cons_succ, ↓reduceIte, List.length_cons, List.length_nil, Nat.zero_add, Nat.reduceAdd, and_true, true_and, decide_true, decide_false, eq_self, beq_self_eq_true, Bool.true_beq, Bool.false_beq, Bool.not_true, Bool.not_false, Int.reduceEq, Int.reduceLT, Int.reduceLE, Int.reduceAdd, Int.reduceSub, Int.reduceMul, Int.reduceNeg, Bool.not_not, List.append_nil, List.nil_append, List.cons_append, z_int, z_bl, z_non, z_tup, z_lst, z_str, z_lint, z_lbl, z_lnon, z_ltup, z_llst, z_lstr, z_whole]
    exact ⟨z, rfl⟩
  · rintro ys h' ⟨rfl, z, rfl⟩
    have e : l.map (fun x => qD (pot k a2 x)) = (l.map (pot k a2)).map qD := by rw [List.map_map]; rfl
    rw [e]
    simp (config := {dsimp := false}) only [↓e_pr, ↓e_some, ↓e_an, ↓e_brT, ↓e_brF, ↓e_asB, ↓e_asI, ↓e_asV, ↓e_stE, ↓e_stE0, ↓e_stL, ↓e_stL0, ↓e_sqN, ↓e_sqR, ↓e_sqB, ↓e_sqC, ↓e_afN, ↓e_afR, ↓e_afB, ↓e_afC, ↓e_rtN, ↓e_rtR, ↓e_var, ↓e_c, ↓e_op, ↓e_un, ↓e_t, ↓e_nt, ↓e_anT, ↓e_orT, ↓e_and, ↓e_or, ↓e_not, ↓e_ite, ↓e_ch, ↓e_nil, ↓e_cons, ↓e_star, ↓e_tup, ↓e_lst, ↓e_mut, ↓e_call, ↓e_isiT, ↓e_lz, ↓e_meth, ↓e_meth0, ↓e_oN, ↓e_oS, ↓e_sl, ↓e_gVar, ↓e_gSub, ↓e_gTp, ↓e_gN, ↓e_gC, ↓e_next, ↓e_seq, ↓e_drop, ↓e_ret, ↓e_retN, ↓e_brk, ↓e_cnt, ↓e_if, ↓e_asg, ↓e_as2, ↓e_as3, ↓e_par, ↓e_aug, ↓e_augS, ↓e_for, ↓e_f0, ↓e_f1, ↓e_while, ↓e_asS1, ↓e_asS2, ↓e_asS3, ↓e_iSeq, ↓e_enum, ↓e_asTI, ↓e_enumC, ↓e_rng1, ↓e_zip, ↓e_zipX, ↓e_comp, ↓e_c0, ↓e_c1, ↓e_y, ↓e_body, ↓e_addI, ↓e_addT, ↓e_addL, ↓e_subI, ↓e_iadd, ↓e_mulI, ↓e_divI, ↓e_modI, ↓e_powI, ↓e_negI, ↓e_mulT, ↓e_mulL, ↓e_cmp, ↓e_eq, ↓e_ne, ↓e_isN, ↓e_isB, ↓e_isNotN, ↓e_isNotB, ↓e_ix, ↓e_abs, ↓e_toI, ↓e_toB1, ↓e_toB0, ↓e_lenT, ↓e_lenL, ↓e_lenRo, ↓e_lenR, ↓e_tupT, ↓e_tupL, ↓e_tupR, ↓e_lstT, ↓e_lstL, ↓e_allM, ↓e_in, ↓e_notIn, ↓e_sum, ↓e_max, ↓e_par3, ↓e_pop, ↓e_frz, ↓e_frzR, ↓e_isi, ↓e_slT, ↓e_slL, ↓e_slRo, ↓e_app, ↓e_ext, ↓e_setM, r_it1, r_it2, r_it3, r_it4, r_ls2, r_ls3, r_ml2, r_ml3, r_mg0, r_mgn, r_at0, r_at1, r_at2, r_at3, r_ix0, r_ix1, r_ix2, r_ty1, r_ty2, r_ty3, r_ty4, r_ty5, r_ty6, r_ty7, r_ty8, r_sNt, r_sNi, r_sNb, r_sNs, r_sbt, r_sbi, r_sbb, r_sbs, r_sit, r_sii, r_sib, r_sis, r_sst, r_ssi, r_ssb, r_sss, r_stt, r_sti, r_stb, r_sts, r_slt, r_sli, r_slb, r_sls, r_aN, r_ab, r_ai, r_as, r_at, r_al, r_eqI, r_eqB, r_eqS, r_pu1, r_pu2, r_eqN, r_fr1, r_fx1, r_fx2, r_fx3, r_bo0, r_bo1, r_c0, r_c1, r_c2, r_c3, r_c4, r_c5, r_c6, r_c7, r_c8, r_c9, r_c10, r_c11, r_c12, r_pd0, r_pd1, r_pd2, r_wi0, r_wi1, List.set_cons_zero, List.set_cons_succ, List.getElem?_cons_zero, List.getElem?_cons_succ, ↓reduceIte, List.length_cons, List.length_nil, Nat.zero_add, Nat.reduceAdd, and_true, true_and, decide_true, decide_false, eq_self, beq_self_eq_true, Bool.true_beq, Bool.false_beq, Bool.not_true, Bool.not_false, Int.reduceEq, Int.reduceLT, Int.reduceLE, Int.reduceAdd, Int.reduceSub, Int.reduceMul, Int.reduceNeg, Bool.not_not, List.append_nil, List.nil_append, List.cons_append, z_int, z_bl, z_non, z_tup, z_lst, z_str, z_lint, z_lbl, z_lnon, z_ltup, z_llst, z_lstr, z_whole, hsum, List.length_map, hlp, q_plus hlin hsb (by omega)]
    exact ⟨z, rfl⟩
theorem sum_cast : ∀ l : List Nat, (l.map fun n : Nat => (n : Int)).sum = (l.sum : Nat)
  | [] => rfl
  | n :: l => by rw [List.map_cons, List.sum_cons, List.sum_cons, sum_cast l]; omega
theorem pot_tre {c : Nat} {al : List Rat} {t : Tr (Vt .num)} {me : Fun1} {h : Sto} (hc : c ≤ 50) (g1 : 1 ≤ al.length) (g2 : al.length ≤ 2) (ha : ∀ q ∈ al, BQ c q) (h5 : t.size ≤ 5) (hd : dsum t ≤ 32)
    (ih : ∀ (x : Vt .num) h, Ev (me [kD .num, .tup [], vD .num x] h) fun d h' => d = qD 0 ∧ ∃ z, h' = h ++ z) :
    Ev (bodyF 7 (b_potential me) [kD (.tre .num), .tup [rwD al, .tup []], t.toD (vD .num)] h) fun d h' => d = qD (linQ al [((t.size : Int) : Rat), ((dsum t : Int) : Rat)] + ((t.pre 0).map fun _ => (0 : Rat)).sum) ∧ ∃ z, h' = h ++ z := by
  have hlin := linQ_bq (r := al) (a := ((t.size : Int) : Rat)) (b := ((dsum t : Int) : Rat)) ha (.int (by omega)) (.int (by omega))
  have hqs' : ∀ q ∈ (t.pre 0).map fun _ => (0 : Rat), BQ 0 q := fun q hq => by
    obtain ⟨x, hx, rfl⟩ := List.mem_map.mp hq
    exact .zero
  have hpl := Tr.pre_len t 0
  have hlp := fun h => sp_tree_pot (h := h) (n := t.size) (m := dsum t) g1 g2 ha hc (by omega) (by omega)
  have hsum := fun h => q_summed (h := h) hqs' (by rw [List.length_map]; omega)
  have hsb := sum_bq _ hqs'
  rw [List.length_map, hpl] at hsb
  unfold b_potential
  simp (config := {dsimp := false}) only [↓e_pr, ↓e_some, ↓e_an, ↓e_brT, ↓e_brF, ↓e_asB, ↓e_asI, ↓e_asV, ↓e_stE, ↓e_stE0, ↓e_stL, ↓e_stL0, ↓e_sqN, ↓e_sqR, ↓e_sqB, ↓e_sqC, ↓e_afN, ↓e_afR, ↓e_afB, ↓e_afC, ↓e_rtN, ↓e_rtR, ↓e_var, ↓e_c, ↓e_op, ↓e_un, ↓e_t, ↓e_nt, ↓e_anT, ↓e_orT, ↓e_and, ↓e_or, ↓e_not, ↓e_ite, ↓e_ch, ↓e_nil, ↓e_cons, ↓e_star, ↓e_tup, ↓e_lst, ↓e_mut, ↓e_call, ↓e_isiT, ↓e_lz, ↓e_meth, ↓e_meth0, ↓e_oN, ↓e_oS, ↓e_sl, ↓e_gVar, ↓e_gSub, ↓e_gTp, ↓e_gN, ↓e_gC, ↓e_next, ↓e_seq, ↓e_drop, ↓e_ret, ↓e_retN, ↓e_brk, ↓e_cnt, ↓e_if, ↓e_asg, ↓e_as2, ↓e_as3, ↓e_par, ↓e_aug, ↓e_augS, ↓e_for, ↓e_f0, ↓e_f1, ↓e_while, ↓e_asS1, ↓e_asS2, ↓e_asS3, ↓e_iSeq, ↓e_enum, ↓e_asTI, ↓e_enumC, ↓e_rng1, ↓e_zip, ↓e_zipX, ↓e_comp, ↓e_c0, ↓e_c1, ↓e_y, ↓e_body, ↓e_addI, ↓e_addT, ↓e_addL, ↓e_subI, ↓e_iadd, ↓e_mulI, ↓e_divI, ↓e_modI, ↓e_powI, ↓e_negI, ↓e_mulT, ↓e_mulL, ↓e_cmp, ↓e_eq, ↓e_ne, ↓e_isN, ↓e_isB, ↓e_isNotN, ↓e_isNotB, ↓e_ix, ↓e_abs, ↓e_toI, ↓e_toB1, ↓e_toB0, ↓e_lenT, ↓e_lenL, ↓e_lenRo, ↓e_lenR, ↓e_tupT, ↓e_tupL, ↓e_tupR, ↓e_lstT, ↓e_lstL, ↓e_allM, ↓e_in, ↓e_notIn, ↓e_sum, ↓e_max, ↓e_par3, ↓e_pop, ↓e_frz, ↓e_frzR, ↓e_isi, ↓e_slT, ↓e_slL, ↓e_slRo, ↓e_app, ↓e_ext, ↓e_setM, r_it1, r_it2, r_it3, r_it4, r_ls2, r_ls3, r_ml2, r_ml3, r_mg0, r_mgn, r_at0, r_at1, r_at2, r_at3, r_ix0, r_ix1, r_ix2, r_ty1, r_ty2, r_ty3, r_ty4, r_ty5, r_ty6, r_ty7, r_ty8, r_sNt, r_sNi, r_sNb, r_sNs, r_sbt, r_sbi, r_sbb, r_sbs, r_sit, r_sii, r_sib, r_sis, r_sst, r_ssi, r_ssb, r_sss, r_stt, r_sti, r_stb, r_sts, r_slt, r_sli, r_slb, r_sls, r_aN, r_ab, r_ai, r_as, r_at, r_al, r_eqI, r_eqB, r_eqS, r_pu1, r_pu2, r_eqN, r_fr1, r_fx1, r_fx2, r_fx3, r_bo0, r_bo1, r_c0, r_c1, r_c2, r_c3, r_c4, r_c5, r_c6, r_c7, r_c8, r_c9, r_c10, r_c11, r_c12, r_pd0, r_pd1, r_pd2, r_wi0, r_wi1, List.set_cons_zero, List.set_cons_succ, List.getElem?_cons_zero, List.getElem?_cons_succ, ↓reduceIte, List.length_cons, List.length_nil, Nat.zero_add, Nat.reduceAdd, and_true, true_and, decide_true, decide_false, eq_self, beq_self_eq_true, Bool.true_beq, Bool.false_beq, Bool.not_true, Bool.not_false, Int.reduceEq, Int.reduceLT, Int.reduceLE, Int.reduceAdd, Int.reduceSub, Int.reduceMul, Int.reduceNeg, Bool.not_not, List.append_nil, List.nil_append, List.cons_append, z_int, z_bl, z_non, z_tup, z_lst, z_str, z_lint, z_lbl, z_lnon, z_ltup, z_llst, z_lstr, z_whole, kD, w_tn, w_tl, w_tt]
  refine (sp_nodes (f := vD .num) (t := t) (h := h) (c := 0) (v_pl .num) num_dp (by omega)).mono ?_
  rintro d h1 ⟨rfl, z, rfl⟩
  simp (config := {dsimp := false}) only [↓e_pr, ↓e_some, ↓e_an, ↓e_brT, ↓e_brF, ↓e_asB, ↓e_asI, ↓e_asV, ↓e_stE, ↓e_stE0, ↓e_stL, ↓e_stL0, ↓e_sqN, ↓e_sqR, ↓e_sqB, ↓e_sqC, ↓e_afN, ↓e_afR, ↓e_afB, ↓e_afC, ↓e_rtN, ↓e_rtR, ↓e_var, ↓e_c, ↓e_op, ↓e_un, ↓e_t, ↓e_nt, ↓e_anT, ↓e_orT, ↓e_and, ↓e_or, ↓e_not, ↓e_ite, ↓e_ch, ↓e_nil, ↓e_cons, ↓e_star, ↓e_tup, ↓e_lst, ↓e_mut, ↓e_call, ↓e_isiT, ↓e_lz, ↓e_meth, ↓e_meth0, ↓e_oN, ↓e_oS, ↓e_sl, ↓e_gVar, ↓e_gSub, ↓e_gTp, ↓e_gN, ↓e_gC, ↓e_next, ↓e_seq, ↓e_drop, ↓e_ret, ↓e_retN, ↓e_brk, ↓e_cnt, ↓e_if, ↓e_asg, ↓e_as2, ↓e_as3, ↓e_par, ↓e_aug, ↓e_augS, ↓e_for, ↓e_f0, ↓e_f1, ↓e_while, ↓e_asS1, ↓e_asS2, ↓e_asS3, ↓e_iSeq, ↓e_enum, ↓e_asTI, ↓e_enumC, ↓e_rng1, ↓e_zip, ↓e_zipX, ↓e_comp, ↓e_c0, ↓e_c1, ↓e_y, ↓e_body, ↓e_addI, ↓e_addT, ↓e_addL, ↓e_subI, ↓e_iadd, ↓e_mulI, ↓e_divI, ↓e_modI, ↓e_powI, ↓e_negI, ↓e_mulT, ↓e_mulL, ↓e_cmp, ↓e_eq, ↓e_ne, ↓e_isN, ↓e_isB, ↓e_isNotN, ↓e_isNotB, ↓e_ix, ↓e_abs, ↓e_toI, ↓e_toB1, ↓e_toB0, ↓e_lenT, ↓e_lenL, ↓e_lenRo, ↓e_lenR, ↓e_tupT, ↓e_tupL, ↓e_tupR, ↓e_lstT, ↓e_lstL, ↓e_allM, ↓e_in, ↓e_notIn, ↓e_sum, ↓e_max, ↓e_par3, ↓e_pop, ↓e_frz, ↓e_frzR, ↓e_isi, ↓e_slT, ↓e_slL, ↓e_slRo, ↓e_app, ↓e_ext, ↓e_setM, r_it1, r_it2, r_it3, r_it4, r_ls2, r_ls3, r_ml2, r_ml3, r_mg0, r_mgn, r_at0, r_at1, r_at2, r_at3, r_ix0, r_ix1, r_ix2, r_ty1, r_ty2, r_ty3, r_ty4, r_ty5, r_ty6, r_ty7, r_ty8, r_sNt, r_sNi, r_sNb, r_sNs, r_sbt, r_sbi, r_sbb, r_sbs, r_sit, r_sii, r_sib, r_sis, r_sst, r_ssi, r_ssb, r_sss, r_stt, r_sti, r_stb, r_sts, r_slt, r_sli, r_slb, r_sls, r_aN, r_ab, r_ai, r_as, r_at, r_al, r_eqI, r_eqB, r_eqS, r_pu1, r_pu2, r_eqN, r_fr1, r_fx1, r_fx2, r_fx3, r_bo0, r_bo1, r_c0, r_c1, r_c2, r_c3, r_c4, r_c5, r_c6, r_c7, r_c8, r_c9, r_c10, r_c11, r_c12, r_pd0, r_pd1, r_pd2, r_wi0, r_wi1, List.set_cons_zero, List.set_cons_succ, List.getElem?_cons_zero, List.getElem?_cons_succ, ↓reduceIte, List.length_cons, List.length_nil, Nat.zero_add, Nat.reduceAdd, and_true, true_and, decide_true, decide_false, eq_self, beq_self_eq_true, Bool.true_beq, Bool.false_beq, Bool.not_true, Bool.not_false, Int.reduceEq, Int.reduceLT, Int.reduceLE, Int.reduceAdd, Int.reduceSub, Int.reduceMul, Int.reduceNeg, Bool.not_not, List.append_nil, List.nil_append, List.cons_append, z_int, z_bl, z_non, z_tup, z_lst, z_str, z_lint, z_lbl, z_lnon, z_ltup, z_llst, z_lstr, z_whole]
  refine ⟨lenS (by rw [List.length_map]; omega), ?_⟩
  refine (comp_evx (itD (vD .num)) (fun _ => qD 0) (t.pre 0) (h ++ z) ?_).mono ?_
  · intro x hx h'
    simp (config := {dsimp := false}) only [↓e_pr, ↓e_some, ↓e_an, ↓e_brT, ↓e_brF, ↓e_asB, ↓e_asI, ↓e_asV, ↓e_stE, ↓e_stE0, ↓e_stL, ↓e_stL0, ↓e_sqN, ↓e_sqR, ↓e_sqB, ↓e_sqC, ↓e_afN, ↓e_afR, ↓e_afB, ↓e_afC, ↓e_rtN, ↓e_rtR, ↓e_var, ↓e_c, ↓e_op, ↓e_un, ↓e_t, ↓e_nt, ↓e_anT, ↓e_orT, ↓e_and, ↓e_or, ↓e_not, ↓e_ite, ↓e_ch, ↓e_nil, ↓e_cons, ↓e_star, ↓e_tup, ↓e_lst, ↓e_mut, ↓e_call, ↓e_isiT, ↓e_lz, ↓e_meth, ↓e_meth0, ↓e_oN, ↓e_oS, ↓e_sl, ↓e_gVar, ↓e_gSub, ↓e_gTp, ↓e_gN, ↓e_gC, ↓e_next, ↓e_seq, ↓e_drop, ↓e_ret, ↓e_retN, ↓e_brk, ↓e_cnt, ↓e_if, ↓e_asg, ↓e_as2, ↓e_as3, ↓e_par, ↓e_aug, ↓e_augS, ↓e_for, ↓e_f0, ↓e_f1, ↓e_while, ↓e_asS1, ↓e_asS2, ↓e_asS3, ↓e_iSeq, ↓e_enum, ↓e_asTI, ↓e_enumC, ↓e_rng1, ↓e_zip, ↓e_zipX, ↓e_comp, ↓e_c0, ↓e_c1, ↓e_y, ↓e_body, ↓e_addI, ↓e_addT, ↓e_addL, ↓e_subI, ↓e_iadd, ↓e_mulI, ↓e_divI, ↓e_modI, ↓e_powI, ↓e_negI, ↓e_mulT, ↓e_mulL, ↓e_cmp, ↓e_eq, ↓e_ne, ↓e_isN, ↓e_isB, ↓e_isNotN, ↓e_isNotB, ↓e_ix, ↓e_abs, ↓e_toI, ↓e_toB1, ↓e_toB0, ↓e_lenT, ↓e_lenL, ↓e_lenRo, ↓e_lenR, ↓e_tupT, ↓e_tupL, ↓e_tupR, ↓e_lstT, ↓e_lstL, ↓e_allM, ↓e_in, ↓e_notIn, ↓e_sum, ↓e_max, ↓e_par3, ↓e_pop, ↓e_frz, ↓e_frzR, ↓e_isi, ↓e_slT, ↓e_slL, ↓e_slRo, ↓e_app, ↓e_ext, ↓e_setM, r_it1, r_it2, r_it3, r_it4, r_ls2, r_ls3, r_ml2, r_ml3, r_mg0, r_mgn, r_at0, r_at1, r_at2, r_at3, r_ix0, r_ix1, r_ix2, r_ty1, r_ty2, r_ty3, r_ty4, r_ty5, r_ty6, r_ty7, r_ty8, r_sNt, r_sNi, r_sNb, r_sNs, r_sbt, r_sbi, r_sbb, r_sbs, r_sit, r_sii, r_sib, r_sis, r_sst, r_ssi, r_ssb, r_sss, r_stt, r_sti, r_stb, r_sts, r_slt, r_sli, r_slb, r_sls, r_aN, r_ab, r_ai, r_as, r_at, r_al, r_eqI, r_eqB, r_eqS, r_pu1, r_pu2, r_eqN, r_fr1, r_fx1, r_fx2, r_fx3, r_bo0, r_bo1, r_c0, r_c1, r_c2, r_c3, r_c4, r_c5, r_c6, r_c7, r_c8, r_c9, r_c10, r_c11, r_c12, r_pd0, r_pd1, r_pd2, r_wi0, r_wi1, List.set_cons_zero, List.set_cons_succ, List.getElem?_cons_zero, List.getElem?_cons_succ, ↓reduceIte, List.length_cons, List.length_nil, Nat.zero_add, Nat.reduceAdd, and_true, true_and, decide_true, decide_false, eq_self, beq_self_eq_true, Bool.true_beq, Bool.false_beq, Bool.not_true, Bool.not_false, Int.reduceEq, Int.reduceLT, Int.reduceLE, Int.reduceAdd, Int.reduceSub, Int.reduceMul, Int.reduceNeg, Bool.not_not, List.append_nil, List.nil_append, List.cons_append, z_int, z_bl, z_non, z_tup, z_lst, z_str, z_lint, z_lbl, z_lnon, z_ltup, z_llst, z_lstr, z_whole]
    refine (ih x.1 h').mono ?_
    rintro d h2 ⟨rfl, z, rfl⟩
    simp (config := {dsimp := false}) only [↓e_pr, ↓e_some, ↓e_an, ↓e_brT, ↓e_brF, ↓e_asB, ↓e_asI, ↓e_asV, ↓e_stE, ↓e_stE0, ↓e_stL, ↓e_stL0, ↓e_sqN, ↓e_sqR, ↓e_sqB, ↓e_sqC, ↓e_afN, ↓e_afR, ↓e_afB, ↓e_afC, ↓e_rtN, ↓e_rtR, ↓e_var, ↓e_c, ↓e_op, ↓e_un, ↓e_t, ↓e_nt, ↓e_anT, ↓e_orT, ↓e_and, ↓e_or, ↓e_not, ↓e_ite, ↓e_ch, ↓e_nil, ↓e_cons, ↓e_star, ↓e_tup, ↓e_lst, ↓e_mut, ↓e_call, ↓e_isiT, ↓e_lz, ↓e_meth, ↓e_meth0, ↓e_oN, ↓e_oS, ↓e_sl, ↓e_gVar, ↓e_gSub, ↓e_gTp, ↓e_gN, ↓e_gC, ↓e_next, ↓e_seq, ↓e_drop, ↓e_ret, ↓e_retN, ↓e_brk, ↓e_cnt, ↓e_if, ↓e_asg, ↓e_as2, ↓e_as3, ↓e_par, ↓e_aug, ↓e_augS, ↓e_for, ↓e_f0, ↓e_f1, ↓e_while, ↓e_asS1, ↓e_asS2, ↓e_asS3, ↓e_iSeq, ↓e_enum, ↓e_asTI, ↓e_enumC, ↓e_rng1, ↓e_zip, ↓e_zipX, ↓e_comp, ↓e_c0, ↓e_c1, ↓e_y, ↓e_body, ↓e_addI, ↓e_addT, ↓e_addL, ↓e_subI, ↓e_iadd, ↓e_mulI, ↓e_divI, ↓e_modI, ↓e_powI, ↓e_negI, ↓e_mulT, ↓e_mulL, ↓e_cmp, ↓e_eq, ↓e_ne, ↓e_isN, ↓e_isB, ↓e_isNotN, ↓e_isNotB, ↓e_ix, ↓e_abs, ↓e_toI, ↓e_toB1, ↓e_toB0, ↓e_lenT, ↓e_lenL, ↓e_lenRo, ↓e_lenR, ↓e_tupT, ↓e_tupL, ↓e_tupR, ↓e_lstT, ↓e_lstL, ↓e_allM, ↓e_in, ↓e_notIn, ↓e_sum, ↓e_max, ↓e_par3, ↓e_pop, ↓e_frz, ↓e_frzR, ↓e_isi, ↓e_slT, ↓e_slL, ↓e_slRo, ↓e_app, ↓e_ext, ↓e_setM, r_it1, r_it2, r_it3, r_it4, r_ls2, r_ls3, r_ml2, r_ml3, r_mg0, r_mgn, r_at0, r_at1, r_at2, r_at3, r_ix0, r_ix1, r_ix2, r_ty1, r_ty2, r_ty3, r_ty4, r_ty5, r_ty6, r_ty7, r_ty8, r_sNt, r_sNi, r_sNb, r_sNs, r_sbt, r_sbi, r_sbb, r_sbs, r_sit, r_sii, r_sib, r_sis, r_sst, r_ssi, r_ssb, r_sss, r_stt, r_sti, r_stb, r_sts, r_slt, r_sli, r_slb, r_sls, r_aN, r_ab, r_ai, r_as, r_at, r_al, r_eqI, r_eqB, r_eqS, r_pu1, r_pu2, r_eqN, r_fr1, r_fx1, r_fx2, r_fx3, r_bo0, r_bo1, r_c0, r_c1, r_c2, r_c3, r_c4, r_c5, r_c6, r_c7, r_c8, r_c9, r_c10, r_c11, r_c12, r_pd0, r_pd1, r_pd2, r_wi0, r_wi1, List.set_cons_zero, List.set_cons_succ, List.getElem?_cons_zero, List.getElem?_cons_succ, ↓reduceIte, List.length_cons, List.length_nil, Nat.zero_add, Nat.reduceAdd, and_true, true_and, decide_true, decide_false, eq_self, beq_self_eq_true, Bool.true_beq, Bool.false_beq, Bool.not_true, Bool.not_false, Int.reduceEq, Int.reduceLT, Int.reduceLE, Int.reduceAdd, Int.reduceSub, Int.reduceMul, Int.reduceNeg, Bool.not_not, List.append_nil, List.nil_append, List.cons_append, z_int, z_bl, z_non, z_tup, z_lst, z_str, z_lint, z_lbl, z_lnon, z_ltup, z_llst, z_lstr, z_whole]
    exact ⟨z, rfl⟩
  · rintro ys h' ⟨rfl, z2, rfl⟩
    have e : (t.pre 0).map (fun _ => qD 0) = ((t.pre 0).map fun _ => (0 : Rat)).map qD := by rw [List.map_map]; rfl
    rw [e]
    simp (config := {dsimp := false}) only [↓e_pr, ↓e_some, ↓e_an, ↓e_brT, ↓e_brF, ↓e_asB, ↓e_asI, ↓e_asV, ↓e_stE, ↓e_stE0, ↓e_stL, ↓e_stL0, ↓e_sqN, ↓e_sqR, ↓e_sqB, ↓e_sqC, ↓e_afN, ↓e_afR, ↓e_afB, ↓e_afC, ↓e_rtN, ↓e_rtR, ↓e_var, ↓e_c, ↓e_op, ↓e_un, ↓e_t, ↓e_nt, ↓e_anT, ↓e_orT, ↓e_and, ↓e_or, ↓e_not, ↓e_ite, ↓e_ch, ↓e_nil, ↓e_cons, ↓e_star, ↓e_tup, ↓e_lst, ↓e_mut, ↓e_call, ↓e_isiT, ↓e_lz, ↓e_meth, ↓e_meth0, ↓e_oN, ↓e_oS, ↓e_sl, ↓e_gVar, ↓e_gSub, ↓e_gTp, ↓e_gN, ↓e_gC, ↓e_next, ↓e_seq, ↓e_drop, ↓e_ret, ↓e_retN, ↓e_brk, ↓e_cnt, ↓e_if, ↓e_asg, ↓e_as2, ↓e_as3, ↓e_par, ↓e_aug, ↓e_augS, ↓e_for, ↓e_f0, ↓e_f1, ↓e_while, ↓e_asS1, ↓e_asS2, ↓e_asS3, ↓e_iSeq, ↓e_enum, ↓e_asTI, ↓e_enumC, ↓e_rng1, ↓e_zip, ↓e_zipX, ↓e_comp, ↓e_c0, ↓e_c1, ↓e_y, ↓e_body, ↓e_addI, ↓e_addT, ↓e_addL, ↓e_subI, ↓e_iadd, ↓e_mulI, ↓e_divI, ↓e_modI, ↓e_powI, ↓e_negI, ↓e_mulT, ↓e_mulL, ↓e_cmp, ↓e_eq, ↓e_ne, ↓e_isN, ↓e_isB, ↓e_isNotN, ↓e_isNotB, ↓e_ix, ↓e_abs, ↓e_toI, ↓e_toB1, ↓e_toB0, ↓e_lenT, ↓e_lenL, ↓e_lenRo, ↓e_lenR, ↓e_tupT, ↓e_tupL, ↓e_tupR, ↓e_lstT, ↓e_lstL, ↓e_allM, ↓e_in, ↓e_notIn, ↓e_sum, ↓e_max, ↓e_par3, ↓e_pop, ↓e_frz, ↓e_frzR, ↓e_isi, ↓e_slT, ↓e_slL, ↓e_slRo, ↓e_app, ↓e_ext, ↓e_setM, r_it1, r_it2, r_it3, r_it4, r_ls2, r_ls3, r_ml2, r_ml3, r_mg0, r_mgn, r_at0, r_at1, r_at2, r_at3, r_ix0, r_ix1, r_ix2, r_ty1, r_ty2, r_ty3, r_ty4, r_ty5, r_ty6, r_ty7, r_ty8, r_sNt, r_sNi, r_sNb, r_sNs, r_sbt, r_sbi, r_sbb, r_sbs, r_sit, r_sii, r_sib, r_sis, r_sst, r_ssi, r_ssb, r_sss, r_stt, r_sti, r_stb, r_sts, r_slt, r_sli, r_slb, r_sls, r_aN, r_ab, r_ai, r_as, r_at, r_al, r_eqI, r_eqB, r_eqS, r_pu1, r_pu2, r_eqN, r_fr1, r_fx1, r_fx2, r_fx3, r_bo0, r_bo1, r_c0, r_c1, r_c2, r_c3, r_c4, r_c5, r_c6, r_c7, r_c8, r_c9, r_c10, r_c11, r_c12, r_pd0, r_pd1, r_pd2, r_wi0, r_wi1, List.set_cons_zero, List.set_cons_succ, List.getElem?_cons_zero, List.getElem?_cons_succ, ↓reduceIte, List.length_cons, List.length_nil, Nat.zero_add, Nat.reduceAdd, and_true, true_and, decide_true, decide_false, eq_self, beq_self_eq_true, Bool.true_beq, Bool.false_beq, Bool.not_true, Bool.not_false, Int.reduceEq, Int.reduceLT, Int.reduceLE, Int.reduceAdd, Int.reduceSub, Int.reduceMul, Int.reduceNeg, Bool.not_not, List.append_nil, List.nil_append, List.cons_append, z_int, z_bl, z_non, z_tup, z_lst, z_str, z_lint, z_lbl, z_lnon, z_ltup, z_llst, z_lstr, z_whole, hsum, List.length_map, hpl]
    refine ⟨le_sz (by omega), comp_evm (itD (vD .num)) (fun p => .int (p.2 : Nat)) (t.pre 0) (fun p hp => ?_) ?_⟩
    · simp (config := {dsimp := false}) only [↓e_pr, ↓e_some, ↓e_an, ↓e_brT, ↓e_brF, ↓e_asB, ↓e_asI, ↓e_asV, ↓e_stE, ↓e_stE0, ↓e_stL, ↓e_stL0, ↓e_sqN, ↓e_sqR, ↓e_sqB, ↓e_sqC, ↓e_afN, ↓e_afR, ↓e_afB, ↓e_afC, ↓e_rtN, ↓e_rtR, ↓e_var, ↓e_c, ↓e_op, ↓e_un, ↓e_t, ↓e_nt, ↓e_anT, ↓e_orT, ↓e_and, ↓e_or, ↓e_not, ↓e_ite, ↓e_ch, ↓e_nil, ↓e_cons, ↓e_star, ↓e_tup, ↓e_lst, ↓e_mut, ↓e_call, ↓e_isiT, ↓e_lz, ↓e_meth, ↓e_meth0, ↓e_oN, ↓e_oS, ↓e_sl, ↓e_gVar, ↓e_gSub, ↓e_gTp, ↓e_gN, ↓e_gC, ↓e_next, ↓e_seq, ↓e_drop, ↓e_ret, ↓e_retN, ↓e_brk, ↓e_cnt, ↓e_if, ↓e_asg, ↓e_as2, ↓e_as3, ↓e_par, ↓e_aug, ↓e_augS, ↓e_for, ↓e_f0, ↓e_f1, ↓e_while, ↓e_asS1, ↓e_asS2, ↓e_asS3, ↓e_iSeq, ↓e_enum, ↓e_asTI, ↓e_enumC, ↓e_rng1, ↓e_zip, ↓e_zipX, ↓e_comp, ↓e_c0, ↓e_c1, ↓e_y, ↓e_body, ↓e_addI, ↓e_addT, ↓e_addL, ↓e_subI, ↓e_iadd, ↓e_mulI, ↓e_divI, ↓e_modI, ↓e_powI, ↓e_negI, ↓e_mulT, ↓e_mulL, ↓e_cmp, ↓e_eq, ↓e_ne, ↓e_isN, ↓e_isB, ↓e_isNotN, ↓e_isNotB, ↓e_ix, ↓e_abs, ↓e_toI, ↓e_toB1, ↓e_toB0, ↓e_lenT, ↓e_lenL, ↓e_lenRo, ↓e_lenR, ↓e_tupT, ↓e_tupL, ↓e_tupR, ↓e_lstT, ↓e_lstL, ↓e_allM, ↓e_in, ↓e_notIn, ↓e_sum, ↓e_max, ↓e_par3, ↓e_pop, ↓e_frz, ↓e_frzR, ↓e_isi, ↓e_slT, ↓e_slL, ↓e_slRo, ↓e_app, ↓e_ext, ↓e_setM, r_it1, r_it2, r_it3, r_it4, r_ls2, r_ls3, r_ml2, r_ml3, r_mg0, r_mgn, r_at0, r_at1, r_at2, r_at3, r_ix0, r_ix1, r_ix2, r_ty1, r_ty2, r_ty3, r_ty4, r_ty5, r_ty6, r_ty7, r_ty8, r_sNt, r_sNi, r_sNb, r_sNs, r_sbt, r_sbi, r_sbb, r_sbs, r_sit, r_sii, r_sib, r_sis, r_sst, r_ssi, r_ssb, r_sss, r_stt, r_sti, r_stb, r_sts, r_slt, r_sli, r_slb, r_sls, r_aN, r_ab, r_ai, r_as, r_at, r_al, r_eqI, r_eqB, r_eqS, r_pu1, r_pu2, r_eqN, r_fr1, r_fx1, r_fx2, r_fx3, r_bo0, r_bo1, r_c0, r_c1, r_c2, r_c3, r_c4, r_c5, r_c6, r_c7, r_c8, r_c9, r_c10, r_c11, r_c12, r_pd0, r_pd1, r_pd2, r_wi0, r_wi1, List.set_cons_zero, List.set_cons_succ, List.getElem?_cons_zero, List.getElem?_cons_succ, ↓reduceIte, List.length_cons, List.length_nil, Nat.zero_add, Nat.reduceAdd, and_true, true_and, decide_true, decide_false, eq_self, beq_self_eq_true, Bool.true_beq, Bool.false_beq, Bool.not_true, Bool.not_false, Int.reduceEq, Int.reduceLT, Int.reduceLE, Int.reduceAdd, Int.reduceSub, Int.reduceMul, Int.reduceNeg, Bool.not_not, List.append_nil, List.nil_append, List.cons_append, z_int, z_bl, z_non, z_tup, z_lst, z_str, z_lint, z_lbl, z_lnon, z_ltup, z_llst, z_lstr, z_whole]
    have e2 : (t.pre 0).map (fun p => D.int (p.2 : Nat)) = ((t.pre 0).map fun p => ((p.2 : Nat) : Int)).map D.int := by rw [List.map_map]; rfl
    have e3 : ((t.pre 0).map fun p => ((p.2 : Nat) : Int)).sum = (dsum t : Int) := by
      unfold dsum
      rw [← sum_cast, List.map_map]; rfl
    rw [e2]
    simp (config := {dsimp := false}) only [↓e_pr, ↓e_some, ↓e_an, ↓e_brT, ↓e_brF, ↓e_asB, ↓e_asI, ↓e_asV, ↓e_stE, ↓e_stE0, ↓e_stL, ↓e_stL0, ↓e_sqN, ↓e_sqR, ↓e_sqB, ↓e_sqC, ↓e_afN, ↓e_afR, ↓e_afB, ↓e_afC, ↓e_rtN, ↓e_rtR, ↓e_var, ↓e_c, ↓e_op, ↓e_un, ↓e_t, ↓e_nt, ↓e_anT, ↓e_orT, ↓e_and, ↓e_or, ↓e_not, ↓e_ite, ↓e_ch, ↓e_nil, ↓e_cons, ↓e_star, ↓e_tup, ↓e_lst, ↓e_mut, ↓e_call, ↓e_isiT, ↓e_lz, ↓e_meth, ↓e_meth0, ↓e_oN, ↓e_oS, ↓e_sl, ↓e_gVar, ↓e_gSub, ↓e_gTp, ↓e_gN, ↓e_gC, ↓e_next, ↓e_seq, ↓e_drop, ↓e_ret, ↓e_retN, ↓e_brk, ↓e_cnt, ↓e_if, ↓e_asg, ↓e_as2, ↓e_as3, ↓e_par, ↓e_aug, ↓e_augS, ↓e_for, ↓e_f0, ↓e_f1, ↓e_while, ↓e_asS1, ↓e_asS2, ↓e_asS3, ↓e_iSeq, ↓e_enum, ↓e_asTI, ↓e_enumC, ↓e_rng1, ↓e_zip, ↓e_zipX, ↓e_comp, ↓e_c0, ↓e_c1, ↓e_y, ↓e_body, ↓e_addI, ↓e_addT, ↓e_addL, ↓e_subI, ↓e_iadd, ↓e_mulI, ↓e_divI, ↓e_modI, ↓e_powI, ↓e_negI, ↓e_mulT, ↓e_mulL, ↓e_cmp, ↓e_eq, ↓e_ne, ↓e_isN, ↓e_isB, ↓e_isNotN, ↓e_isNotB, ↓e_ix, ↓e_abs, ↓e_toI, ↓e_toB1, ↓e_toB0, ↓e_lenT, ↓e_lenL, ↓e_lenRo, ↓e_lenR, ↓e_tupT, ↓e_tupL, ↓e_tupR, ↓e_lstT, ↓e_lstL, ↓e_allM, ↓e_in, ↓e_notIn, ↓e_sum, ↓e_max, ↓e_par3, ↓e_pop, ↓e_frz, ↓e_frzR, ↓e_isi, ↓e_slT, ↓e_slL, ↓e_slRo, ↓e_app, ↓e_ext, ↓e_setM, r_it1, r_it2, r_it3, r_it4, r_ls2, r_ls3, r_ml2, r_ml3, r_mg0, r_mgn, r_at0, r_at1, r_at2, r_at3, r_ix0, r_ix1, r_ix2, r_ty1, r_ty2, r_ty3, r_ty4, r_ty5, r_ty6, r_ty7, r_ty8, r_sNt, r_sNi, r_sNb, r_sNs, r_sbt, r_sbi, r_sbb, r_sbs, r_sit, r_sii, r_sib, r_sis, r_sst, r_ssi, r_ssb, r_sss, r_stt, r_sti, r_stb, r_sts, r_slt, r_sli, r_slb, r_sls, r_aN, r_ab, r_ai, r_as, r_at, r_al, r_eqI, r_eqB, r_eqS, r_pu1, r_pu2, r_eqN, r_fr1, r_fx1, r_fx2, r_fx3, r_bo0, r_bo1, r_c0, r_c1, r_c2, r_c3, r_c4, r_c5, r_c6, r_c7, r_c8, r_c9, r_c10, r_c11, r_c12, r_pd0, r_pd1, r_pd2, r_wi0, r_wi1, List.set_cons_zero, List.set_cons_succ, List.getElem?_cons_zero, List.getElem?_cons_succ, ↓reduceIte, List.length_cons, List.length_nil, Nat.zero_add, Nat.reduceAdd, and_true, true_and, decide_true, decide_false, eq_self, beq_self_eq_true, Bool.true_beq, Bool.false_beq, Bool.not_true, Bool.not_false, Int.reduceEq, Int.reduceLT, Int.reduceLE, Int.reduceAdd, Int.reduceSub, Int.reduceMul, Int.reduceNeg, Bool.not_not, List.append_nil, List.nil_append, List.cons_append, z_int, z_bl, z_non, z_tup, z_lst, z_str, z_lint, z_lbl, z_lnon, z_ltup, z_llst, z_lstr, z_whole, intsOf_map, e3, List.length_map, hpl, hlp, q_plus hlin hsb (by omega)]
    exact ⟨z ++ z2, List.append_assoc ..⟩
theorem pot_num {a : An .num} {x : Vt .num} {r : Nat} {h : Sto} (hr : 0 < r) : Ev (recF 7 b_potential r [kD .num, aD .num a, vD .num x] h) fun d h' => d = qD 0 ∧ ∃ z, h' = h ++ z := by
  obtain ⟨r, rfl⟩ : ∃ n, r = n + 1 := ⟨r - 1, by omega⟩
  refine rec_iff.mpr ?_
  unfold b_potential
  simp (config := {dsimp := false}) only [↓e_pr, ↓e_some, ↓e_an, ↓e_brT, ↓e_brF, ↓e_asB, ↓e_asI, ↓e_asV, ↓e_stE, ↓e_stE0, ↓e_stL, ↓e_stL0, ↓e_sqN, ↓e_sqR, ↓e_sqB, ↓e_sqC, ↓e_afN, ↓e_afR, ↓e_afB, ↓e_afC, ↓e_rtN, ↓e_rtR, ↓e_var, ↓e_c, ↓e_op, ↓e_un, ↓e_t, ↓e_nt, ↓e_anT, ↓e_orT, ↓e_and, ↓e_or, ↓e_not, ↓e_ite, ↓e_ch, ↓e_nil, ↓e_cons, ↓e_star, ↓e_tup, ↓e_lst, ↓e_mut, ↓e_call, ↓e_isiT, ↓e_lz, ↓e_meth, ↓e_meth0, ↓e_oN, ↓e_oS, ↓e_sl, ↓e_gVar, ↓e_gSub, ↓e_gTp, ↓e_gN, ↓e_gC, ↓e_next, ↓e_seq, ↓e_drop, ↓e_ret, ↓e_retN, ↓e_brk, ↓e_cnt, ↓e_if, ↓e_asg, ↓e_as2, ↓e_as3, ↓e_par, ↓e_aug, ↓e_augS, ↓e_for, ↓e_f0, ↓e_f1, ↓e_while, ↓e_asS1, ↓e_asS2, ↓e_asS3, ↓e_iSeq, ↓e_enum, ↓e_asTI, ↓e_enumC, ↓e_rng1, ↓e_zip, ↓e_zipX, ↓e_comp, ↓e_c0, ↓e_c1, ↓e_y, ↓e_body, ↓e_addI, ↓e_addT, ↓e_addL, ↓e_subI, ↓e_iadd, ↓e_mulI, ↓e_divI, ↓e_modI, ↓e_powI, ↓e_negI, ↓e_mulT, ↓e_mulL, ↓e_cmp, ↓e_eq, ↓e_ne, ↓e_isN, ↓e_isB, ↓e_isNotN, ↓e_isNotB, ↓e_ix, ↓e_abs, ↓e_toI, ↓e_toB1, ↓e_toB0, ↓e_lenT, ↓e_lenL, ↓e_lenRo, ↓e_lenR, ↓e_tupT, ↓e_tupL, ↓e_tupR, ↓e_lstT, ↓e_lstL, ↓e_allM, ↓e_in, ↓e_notIn, ↓e_sum, ↓e_max, ↓e_par3, ↓e_pop, ↓e_frz, ↓e_frzR, ↓e_isi, ↓e_slT, ↓e_slL, ↓e_slRo, ↓e_app, ↓e_ext, ↓e_setM, r_it1, r_it2, r_it3, r_it4, r_ls2, r_ls3, r_ml2, r_ml3, r_mg0, r_mgn, r_at0, r_at1, r_at2, r_at3, r_ix0, r_ix1, r_ix2, r_ty1, r_ty2, r_ty3, r_ty4, r_ty5, r_ty6, r_ty7, r_ty8, r_sNt, r_sNi, r_sNb, r_sNs, r_sbt, r_sbi, r_sbb, r_sbs, r_sit, r_sii, r_sib, r_sis, r_sst, r_ssi, r_ssb, r_sss, r_stt, r_sti, r_stb, r_sts, r_slt, r_sli, r_slb, r_sls, r_aN, r_ab, r_ai, r_as, r_at, r_al, r_eqI, r_eqB, r_eqS, r_pu1, r_pu2, r_eqN, r_fr1, r_fx1, r_fx2, r_fx3, r_bo0, r_bo1, r_c0, r_c1, r_c2, r_c3, r_c4, r_c5, r_c6, r_c7, r_c8, r_c9, r_c10, r_c11, r_c12, r_pd0, r_pd1, r_pd2, r_wi0, r_wi1, List.set_cons_zero, List.set_cons_succ, List.getElem?_cons_zero, List.getElem?_cons_succ, ↓reduceIte, List.length_cons, List.length_nil, Nat.zero_add, Nat.reduceAdd, and_true, true_and, decide_true, decide_false, eq_self, beq_self_eq_true, Bool.true_beq, Bool.false_beq, Bool.not_true, Bool.not_false, Int.reduceEq, Int.reduceLT, Int.reduceLE, Int.reduceAdd, Int.reduceSub, Int.reduceMul, Int.reduceNeg, Bool.not_not, List.append_nil, List.nil_append, List.cons_append, z_int, z_bl, z_non, z_tup, z_lst, z_str, z_lint, z_lbl, z_lnon, z_ltup, z_llst, z_lstr, z_whole, kD, w_nn]
  exact ⟨rfl, [], (List.append_nil h).symm⟩
theorem sp_potential {c g : Nat} (hc : c ≤ 50) (g1 : 1 ≤ g) (g2 : g ≤ 2) : ∀ (k : Kd) (a : An k) (v : Vt k) (r : Nat) (h : Sto), dep k < r → TN k → AFit g k a → (∀ q ∈ nums k a, BQ c q) → VOk k v → bits c k ≤ 2000 →
    Ev (recF 7 b_potential r [kD k, aD k a, vD k v] h) fun d h' => d = qD (pot k a v) ∧ ∃ z, h' = h ++ z
  | .num, a, v, r + 1, h, _, _, _, _, _, _ => by
    refine rec_iff.mpr ?_
    unfold b_potential
    simp (config := {dsimp := false}) only [↓e_pr, ↓e_some, ↓e_an, ↓e_brT, ↓e_brF, ↓e_asB, ↓e_asI, ↓e_asV, ↓e_stE, ↓e_stE0, ↓e_stL, ↓e_stL0, ↓e_sqN, ↓e_sqR, ↓e_sqB, ↓e_sqC, ↓e_afN, ↓e_afR, ↓e_afB, ↓e_afC, ↓e_rtN, ↓e_rtR, ↓e_var, ↓e_c, ↓e_op, ↓e_un, ↓e_t, ↓e_nt, ↓e_anT, ↓e_orT, ↓e_and, ↓e_or, ↓e_not, ↓e_ite, ↓e_ch, ↓e_nil, ↓e_cons, ↓e_star, ↓e_tup, ↓e_lst, ↓e_mut, ↓e_call, ↓e_isiT, ↓e_lz, ↓e_meth, ↓e_meth0, ↓e_oN, ↓e_oS, ↓e_sl, ↓e_gVar, ↓e_gSub, ↓e_gTp, ↓e_gN, ↓e_gC, ↓e_next, ↓e_seq, ↓e_drop, ↓e_ret, ↓e_retN, ↓e_brk, ↓e_cnt, ↓e_if, ↓e_asg, ↓e_as2, ↓e_as3, ↓e_par, ↓e_aug, ↓e_augS, ↓e_for, ↓e_f0, ↓e_f1, ↓e_while, ↓e_asS1, ↓e_asS2, ↓e_asS3, ↓e_iSeq, ↓e_enum, ↓e_asTI, ↓e_enumC, ↓e_rng1, ↓e_zip, ↓e_zipX, ↓e_comp, ↓e_c0, ↓e_c1, ↓e_y, ↓e_body, ↓e_addI, ↓e_addT, ↓e_addL, ↓e_subI, ↓e_iadd, ↓e_mulI, ↓e_divI, ↓e_modI, ↓e_powI, ↓e_negI, ↓e_mulT, ↓e_mulL, ↓e_cmp, ↓e_eq, ↓e_ne, ↓e_isN, ↓e_isB, ↓e_isNotN, ↓e_isNotB, ↓e_ix, ↓e_abs, ↓e_toI, ↓e_toB1, ↓e_toB0, ↓e_lenT, ↓e_lenL, ↓e_lenRo, ↓e_lenR, ↓e_tupT, ↓e_tupL, ↓e_tupR, ↓e_lstT, ↓e_lstL, ↓e_allM, ↓e_in, ↓e_notIn, ↓e_sum, ↓e_max, ↓e_par3, ↓e_pop, ↓e_frz, ↓e_frzR, ↓e_isi, ↓e_slT, ↓e_slL, ↓e_slRo, ↓e_app, ↓e_ext, ↓e_setM, r_it1, r_it2, r_it3, r_it4, r_ls2, r_ls3, r_ml2, r_ml3, r_mg0, r_mgn, r_at0, r_at1, r_at2, r_at3, r_ix0, r_ix1, r_ix2, r_ty1, r_ty2, r_ty3, r_ty4, r_ty5, r_ty6, r_ty7, r_ty8, r_sNt, r_sNi, r_sNb, r_sNs, r_sbt, r_sbi, r_sbb, r_sbs, r_sit, r_sii, r_sib, r_sis, r_sst, r_ssi, r_ssb, r_sss, r_stt, r_sti, r_stb, r_sts, r_slt, r_sli, r_slb, r_sls, r_aN, r_ab, r_ai, r_as, r_at, r_al, r_eqI, r_eqB, r_eqS, r_pu1, r_pu2, r_eqN, r_fr1, r_fx1, r_fx2, r_fx3, r_bo0, r_bo1, r_c0, r_c1, r_c2, r_c3, r_c4, r_c5, r_c6, r_c7, r_c8, r_c9, r_c10, r_c11, r_c12, r_pd0, r_pd1, r_pd2, r_wi0, r_wi1, List.set_cons_zero, List.set_cons_succ, List.getElem?_cons_zero, List.getElem?_cons_succ, ↓reduceIte, List.length_cons, List.length_nil, Nat.zero_add, Nat.reduceAdd, and_true, true_and, decide_true, decide_false, eq_self, beq_self_eq_true, Bool.true_beq, Bool.false_beq, Bool.not_true, Bool.not_false, Int.reduceEq, Int.reduceLT, Int.reduceLE, Int.reduceAdd, Int.reduceSub, Int.reduceMul, Int.reduceNeg, Bool.not_not, List.append_nil, List.nil_append, List.cons_append, z_int, z_bl, z_non, z_tup, z_lst, z_str, z_lint, z_lbl, z_lnon, z_ltup, z_llst, z_lstr, z_whole, kD, w_nn]
    exact ⟨rfl, [], (List.append_nil h).symm⟩
  | .lst k, a, v, r + 1, h, hr, ht, hf, ha, hv, hb => by
    rw [dep] at hr
    have hb' := hb
    rw [bits] at hb'
    exact rec_iff.mpr (pot_lst (l := v) hc (by rw [hf.1]; exact g1) (by rw [hf.1]; exact g2) (fun q hq => ha q (List.mem_append_left _ hq)) hv.1 (fun x hx => pot_bq k a.2 x (fun q hq => ha q (List.mem_append_right _ hq)) (hv.2 x hx)) hb
      fun x hx h => sp_potential hc g1 g2 k a.2 x r h (by omega) ht hf.2 (fun q hq => ha q (List.mem_append_right _ hq)) (hv.2 x hx) (by omega))
  | .tre k, a, v, r + 1, h, hr, ht, hf, ha, hv, hb => by
    have ht : k = .num := ht
    subst ht
    rw [dep] at hr
    exact rec_iff.mpr (pot_tre (t := v) hc (by rw [hf.1]; exact g1) (by rw [hf.1]; exact g2) (fun q hq => ha q (List.mem_append_left _ hq)) hv.1 hv.2.2
      fun x h => pot_num (a := ()) (by omega))
  | .par x y, a, v, r + 1, h, hr, ht, hf, ha, hv, hb => by
    rw [dep] at hr
    have hb' := hb
    rw [bits] at hb'
    have p1 := pot_bq x a.1 v.1 (fun q hq => ha q (List.mem_append_left _ hq)) hv.1
    have p2 := pot_bq y a.2 v.2 (fun q hq => ha q (List.mem_append_right _ hq)) hv.2
    have ih1 := fun h => sp_potential hc g1 g2 x a.1 v.1 r h (by omega) ht.1 hf.1 (fun q hq => ha q (List.mem_append_left _ hq)) hv.1 (by omega)
    have ih2 := fun h => sp_potential hc g1 g2 y a.2 v.2 r h (by omega) ht.2 hf.2 (fun q hq => ha q (List.mem_append_right _ hq)) hv.2 (by omega)
    refine rec_iff.mpr ?_
    generalize recF 7 b_potential r = me at ih1 ih2 ⊢
    unfold b_potential
    simp (config := {dsimp := false}) only [↓e_pr, ↓e_some, ↓e_an, ↓e_brT, ↓e_brF, ↓e_asB, ↓e_asI, ↓e_asV, ↓e_stE, ↓e_stE0, ↓e_stL, ↓e_stL0, ↓e_sqN, ↓e_sqR, ↓e_sqB, ↓e_sqC, ↓e_afN, ↓e_afR, ↓e_afB, ↓e_afC, ↓e_rtN, ↓e_rtR, ↓e_var, ↓e_c, ↓e_op, ↓e_un, ↓e_t, ↓e_nt, ↓e_anT, ↓e_orT, ↓e_and, ↓e_or, ↓e_not, ↓e_ite, ↓e_ch, ↓e_nil, ↓e_cons, ↓e_star, ↓e_tup, ↓e_lst, ↓e_mut, ↓e_call, ↓e_isiT, ↓e_lz, ↓e_meth, ↓e_meth0, ↓e_oN, ↓e_oS, ↓e_sl, ↓e_gVar, ↓e_gSub, ↓e_gTp, ↓e_gN, ↓e_gC, ↓e_next, ↓e_seq, ↓e_drop, ↓e_ret, ↓e_retN, ↓e_brk, ↓e_cnt, ↓e_if, ↓e_asg, ↓e_as2, ↓e_as3, ↓e_par, ↓e_aug, ↓e_augS, ↓e_for, ↓e_f0, ↓e_f1, ↓e_while, ↓e_asS1, ↓e_asS2, ↓e_asS3, ↓e_iSeq, ↓e_enum, ↓e_asTI, ↓e_enumC, ↓e_rng1, ↓e_zip, ↓e_zipX, ↓e_comp, ↓e_c0, ↓e_c1, ↓e_y, ↓e_body, ↓e_addI, ↓e_addT, ↓e_addL, ↓e_subI, ↓e_iadd, ↓e_mulI, ↓e_divI, ↓e_modI, ↓e_powI, ↓e_negI, ↓e_mulT, ↓e_mulL, ↓e_cmp, ↓e_eq, ↓e_ne, ↓e_isN, ↓e_isB, ↓e_isNotN, ↓e_isNotB, ↓e_ix, ↓e_abs, ↓e_toI, ↓e_toB1, ↓e_toB0, ↓e_lenT, ↓e_lenL, ↓e_lenRo, ↓e_lenR, ↓e_tupT, ↓e_tupL, ↓e_tupR, ↓e_lstT, ↓e_lstL, ↓e_allM, ↓e_in, ↓e_notIn, ↓e_sum, ↓e_max, ↓e_par3, ↓e_pop, ↓e_frz, ↓e_frzR, ↓e_isi, ↓e_slT, ↓e_slL, ↓e_slRo, ↓e_app, ↓e_ext, ↓e_setM, r_it1, r_it2, r_it3, r_it4, r_ls2, r_ls3, r_ml2, r_ml3, r_mg0, r_mgn, r_at0, r_at1, r_at2, r_at3, r_ix0, r_ix1, r_ix2, r_ty1, r_ty2, r_ty3, r_ty4, r_ty5, r_ty6, r_ty7, r_ty8, r_sNt, r_sNi, r_sNb, r_sNs, r_sbt, r_sbi, r_sbb, r_sbs, r_sit, r_sii, r_sib, r_sis, r_sst, r_ssi, r_ssb, r_sss, r_stt, r_sti, r_stb, r_sts, r_slt, r_sli, r_slb, r_sls, r_aN, r_ab, r_ai, r_as, r_at, r_al, r_eqI, r_eqB, r_eqS, r_pu1, r_pu2, r_eqN, r_fr1, r_fx1, r_fx2, r_fx3, r_bo0, r_bo1, r_c0, r_c1, r_c2, r_c3, r_c4, r_c5, r_c6, r_c7, r_c8, r_c9, r_c10, r_c11, r_c12, r_pd0, r_pd1, r_pd2, r_wi0, r_wi1, List.set_cons_zero, List.set_cons_succ, List.getElem?_cons_zero, List.getElem?_cons_succ, ↓reduceIte, List.length_cons, List.length_nil, Nat.zero_add, Nat.reduceAdd, and_true, true_and, decide_true, decide_false, eq_self, beq_self_eq_true, Bool.true_beq, Bool.false_beq, Bool.not_true, Bool.not_false, Int.reduceEq, Int.reduceLT, Int.reduceLE, Int.reduceAdd, Int.reduceSub, Int.reduceMul, Int.reduceNeg, Bool.not_not, List.append_nil, List.nil_append, List.cons_append, z_int, z_bl, z_non, z_tup, z_lst, z_str, z_lint, z_lbl, z_lnon, z_ltup, z_llst, z_lstr, z_whole, kD, aD, vD, w_pn, w_pl, w_pt]
    refine (ih1 h).mono ?_
    rintro d h1 ⟨rfl, z, rfl⟩
    simp (config := {dsimp := false}) only [↓e_pr, ↓e_some, ↓e_an, ↓e_brT, ↓e_brF, ↓e_asB, ↓e_asI, ↓e_asV, ↓e_stE, ↓e_stE0, ↓e_stL, ↓e_stL0, ↓e_sqN, ↓e_sqR, ↓e_sqB, ↓e_sqC, ↓e_afN, ↓e_afR, ↓e_afB, ↓e_afC, ↓e_rtN, ↓e_rtR, ↓e_var, ↓e_c, ↓e_op, ↓e_un, ↓e_t, ↓e_nt, ↓e_anT, ↓e_orT, ↓e_and, ↓e_or, ↓e_not, ↓e_ite, ↓e_ch, ↓e_nil, ↓e_cons, ↓e_star, ↓e_tup, ↓e_lst, ↓e_mut, ↓e_call, ↓e_isiT, ↓e_lz, ↓e_meth, ↓e_meth0, ↓e_oN, ↓e_oS, ↓e_sl, ↓e_gVar, ↓e_gSub, ↓e_gTp, ↓e_gN, ↓e_gC, ↓e_next, ↓e_seq, ↓e_drop, ↓e_ret, ↓e_retN, ↓e_brk, ↓e_cnt, ↓e_if, ↓e_asg, ↓e_as2, ↓e_as3, ↓e_par, ↓e_aug, ↓e_augS, ↓e_for, ↓e_f0, ↓e_f1, ↓e_while, ↓e_asS1, ↓e_asS2, ↓e_asS3, ↓e_iSeq, ↓e_enum, ↓e_asTI, ↓e_enumC, ↓e_rng1, ↓e_zip, ↓e_zipX, ↓e_comp, ↓e_c0, ↓e_c1, ↓e_y, ↓e_body, ↓e_addI, ↓e_addT, ↓e_addL, ↓e_subI, ↓e_iadd, ↓e_mulI, ↓e_divI, ↓e_modI, ↓e_powI, ↓e_negI, ↓e_mulT, ↓e_mulL, ↓e_cmp, ↓e_eq, ↓e_ne, ↓e_isN, ↓e_isB, ↓e_isNotN, ↓e_isNotB, ↓e_ix, ↓e_abs, ↓e_toI, ↓e_toB1, ↓e_toB0, ↓e_lenT, ↓e_lenL, ↓e_lenRo, ↓e_lenR, ↓e_tupT, ↓e_tupL, ↓e_tupR, ↓e_lstT, ↓e_lstL, ↓e_allM, ↓e_in, ↓e_notIn, ↓e_sum, ↓e_max, ↓e_par3, ↓e_pop, ↓e_frz, ↓e_frzR, ↓e_isi, ↓e_slT, ↓e_slL, ↓e_slRo, ↓e_app, ↓e_ext, ↓e_setM, r_it1, r_it2, r_it3, r_it4, r_ls2, r_ls3, r_ml2, r_ml3, r_mg0, r_mgn, r_at0, r_at1, r_at2, r_at3, r_ix0, r_ix1, r_ix2, r_ty1, r_ty2, r_ty3, r_ty4, r_ty5, r_ty6, r_ty7, r_ty8, r_sNt, r_sNi, r_sNb, r_sNs, r_sbt, r_sbi, r_sbb, r_sbs, r_sit, r_sii, r_sib, r_sis, r_sst, r_ssi, r_ssb, r_sss, r_stt, r_sti, r_stb, r_sts, r_slt, r_sli, r_slb, r_sls, r_aN, r_ab, r_ai, r_as, r_at, r_al, r_eqI, r_eqB, r_eqS, r_pu1, r_pu2, r_eqN, r_fr1, r_fx1, r_fx2, r_fx3, r_bo0, r_bo1, r_c0, r_c1, r_c2, r_c3, r_c4, r_c5, r_c6, r_c7, r_c8, r_c9, r_c10, r_c11, r_c12, r_pd0, r_pd1, r_pd2, r_wi0, r_wi1, List.set_cons_zero, List.set_cons_succ, List.getElem?_cons_zero, List.getElem?_cons_succ, ↓reduceIte, List.length_cons, List.length_nil, Nat.zero_add, Nat.reduceAdd, and_true, true_and, decide_true, decide_false, eq_self, beq_self_eq_true, Bool.true_beq, Bool.false_beq, Bool.not_true, Bool.not_false, Int.reduceEq, Int.reduceLT, Int.reduceLE, Int.reduceAdd, Int.reduceSub, Int.reduceMul, Int.reduceNeg, Bool.not_not, List.append_nil, List.nil_append, List.cons_append, z_int, z_bl, z_non, z_tup, z_lst, z_str, z_lint, z_lbl, z_lnon, z_ltup, z_llst, z_lstr, z_whole]
    refine (ih2 _).mono ?_
    rintro d h1 ⟨rfl, z2, rfl⟩
    simp (config := {dsimp := false}) only [↓e_pr, ↓e_some, ↓e_an, ↓e_brT, ↓e_brF, ↓e_asB, ↓e_asI, ↓e_asV, ↓e_stE, ↓e_stE0, ↓e_stL, ↓e_stL0, ↓e_sqN, ↓e_sqR, ↓e_sqB, ↓e_sqC, ↓e_afN, ↓e_afR, ↓e_afB, ↓e_afC, ↓e_rtN, ↓e_rtR, ↓e_var, ↓e_c, ↓e_op, ↓e_un, ↓e_t, ↓e_nt, ↓e_anT, ↓e_orT, ↓e_and, ↓e_or, ↓e_not, ↓e_ite, ↓e_ch, ↓e_nil, ↓e_cons, ↓e_star, ↓e_tup, ↓e_lst, ↓e_mut, ↓e_call, ↓e_isiT, ↓e_lz, ↓e_meth, ↓e_meth0, ↓e_oN, ↓e_oS, ↓e_sl, ↓e_gVar, ↓e_gSub, ↓e_gTp, ↓e_gN, ↓e_gC, ↓e_next, ↓e_seq, ↓e_drop, ↓e_ret, ↓e_retN, ↓e_brk, ↓e_cnt, ↓e_if, ↓e_asg, ↓e_as2, ↓e_as3, ↓e_par, ↓e_aug, ↓e_augS, ↓e_for, ↓e_f0, ↓e_f1, ↓e_while, ↓e_asS1, ↓e_asS2, ↓e_asS3, ↓e_iSeq, ↓e_enum, ↓e_asTI, ↓e_enumC, ↓e_rng1, ↓e_zip, ↓e_zipX, ↓e_comp, ↓e_c0, ↓e_c1, ↓e_y, ↓e_body, ↓e_addI, ↓e_addT, ↓e_addL, ↓e_subI, ↓e_iadd, ↓e_mulI, ↓e_divI, ↓e_modI, ↓e_powI, ↓e_negI, ↓e_mulT, ↓e_mulL, ↓e_cmp, ↓e_eq, ↓e_ne, ↓e_isN, ↓e_isB, ↓e_isNotN, ↓e_isNotB, ↓e_ix, ↓e_abs, ↓e_toI, ↓e_toB1, ↓e_toB0, ↓e_lenT, ↓e_lenL, ↓e_lenRo, ↓e_lenR, ↓e_tupT, ↓e_tupL, ↓e_tupR, ↓e_lstT, ↓e_lstL, ↓e_allM, ↓e_in, ↓e_notIn, ↓e_sum, ↓e_max, ↓e_par3, ↓e_pop, ↓e_frz, ↓e_frzR, ↓e_isi, ↓e_slT, ↓e_slL, ↓e_slRo, ↓e_app, ↓e_ext, ↓e_setM, r_it1, r_it2, r_it3, r_it4, r_ls2, r_ls3, r_ml2, r_ml3, r_mg0, r_mgn, r_at0, r_at1, r_at2, r_at3, r_ix0, r_ix1, r_ix2, r_ty1, r_ty2, r_ty3, r_ty4, r_ty5, r_ty6, r_ty7, r_ty8, r_sNt, r_sNi, r_sNb, r_sNs, r_sbt, r_sbi, r_sbb, r_sbs, r_sit, r_sii, r_sib, r_sis, r_sst, r_ssi, r_ssb, r_sss, r_stt, r_sti, r_stb, r_sts, r_slt, r_sli, r_slb, r_sls, r_aN, r_ab, r_ai, r_as, r_at, r_al, r_eqI, r_eqB, r_eqS, r_pu1, r_pu2, r_eqN, r_fr1, r_fx1, r_fx2, r_fx3, r_bo0, r_bo1, r_c0, r_c1, r_c2, r_c3, r_c4, r_c5, r_c6, r_c7, r_c8, r_c9, r_c10, r_c11, r_c12, r_pd0, r_pd1, r_pd2, r_wi0, r_wi1, List.set_cons_zero, List.set_cons_succ, List.getElem?_cons_zero, List.getElem?_cons_succ, ↓reduceIte, List.length_cons, List.length_nil, Nat.zero_add, Nat.reduceAdd, and_true, true_and, decide_true, decide_false, eq_self, beq_self_eq_true, Bool.true_beq, Bool.false_beq, Bool.not_true, Bool.not_false, Int.reduceEq, Int.reduceLT, Int.reduceLE, Int.reduceAdd, Int.reduceSub, Int.reduceMul, Int.reduceNeg, Bool.not_not, List.append_nil, List.nil_append, List.cons_append, z_int, z_bl, z_non, z_tup, z_lst, z_str, z_lint, z_lbl, z_lnon, z_ltup, z_llst, z_lstr, z_whole, q_plus p1 p2 (by omega)]
    exact ⟨rfl, z ++ z2, List.append_assoc ..⟩

end K19
namespace K19
open Sh ShR Iv PySem PySem.Spec PyProof.Rows L2
theorem sum_perm {l m : List Rat} (p : l.Perm m) : l.sum = m.sum := by
  induction p with
  | nil => rfl
  | cons x _ ih => rw [List.sum_cons, List.sum_cons, ih]
  | swap x y l => rw [List.sum_cons, List.sum_cons, List.sum_cons, List.sum_cons, Rat.add_left_comm]
  | trans _ _ h1 h2 => exact h1.trans h2
theorem nsum_perm {l m : List Nat} (p : l.Perm m) : l.sum = m.sum := by
  induction p with
  | nil => rfl
  | cons x _ ih => rw [List.sum_cons, List.sum_cons, ih]
  | swap x y l => rw [List.sum_cons, List.sum_cons, List.sum_cons, List.sum_cons]; omega
  | trans _ _ h1 h2 => exact h1.trans h2

end K19
namespace K19
open Sh ShR Iv PySem PySem.Spec PyProof.Rows L2
/-! ### the law's own potential -/
theorem lp_loop {c : Nat} {k : Kd} {a2 : An k} {me : Fun1} {h : Sto} {s row v i3 i4 : D} {B : Nat} {base : Rat} (l : List (Vt k)) (h5 : l.length ≤ 5) (hb : BQ B base) (hB : B + (bits c k + 1) * 5 + bits c k ≤ 2900) (hqs : ∀ x ∈ l, BQ (bits c k) (pot k a2 x))
    (ih : ∀ x ∈ l, me [kD k, aD k a2, vD k x] h = some (qD (pot k a2 x), h)) (p7 p8 p9 p10 : Option D) : ∀ o6 : Option D,
    EvS (loopF (gVar 6) (sAsg (dCall d_law_add (lCons (dVar 5) (lCons (dCall me (lCons (dOp ixD (dVar 0) (dC (D.int 1))) (lCons (dOp ixD (dVar 1) (dC (D.int 1))) (lCons (dVar 6) lNil)))) lNil))) (gVar 5)) (l.map (vD k))
      [some (.tup [s, kD k]), some (.tup [row, aD k a2]), some v, some i3, some i4, some (qD base), o6, p7, p8, p9, p10] h)
      fun f ρ h' => f = .nx ∧ h' = h ∧ ∃ o6, ρ = [some (.tup [s, kD k]), some (.tup [row, aD k a2]), some v, some i3, some i4, some (qD (base + (l.map (pot k a2)).sum)), o6, p7, p8, p9, p10] := by
  intro o6
  have hqs' : ∀ q ∈ l.map (pot k a2), BQ (bits c k) q := fun q hq => by
    obtain ⟨x, hx, rfl⟩ := List.mem_map.mp hq
    exact hqs x hx
  have h3 := Nat.mul_le_mul_left (bits c k + 1) h5
  have := for_inv (γ := gVar 6) (φ := (sAsg (dCall d_law_add (lCons (dVar 5) (lCons (dCall me (lCons (dOp ixD (dVar 0) (dC (D.int 1))) (lCons (dOp ixD (dVar 1) (dC (D.int 1))) (lCons (dVar 6) lNil)))) lNil))) (gVar 5)))
    (fun i ρ h' => h' = h ∧ ∃ o6, ρ = [some (.tup [s, kD k]), some (.tup [row, aD k a2]), some v, some i3, some i4, some (qD (base + ((l.map (pot k a2)).take i).sum)), o6, p7, p8, p9, p10]) (l.map (vD k)) 0 [some (.tup [s, kD k]), some (.tup [row, aD k a2]), some v, some i3, some i4, some (qD base), o6, p7, p8, p9, p10] h ⟨rfl, o6, by rw [List.take_zero, List.sum_nil, Rat.add_zero]⟩ ?_
  · rw [List.length_map, Nat.zero_add] at this
    refine this.mono ?_
    rintro f ρ h' ⟨rfl, rfl, o, rfl⟩
    refine ⟨rfl, rfl, o, ?_⟩
    rw [List.take_of_length_le (by rw [List.length_map]; omega)]
  · rintro j d ρ h' hd ⟨rfl, o, rfl⟩
    rw [List.getElem?_map] at hd
    obtain ⟨x, hx, rfl⟩ := Option.map_eq_some_iff.mp hd
    have hm := List.mem_of_getElem? hx
    have hsb := sum_take_bq hqs' j
    rw [List.length_map] at hsb
    simp (config := {dsimp := false}) only [↓e_pr, ↓e_some, ↓e_an, ↓e_brT, ↓e_brF, ↓e_asB, ↓e_asI, ↓e_asV, ↓e_stE, ↓e_stE0, ↓e_stL, ↓e_stL0, ↓e_sqN, ↓e_sqR, ↓e_sqB, ↓e_sqC, ↓e_afN, ↓e_afR, ↓e_afB, ↓e_afC, ↓e_rtN, ↓e_rtR, ↓e_var, ↓e_c, ↓e_op, ↓e_un, ↓e_t, ↓e_nt, ↓e_anT, ↓e_orT, ↓e_and, ↓e_or, ↓e_not, ↓e_ite, ↓e_ch, ↓e_nil, ↓e_cons, ↓e_star, ↓e_tup, ↓e_lst, ↓e_mut, ↓e_call, ↓e_isiT, ↓e_lz, ↓e_meth, ↓e_meth0, ↓e_oN, ↓e_oS, ↓e_sl, ↓e_gVar, ↓e_gSub, ↓e_gTp, ↓e_gN, ↓e_gC, ↓e_next, ↓e_seq, ↓e_drop, ↓e_ret, ↓e_retN, ↓e_brk, ↓e_cnt, ↓e_if, ↓e_asg, ↓e_as2, ↓e_as3, ↓e_par, ↓e_aug, ↓e_augS, ↓e_for, ↓e_f0, ↓e_f1, ↓e_while, ↓e_asS1, ↓e_asS2, ↓e_asS3, ↓e_iSeq, ↓e_enum, ↓e_asTI, ↓e_enumC, ↓e_rng1, ↓e_zip, ↓e_zipX, ↓e_comp, ↓e_c0, ↓e_c1, ↓e_y, ↓e_body, ↓e_addI, ↓e_addT, ↓e_addL, ↓e_subI, ↓e_iadd, ↓e_mulI, ↓e_divI, ↓e_modI, ↓e_powI, ↓e_negI, ↓e_mulT, ↓e_mulL, ↓e_cmp, ↓e_eq, ↓e_ne, ↓e_isN, ↓e_isB, ↓e_isNotN, ↓e_isNotB, ↓e_ix, ↓e_abs, ↓e_toI, ↓e_toB1, ↓e_toB0, ↓e_lenT, ↓e_lenL, ↓e_lenRo, ↓e_lenR, ↓e_tupT, ↓e_tupL, ↓e_tupR, ↓e_lstT, ↓e_lstL, ↓e_allM, ↓e_in, ↓e_notIn, ↓e_sum, ↓e_max, ↓e_par3, ↓e_pop, ↓e_frz, ↓e_frzR, ↓e_isi, ↓e_slT, ↓e_slL, ↓e_slRo, ↓e_app, ↓e_ext, ↓e_setM, r_it1, r_it2, r_it3, r_it4, r_ls2, r_ls3, r_ml2, r_ml3, r_mg0, r_mgn, r_at0, r_at1, r_at2, r_at3, r_ix0, r_ix1, r_ix2, r_ty1, r_ty2, r_ty3, r_ty4, r_ty5, r_ty6, r_ty7, r_ty8, r_sNt, r_sNi, r_sNb, r_sNs, r_sbt, r_sbi, r_sbb, r_sbs, r_sit, r_sii, r_sib, r_sis, r_sst, r_ssi, r_ssb, r_sss, r_stt, r_sti, r_stb, r_sts, r_slt, r_sli, r_slb, r_sls, r_aN, r_ab, r_ai, r_as, r_at, r_al, r_eqI, r_eqB, r_eqS, r_pu1, r_pu2, r_eqN, r_fr1, r_fx1, r_fx2, r_fx3, r_bo0, r_bo1, r_c0, r_c1, r_c2, r_c3, r_c4, r_c5, r_c6, r_c7, r_c8, r_c9, r_c10, r_c11, r_c12, r_pd0, r_pd1, r_pd2, r_wi0, r_wi1, List.set_cons_zero, List.set_cons_succ, List.getElem?_cons_zero, List.getElem?_cons_succ, ↓reduceIte, List.length_cons, List.length_nil, Nat.zero_add, Nat.reduceAdd, and_true, true_and, decide_true, decide_false, eq_self, beq_self_eq_true, Bool.true_beq, Bool.false_beq, Bool.not_true, Bool.not_false, Int.reduceEq, Int.reduceLT, Int.reduceLE, Int.reduceAdd, Int.reduceSub, Int.reduceMul, Int.reduceNeg, Bool.not_not, List.append_nil, List.nil_append, List.cons_append, z_int, z_bl, z_non, z_tup, z_lst, z_str, z_lint, z_lbl, z_lnon, z_ltup, z_llst, z_lstr, z_whole, ih x hm, q_law_add (hb.add hsb) (hqs x hm) (by omega)]
    refine ⟨some (vD k x), ?_⟩
    rw [take_sum (q := pot k a2 x) (by rw [List.getElem?_map, hx]; rfl), Rat.add_assoc]
theorem lin1 {a x : Rat} (y : Rat) : 0 + a * x = linQ [a] [x, y] := by show _ = a * x + 0; rw [Rat.zero_add, Rat.add_zero]
theorem lin2 {a b x y : Rat} : 0 + a * x + b * y = linQ [a, b] [x, y] := by show _ = a * x + (b * y + 0); rw [Rat.zero_add, Rat.add_zero]
/-- the row's part -/
theorem lp_row {c : Nat} {h : Sto} {r : List Rat} {x y : Int} {p0 p1 p2 p3 p4 p6 p7 p10 : Option D} (g1 : 1 ≤ r.length) (g2 : r.length ≤ 2) (ha : ∀ q ∈ r, BQ c q) (hc : c ≤ 50) (hx : x.natAbs ≤ 2 ^ 5) (hy : y.natAbs ≤ 2 ^ 5) : ∀ p8 p9 : Option D,
    EvS (loopF (gTp 2 (gC (gVar 8) (gC (gVar 9) gN))) (sAsg (dCall d_law_add (lCons (dVar 5) (lCons (dCall d_law_mul (lCons (dVar 8) (lCons (dTup (lCons (dVar 9) (lCons (dC (D.int 1)) lNil))) lNil))) lNil))) (gVar 5)) (zipL (r.map qD) [.int x, .int y]) [p0, p1, p2, p3, p4, some (.tup [.int 0, .int 1]), p6, p7, p8, p9, p10] h)
      fun f ρ h' => f = .nx ∧ h' = h ∧ ∃ p8 p9, ρ = [p0, p1, p2, p3, p4, some (qD (linQ r [(x : Rat), (y : Rat)])), p6, p7, p8, p9, p10] := by
  intro p8 p9
  have b1 : BQ 5 (x : Rat) := .int hx
  have b2 : BQ 5 (y : Rat) := .int hy
  rcases row_cases g1 g2 with ⟨a, rfl⟩ | ⟨a, b, rfl⟩
  · have ba := ha a (by simp)
    have e : zipL (List.map qD [a]) [.int x, .int y] = [.tup [qD a, .int x]] := rfl
    have t1 := q_law_mul (h := h) ba b1 (by omega)
    rw [qD_int] at t1
    have t2 : d_law_add [.tup [.int 0, .int 1], qD (a * x)] h = some (qD (0 + a * x), h) := q_law_add (BQ.zero (k := 0)) (ba.mul b1) (by omega)
    rw [e]
    simp (config := {dsimp := false}) only [↓e_pr, ↓e_some, ↓e_an, ↓e_brT, ↓e_brF, ↓e_asB, ↓e_asI, ↓e_asV, ↓e_stE, ↓e_stE0, ↓e_stL, ↓e_stL0, ↓e_sqN, ↓e_sqR, ↓e_sqB, ↓e_sqC, ↓e_afN, ↓e_afR, ↓e_afB, ↓e_afC, ↓e_rtN, ↓e_rtR, ↓e_var, ↓e_c, ↓e_op, ↓e_un, ↓e_t, ↓e_nt, ↓e_anT, ↓e_orT, ↓e_and, ↓e_or, ↓e_not, ↓e_ite, ↓e_ch, ↓e_nil, ↓e_cons, ↓e_star, ↓e_tup, ↓e_lst, ↓e_mut, ↓e_call, ↓e_isiT, ↓e_lz, ↓e_meth, ↓e_meth0, ↓e_oN, ↓e_oS, ↓e_sl, ↓e_gVar, ↓e_gSub, ↓e_gTp, ↓e_gN, ↓e_gC, ↓e_next, ↓e_seq, ↓e_drop, ↓e_ret, ↓e_retN, ↓e_brk, ↓e_cnt, ↓e_if, ↓e_asg, ↓e_as2, ↓e_as3, ↓e_par, ↓e_aug, ↓e_augS, ↓e_for, ↓e_f0, ↓e_f1, ↓e_while, ↓e_asS1, ↓e_asS2, ↓e_asS3, ↓e_iSeq, ↓e_enum, ↓e_asTI, ↓e_enumC, ↓e_rng1, ↓e_zip, ↓e_zipX, ↓e_comp, ↓e_c0, ↓e_c1, ↓e_y, ↓e_body, ↓e_addI, ↓e_addT, ↓e_addL, ↓e_subI, ↓e_iadd, ↓e_mulI, ↓e_divI, ↓e_modI, ↓e_powI, ↓e_negI, ↓e_mulT, ↓e_mulL, ↓e_cmp, ↓e_eq, ↓e_ne, ↓e_isN, ↓e_isB, ↓e_isNotN, ↓e_isNotB, ↓e_ix, ↓e_abs, ↓e_toI, ↓e_toB1, ↓e_toB0, ↓e_lenT, ↓e_lenL, ↓e_lenRo, ↓e_lenR, ↓e_tupT, ↓e_tupL, ↓e_tupR, ↓e_lstT, ↓e_lstL, ↓e_allM, ↓e_in, ↓e_notIn, ↓e_sum, ↓e_max, ↓e_par3, ↓e_pop, ↓e_frz, ↓e_frzR, ↓e_isi, ↓e_slT, ↓e_slL, ↓e_slRo, ↓e_app, ↓e_ext, ↓e_setM, r_it1, r_it2, r_it3, r_it4, r_ls2, r_ls3, r_ml2, r_ml3, r_mg0, r_mgn, r_at0, r_at1, r_at2, r_at3, r_ix0, r_ix1, r_ix2, r_ty1, r_ty2, r_ty3, r_ty4, r_ty5, r_ty6, r_ty7, r_ty8, r_sNt, r_sNi, r_sNb, r_sNs, r_sbt, r_sbi, r_sbb, r_sbs, r_sit, r_sii, r_sib, r_sis, r_sst, r_ssi, r_ssb, r_sss, r_stt, r_sti, r_stb, r_sts, r_slt, r_sli, r_slb, r_sls, r_aN, r_ab, r_ai, r_as, r_at, r_al, r_eqI, r_eqB, r_eqS, r_pu1, r_pu2, r_eqN, r_fr1, r_fx1, r_fx2, r_fx3, r_bo0, r_bo1, r_c0, r_c1, r_c2, r_c3, r_c4, r_c5, r_c6, r_c7, r_c8, r_c9, r_c10, r_c11, r_c12, r_pd0, r_pd1, r_pd2, r_wi0, r_wi1, List.set_cons_zero, List.set_cons_succ, List.getElem?_cons_zero, List.getElem?_cons_succ, ↓reduceIte, List.length_cons, List.length_nil, Nat.zero_add, Nat.reduceAdd, and_true, true_and, decide_true, decide_false, eq_self, beq_self_eq_true, Bool.true_beq, Bool.false_beq, Bool.not_true, Bool.not_false, Int.reduceEq, Int.reduceLT, Int.reduceLE, Int.reduceAdd, Int.reduceSub, Int.reduceMul, Int.reduceNeg, Bool.not_not, List.append_nil, List.nil_append, List.cons_append, z_int, z_bl, z_non, z_tup, z_lst, z_str, z_lint, z_lbl, z_lnon, z_ltup, z_llst, z_lstr, z_whole, t1, t2, s2]
    refine ⟨some (qD a), some (.int x), ?_⟩
    rw [lin1 (x := (x : Rat)) (y : Rat)]
  · have ba := ha a (by simp)
    have bb := ha b (by simp)
    have e : zipL (List.map qD [a, b]) [.int x, .int y] = [.tup [qD a, .int x], .tup [qD b, .int y]] := rfl
    have t1 := q_law_mul (h := h) ba b1 (by omega)
    rw [qD_int] at t1
    have t3 := q_law_mul (h := h) bb b2 (by omega)
    rw [qD_int] at t3
    have t2 : d_law_add [.tup [.int 0, .int 1], qD (a * x)] h = some (qD (0 + a * x), h) := q_law_add (BQ.zero (k := 0)) (ba.mul b1) (by omega)
    have t4 := q_law_add (h := h) ((BQ.zero (k := 0)).add (ba.mul b1)) (bb.mul b2) (by omega)
    rw [e]
    simp (config := {dsimp := false}) only [↓e_pr, ↓e_some, ↓e_an, ↓e_brT, ↓e_brF, ↓e_asB, ↓e_asI, ↓e_asV, ↓e_stE, ↓e_stE0, ↓e_stL, ↓e_stL0, ↓e_sqN, ↓e_sqR, ↓e_sqB, ↓e_sqC, ↓e_afN, ↓e_afR, ↓e_afB, ↓e_afC, ↓e_rtN, ↓e_rtR, ↓e_var, ↓e_c, ↓e_op, ↓e_un, ↓e_t, ↓e_nt, ↓e_anT, ↓e_orT, ↓e_and, ↓e_or, ↓e_not, ↓e_ite, ↓e_ch, ↓e_nil, ↓e_cons, ↓e_star, ↓e_tup, ↓e_lst, ↓e_mut, ↓e_call, ↓e_isiT, ↓e_lz, ↓e_meth, ↓e_meth0, ↓e_oN, ↓e_oS, ↓e_sl, ↓e_gVar, ↓e_gSub, ↓e_gTp, ↓e_gN, ↓e_gC, ↓e_next, ↓e_seq, ↓e_drop, ↓e_ret, ↓e_retN, ↓e_brk, ↓e_cnt, ↓e_if, ↓e_asg, ↓e_as2, ↓e_as3, ↓e_par, ↓e_aug, ↓e_augS, ↓e_for, ↓e_f0, ↓e_f1, ↓e_while, ↓e_asS1, ↓e_asS2, ↓e_asS3, ↓e_iSeq, ↓e_enum, ↓e_asTI, ↓e_enumC, ↓e_rng1, ↓e_zip, ↓e_zipX, ↓e_comp, ↓e_c0, ↓e_c1, ↓e_y, ↓e_body, ↓e_addI, ↓e_addT, ↓e_addL, ↓e_subI, ↓e_iadd, ↓e_mulI, ↓e_divI, ↓e_modI, ↓e_powI, ↓e_negI, ↓e_mulT, ↓e_mulL, ↓e_cmp, ↓e_eq, ↓e_ne, ↓e_isN, ↓e_isB, ↓e_isNotN, ↓e_isNotB, ↓e_ix, ↓e_abs, ↓e_toI, ↓e_toB1, ↓e_toB0, ↓e_lenT, ↓e_lenL, ↓e_lenRo, ↓e_lenR, ↓e_tupT, ↓e_tupL, ↓e_tupR, ↓e_lstT, ↓e_lstL, ↓e_allM, ↓e_in, ↓e_notIn, ↓e_sum, ↓e_max, ↓e_par3, ↓e_pop, ↓e_frz, ↓e_frzR, ↓e_isi, ↓e_slT, ↓e_slL, ↓e_slRo, ↓e_app, ↓e_ext, ↓e_setM, r_it1, r_it2, r_it3, r_it4, r_ls2, r_ls3, r_ml2, r_ml3, r_mg0, r_mgn, r_at0, r_at1, r_at2, r_at3, r_ix0, r_ix1, r_ix2, r_ty1, r_ty2, r_ty3, r_ty4, r_ty5, r_ty6, r_ty7, r_ty8, r_sNt, r_sNi, r_sNb, r_sNs, r_sbt, r_sbi, r_sbb, r_sbs, r_sit, r_sii, r_sib, r_sis, r_sst, r_ssi, r_ssb, r_sss, r_stt, r_sti, r_stb, r_sts, r_slt, r_sli, r_slb, r_sls, r_aN, r_ab, r_ai, r_as, r_at, r_al, r_eqI, r_eqB, r_eqS, r_pu1, r_pu2, r_eqN, r_fr1, r_fx1, r_fx2, r_fx3, r_bo0, r_bo1, r_c0, r_c1, r_c2, r_c3, r_c4, r_c5, r_c6, r_c7, r_c8, r_c9, r_c10, r_c11, r_c12, r_pd0, r_pd1, r_pd2, r_wi0, r_wi1, List.set_cons_zero, List.set_cons_succ, List.getElem?_cons_zero, List.getElem?_cons_succ, ↓reduceIte, List.length_cons, List.length_nil, Nat.zero_add, Nat.reduceAdd, and_true, true_and, decide_true, decide_false, eq_self, beq_self_eq_true, Bool.true_beq, Bool.false_beq, Bool.not_true, Bool.not_false, Int.reduceEq, Int.reduceLT, Int.reduceLE, Int.reduceAdd, Int.reduceSub, Int.reduceMul, Int.reduceNeg, Bool.not_not, List.append_nil, List.nil_append, List.cons_append, z_int, z_bl, z_non, z_tup, z_lst, z_str, z_lint, z_lbl, z_lnon, z_ltup, z_llst, z_lstr, z_whole, t1, t2, t3, t4, s2]
    refine ⟨some (qD b), some (.int y), ?_⟩
    rw [lin2]

end K19
namespace K19
open Sh ShR Iv PySem PySem.Spec PyProof.Rows L2
theorem lpot_lst {c : Nat} {k : Kd} {al : List Rat} {a2 : An k} {l : List (Vt k)} {me : Fun1} {h : Sto} (hc : c ≤ 50) (g1 : 1 ≤ al.length) (g2 : al.length ≤ 2) (ha : ∀ q ∈ al, BQ c q) (h5 : l.length ≤ 5) (hqs : ∀ x ∈ l, BQ (bits c k) (pot k a2 x)) (hb : bits c (.lst k) ≤ 2000)
    (ih : ∀ x ∈ l, me [kD k, aD k a2, vD k x] h = some (qD (pot k a2 x), h)) :
    Ev (bodyF 11 (b_law_potential me) [kD (.lst k), .tup [rwD al, aD k a2], .tup (l.map (vD k))] h) fun d h' => d = qD (linQ al (cnt l.length) + (l.map (pot k a2)).sum) ∧ h' = h := by
  rw [bits] at hb
  have hlin : BQ (2 * c + 12) (linQ al (cnt l.length)) := linQ_bq (r := al) ha (cnt_bq (n := l.length) (by omega)).1 (cnt_bq (n := l.length) (by omega)).2
  have hlst : listF [.tup (l.map (vD k))] h = some (.lst (l.map (vD k)), h) := rfl
  unfold b_law_potential
  simp (config := {dsimp := false}) only [↓e_pr, ↓e_some, ↓e_an, ↓e_brT, ↓e_brF, ↓e_asB, ↓e_asI, ↓e_asV, ↓e_stE, ↓e_stE0, ↓e_stL, ↓e_stL0, ↓e_sqN, ↓e_sqR, ↓e_sqB, ↓e_sqC, ↓e_afN, ↓e_afR, ↓e_afB, ↓e_afC, ↓e_rtN, ↓e_rtR, ↓e_var, ↓e_c, ↓e_op, ↓e_un, ↓e_t, ↓e_nt, ↓e_anT, ↓e_orT, ↓e_and, ↓e_or, ↓e_not, ↓e_ite, ↓e_ch, ↓e_nil, ↓e_cons, ↓e_star, ↓e_tup, ↓e_lst, ↓e_mut, ↓e_call, ↓e_isiT, ↓e_lz, ↓e_meth, ↓e_meth0, ↓e_oN, ↓e_oS, ↓e_sl, ↓e_gVar, ↓e_gSub, ↓e_gTp, ↓e_gN, ↓e_gC, ↓e_next, ↓e_seq, ↓e_drop, ↓e_ret, ↓e_retN, ↓e_brk, ↓e_cnt, ↓e_if, ↓e_asg, ↓e_as2, ↓e_as3, ↓e_par, ↓e_aug, ↓e_augS, ↓e_for, ↓e_f0, ↓e_f1, ↓e_while, ↓e_asS1, ↓e_asS2, ↓e_asS3, ↓e_iSeq, ↓e_enum, ↓e_asTI, ↓e_enumC, ↓e_rng1, ↓e_zip, ↓e_zipX, ↓e_comp, ↓e_c0, ↓e_c1, ↓e_y, ↓e_body, ↓e_addI, ↓e_addT, ↓e_addL, ↓e_subI, ↓e_iadd, ↓e_mulI, ↓e_divI, ↓e_modI, ↓e_powI, ↓e_negI, ↓e_mulT, ↓e_mulL, ↓e_cmp, ↓e_eq, ↓e_ne, ↓e_isN, ↓e_isB, ↓e_isNotN, ↓e_isNotB, ↓e_ix, ↓e_abs, ↓e_toI, ↓e_toB1, ↓e_toB0, ↓e_lenT, ↓e_lenL, ↓e_lenRo, ↓e_lenR, ↓e_tupT, ↓e_tupL, ↓e_tupR, ↓e_lstT, ↓e_lstL, ↓e_allM, ↓e_in, ↓e_notIn, ↓e_sum, ↓e_max, ↓e_par3, ↓e_pop, ↓e_frz, ↓e_frzR, ↓e_isi, ↓e_slT, ↓e_slL, ↓e_slRo, ↓e_app, ↓e_ext, ↓e_setM, r_it1, r_it2, r_it3, r_it4, r_ls2, r_ls3, r_ml2, r_ml3, r_mg0, r_mgn, r_at0, r_at1, r_at2, r_at3, r_ix0, r_ix1, r_ix2, r_ty1, r_ty2, r_ty3, r_ty4, r_ty5, r_ty6, r_ty7, r_ty8, r_sNt, r_sNi, r_sNb, r_sNs, r_sbt, r_sbi, r_sbb, r_sbs, r_sit, r_sii, r_sib, r_sis, r_sst, r_ssi, r_ssb, r_sss, r_stt, r_sti, r_stb, r_sts, r_slt, r_sli, r_slb, r_sls, r_aN, r_ab, r_ai, r_as, r_at, r_al, r_eqI, r_eqB, r_eqS, r_pu1, r_pu2, r_eqN, r_fr1, r_fx1, r_fx2, r_fx3, r_bo0, r_bo1, r_c0, r_c1, r_c2, r_c3, r_c4, r_c5, r_c6, r_c7, r_c8, r_c9, r_c10, r_c11, r_c12, r_pd0, r_pd1, r_pd2, r_wi0, r_wi1, List.set_cons_zero, List.set_cons_succ, List.getElem?_cons_zero, List.getElem?_cons_succ, ↓reduceIte, List.length_cons, List.length_nil, Nat.zero_add, Nat.reduceAdd, and_true, true_and, decide_true, decide_false, eq_self, beq_self_eq_true, Bool.true_beq, Bool.false_beq, Bool.not_true, Bool.not_false, Int.reduceEq, Int.reduceLT, Int.reduceLE, Int.reduceAdd, Int.reduceSub, Int.reduceMul, Int.reduceNeg, Bool.not_not, List.append_nil, List.nil_append, List.cons_append, z_int, z_bl, z_non, z_tup, z_lst, z_str, z_lint, z_lbl, z_lnon, z_ltup, z_llst, z_lstr, z_whole, kD, w_ln, w_lp, w_lt, hlst, List.length_map]
  refine ⟨.s (by omega) (by omega) (by omega) (by omega), .s (by decide) (by decide), by decide, by decide, ?_⟩
  refine (lp_row (h := h) g1 g2 ha hc (x := (l.length : Int)) (y := (l.length : Int) * ((l.length : Int) - 1) / 2) (by omega) (cnt2_le (by omega)) none none).mono ?_
  rintro f ρ h' ⟨rfl, rfl, p8, p9, rfl⟩
  simp (config := {dsimp := false}) only [↓e_pr, ↓e_some, ↓e_an, ↓e_brT, ↓e_brF, ↓e_asB, ↓e_asI, ↓e_asV, ↓e_stE, ↓e_stE0, ↓e_stL, ↓e_stL0, ↓e_sqN, ↓e_sqR, ↓e_sqB, ↓e_sqC, ↓e_afN, ↓e_afR, ↓e_afB, ↓e_afC, ↓e_rtN, ↓e_rtR, ↓e_var, ↓e_c, ↓e_op, ↓e_un, ↓e_t, ↓e_nt, ↓e_anT, ↓e_orT, ↓e_and, ↓e_or, ↓e_not, ↓e_ite, ↓e_ch, ↓e_nil, ↓e_cons, ↓e_star, ↓e_tup, ↓e_lst, ↓e_mut, ↓e_call, ↓e_isiT, ↓e_lz, ↓e_meth, ↓e_meth0, ↓e_oN, ↓e_oS, ↓e_sl, ↓e_gVar, ↓e_gSub, ↓e_gTp, ↓e_gN, ↓e_gC, ↓e_next, ↓e_seq, ↓e_drop, ↓e_ret, ↓e_retN, ↓e_brk, ↓e_cnt, ↓e_if, ↓e_asg, ↓e_as2, ↓e_as3, ↓e_par, ↓e_aug, ↓e_augS, ↓e_for, ↓e_f0, ↓e_f1, ↓e_while, ↓e_asS1, ↓e_asS2, ↓e_asS3, ↓e_iSeq, ↓e_enum, ↓e_asTI, ↓e_enumC, ↓e_rng1, ↓e_zip, ↓e_zipX, ↓e_comp, ↓e_c0, ↓e_c1, ↓e_y, ↓e_body, ↓e_addI, ↓e_addT, ↓e_addL, ↓e_subI, ↓e_iadd, ↓e_mulI, ↓e_divI, ↓e_modI, ↓e_powI, ↓e_negI, ↓e_mulT, ↓e_mulL, ↓e_cmp, ↓e_eq, ↓e_ne, ↓e_isN, ↓e_isB, ↓e_isNotN, ↓e_isNotB, ↓e_ix, ↓e_abs, ↓e_toI, ↓e_toB1, ↓e_toB0, ↓e_lenT, ↓e_lenL, ↓e_lenRo, ↓e_lenR, ↓e_tupT, ↓e_tupL, ↓e_tupR, ↓e_lstT, ↓e_lstL, ↓e_allM, ↓e_in, ↓e_notIn, ↓e_sum, ↓e_max, ↓e_par3, ↓e_pop, ↓e_frz, ↓e_frzR, ↓e_isi, ↓e_slT, ↓e_slL, ↓e_slRo, ↓e_app, ↓e_ext, ↓e_setM, r_it1, r_it2, r_it3, r_it4, r_ls2, r_ls3, r_ml2, r_ml3, r_mg0, r_mgn, r_at0, r_at1, r_at2, r_at3, r_ix0, r_ix1, r_ix2, r_ty1, r_ty2, r_ty3, r_ty4, r_ty5, r_ty6, r_ty7, r_ty8, r_sNt, r_sNi, r_sNb, r_sNs, r_sbt, r_sbi, r_sbb, r_sbs, r_sit, r_sii, r_sib, r_sis, r_sst, r_ssi, r_ssb, r_sss, r_stt, r_sti, r_stb, r_sts, r_slt, r_sli, r_slb, r_sls, r_aN, r_ab, r_ai, r_as, r_at, r_al, r_eqI, r_eqB, r_eqS, r_pu1, r_pu2, r_eqN, r_fr1, r_fx1, r_fx2, r_fx3, r_bo0, r_bo1, r_c0, r_c1, r_c2, r_c3, r_c4, r_c5, r_c6, r_c7, r_c8, r_c9, r_c10, r_c11, r_c12, r_pd0, r_pd1, r_pd2, r_wi0, r_wi1, List.set_cons_zero, List.set_cons_succ, List.getElem?_cons_zero, List.getElem?_cons_succ, ↓reduceIte, List.length_cons, List.length_nil, Nat.zero_add, Nat.reduceAdd, and_true, true_and, decide_true, decide_false, eq_self, beq_self_eq_true, Bool.true_beq, Bool.false_beq, Bool.not_true, Bool.not_false, Int.reduceEq, Int.reduceLT, Int.reduceLE, Int.reduceAdd, Int.reduceSub, Int.reduceMul, Int.reduceNeg, Bool.not_not, List.append_nil, List.nil_append, List.cons_append, z_int, z_bl, z_non, z_tup, z_lst, z_str, z_lint, z_lbl, z_lnon, z_ltup, z_llst, z_lstr, z_whole]
  refine (lp_loop (h := h') (c := c) l h5 hlin (by omega) hqs ih none p8 p9 none none).mono ?_
  rintro f ρ h2 ⟨rfl, rfl, o6, rfl⟩
  simp (config := {dsimp := false}) only [↓e_pr, ↓e_some, ↓e_an, ↓e_brT, ↓e_brF, ↓e_asB, ↓e_asI, ↓e_asV, ↓e_stE, ↓e_stE0, ↓e_stL, ↓e_stL0, ↓e_sqN, ↓e_sqR, ↓e_sqB, ↓e_sqC, ↓e_afN, ↓e_afR, ↓e_afB, ↓e_afC, ↓e_rtN, ↓e_rtR, ↓e_var, ↓e_c, ↓e_op, ↓e_un, ↓e_t, ↓e_nt, ↓e_anT, ↓e_orT, ↓e_and, ↓e_or, ↓e_not, ↓e_ite, ↓e_ch, ↓e_nil, ↓e_cons, ↓e_star, ↓e_tup, ↓e_lst, ↓e_mut, ↓e_call, ↓e_isiT, ↓e_lz, ↓e_meth, ↓e_meth0, ↓e_oN, ↓e_oS, ↓e_sl, ↓e_gVar, ↓e_gSub, ↓e_gTp, ↓e_gN, ↓e_gC, ↓e_next, ↓e_seq, ↓e_drop, ↓e_ret, ↓e_retN, ↓e_brk, ↓e_cnt, ↓e_if, ↓e_asg, ↓e_as2, ↓e_as3, ↓e_par, ↓e_aug, ↓e_augS, ↓e_for, ↓e_f0, ↓e_f1, ↓e_while, ↓e_asS1, ↓e_asS2, ↓e_asS3, ↓e_iSeq, ↓e_enum, ↓e_asTI, ↓e_enumC, ↓e_rng1, ↓e_zip, ↓e_zipX, ↓e_comp, ↓e_c0, ↓e_c1, ↓e_y, ↓e_body, ↓e_addI, ↓e_addT, ↓e_addL, ↓e_subI, ↓e_iadd, ↓e_mulI, ↓e_divI, ↓e_modI, ↓e_powI, ↓e_negI, ↓e_mulT, ↓e_mulL, ↓e_cmp, ↓e_eq, ↓e_ne, ↓e_isN, ↓e_isB, ↓e_isNotN, ↓e_isNotB, ↓e_ix, ↓e_abs, ↓e_toI, ↓e_toB1, ↓e_toB0, ↓e_lenT, ↓e_lenL, ↓e_lenRo, ↓e_lenR, ↓e_tupT, ↓e_tupL, ↓e_tupR, ↓e_lstT, ↓e_lstL, ↓e_allM, ↓e_in, ↓e_notIn, ↓e_sum, ↓e_max, ↓e_par3, ↓e_pop, ↓e_frz, ↓e_frzR, ↓e_isi, ↓e_slT, ↓e_slL, ↓e_slRo, ↓e_app, ↓e_ext, ↓e_setM, r_it1, r_it2, r_it3, r_it4, r_ls2, r_ls3, r_ml2, r_ml3, r_mg0, r_mgn, r_at0, r_at1, r_at2, r_at3, r_ix0, r_ix1, r_ix2, r_ty1, r_ty2, r_ty3, r_ty4, r_ty5, r_ty6, r_ty7, r_ty8, r_sNt, r_sNi, r_sNb, r_sNs, r_sbt, r_sbi, r_sbb, r_sbs, r_sit, r_sii, r_sib, r_sis, r_sst, r_ssi, r_ssb, r_sss, r_stt, r_sti, r_stb, r_sts, r_slt, r_sli, r_slb, r_sls, r_aN, r_ab, r_ai, r_as, r_at, r_al, r_eqI, r_eqB, r_eqS, r_pu1, r_pu2, r_eqN, r_fr1, r_fx1, r_fx2, r_fx3, r_bo0, r_bo1, r_c0, r_c1, r_c2, r_c3, r_c4, r_c5, r_c6, r_c7, r_c8, r_c9, r_c10, r_c11, r_c12, r_pd0, r_pd1, r_pd2, r_wi0, r_wi1, List.set_cons_zero, List.set_cons_succ, List.getElem?_cons_zero, List.getElem?_cons_succ, ↓reduceIte, List.length_cons, List.length_nil, Nat.zero_add, Nat.reduceAdd, and_true, true_and, decide_true, decide_false, eq_self, beq_self_eq_true, Bool.true_beq, Bool.false_beq, Bool.not_true, Bool.not_false, Int.reduceEq, Int.reduceLT, Int.reduceLE, Int.reduceAdd, Int.reduceSub, Int.reduceMul, Int.reduceNeg, Bool.not_not, List.append_nil, List.nil_append, List.cons_append, z_int, z_bl, z_non, z_tup, z_lst, z_str, z_lint, z_lbl, z_lnon, z_ltup, z_llst, z_lstr, z_whole]
theorem lpot_tre {c : Nat} {al : List Rat} {t : Tr (Vt .num)} {me : Fun1} {h : Sto} (hc : c ≤ 50) (g1 : 1 ≤ al.length) (g2 : al.length ≤ 2) (ha : ∀ q ∈ al, BQ c q) (h5 : t.size ≤ 5) (hd : dsum t ≤ 32) (hb : bits c (.tre .num) ≤ 2000)
    (ih : ∀ x : Vt .num, me [kD .num, aD .num (), vD .num x] h = some (qD (pot .num () x), h)) :
    Ev (bodyF 11 (b_law_potential me) [kD (.tre .num), .tup [rwD al, aD .num ()], t.toD (vD .num)] h) fun d h' => d = qD (linQ al [((t.size : Int) : Rat), ((dsum t : Int) : Rat)] + ((t.ino 0).map fun p => pot .num () p.1).sum) ∧ h' = h := by
  rw [bits] at hb
  have hlin := linQ_bq (r := al) (a := ((t.size : Int) : Rat)) (b := ((dsum t : Int) : Rat)) ha (.int (by omega)) (.int (by omega))
  have hln := law_nodes (f := vD .num) (c := 0) (h := h) (v_pl .num) num_dp t 10 0 (by omega) (by omega)
  have hln : recF 2 b_law_nodes 10 [t.toD (vD .num), .int 0] h = some (.lst ((t.ino 0).map (itD (vD .num))), h) := hln
  have hil := (Tr.perm t 0).length_eq
  rw [Tr.pre_len] at hil
  have hds : ((t.ino 0).map fun p => ((p.2 : Nat) : Int)).sum = (dsum t : Int) := by
    unfold dsum
    rw [← nsum_perm ((Tr.perm t 0).map (·.2)), ← sum_cast, List.map_map]; rfl
  have hlst : ∃ ds, listF [t.toD (vD .num)] h = some (.lst ds, h) ∧ ds.length ≤ 3 := by
    cases t with
    | leaf => exact ⟨_, rfl, by decide⟩
    | node a x b => exact ⟨_, rfl, Nat.le_refl _⟩
  obtain ⟨ds, hlst, hds3⟩ := hlst
  unfold b_law_potential
  simp (config := {dsimp := false}) only [↓e_pr, ↓e_some, ↓e_an, ↓e_brT, ↓e_brF, ↓e_asB, ↓e_asI, ↓e_asV, ↓e_stE, ↓e_stE0, ↓e_stL, ↓e_stL0, ↓e_sqN, ↓e_sqR, ↓e_sqB, ↓e_sqC, ↓e_afN, ↓e_afR, ↓e_afB, ↓e_afC, ↓e_rtN, ↓e_rtR, ↓e_var, ↓e_c, ↓e_op, ↓e_un, ↓e_t, ↓e_nt, ↓e_anT, ↓e_orT, ↓e_and, ↓e_or, ↓e_not, ↓e_ite, ↓e_ch, ↓e_nil, ↓e_cons, ↓e_star, ↓e_tup, ↓e_lst, ↓e_mut, ↓e_call, ↓e_isiT, ↓e_lz, ↓e_meth, ↓e_meth0, ↓e_oN, ↓e_oS, ↓e_sl, ↓e_gVar, ↓e_gSub, ↓e_gTp, ↓e_gN, ↓e_gC, ↓e_next, ↓e_seq, ↓e_drop, ↓e_ret, ↓e_retN, ↓e_brk, ↓e_cnt, ↓e_if, ↓e_asg, ↓e_as2, ↓e_as3, ↓e_par, ↓e_aug, ↓e_augS, ↓e_for, ↓e_f0, ↓e_f1, ↓e_while, ↓e_asS1, ↓e_asS2, ↓e_asS3, ↓e_iSeq, ↓e_enum, ↓e_asTI, ↓e_enumC, ↓e_rng1, ↓e_zip, ↓e_zipX, ↓e_comp, ↓e_c0, ↓e_c1, ↓e_y, ↓e_body, ↓e_addI, ↓e_addT, ↓e_addL, ↓e_subI, ↓e_iadd, ↓e_mulI, ↓e_divI, ↓e_modI, ↓e_powI, ↓e_negI, ↓e_mulT, ↓e_mulL, ↓e_cmp, ↓e_eq, ↓e_ne, ↓e_isN, ↓e_isB, ↓e_isNotN, ↓e_isNotB, ↓e_ix, ↓e_abs, ↓e_toI, ↓e_toB1, ↓e_toB0, ↓e_lenT, ↓e_lenL, ↓e_lenRo, ↓e_lenR, ↓e_tupT, ↓e_tupL, ↓e_tupR, ↓e_lstT, ↓e_lstL, ↓e_allM, ↓e_in, ↓e_notIn, ↓e_sum, ↓e_max, ↓e_par3, ↓e_pop, ↓e_frz, ↓e_frzR, ↓e_isi, ↓e_slT, ↓e_slL, ↓e_slRo, ↓e_app, ↓e_ext, ↓e_setM, r_it1, r_it2, r_it3, r_it4, r_ls2, r_ls3, r_ml2, r_ml3, r_mg0, r_mgn, r_at0, r_at1, r_at2, r_at3, r_ix0, r_ix1, r_ix2, r_ty1, r_ty2, r_ty3, r_ty4, r_ty5, r_ty6, r_ty7, r_ty8, r_sNt, r_sNi, r_sNb, r_sNs, r_sbt, r_sbi, r_sbb, r_sbs, r_sit, r_sii, r_sib, r_sis, r_sst, r_ssi, r_ssb, r_sss, r_stt, r_sti, r_stb, r_sts, r_slt, r_sli, r_slb, r_sls, r_aN, r_ab, r_ai, r_as, r_at, r_al, r_eqI, r_eqB, r_eqS, r_pu1, r_pu2, r_eqN, r_fr1, r_fx1, r_fx2, r_fx3, r_bo0, r_bo1, r_c0, r_c1, r_c2, r_c3, r_c4, r_c5, r_c6, r_c7, r_c8, r_c9, r_c10, r_c11, r_c12, r_pd0, r_pd1, r_pd2, r_wi0, r_wi1, List.set_cons_zero, List.set_cons_succ, List.getElem?_cons_zero, List.getElem?_cons_succ, ↓reduceIte, List.length_cons, List.length_nil, Nat.zero_add, Nat.reduceAdd, and_true, true_and, decide_true, decide_false, eq_self, beq_self_eq_true, Bool.true_beq, Bool.false_beq, Bool.not_true, Bool.not_false, Int.reduceEq, Int.reduceLT, Int.reduceLE, Int.reduceAdd, Int.reduceSub, Int.reduceMul, Int.reduceNeg, Bool.not_not, List.append_nil, List.nil_append, List.cons_append, z_int, z_bl, z_non, z_tup, z_lst, z_str, z_lint, z_lbl, z_lnon, z_ltup, z_llst, z_lstr, z_whole, kD, w_tn, w_tp, w_tt, hlst, d_law_nodes, hln]
  refine ⟨.s (by omega) (by omega) (by omega) (by omega), .s (by decide) (by decide), by decide, le_sz (by rw [List.length_map]; omega), ?_⟩
  refine comp_evm (itD (vD .num)) (fun p => vD .num p.1) (t.ino 0) (fun p hp => ?_) ?_
  · simp (config := {dsimp := false}) only [↓e_pr, ↓e_some, ↓e_an, ↓e_brT, ↓e_brF, ↓e_asB, ↓e_asI, ↓e_asV, ↓e_stE, ↓e_stE0, ↓e_stL, ↓e_stL0, ↓e_sqN, ↓e_sqR, ↓e_sqB, ↓e_sqC, ↓e_afN, ↓e_afR, ↓e_afB, ↓e_afC, ↓e_rtN, ↓e_rtR, ↓e_var, ↓e_c, ↓e_op, ↓e_un, ↓e_t, ↓e_nt, ↓e_anT, ↓e_orT, ↓e_and, ↓e_or, ↓e_not, ↓e_ite, ↓e_ch, ↓e_nil, ↓e_cons, ↓e_star, ↓e_tup, ↓e_lst, ↓e_mut, ↓e_call, ↓e_isiT, ↓e_lz, ↓e_meth, ↓e_meth0, ↓e_oN, ↓e_oS, ↓e_sl, ↓e_gVar, ↓e_gSub, ↓e_gTp, ↓e_gN, ↓e_gC, ↓e_next, ↓e_seq, ↓e_drop, ↓e_ret, ↓e_retN, ↓e_brk, ↓e_cnt, ↓e_if, ↓e_asg, ↓e_as2, ↓e_as3, ↓e_par, ↓e_aug, ↓e_augS, ↓e_for, ↓e_f0, ↓e_f1, ↓e_while, ↓e_asS1, ↓e_asS2, ↓e_asS3, ↓e_iSeq, ↓e_enum, ↓e_asTI, ↓e_enumC, ↓e_rng1, ↓e_zip, ↓e_zipX, ↓e_comp, ↓e_c0, ↓e_c1, ↓e_y, ↓e_body, ↓e_addI, ↓e_addT, ↓e_addL, ↓e_subI, ↓e_iadd, ↓e_mulI, ↓e_divI, ↓e_modI, ↓e_powI, ↓e_negI, ↓e_mulT, ↓e_mulL, ↓e_cmp, ↓e_eq, ↓e_ne, ↓e_isN, ↓e_isB, ↓e_isNotN, ↓e_isNotB, ↓e_ix, ↓e_abs, ↓e_toI, ↓e_toB1, ↓e_toB0, ↓e_lenT, ↓e_lenL, ↓e_lenRo, ↓e_lenR, ↓e_tupT, ↓e_tupL, ↓e_tupR, ↓e_lstT, ↓e_lstL, ↓e_allM, ↓e_in, ↓e_notIn, ↓e_sum, ↓e_max, ↓e_par3, ↓e_pop, ↓e_frz, ↓e_frzR, ↓e_isi, ↓e_slT, ↓e_slL, ↓e_slRo, ↓e_app, ↓e_ext, ↓e_setM, r_it1, r_it2, r_it3, r_it4, r_ls2, r_ls3, r_ml2, r_ml3, r_mg0, r_mgn, r_at0, r_at1, r_at2, r_at3, r_ix0, r_ix1, r_ix2, r_ty1, r_ty2, r_ty3, r_ty4, r_ty5, r_ty6, r_ty7, r_ty8, r_sNt, r_sNi, r_sNb, r_sNs, r_sbt, r_sbi, r_sbb, r_sbs, r_sit, r_sii, r_sib, r_sis, r_sst, r_ssi, r_ssb, r_sss, r_stt, r_sti, r_stb, r_sts, r_slt, r_sli, r_slb, r_sls, r_aN, r_ab, r_ai, r_as, r_at, r_al, r_eqI, r_eqB, r_eqS, r_pu1, r_pu2, r_eqN, r_fr1, r_fx1, r_fx2, r_fx3, r_bo0, r_bo1, r_c0, r_c1, r_c2, r_c3, r_c4, r_c5, r_c6, r_c7, r_c8, r_c9, r_c10, r_c11, r_c12, r_pd0, r_pd1, r_pd2, r_wi0, r_wi1, List.set_cons_zero, List.set_cons_succ, List.getElem?_cons_zero, List.getElem?_cons_succ, ↓reduceIte, List.length_cons, List.length_nil, Nat.zero_add, Nat.reduceAdd, and_true, true_and, decide_true, decide_false, eq_self, beq_self_eq_true, Bool.true_beq, Bool.false_beq, Bool.not_true, Bool.not_false, Int.reduceEq, Int.reduceLT, Int.reduceLE, Int.reduceAdd, Int.reduceSub, Int.reduceMul, Int.reduceNeg, Bool.not_not, List.append_nil, List.nil_append, List.cons_append, z_int, z_bl, z_non, z_tup, z_lst, z_str, z_lint, z_lbl, z_lnon, z_ltup, z_llst, z_lstr, z_whole]
  simp (config := {dsimp := false}) only [↓e_pr, ↓e_some, ↓e_an, ↓e_brT, ↓e_brF, ↓e_asB, ↓e_asI, ↓e_asV, ↓e_stE, ↓e_stE0, ↓e_stL, ↓e_stL0, ↓e_sqN, ↓e_sqR, ↓e_sqB, ↓e_sqC, ↓e_afN, ↓e_afR, ↓e_afB, ↓e_afC, ↓e_rtN, ↓e_rtR, ↓e_var, ↓e_c, ↓e_op, ↓e_un, ↓e_t, ↓e_nt, ↓e_anT, ↓e_orT, ↓e_and, ↓e_or, ↓e_not, ↓e_ite, ↓e_ch, ↓e_nil, ↓e_cons, ↓e_star, ↓e_tup, ↓e_lst, ↓e_mut, ↓e_call, ↓e_isiT, ↓e_lz, ↓e_meth, ↓e_meth0, ↓e_oN, ↓e_oS, ↓e_sl, ↓e_gVar, ↓e_gSub, ↓e_gTp, ↓e_gN, ↓e_gC, ↓e_next, ↓e_seq, ↓e_drop, ↓e_ret, ↓e_retN, ↓e_brk, ↓e_cnt, ↓e_if, ↓e_asg, ↓e_as2, ↓e_as3, ↓e_par, ↓e_aug, ↓e_augS, ↓e_for, ↓e_f0, ↓e_f1, ↓e_while, ↓e_asS1, ↓e_asS2, ↓e_asS3, ↓e_iSeq, ↓e_enum, ↓e_asTI, ↓e_enumC, ↓e_rng1, ↓e_zip, ↓e_zipX, ↓e_comp, ↓e_c0, ↓e_c1, ↓e_y, ↓e_body, ↓e_addI, ↓e_addT, ↓e_addL, ↓e_subI, ↓e_iadd, ↓e_mulI, ↓e_divI, ↓e_modI, ↓e_powI, ↓e_negI, ↓e_mulT, ↓e_mulL, ↓e_cmp, ↓e_eq, ↓e_ne, ↓e_isN, ↓e_isB, ↓e_isNotN, ↓e_isNotB, ↓e_ix, ↓e_abs, ↓e_toI, ↓e_toB1, ↓e_toB0, ↓e_lenT, ↓e_lenL, ↓e_lenRo, ↓e_lenR, ↓e_tupT, ↓e_tupL, ↓e_tupR, ↓e_lstT, ↓e_lstL, ↓e_allM, ↓e_in, ↓e_notIn, ↓e_sum, ↓e_max, ↓e_par3, ↓e_pop, ↓e_frz, ↓e_frzR, ↓e_isi, ↓e_slT, ↓e_slL, ↓e_slRo, ↓e_app, ↓e_ext, ↓e_setM, r_it1, r_it2, r_it3, r_it4, r_ls2, r_ls3, r_ml2, r_ml3, r_mg0, r_mgn, r_at0, r_at1, r_at2, r_at3, r_ix0, r_ix1, r_ix2, r_ty1, r_ty2, r_ty3, r_ty4, r_ty5, r_ty6, r_ty7, r_ty8, r_sNt, r_sNi, r_sNb, r_sNs, r_sbt, r_sbi, r_sbb, r_sbs, r_sit, r_sii, r_sib, r_sis, r_sst, r_ssi, r_ssb, r_sss, r_stt, r_sti, r_stb, r_sts, r_slt, r_sli, r_slb, r_sls, r_aN, r_ab, r_ai, r_as, r_at, r_al, r_eqI, r_eqB, r_eqS, r_pu1, r_pu2, r_eqN, r_fr1, r_fx1, r_fx2, r_fx3, r_bo0, r_bo1, r_c0, r_c1, r_c2, r_c3, r_c4, r_c5, r_c6, r_c7, r_c8, r_c9, r_c10, r_c11, r_c12, r_pd0, r_pd1, r_pd2, r_wi0, r_wi1, List.set_cons_zero, List.set_cons_succ, List.getElem?_cons_zero, List.getElem?_cons_succ, ↓reduceIte, List.length_cons, List.length_nil, Nat.zero_add, Nat.reduceAdd, and_true, true_and, decide_true, decide_false, eq_self, beq_self_eq_true, Bool.true_beq, Bool.false_beq, Bool.not_true, Bool.not_false, Int.reduceEq, Int.reduceLT, Int.reduceLE, Int.reduceAdd, Int.reduceSub, Int.reduceMul, Int.reduceNeg, Bool.not_not, List.append_nil, List.nil_append, List.cons_append, z_int, z_bl, z_non, z_tup, z_lst, z_str, z_lint, z_lbl, z_lnon, z_ltup, z_llst, z_lstr, z_whole]
  refine ⟨le_sz (by rw [List.length_map]; omega), ?_⟩
  refine comp_evm (itD (vD .num)) (fun p => .int (p.2 : Nat)) (t.ino 0) (fun p hp => ?_) ?_
  · simp (config := {dsimp := false}) only [↓e_pr, ↓e_some, ↓e_an, ↓e_brT, ↓e_brF, ↓e_asB, ↓e_asI, ↓e_asV, ↓e_stE, ↓e_stE0, ↓e_stL, ↓e_stL0, ↓e_sqN, ↓e_sqR, ↓e_sqB, ↓e_sqC, ↓e_afN, ↓e_afR, ↓e_afB, ↓e_afC, ↓e_rtN, ↓e_rtR, ↓e_var, ↓e_c, ↓e_op, ↓e_un, ↓e_t, ↓e_nt, ↓e_anT, ↓e_orT, ↓e_and, ↓e_or, ↓e_not, ↓e_ite, ↓e_ch, ↓e_nil, ↓e_cons, ↓e_star, ↓e_tup, ↓e_lst, ↓e_mut, ↓e_call, ↓e_isiT, ↓e_lz, ↓e_meth, ↓e_meth0, ↓e_oN, ↓e_oS, ↓e_sl, ↓e_gVar, ↓e_gSub, ↓e_gTp, ↓e_gN, ↓e_gC, ↓e_next, ↓e_seq, ↓e_drop, ↓e_ret, ↓e_retN, ↓e_brk, ↓e_cnt, ↓e_if, ↓e_asg, ↓e_as2, ↓e_as3, ↓e_par, ↓e_aug, ↓e_augS, ↓e_for, ↓e_f0, ↓e_f1, ↓e_while, ↓e_asS1, ↓e_asS2, ↓e_asS3, ↓e_iSeq, ↓e_enum, ↓e_asTI, ↓e_enumC, ↓e_rng1, ↓e_zip, ↓e_zipX, ↓e_comp, ↓e_c0, ↓e_c1, ↓e_y, ↓e_body, ↓e_addI, ↓e_addT, ↓e_addL, ↓e_subI, ↓e_iadd, ↓e_mulI, ↓e_divI, ↓e_modI, ↓e_powI, ↓e_negI, ↓e_mulT, ↓e_mulL, ↓e_cmp, ↓e_eq, ↓e_ne, ↓e_isN, ↓e_isB, ↓e_isNotN, ↓e_isNotB, ↓e_ix, ↓e_abs, ↓e_toI, ↓e_toB1, ↓e_toB0, ↓e_lenT, ↓e_lenL, ↓e_lenRo, ↓e_lenR, ↓e_tupT, ↓e_tupL, ↓e_tupR, ↓e_lstT, ↓e_lstL, ↓e_allM, ↓e_in, ↓e_notIn, ↓e_sum, ↓e_max, ↓e_par3, ↓e_pop, ↓e_frz, ↓e_frzR, ↓e_isi, ↓e_slT, ↓e_slL, ↓e_slRo, ↓e_app, ↓e_ext, ↓e_setM, r_it1, r_it2, r_it3, r_it4, r_ls2, r_ls3, r_ml2, r_ml3, r_mg0, r_mgn, r_at0, r_at1, r_at2, r_at3, r_ix0, r_ix1, r_ix2, r_ty1, r_ty2, r_ty3, r_ty4, r_ty5, r_ty6, r_ty7, r_ty8, r_sNt, r_sNi, r_sNb, r_sNs, r_sbt, r_sbi, r_sbb, r_sbs, r_sit, r_sii, r_sib, r_sis, r_sst, r_ssi, r_ssb, r_sss, r_stt, r_sti, r_stb, r_sts, r_slt, r_sli, r_slb, r_sls, r_aN, r_ab, r_ai, r_as, r_at, r_al, r_eqI, r_eqB, r_eqS, r_pu1, r_pu2, r_eqN, r_fr1, r_fx1, r_fx2, r_fx3, r_bo0, r_bo1, r_c0, r_c1, r_c2, r_c3, r_c4, r_c5, r_c6, r_c7, r_c8, r_c9, r_c10, r_c11, r_c12, r_pd0, r_pd1, r_pd2, r_wi0, r_wi1, List.set_cons_zero, List.set_cons_succ, List.getElem?_cons_zero, List.getElem?_cons_succ, ↓reduceIte, List.length_cons, List.length_nil, Nat.zero_add, Nat.reduceAdd, and_true, true_and, decide_true, decide_false, eq_self, beq_self_eq_true, Bool.true_beq, Bool.false_beq, Bool.not_true, Bool.not_false, Int.reduceEq, Int.reduceLT, Int.reduceLE, Int.reduceAdd, Int.reduceSub, Int.reduceMul, Int.reduceNeg, Bool.not_not, List.append_nil, List.nil_append, List.cons_append, z_int, z_bl, z_non, z_tup, z_lst, z_str, z_lint, z_lbl, z_lnon, z_ltup, z_llst, z_lstr, z_whole]
  have e2 : (t.ino 0).map (fun p => D.int (p.2 : Nat)) = ((t.ino 0).map fun p => ((p.2 : Nat) : Int)).map D.int := by rw [List.map_map]; rfl
  rw [e2]
  simp (config := {dsimp := false}) only [↓e_pr, ↓e_some, ↓e_an, ↓e_brT, ↓e_brF, ↓e_asB, ↓e_asI, ↓e_asV, ↓e_stE, ↓e_stE0, ↓e_stL, ↓e_stL0, ↓e_sqN, ↓e_sqR, ↓e_sqB, ↓e_sqC, ↓e_afN, ↓e_afR, ↓e_afB, ↓e_afC, ↓e_rtN, ↓e_rtR, ↓e_var, ↓e_c, ↓e_op, ↓e_un, ↓e_t, ↓e_nt, ↓e_anT, ↓e_orT, ↓e_and, ↓e_or, ↓e_not, ↓e_ite, ↓e_ch, ↓e_nil, ↓e_cons, ↓e_star, ↓e_tup, ↓e_lst, ↓e_mut, ↓e_call, ↓e_isiT, ↓e_lz, ↓e_meth, ↓e_meth0, ↓e_oN, ↓e_oS, ↓e_sl, ↓e_gVar, ↓e_gSub, ↓e_gTp, ↓e_gN, ↓e_gC, ↓e_next, ↓e_seq, ↓e_drop, ↓e_ret, ↓e_retN, ↓e_brk, ↓e_cnt, ↓e_if, ↓e_asg, ↓e_as2, ↓e_as3, ↓e_par, ↓e_aug, ↓e_augS, ↓e_for, ↓e_f0, ↓e_f1, ↓e_while, ↓e_asS1, ↓e_asS2, ↓e_asS3, ↓e_iSeq, ↓e_enum, ↓e_asTI, ↓e_enumC, ↓e_rng1, ↓e_zip, ↓e_zipX, ↓e_comp, ↓e_c0, ↓e_c1, ↓e_y, ↓e_body, ↓e_addI, ↓e_addT, ↓e_addL, ↓e_subI, ↓e_iadd, ↓e_mulI, ↓e_divI, ↓e_modI, ↓e_powI, ↓e_negI, ↓e_mulT, ↓e_mulL, ↓e_cmp, ↓e_eq, ↓e_ne, ↓e_isN, ↓e_isB, ↓e_isNotN, ↓e_isNotB, ↓e_ix, ↓e_abs, ↓e_toI, ↓e_toB1, ↓e_toB0, ↓e_lenT, ↓e_lenL, ↓e_lenRo, ↓e_lenR, ↓e_tupT, ↓e_tupL, ↓e_tupR, ↓e_lstT, ↓e_lstL, ↓e_allM, ↓e_in, ↓e_notIn, ↓e_sum, ↓e_max, ↓e_par3, ↓e_pop, ↓e_frz, ↓e_frzR, ↓e_isi, ↓e_slT, ↓e_slL, ↓e_slRo, ↓e_app, ↓e_ext, ↓e_setM, r_it1, r_it2, r_it3, r_it4, r_ls2, r_ls3, r_ml2, r_ml3, r_mg0, r_mgn, r_at0, r_at1, r_at2, r_at3, r_ix0, r_ix1, r_ix2, r_ty1, r_ty2, r_ty3, r_ty4, r_ty5, r_ty6, r_ty7, r_ty8, r_sNt, r_sNi, r_sNb, r_sNs, r_sbt, r_sbi, r_sbb, r_sbs, r_sit, r_sii, r_sib, r_sis, r_sst, r_ssi, r_ssb, r_sss, r_stt, r_sti, r_stb, r_sts, r_slt, r_sli, r_slb, r_sls, r_aN, r_ab, r_ai, r_as, r_at, r_al, r_eqI, r_eqB, r_eqS, r_pu1, r_pu2, r_eqN, r_fr1, r_fx1, r_fx2, r_fx3, r_bo0, r_bo1, r_c0, r_c1, r_c2, r_c3, r_c4, r_c5, r_c6, r_c7, r_c8, r_c9, r_c10, r_c11, r_c12, r_pd0, r_pd1, r_pd2, r_wi0, r_wi1, List.set_cons_zero, List.set_cons_succ, List.getElem?_cons_zero, List.getElem?_cons_succ, ↓reduceIte, List.length_cons, List.length_nil, Nat.zero_add, Nat.reduceAdd, and_true, true_and, decide_true, decide_false, eq_self, beq_self_eq_true, Bool.true_beq, Bool.false_beq, Bool.not_true, Bool.not_false, Int.reduceEq, Int.reduceLT, Int.reduceLE, Int.reduceAdd, Int.reduceSub, Int.reduceMul, Int.reduceNeg, Bool.not_not, List.append_nil, List.nil_append, List.cons_append, z_int, z_bl, z_non, z_tup, z_lst, z_str, z_lint, z_lbl, z_lnon, z_ltup, z_llst, z_lstr, z_whole, intsOf_map, hds, List.length_map, hil]
  refine ⟨by decide, by decide, ?_⟩
  refine (lp_row (h := h) g1 g2 ha hc (x := (t.size : Int)) (y := (dsum t : Int)) (by omega) (by omega) none none).mono ?_
  rintro f ρ h' ⟨rfl, rfl, p8, p9, rfl⟩
  simp (config := {dsimp := false}) only [↓e_pr, ↓e_some, ↓e_an, ↓e_brT, ↓e_brF, ↓e_asB, ↓e_asI, ↓e_asV, ↓e_stE, ↓e_stE0, ↓e_stL, ↓e_stL0, ↓e_sqN, ↓e_sqR, ↓e_sqB, ↓e_sqC, ↓e_afN, ↓e_afR, ↓e_afB, ↓e_afC, ↓e_rtN, ↓e_rtR, ↓e_var, ↓e_c, ↓e_op, ↓e_un, ↓e_t, ↓e_nt, ↓e_anT, ↓e_orT, ↓e_and, ↓e_or, ↓e_not, ↓e_ite, ↓e_ch, ↓e_nil, ↓e_cons, ↓e_star, ↓e_tup, ↓e_lst, ↓e_mut, ↓e_call, ↓e_isiT, ↓e_lz, ↓e_meth, ↓e_meth0, ↓e_oN, ↓e_oS, ↓e_sl, ↓e_gVar, ↓e_gSub, ↓e_gTp, ↓e_gN, ↓e_gC, ↓e_next, ↓e_seq, ↓e_drop, ↓e_ret, ↓e_retN, ↓e_brk, ↓e_cnt, ↓e_if, ↓e_asg, ↓e_as2, ↓e_as3, ↓e_par, ↓e_aug, ↓e_augS, ↓e_for, ↓e_f0, ↓e_f1, ↓e_while, ↓e_asS1, ↓e_asS2, ↓e_asS3, ↓e_iSeq, ↓e_enum, ↓e_asTI, ↓e_enumC, ↓e_rng1, ↓e_zip, ↓e_zipX, ↓e_comp, ↓e_c0, ↓e_c1, ↓e_y, ↓e_body, ↓e_addI, ↓e_addT, ↓e_addL, ↓e_subI, ↓e_iadd, ↓e_mulI, ↓e_divI, ↓e_modI, ↓e_powI, ↓e_negI, ↓e_mulT, ↓e_mulL, ↓e_cmp, ↓e_eq, ↓e_ne, ↓e_isN, ↓e_isB, ↓e_isNotN, ↓e_isNotB, ↓e_ix, ↓e_abs, ↓e_toI, ↓e_toB1, ↓e_toB0, ↓e_lenT, ↓e_lenL, ↓e_lenRo, ↓e_lenR, ↓e_tupT, ↓e_tupL, ↓e_tupR, ↓e_lstT, ↓e_lstL, ↓e_allM, ↓e_in, ↓e_notIn, ↓e_sum, ↓e_max, ↓e_par3, ↓e_pop, ↓e_frz, ↓e_frzR, ↓e_isi, ↓e_slT, ↓e_slL, ↓e_slRo, ↓e_app, ↓e_ext, ↓e_setM, r_it1, r_it2, r_it3, r_it4, r_ls2, r_ls3, r_ml2, r_ml3, r_mg0, r_mgn, r_at0, r_at1, r_at2, r_at3, r_ix0, r_ix1, r_ix2, r_ty1, r_ty2, r_ty3, r_ty4, r_ty5, r_ty6, r_ty7, r_ty8, r_sNt, r_sNi, r_sNb, r_sNs, r_sbt, r_sbi, r_sbb, r_sbs, r_sit, r_sii, r_sib, r_sis, r_sst, r_ssi, r_ssb, r_sss, r_stt, r_sti, r_stb, r_sts, r_slt, r_sli, r_slb, r_sls, r_aN, r_ab, r_ai, r_as, r_at, r_al, r_eqI, r_eqB, r_eqS, r_pu1, r_pu2, r_eqN, r_fr1, r_fx1, r_fx2, r_fx3, r_bo0, r_bo1, r_c0, r_c1, r_c2, r_c3, r_c4, r_c5, r_c6, r_c7, r_c8, r_c9, r_c10, r_c11, r_c12, r_pd0, r_pd1, r_pd2, r_wi0, r_wi1, List.set_cons_zero, List.set_cons_succ, List.getElem?_cons_zero, List.getElem?_cons_succ, ↓reduceIte, List.length_cons, List.length_nil, Nat.zero_add, Nat.reduceAdd, and_true, true_and, decide_true, decide_false, eq_self, beq_self_eq_true, Bool.true_beq, Bool.false_beq, Bool.not_true, Bool.not_false, Int.reduceEq, Int.reduceLT, Int.reduceLE, Int.reduceAdd, Int.reduceSub, Int.reduceMul, Int.reduceNeg, Bool.not_not, List.append_nil, List.nil_append, List.cons_append, z_int, z_bl, z_non, z_tup, z_lst, z_str, z_lint, z_lbl, z_lnon, z_ltup, z_llst, z_lstr, z_whole]
  have e3 : (t.ino 0).map (fun p => vD .num p.1) = ((t.ino 0).map (·.1)).map (vD .num) := by rw [List.map_map]; rfl
  rw [e3]
  refine (lp_loop (h := h') (c := c) (k := .num) (a2 := ()) ((t.ino 0).map (·.1)) (by rw [List.length_map]; omega) hlin (by rw [show bits c .num = 0 from rfl] at hb ⊢; omega) (fun x _ => .zero) (fun x _ => ih x) _ p8 p9 none none).mono ?_
  rintro f ρ h2 ⟨rfl, rfl, o6, rfl⟩
  simp (config := {dsimp := false}) only [↓e_pr, ↓e_some, ↓e_an, ↓e_brT, ↓e_brF, ↓e_asB, ↓e_asI, ↓e_asV, ↓e_stE, ↓e_stE0, ↓e_stL, ↓e_stL0, ↓e_sqN, ↓e_sqR, ↓e_sqB, ↓e_sqC, ↓e_afN, ↓e_afR, ↓e_afB, ↓e_afC, ↓e_rtN, ↓e_rtR, ↓e_var, ↓e_c, ↓e_op, ↓e_un, ↓e_t, ↓e_nt, ↓e_anT, ↓e_orT, ↓e_and, ↓e_or, ↓e_not, ↓e_ite, ↓e_ch, ↓e_nil, ↓e_cons, ↓e_star, ↓e_tup, ↓e_lst, ↓e_mut, ↓e_call, ↓e_isiT, ↓e_lz, ↓e_meth, ↓e_meth0, ↓e_oN, ↓e_oS, ↓e_sl, ↓e_gVar, ↓e_gSub, ↓e_gTp, ↓e_gN, ↓e_gC, ↓e_next, ↓e_seq, ↓e_drop, ↓e_ret, ↓e_retN, ↓e_brk, ↓e_cnt, ↓e_if, ↓e_asg, ↓e_as2, ↓e_as3, ↓e_par, ↓e_aug, ↓e_augS, ↓e_for, ↓e_f0, ↓e_f1, ↓e_while, ↓e_asS1, ↓e_asS2, ↓e_asS3, ↓e_iSeq, ↓e_enum, ↓e_asTI, ↓e_enumC, ↓e_rng1, ↓e_zip, ↓e_zipX, ↓e_comp, ↓e_c0, ↓e_c1, ↓e_y, ↓e_body, ↓e_addI, ↓e_addT, ↓e_addL, ↓e_subI, ↓e_iadd, ↓e_mulI, ↓e_divI, ↓e_modI, ↓e_powI, ↓e_negI, ↓e_mulT, ↓e_mulL, ↓e_cmp, ↓e_eq, ↓e_ne, ↓e_isN, ↓e_isB, ↓e_isNotN, ↓e_isNotB, ↓e_ix, ↓e_abs, ↓e_toI, ↓e_toB1, ↓e_toB0, ↓e_lenT, ↓e_lenL, ↓e_lenRo, ↓e_lenR, ↓e_tupT, ↓e_tupL, ↓e_tupR, ↓e_lstT, ↓e_lstL, ↓e_allM, ↓e_in, ↓e_notIn, ↓e_sum, ↓e_max, ↓e_par3, ↓e_pop, ↓e_frz, ↓e_frzR, ↓e_isi, ↓e_slT, ↓e_slL, ↓e_slRo, ↓e_app, ↓e_ext, ↓e_setM, r_it1, r_it2, r_it3, r_it4, r_ls2, r_ls3, r_ml2, r_ml3, r_mg0, r_mgn, r_at0, r_at1, r_at2, r_at3, r_ix0, r_ix1, r_ix2, r_ty1, r_ty2, r_ty3, r_ty4, r_ty5, r_ty6, r_ty7, r_ty8, r_sNt, r_sNi, r_sNb, r_sNs, r_sbt, r_sbi, r_sbb, r_sbs, r_sit, r_sii, r_sib, r_sis, r_sst, r_ssi, r_ssb, r_sss, r_stt, r_sti, r_stb, r_sts, r_slt, r_sli, r_slb, r_sls, r_aN, r_ab, r_ai, r_as, r_at, r_al, r_eqI, r_eqB, r_eqS, r_pu1, r_pu2, r_eqN, r_fr1, r_fx1, r_fx2, r_fx3, r_bo0, r_bo1, r_c0, r_c1, r_c2, r_c3, r_c4, r_c5, r_c6, r_c7, r_c8, r_c9, r_c10, r_c11, r_c12, r_pd0, r_pd1, r_pd2, r_wi0, r_wi1, List.set_cons_zero, List.set_cons_succ, List.getElem?_cons_zero, List.getElem?_cons_succ, ↓reduceIte, List.length_cons, List.length_nil, Nat.zero_add, Nat.reduceAdd, and_true, true_and, decide_true, decide_false, eq_self, beq_self_eq_true, Bool.true_beq, Bool.false_beq, Bool.not_true, Bool.not_false, Int.reduceEq, Int.reduceLT, Int.reduceLE, Int.reduceAdd, Int.reduceSub, Int.reduceMul, Int.reduceNeg, Bool.not_not, List.append_nil, List.nil_append, List.cons_append, z_int, z_bl, z_non, z_tup, z_lst, z_str, z_lint, z_lbl, z_lnon, z_ltup, z_llst, z_lstr, z_whole]
  rw [List.map_map]
  rfl
theorem lpot_num {a : An .num} {x : Vt .num} {r : Nat} {h : Sto} (hr : 0 < r) : recF 11 b_law_potential r [kD .num, aD .num a, vD .num x] h = some (qD (pot .num a x), h) := by
  obtain ⟨r, rfl⟩ : ∃ n, r = n + 1 := ⟨r - 1, by omega⟩
  refine Ev_eq (rec_iff.mpr ?_)
  unfold b_law_potential
  simp (config := {dsimp := false}) only [↓e_pr, ↓e_some, ↓e_an, ↓e_brT, ↓e_brF, ↓e_asB, ↓e_asI, ↓e_asV, ↓e_stE, ↓e_stE0, ↓e_stL, ↓e_stL0, ↓e_sqN, ↓e_sqR, ↓e_sqB, ↓e_sqC, ↓e_afN, ↓e_afR, ↓e_afB, ↓e_afC, ↓e_rtN, ↓e_rtR, ↓e_var, ↓e_c, ↓e_op, ↓e_un, ↓e_t, ↓e_nt, ↓e_anT, ↓e_orT, ↓e_and, ↓e_or, ↓e_not, ↓e_ite, ↓e_ch, ↓e_nil, ↓e_cons, ↓e_star, ↓e_tup, ↓e_lst, ↓e_mut, ↓e_call, ↓e_isiT, ↓e_lz, ↓e_meth, ↓e_meth0, ↓e_oN, ↓e_oS, ↓e_sl, ↓e_gVar, ↓e_gSub, ↓e_gTp, ↓e_gN, ↓e_gC, ↓e_next, ↓e_seq, ↓e_drop, ↓e_ret, ↓e_retN, ↓e_brk, ↓e_cnt, ↓e_if, ↓e_asg, ↓e_as2, ↓e_as3, ↓e_par, ↓e_aug, ↓e_augS, ↓e_for, ↓e_f0, ↓e_f1, ↓e_while, ↓e_asS1, ↓e_asS2, ↓e_asS3, ↓e_iSeq, ↓e_enum, ↓e_asTI, ↓e_enumC, ↓e_rng1, ↓e_zip, ↓e_zipX, ↓e_comp, ↓e_c0, ↓e_c1, ↓e_y, ↓e_body, ↓e_addI, ↓e_addT, ↓e_addL, ↓e_subI, ↓e_iadd, ↓e_mulI, ↓e_divI, ↓e_modI, ↓e_powI, ↓e_negI, ↓e_mulT, ↓e_mulL, ↓e_cmp, ↓e_eq, ↓e_ne, ↓e_isN, ↓e_isB, ↓e_isNotN, ↓e_isNotB, ↓e_ix, ↓e_abs, ↓e_toI, ↓e_toB1, ↓e_toB0, ↓e_lenT, ↓e_lenL, ↓e_lenRo, ↓e_lenR, ↓e_tupT, ↓e_tupL, ↓e_tupR, ↓e_lstT, ↓e_lstL, ↓e_allM, ↓e_in, ↓e_notIn, ↓e_sum, ↓e_max, ↓e_par3, ↓e_pop, ↓e_frz, ↓e_frzR, ↓e_isi, ↓e_slT, ↓e_slL, ↓e_slRo, ↓e_app, ↓e_ext, ↓e_setM, r_it1, r_it2, r_it3, r_it4, r_ls2, r_ls3, r_ml2, r_ml3, r_mg0, r_mgn, r_at0, r_at1, r_at2, r_at3, r_ix0, r_ix1, r_ix2, r_ty1, r_ty2, r_ty3, r_ty4, r_ty5, r_ty6, r_ty7, r_ty8, r_sNt, r_sNi, r_sNb, r_sNs, r_sbt, r_sbi, r_sbb, r_sbs, r_sit, r_sii, r_sib, r_sis, r_sst, r_ssi, r_ssb, r_sss, r_stt, r_sti, r_stb, r_sts, r_slt, r_sli, r_slb, r_sls, r_aN, r_ab, r_ai, r_as, r_at, r_al, r_eqI, r_eqB, r_eqS, r_pu1, r_pu2, r_eqN, r_fr1, r_fx1, r_fx2, r_fx3, r_bo0, r_bo1, r_c0, r_c1, r_c2, r_c3, r_c4, r_c5, r_c6, r_c7, r_c8, r_c9, r_c10, r_c11, r_c12, r_pd0, r_pd1, r_pd2, r_wi0, r_wi1, List.set_cons_zero, List.set_cons_succ, List.getElem?_cons_zero, List.getElem?_cons_succ, ↓reduceIte, List.length_cons, List.length_nil, Nat.zero_add, Nat.reduceAdd, and_true, true_and, decide_true, decide_false, eq_self, beq_self_eq_true, Bool.true_beq, Bool.false_beq, Bool.not_true, Bool.not_false, Int.reduceEq, Int.reduceLT, Int.reduceLE, Int.reduceAdd, Int.reduceSub, Int.reduceMul, Int.reduceNeg, Bool.not_not, List.append_nil, List.nil_append, List.cons_append, z_int, z_bl, z_non, z_tup, z_lst, z_str, z_lint, z_lbl, z_lnon, z_ltup, z_llst, z_lstr, z_whole, kD, w_nn]
  exact ⟨by decide, rfl⟩
theorem sp_law_potential {c g : Nat} {h : Sto} (hc : c ≤ 50) (g1 : 1 ≤ g) (g2 : g ≤ 2) : ∀ (k : Kd) (a : An k) (v : Vt k) (r : Nat), dep k < r → TN k → AFit g k a → (∀ q ∈ nums k a, BQ c q) → VOk k v → bits c k ≤ 2000 →
    recF 11 b_law_potential r [kD k, aD k a, vD k v] h = some (qD (pot k a v), h)
  | .num, a, v, r + 1, _, _, _, _, _, _ => by
    refine Ev_eq (rec_iff.mpr ?_)
    unfold b_law_potential
    simp (config := {dsimp := false}) only [↓e_pr, ↓e_some, ↓e_an, ↓e_brT, ↓e_brF, ↓e_asB, ↓e_asI, ↓e_asV, ↓e_stE, ↓e_stE0, ↓e_stL, ↓e_stL0, ↓e_sqN, ↓e_sqR, ↓e_sqB, ↓e_sqC, ↓e_afN, ↓e_afR, ↓e_afB, ↓e_afC, ↓e_rtN, ↓e_rtR, ↓e_var, ↓e_c, ↓e_op, ↓e_un, ↓e_t, ↓e_nt, ↓e_anT, ↓e_orT, ↓e_and, ↓e_or, ↓e_not, ↓e_ite, ↓e_ch, ↓e_nil, ↓e_cons, ↓e_star, ↓e_tup, ↓e_lst, ↓e_mut, ↓e_call, ↓e_isiT, ↓e_lz, ↓e_meth, ↓e_meth0, ↓e_oN, ↓e_oS, ↓e_sl, ↓e_gVar, ↓e_gSub, ↓e_gTp, ↓e_gN, ↓e_gC, ↓e_next, ↓e_seq, ↓e_drop, ↓e_ret, ↓e_retN, ↓e_brk, ↓e_cnt, ↓e_if, ↓e_asg, ↓e_as2, ↓e_as3, ↓e_par, ↓e_aug, ↓e_augS, ↓e_for, ↓e_f0, ↓e_f1, ↓e_while, ↓e_asS1, ↓e_asS2, ↓e_asS3, ↓e_iSeq, ↓e_enum, ↓e_asTI, ↓e_enumC, ↓e_rng1, ↓e_zip, ↓e_zipX, ↓e_comp, ↓e_c0, ↓e_c1, ↓e_y, ↓e_body, ↓e_addI, ↓e_addT, ↓e_addL, ↓e_subI, ↓e_iadd, ↓e_mulI, ↓e_divI, ↓e_modI, ↓e_powI, ↓e_negI, ↓e_mulT, ↓e_mulL, ↓e_cmp, ↓e_eq, ↓e_ne, ↓e_isN, ↓e_isB, ↓e_isNotN, ↓e_isNotB, ↓e_ix, ↓e_abs, ↓e_toI, ↓e_toB1, ↓e_toB0, ↓e_lenT, ↓e_lenL, ↓e_lenRo, ↓e_lenR, ↓e_tupT, ↓e_tupL, ↓e_tupR, ↓e_lstT, ↓e_lstL, ↓e_allM, ↓e_in, ↓e_notIn, ↓e_sum, ↓e_max, ↓e_par3, ↓e_pop, ↓e_frz, ↓e_frzR, ↓e_isi, ↓e_slT, ↓e_slL, ↓e_slRo, ↓e_app, ↓e_ext, ↓e_setM, r_it1, r_it2, r_it3, r_it4, r_ls2, r_ls3, r_ml2, r_ml3, r_mg0, r_mgn, r_at0, r_at1, r_at2, r_at3, r_ix0, r_ix1, r_ix2, r_ty1, r_ty2, r_ty3, r_ty4, r_ty5, r_ty6, r_ty7, r_ty8, r_sNt, r_sNi, r_sNb, r_sNs, r_sbt, r_sbi, r_sbb, r_sbs, r_sit, r_sii, r_sib, r_sis, r_sst, r_ssi, r_ssb, r_sss, r_stt, r_sti, r_stb, r_sts, r_slt, r_sli, r_slb, r_sls, r_aN, r_ab, r_ai, r_as, r_at, r_al, r_eqI, r_eqB, r_eqS, r_pu1, r_pu2, r_eqN, r_fr1, r_fx1, r_fx2, r_fx3, r_bo0, r_bo1, r_c0, r_c1, r_c2, r_c3, r_c4, r_c5, r_c6, r_c7, r_c8, r_c9, r_c10, r_c11, r_c12, r_pd0, r_pd1, r_pd2, r_wi0, r_wi1, List.set_cons_zero, List.set_cons_succ, List.getElem?_cons_zero, List.getElem?_cons_succ, ↓reduceIte, List.length_cons, List.length_nil, Nat.zero_add, Nat.reduceAdd, and_true, true_and, decide_true, decide_false, eq_self, beq_self_eq_true, Bool.true_beq, Bool.false_beq, Bool.not_true, Bool.not_false, Int.reduceEq, Int.reduceLT, Int.reduceLE, Int.reduceAdd, Int.reduceSub, Int.reduceMul, Int.reduceNeg, Bool.not_not, List.append_nil, List.nil_append, List.cons_append, z_int, z_bl, z_non, z_tup, z_lst, z_str, z_lint, z_lbl, z_lnon, z_ltup, z_llst, z_lstr, z_whole, kD, w_nn]
    exact ⟨by decide, rfl⟩
  | .lst k, a, v, r + 1, hr, ht, hf, ha, hv, hb => by
    rw [dep] at hr
    have hb' := hb
    rw [bits] at hb'
    exact Ev_eq (rec_iff.mpr (lpot_lst (l := v) hc (by rw [hf.1]; exact g1) (by rw [hf.1]; exact g2) (fun q hq => ha q (List.mem_append_left _ hq)) hv.1 (fun x hx => pot_bq k a.2 x (fun q hq => ha q (List.mem_append_right _ hq)) (hv.2 x hx)) hb
      fun x hx => sp_law_potential hc g1 g2 k a.2 x r (by omega) ht hf.2 (fun q hq => ha q (List.mem_append_right _ hq)) (hv.2 x hx) (by omega)))
  | .tre k, a, v, r + 1, hr, ht, hf, ha, hv, hb => by
    have ht : k = .num := ht
    subst ht
    rw [dep] at hr
    have e := Ev_eq (rec_iff.mpr (lpot_tre (t := v) (h := h) hc (by rw [hf.1]; exact g1) (by rw [hf.1]; exact g2) (fun q hq => ha q (List.mem_append_left _ hq)) hv.1 hv.2.2 hb
      fun x => (lpot_num (r := r) (by omega))))
    rw [sum_perm ((Tr.perm v 0).map _)] at e
    exact e
  | .par x y, a, v, r + 1, hr, ht, hf, ha, hv, hb => by
    rw [dep] at hr
    have hb' := hb
    rw [bits] at hb'
    have p1 := pot_bq x a.1 v.1 (fun q hq => ha q (List.mem_append_left _ hq)) hv.1
    have p2 := pot_bq y a.2 v.2 (fun q hq => ha q (List.mem_append_right _ hq)) hv.2
    have ih1 := sp_law_potential (h := h) hc g1 g2 x a.1 v.1 r (by omega) ht.1 hf.1 (fun q hq => ha q (List.mem_append_left _ hq)) hv.1 (by omega)
    have ih2 := sp_law_potential (h := h) hc g1 g2 y a.2 v.2 r (by omega) ht.2 hf.2 (fun q hq => ha q (List.mem_append_right _ hq)) hv.2 (by omega)
    refine Ev_eq (rec_iff.mpr ?_)
    generalize recF 11 b_law_potential r = me at ih1 ih2 ⊢
    unfold b_law_potential
    simp (config := {dsimp := false}) only [↓e_pr, ↓e_some, ↓e_an, ↓e_brT, ↓e_brF, ↓e_asB, ↓e_asI, ↓e_asV, ↓e_stE, ↓e_stE0, ↓e_stL, ↓e_stL0, ↓e_sqN, ↓e_sqR, ↓e_sqB, ↓e_sqC, ↓e_afN, ↓e_afR, ↓e_afB, ↓e_afC, ↓e_rtN, ↓e_rtR, ↓e_var, ↓e_c, ↓e_op, ↓e_un, ↓e_t, ↓e_nt, ↓e_anT, ↓e_orT, ↓e_and, ↓e_or, ↓e_not, ↓e_ite, ↓e_ch, ↓e_nil, ↓e_cons, ↓e_star, ↓e_tup, ↓e_lst, ↓e_mut, ↓e_call, ↓e_isiT, ↓e_lz, ↓e_meth, ↓e_meth0, ↓e_oN, ↓e_oS, ↓e_sl, ↓e_gVar, ↓e_gSub, ↓e_gTp, ↓e_gN, ↓e_gC, ↓e_next, ↓e_seq, ↓e_drop, ↓e_ret, ↓e_retN, ↓e_brk, ↓e_cnt, ↓e_if, ↓e_asg, ↓e_as2, ↓e_as3, ↓e_par, ↓e_aug, ↓e_augS, ↓e_for, ↓e_f0, ↓e_f1, ↓e_while, ↓e_asS1, ↓e_asS2, ↓e_asS3, ↓e_iSeq, ↓e_enum, ↓e_asTI, ↓e_enumC, ↓e_rng1, ↓e_zip, ↓e_zipX, ↓e_comp, ↓e_c0, ↓e_c1, ↓e_y, ↓e_body, ↓e_addI, ↓e_addT, ↓e_addL, ↓e_subI, ↓e_iadd, ↓e_mulI, ↓e_divI, ↓e_modI, ↓e_powI, ↓e_negI, ↓e_mulT, ↓e_mulL, ↓e_cmp, ↓e_eq, ↓e_ne, ↓e_isN, ↓e_isB, ↓e_isNotN, ↓e_isNotB, ↓e_ix, ↓e_abs, ↓e_toI, ↓e_toB1, ↓e_toB0, ↓e_lenT, ↓e_lenL, ↓e_lenRo, ↓e_lenR, ↓e_tupT, ↓e_tupL, ↓e_tupR, ↓e_lstT, ↓e_lstL, ↓e_allM, ↓e_in, ↓e_notIn, ↓e_sum, ↓e_max, ↓e_par3, ↓e_pop, ↓e_frz, ↓e_frzR, ↓e_isi, ↓e_slT, ↓e_slL, ↓e_slRo, ↓e_app, ↓e_ext, ↓e_setM, r_it1, r_it2, r_it3, r_it4, r_ls2, r_ls3, r_ml2, r_ml3, r_mg0, r_mgn, r_at0, r_at1, r_at2, r_at3, r_ix0, r_ix1, r_ix2, r_ty1, r_ty2, r_ty3, r_ty4, r_ty5, r_ty6, r_ty7, r_ty8, r_sNt, r_sNi, r_sNb, r_sNs, r_sbt, r_sbi, r_sbb, r_sbs, r_sit, r_sii, r_sib, r_sis, r_sst, r_ssi, r_ssb, r_sss, r_stt, r_sti, r_stb, r_sts, r_slt, r_sli, r_slb, r_sls, r_aN, r_ab, r_ai, r_as, r_at, r_al, r_eqI, r_eqB, r_eqS, r_pu1, r_pu2, r_eqN, r_fr1, r_fx1, r_fx2, r_fx3, r_bo0, r_bo1, r_c0, r_c1, r_c2, r_c3, r_c4, r_c5, r_c6, r_c7, r_c8, r_c9, r_c10, r_c11, r_c12, r_pd0, r_pd1, r_pd2, r_wi0, r_wi1, List.set_cons_zero, List.set_cons_succ, List.getElem?_cons_zero, List.getElem?_cons_succ, ↓reduceIte, List.length_cons, List.length_nil, Nat.zero_add, Nat.reduceAdd, and_true, true_and, decide_true, decide_false, eq_self, beq_self_eq_true, Bool.true_beq, Bool.false_beq, Bool.not_true, Bool.not_false, Int.reduceEq, Int.reduceLT, Int.reduceLE, Int.reduceAdd, Int.reduceSub, Int.reduceMul, Int.reduceNeg, Bool.not_not, List.append_nil, List.nil_append, List.cons_append, z_int, z_bl, z_non, z_tup, z_lst, z_str, z_lint, z_lbl, z_lnon, z_ltup, z_llst, z_lstr, z_whole, kD, aD, vD, w_pn, w_pp, ih1, ih2, q_law_add p1 p2 (by omega)]
    rfl

end K19
namespace K19
open Sh ShR Iv PySem PySem.Spec PyProof.Rows L2
/-! ### potentials of sums, multiples, and of what covers -/
def addA : (k : Kd) → An k → An k → An k
  | .num, _, _ => ()
  | .lst k, a, b => (List.zipWith (· + ·) a.1 b.1, addA k a.2 b.2)
  | .tre k, a, b => (List.zipWith (· + ·) a.1 b.1, addA k a.2 b.2)
  | .par x y, a, b => (addA x a.1 b.1, addA y a.2 b.2)
def mulA (f : Rat) : (k : Kd) → An k → An k
  | .num, _ => ()
  | .lst k, a => (a.1.map (· * f), mulA f k a.2)
  | .tre k, a => (a.1.map (· * f), mulA f k a.2)
  | .par x y, a => (mulA f x a.1, mulA f y a.2)
theorem zw_append {a b c d : List Rat} (h : a.length = c.length) : List.zipWith (· + ·) (a ++ b) (c ++ d) = List.zipWith (· + ·) a c ++ List.zipWith (· + ·) b d := List.zipWith_append h
theorem nums_addA {g : Nat} : ∀ (k : Kd) (a b : An k), AFit g k a → AFit g k b → nums k (addA k a b) = List.zipWith (· + ·) (nums k a) (nums k b)
  | .num, _, _, _, _ => rfl
  | .lst k, a, b, ha, hb => by
    show List.zipWith (· + ·) a.1 b.1 ++ nums k (addA k a.2 b.2) = List.zipWith (· + ·) (a.1 ++ nums k a.2) (b.1 ++ nums k b.2)
    rw [zw_append (by rw [ha.1, hb.1]), nums_addA k a.2 b.2 ha.2 hb.2]
  | .tre k, a, b, ha, hb => by
    show List.zipWith (· + ·) a.1 b.1 ++ nums k (addA k a.2 b.2) = List.zipWith (· + ·) (a.1 ++ nums k a.2) (b.1 ++ nums k b.2)
    rw [zw_append (by rw [ha.1, hb.1]), nums_addA k a.2 b.2 ha.2 hb.2]
  | .par x y, a, b, ha, hb => by
    show nums x (addA x a.1 b.1) ++ nums y (addA y a.2 b.2) = List.zipWith (· + ·) (nums x a.1 ++ nums y a.2) (nums x b.1 ++ nums y b.2)
    rw [zw_append (by rw [nums_len x a.1 ha.1, nums_len x b.1 hb.1]), nums_addA x a.1 b.1 ha.1 hb.1, nums_addA y a.2 b.2 ha.2 hb.2]
theorem addA_fit {g : Nat} : ∀ (k : Kd) (a b : An k), AFit g k a → AFit g k b → AFit g k (addA k a b)
  | .num, _, _, _, _ => trivial
  | .lst k, a, b, ha, hb => ⟨by show (List.zipWith _ a.1 b.1).length = g; rw [List.length_zipWith, ha.1, hb.1, Nat.min_self], addA_fit k a.2 b.2 ha.2 hb.2⟩
  | .tre k, a, b, ha, hb => ⟨by show (List.zipWith _ a.1 b.1).length = g; rw [List.length_zipWith, ha.1, hb.1, Nat.min_self], addA_fit k a.2 b.2 ha.2 hb.2⟩
  | .par x y, a, b, ha, hb => ⟨addA_fit x a.1 b.1 ha.1 hb.1, addA_fit y a.2 b.2 ha.2 hb.2⟩
theorem nums_mulA {f : Rat} : ∀ (k : Kd) (a : An k), nums k (mulA f k a) = (nums k a).map (· * f)
  | .num, _ => rfl
  | .lst k, a => by
    show a.1.map (· * f) ++ nums k (mulA f k a.2) = (a.1 ++ nums k a.2).map (· * f)
    rw [List.map_append, nums_mulA k a.2]
  | .tre k, a => by
    show a.1.map (· * f) ++ nums k (mulA f k a.2) = (a.1 ++ nums k a.2).map (· * f)
    rw [List.map_append, nums_mulA k a.2]
  | .par x y, a => by
    show nums x (mulA f x a.1) ++ nums y (mulA f y a.2) = (nums x a.1 ++ nums y a.2).map (· * f)
    rw [List.map_append, nums_mulA x a.1, nums_mulA y a.2]
theorem mulA_fit {f : Rat} {g : Nat} : ∀ (k : Kd) (a : An k), AFit g k a → AFit g k (mulA f k a)
  | .num, _, _ => trivial
  | .lst k, a, ha => ⟨by show (a.1.map _).length = g; rw [List.length_map, ha.1], mulA_fit k a.2 ha.2⟩
  | .tre k, a, ha => ⟨by show (a.1.map _).length = g; rw [List.length_map, ha.1], mulA_fit k a.2 ha.2⟩
  | .par x y, a, ha => ⟨mulA_fit x a.1 ha.1, mulA_fit y a.2 ha.2⟩
theorem lin_add : ∀ (r s c : List Rat), r.length = s.length → linQ (List.zipWith (· + ·) r s) c = linQ r c + linQ s c
  | [], [], _, _ => by show (0 : Rat) = 0 + 0; rw [Rat.add_zero]
  | a :: r, b :: s, [], _ => by show (0 : Rat) = 0 + 0; rw [Rat.add_zero]
  | a :: r, b :: s, x :: c, h => by
    have ih := lin_add r s c (by simpa using h)
    show (a + b) * x + linQ (List.zipWith (· + ·) r s) c = (a * x + linQ r c) + (b * x + linQ s c)
    rw [ih]; grind
theorem lin_mul {f : Rat} : ∀ (r c : List Rat), linQ (r.map (· * f)) c = linQ r c * f
  | [], _ => by show (0 : Rat) = 0 * f; rw [Rat.zero_mul]
  | a :: r, [] => by show (0 : Rat) = 0 * f; rw [Rat.zero_mul]
  | a :: r, x :: c => by
    show a * f * x + linQ (r.map (· * f)) c = (a * x + linQ r c) * f
    rw [lin_mul r c]; grind
theorem sum_add {α : Type} {f g : α → Rat} : ∀ l : List α, (l.map fun x => f x + g x).sum = (l.map f).sum + (l.map g).sum
  | [] => by show (0 : Rat) = 0 + 0; rw [Rat.add_zero]
  | x :: l => by rw [List.map_cons, List.map_cons, List.map_cons, List.sum_cons, List.sum_cons, List.sum_cons, sum_add l]; grind
theorem sum_mul {α : Type} {f : α → Rat} {c : Rat} : ∀ l : List α, (l.map fun x => f x * c).sum = (l.map f).sum * c
  | [] => by show (0 : Rat) = 0 * c; rw [Rat.zero_mul]
  | x :: l => by rw [List.map_cons, List.map_cons, List.sum_cons, List.sum_cons, sum_mul l]; grind

end K19
namespace K19
open Sh ShR Iv PySem PySem.Spec PyProof.Rows L2
theorem pot_add {g : Nat} : ∀ (k : Kd) (a b : An k) (v : Vt k), AFit g k a → AFit g k b → pot k (addA k a b) v = pot k a v + pot k b v
  | .num, _, _, _, _, _ => by show (0 : Rat) = 0 + 0; rw [Rat.add_zero]
  | .lst k, a, b, v, ha, hb => by
    have e : ∀ x : Vt k, pot k (addA k a.2 b.2) x = pot k a.2 x + pot k b.2 x := fun x => pot_add k a.2 b.2 x ha.2 hb.2
    have l := lin_add a.1 b.1 (cnt (List.length v)) (by rw [ha.1, hb.1])
    have s := sum_add (f := pot k a.2) (g := pot k b.2) (show List (Vt k) from v)
    show linQ (List.zipWith (· + ·) a.1 b.1) (cnt (List.length v)) + (List.map (pot k (addA k a.2 b.2)) v).sum = (linQ a.1 (cnt (List.length v)) + (List.map (pot k a.2) v).sum) + (linQ b.1 (cnt (List.length v)) + (List.map (pot k b.2) v).sum)
    rw [l, show pot k (addA k a.2 b.2) = fun x => pot k a.2 x + pot k b.2 x from funext e]
    have s : (List.map (fun x => pot k a.2 x + pot k b.2 x) v).sum = (List.map (pot k a.2) v).sum + (List.map (pot k b.2) v).sum := s
    rw [s]; grind
  | .tre k, a, b, v, ha, hb => by
    have e : ∀ x : Vt k, pot k (addA k a.2 b.2) x = pot k a.2 x + pot k b.2 x := fun x => pot_add k a.2 b.2 x ha.2 hb.2
    have l := lin_add a.1 b.1 [((Tr.size v : Int) : Rat), ((dsum v : Int) : Rat)] (by rw [ha.1, hb.1])
    have s := sum_add (f := fun p : Vt k × Nat => pot k a.2 p.1) (g := fun p : Vt k × Nat => pot k b.2 p.1) (Tr.pre v 0)
    show linQ (List.zipWith (· + ·) a.1 b.1) [((Tr.size v : Int) : Rat), ((dsum v : Int) : Rat)] + ((Tr.pre v 0).map fun p => pot k (addA k a.2 b.2) p.1).sum = (linQ a.1 [((Tr.size v : Int) : Rat), ((dsum v : Int) : Rat)] + ((Tr.pre v 0).map fun p => pot k a.2 p.1).sum) + (linQ b.1 [((Tr.size v : Int) : Rat), ((dsum v : Int) : Rat)] + ((Tr.pre v 0).map fun p => pot k b.2 p.1).sum)
    rw [l, show (fun p : Vt k × Nat => pot k (addA k a.2 b.2) p.1) = fun p => pot k a.2 p.1 + pot k b.2 p.1 from funext fun p => e p.1, s]
    grind
  | .par x y, a, b, v, ha, hb => by
    show pot x (addA x a.1 b.1) v.1 + pot y (addA y a.2 b.2) v.2 = (pot x a.1 v.1 + pot y a.2 v.2) + (pot x b.1 v.1 + pot y b.2 v.2)
    rw [pot_add x a.1 b.1 v.1 ha.1 hb.1, pot_add y a.2 b.2 v.2 ha.2 hb.2]
    grind
theorem pot_mul {f : Rat} : ∀ (k : Kd) (a : An k) (v : Vt k), pot k (mulA f k a) v = pot k a v * f
  | .num, _, _ => by show (0 : Rat) = 0 * f; rw [Rat.zero_mul]
  | .lst k, a, v => by
    have e : pot k (mulA f k a.2) = fun x => pot k a.2 x * f := funext fun x => pot_mul k a.2 x
    have s : (List.map (fun x => pot k a.2 x * f) v).sum = (List.map (pot k a.2) v).sum * f := sum_mul (f := pot k a.2) (show List (Vt k) from v)
    show linQ (a.1.map (· * f)) (cnt (List.length v)) + (List.map (pot k (mulA f k a.2)) v).sum = (linQ a.1 (cnt (List.length v)) + (List.map (pot k a.2) v).sum) * f
    rw [lin_mul, e, s]; grind
  | .tre k, a, v => by
    have s := sum_mul (f := fun p : Vt k × Nat => pot k a.2 p.1) (c := f) (Tr.pre v 0)
    show linQ (a.1.map (· * f)) [((Tr.size v : Int) : Rat), ((dsum v : Int) : Rat)] + ((Tr.pre v 0).map fun p => pot k (mulA f k a.2) p.1).sum = (linQ a.1 [((Tr.size v : Int) : Rat), ((dsum v : Int) : Rat)] + ((Tr.pre v 0).map fun p => pot k a.2 p.1).sum) * f
    rw [lin_mul, show (fun p : Vt k × Nat => pot k (mulA f k a.2) p.1) = fun p => pot k a.2 p.1 * f from funext fun p => pot_mul k a.2 p.1, s]
    grind
  | .par x y, a, v => by
    show pot x (mulA f x a.1) v.1 + pot y (mulA f y a.2) v.2 = (pot x a.1 v.1 + pot y a.2 v.2) * f
    rw [pot_mul x a.1 v.1, pot_mul y a.2 v.2]; grind
/-- each number at least the other's -/
def LeA : (k : Kd) → An k → An k → Prop
  | .num, _, _ => True
  | .lst k, a, b => (∀ p ∈ a.1.zip b.1, p.1 ≤ p.2) ∧ LeA k a.2 b.2
  | .tre k, a, b => (∀ p ∈ a.1.zip b.1, p.1 ≤ p.2) ∧ LeA k a.2 b.2
  | .par x y, a, b => LeA x a.1 b.1 ∧ LeA y a.2 b.2
theorem leA_of {g : Nat} : ∀ (k : Kd) (a b : An k), AFit g k a → AFit g k b → (∀ p ∈ (nums k a).zip (nums k b), p.1 ≤ p.2) → LeA k a b
  | .num, _, _, _, _, _ => trivial
  | .lst k, a, b, ha, hb, h => by
    have e : (nums (.lst k) a).zip (nums (.lst k) b) = a.1.zip b.1 ++ (nums k a.2).zip (nums k b.2) := List.zip_append (by rw [ha.1, hb.1])
    rw [e] at h
    exact ⟨fun p hp => h p (List.mem_append_left _ hp), leA_of k a.2 b.2 ha.2 hb.2 fun p hp => h p (List.mem_append_right _ hp)⟩
  | .tre k, a, b, ha, hb, h => by
    have e : (nums (.tre k) a).zip (nums (.tre k) b) = a.1.zip b.1 ++ (nums k a.2).zip (nums k b.2) := List.zip_append (by rw [ha.1, hb.1])
    rw [e] at h
    exact ⟨fun p hp => h p (List.mem_append_left _ hp), leA_of k a.2 b.2 ha.2 hb.2 fun p hp => h p (List.mem_append_right _ hp)⟩
  | .par x y, a, b, ha, hb, h => by
    have e : (nums (.par x y) a).zip (nums (.par x y) b) = (nums x a.1).zip (nums x b.1) ++ (nums y a.2).zip (nums y b.2) := List.zip_append (by rw [nums_len x a.1 ha.1, nums_len x b.1 hb.1])
    rw [e] at h
    exact ⟨leA_of x a.1 b.1 ha.1 hb.1 fun p hp => h p (List.mem_append_left _ hp), leA_of y a.2 b.2 ha.2 hb.2 fun p hp => h p (List.mem_append_right _ hp)⟩
theorem lin_mono : ∀ (r s c : List Rat), (∀ p ∈ r.zip s, p.1 ≤ p.2) → r.length = s.length → (∀ x ∈ c, 0 ≤ x) → linQ r c ≤ linQ s c
  | [], [], _, _, _, _ => Rat.le_refl
  | a :: r, b :: s, [], _, _, _ => Rat.le_refl
  | a :: r, b :: s, x :: c, h, hl, hc => by
    have ih := lin_mono r s c (fun p hp => h p (List.mem_cons_of_mem _ hp)) (by simpa using hl) fun y hy => hc y (List.mem_cons_of_mem _ hy)
    have h1 : a ≤ b := h (a, b) List.mem_cons_self
    have h2 := hc x List.mem_cons_self
    show a * x + linQ r c ≤ b * x + linQ s c
    have h3 : a * x ≤ b * x := Rat.mul_le_mul_of_nonneg_right h1 h2
    grind
theorem sum_mono {α : Type} {f g : α → Rat} : ∀ l : List α, (∀ x ∈ l, f x ≤ g x) → (l.map f).sum ≤ (l.map g).sum
  | [], _ => Rat.le_refl
  | x :: l, h => by
    have h1 := h x List.mem_cons_self
    have h2 := sum_mono l fun y hy => h y (List.mem_cons_of_mem _ hy)
    rw [List.map_cons, List.map_cons, List.sum_cons, List.sum_cons]
    grind

end K19
namespace K19
open Sh ShR Iv PySem PySem.Spec PyProof.Rows L2
theorem cast_nn {n : Int} (h : 0 ≤ n) : (0 : Rat) ≤ (n : Rat) := by
  have := Rat.intCast_le_intCast.mpr h
  exact this
theorem pot_mono {g : Nat} : ∀ (k : Kd) (a b : An k) (v : Vt k), AFit g k a → AFit g k b → LeA k a b → pot k a v ≤ pot k b v
  | .num, _, _, _, _, _, _ => Rat.le_refl
  | .lst k, a, b, v, ha, hb, h => by
    have e : ∀ x : Vt k, pot k a.2 x ≤ pot k b.2 x := fun x => pot_mono k a.2 b.2 x ha.2 hb.2 h.2
    have l := lin_mono a.1 b.1 (cnt (List.length v)) h.1 (by rw [ha.1, hb.1]) fun x hx => by
      rcases List.mem_cons.mp hx with rfl | hx
      · exact cast_nn (by omega)
      · rw [List.mem_singleton] at hx; subst hx
        exact cast_nn (cnt_nat _)
    have s : (List.map (pot k a.2) v).sum ≤ (List.map (pot k b.2) v).sum := sum_mono (show List (Vt k) from v) fun x _ => e x
    show linQ a.1 (cnt (List.length v)) + (List.map (pot k a.2) v).sum ≤ linQ b.1 (cnt (List.length v)) + (List.map (pot k b.2) v).sum
    grind
  | .tre k, a, b, v, ha, hb, h => by
    have e : ∀ x : Vt k, pot k a.2 x ≤ pot k b.2 x := fun x => pot_mono k a.2 b.2 x ha.2 hb.2 h.2
    have l := lin_mono a.1 b.1 [((Tr.size v : Int) : Rat), ((dsum v : Int) : Rat)] h.1 (by rw [ha.1, hb.1]) fun x hx => by
      rcases List.mem_cons.mp hx with rfl | hx
      · exact cast_nn (by omega)
      · rw [List.mem_singleton] at hx; subst hx
        exact cast_nn (by omega)
    have s := sum_mono (f := fun p : Vt k × Nat => pot k a.2 p.1) (g := fun p => pot k b.2 p.1) (Tr.pre v 0) fun p _ => e p.1
    show linQ a.1 [((Tr.size v : Int) : Rat), ((dsum v : Int) : Rat)] + ((Tr.pre v 0).map fun p => pot k a.2 p.1).sum ≤ linQ b.1 [((Tr.size v : Int) : Rat), ((dsum v : Int) : Rat)] + ((Tr.pre v 0).map fun p => pot k b.2 p.1).sum
    grind
  | .par x y, a, b, v, ha, hb, h => by
    have h1 := pot_mono x a.1 b.1 v.1 ha.1 hb.1 h.1
    have h2 := pot_mono y a.2 b.2 v.2 ha.2 hb.2 h.2
    show pot x a.1 v.1 + pot y a.2 v.2 ≤ pot x b.1 v.1 + pot y b.2 v.2
    grind
/-! ### drawn kinds, annotations, values -/
def kinds : List Kd := [.num, .num, .lst .num, .lst .num, .tre .num, .par .num (.lst .num), .lst (.lst .num), .par .num .num]
theorem sp_kind {h : Sto} {n : Nat} (hn : n < 2 ^ 40) (B : Bag n h) : Ev (d_law_kind [.ref 0] h) fun d h' => (∃ k ∈ kinds, d = kD k) ∧ Bag (n + 1) h' := by
  unfold d_law_kind b_law_kind
  have s8 : 8 ≤ sizeLine := by decide
  simp (config := {dsimp := false}) only [↓e_pr, ↓e_some, ↓e_an, ↓e_brT, ↓e_brF, ↓e_asB, ↓e_asI, ↓e_asV, ↓e_stE, ↓e_stE0, ↓e_stL, ↓e_stL0, ↓e_sqN, ↓e_sqR, ↓e_sqB, ↓e_sqC, ↓e_afN, ↓e_afR, ↓e_afB, ↓e_afC, ↓e_rtN, ↓e_rtR, ↓e_var, ↓e_c, ↓e_op, ↓e_un, ↓e_t, ↓e_nt, ↓e_anT, ↓e_orT, ↓e_and, ↓e_or, ↓e_not, ↓e_ite, ↓e_ch, ↓e_nil, ↓e_cons, ↓e_star, ↓e_tup, ↓e_lst, ↓e_mut, ↓e_call, ↓e_isiT, ↓e_lz, ↓e_meth, ↓e_meth0, ↓e_oN, ↓e_oS, ↓e_sl, ↓e_gVar, ↓e_gSub, ↓e_gTp, ↓e_gN, ↓e_gC, ↓e_next, ↓e_seq, ↓e_drop, ↓e_ret, ↓e_retN, ↓e_brk, ↓e_cnt, ↓e_if, ↓e_asg, ↓e_as2, ↓e_as3, ↓e_par, ↓e_aug, ↓e_augS, ↓e_for, ↓e_f0, ↓e_while, ↓e_asS1, ↓e_asS2, ↓e_asS3, ↓e_iSeq, ↓e_enum, ↓e_asTI, ↓e_enumC, ↓e_rng1, ↓e_zip, ↓e_zipX, ↓e_comp, ↓e_c0, ↓e_y, ↓e_body, ↓e_addI, ↓e_addT, ↓e_addL, ↓e_subI, ↓e_iadd, ↓e_mulI, ↓e_divI, ↓e_modI, ↓e_powI, ↓e_negI, ↓e_mulT, ↓e_mulL, ↓e_cmp, ↓e_eq, ↓e_ne, ↓e_isN, ↓e_isB, ↓e_isNotN, ↓e_isNotB, ↓e_ix, ↓e_abs, ↓e_toI, ↓e_toB1, ↓e_toB0, ↓e_lenT, ↓e_lenL, ↓e_lenRo, ↓e_lenR, ↓e_tupT, ↓e_tupL, ↓e_tupR, ↓e_lstT, ↓e_lstL, ↓e_allM, ↓e_in, ↓e_notIn, ↓e_sum, ↓e_max, ↓e_par3, ↓e_pop, ↓e_frz, ↓e_frzR, ↓e_isi, ↓e_slT, ↓e_slL, ↓e_slRo, ↓e_app, ↓e_ext, ↓e_setM, r_it1, r_it2, r_it3, r_it4, r_ls2, r_ls3, r_ml2, r_ml3, r_mg0, r_mgn, r_at0, r_at1, r_at2, r_at3, r_ix0, r_ix1, r_ix2, r_ty1, r_ty2, r_ty3, r_ty4, r_ty5, r_ty6, r_ty7, r_ty8, r_sNt, r_sNi, r_sNb, r_sNs, r_sbt, r_sbi, r_sbb, r_sbs, r_sit, r_sii, r_sib, r_sis, r_sst, r_ssi, r_ssb, r_sss, r_stt, r_sti, r_stb, r_sts, r_slt, r_sli, r_slb, r_sls, r_aN, r_ab, r_ai, r_as, r_at, r_al, r_eqI, r_eqB, r_eqS, r_pu1, r_pu2, r_eqN, r_fr1, r_fx1, r_fx2, r_fx3, r_bo0, r_bo1, r_c0, r_c1, r_c2, r_c3, r_c4, r_c5, r_c6, r_c7, r_c8, r_c9, r_c10, r_c11, r_c12, r_pd0, r_pd1, r_pd2, r_wi0, r_wi1, List.set_cons_zero, List.set_cons_succ, List.getElem?_cons_zero, List.getElem?_cons_succ, ↓reduceIte, List.length_cons, List.length_nil, Nat.zero_add, Nat.reduceAdd, and_true, true_and, decide_true, decide_false, eq_self, beq_self_eq_true, Bool.true_beq, Bool.false_beq, Bool.not_true, Bool.not_false, Int.reduceEq, Int.reduceLT, Int.reduceLE, Int.reduceAdd, Int.reduceSub, Int.reduceMul, Int.reduceNeg, Bool.not_not, List.append_nil, List.nil_append, List.cons_append, z_int, z_bl, z_non, z_tup, z_lst, z_str, z_lint, z_lbl, z_lnon, z_ltup, z_llst, z_lstr, z_whole, s1, s2, s3, s8]
  refine (sp_some (by simp) (by decide) hn B).mono ?_
  rintro d h' ⟨hd, B', _⟩
  simp (config := {dsimp := false}) only [↓e_pr, ↓e_some, ↓e_an, ↓e_brT, ↓e_brF, ↓e_asB, ↓e_asI, ↓e_asV, ↓e_stE, ↓e_stE0, ↓e_stL, ↓e_stL0, ↓e_sqN, ↓e_sqR, ↓e_sqB, ↓e_sqC, ↓e_afN, ↓e_afR, ↓e_afB, ↓e_afC, ↓e_rtN, ↓e_rtR, ↓e_var, ↓e_c, ↓e_op, ↓e_un, ↓e_t, ↓e_nt, ↓e_anT, ↓e_orT, ↓e_and, ↓e_or, ↓e_not, ↓e_ite, ↓e_ch, ↓e_nil, ↓e_cons, ↓e_star, ↓e_tup, ↓e_lst, ↓e_mut, ↓e_call, ↓e_isiT, ↓e_lz, ↓e_meth, ↓e_meth0, ↓e_oN, ↓e_oS, ↓e_sl, ↓e_gVar, ↓e_gSub, ↓e_gTp, ↓e_gN, ↓e_gC, ↓e_next, ↓e_seq, ↓e_drop, ↓e_ret, ↓e_retN, ↓e_brk, ↓e_cnt, ↓e_if, ↓e_asg, ↓e_as2, ↓e_as3, ↓e_par, ↓e_aug, ↓e_augS, ↓e_for, ↓e_f0, ↓e_f1, ↓e_while, ↓e_asS1, ↓e_asS2, ↓e_asS3, ↓e_iSeq, ↓e_enum, ↓e_asTI, ↓e_enumC, ↓e_rng1, ↓e_zip, ↓e_zipX, ↓e_comp, ↓e_c0, ↓e_c1, ↓e_y, ↓e_body, ↓e_addI, ↓e_addT, ↓e_addL, ↓e_subI, ↓e_iadd, ↓e_mulI, ↓e_divI, ↓e_modI, ↓e_powI, ↓e_negI, ↓e_mulT, ↓e_mulL, ↓e_cmp, ↓e_eq, ↓e_ne, ↓e_isN, ↓e_isB, ↓e_isNotN, ↓e_isNotB, ↓e_ix, ↓e_abs, ↓e_toI, ↓e_toB1, ↓e_toB0, ↓e_lenT, ↓e_lenL, ↓e_lenRo, ↓e_lenR, ↓e_tupT, ↓e_tupL, ↓e_tupR, ↓e_lstT, ↓e_lstL, ↓e_allM, ↓e_in, ↓e_notIn, ↓e_sum, ↓e_max, ↓e_par3, ↓e_pop, ↓e_frz, ↓e_frzR, ↓e_isi, ↓e_slT, ↓e_slL, ↓e_slRo, ↓e_app, ↓e_ext, ↓e_setM, r_it1, r_it2, r_it3, r_it4, r_ls2, r_ls3, r_ml2, r_ml3, r_mg0, r_mgn, r_at0, r_at1, r_at2, r_at3, r_ix0, r_ix1, r_ix2, r_ty1, r_ty2, r_ty3, r_ty4, r_ty5, r_ty6, r_ty7, r_ty8, r_sNt, r_sNi, r_sNb, r_sNs, r_sbt, r_sbi, r_sbb, r_sbs, r_sit, r_sii, r_sib, r_sis, r_sst, r_ssi, r_ssb, r_sss, r_stt, r_sti, r_stb, r_sts, r_slt, r_sli, r_slb, r_sls, r_aN, r_ab, r_ai, r_as, r_at, r_al, r_eqI, r_eqB, r_eqS, r_pu1, r_pu2, r_eqN, r_fr1, r_fx1, r_fx2, r_fx3, r_bo0, r_bo1, r_c0, r_c1, r_c2, r_c3, r_c4, r_c5, r_c6, r_c7, r_c8, r_c9, r_c10, r_c11, r_c12, r_pd0, r_pd1, r_pd2, r_wi0, r_wi1, List.set_cons_zero, List.set_cons_succ, List.getElem?_cons_zero, List.getElem?_cons_succ, ↓reduceIte, List.length_cons, List.length_nil, Nat.zero_add, Nat.reduceAdd, and_true, true_and, decide_true, decide_false, eq_self, beq_self_eq_true, Bool.true_beq, Bool.false_beq, Bool.not_true, Bool.not_false, Int.reduceEq, Int.reduceLT, Int.reduceLE, Int.reduceAdd, Int.reduceSub, Int.reduceMul, Int.reduceNeg, Bool.not_not, List.append_nil, List.nil_append, List.cons_append, z_int, z_bl, z_non, z_tup, z_lst, z_str, z_lint, z_lbl, z_lnon, z_ltup, z_llst, z_lstr, z_whole]
  refine ⟨?_, B'⟩
  simp only [List.mem_cons, List.not_mem_nil, or_false] at hd
  rcases hd with rfl | rfl | rfl | rfl | rfl | rfl | rfl | rfl
  · exact ⟨.num, by simp [kinds], rfl⟩
  · exact ⟨.num, by simp [kinds], rfl⟩
  · exact ⟨.lst .num, by simp [kinds], rfl⟩
  · exact ⟨.lst .num, by simp [kinds], rfl⟩
  · exact ⟨.tre .num, by simp [kinds], rfl⟩
  · exact ⟨.par .num (.lst .num), by simp [kinds], rfl⟩
  · exact ⟨.lst (.lst .num), by simp [kinds], rfl⟩
  · exact ⟨.par .num .num, by simp [kinds], rfl⟩
theorem kind_ok {k : Kd} (h : k ∈ kinds) : dep k ≤ 2 ∧ TN k ∧ (∀ g ≤ 2, width g k ≤ 4) ∧ ∀ c ≤ 8, bits c k ≤ 300 := by
  simp only [kinds, List.mem_cons, List.not_mem_nil, or_false] at h
  rcases h with rfl | rfl | rfl | rfl | rfl | rfl | rfl | rfl <;> refine ⟨by decide, by simp [TN], fun g hg => by simp [width]; try omega, fun c hc => by simp [bits]; try omega⟩

end K19
namespace K19
open Sh ShR Iv PySem PySem.Spec PyProof.Rows L2
def rows : Kd → Nat
  | .num => 0
  | .lst k => rows k + 1
  | .tre k => rows k + 1
  | .par a b => rows a + rows b
def Good (q : Rat) : Prop := BQ 3 q ∧ 0 ≤ q
theorem mk_good {v u : Int} (h0 : 0 ≤ v) (h1 : v < 7) (h2 : 1 ≤ u) (h3 : u ≤ 3) {h : Sto} : ∃ q, Good q ∧ d_law_made [.int v, .int u] h = some (qD q, h) := by
  obtain ⟨n, rfl⟩ : ∃ n : Nat, u = n := ⟨u.toNat, by omega⟩
  have hn : n ≠ 0 := by omega
  refine ⟨mkRat v n, ⟨Fr.bq ?_, ?_⟩, q_law_made hn (.of (k := 3) (by omega) (by decide))⟩
  · rw [← red_q v hn]
    exact red_fr (by omega) (by omega) (by omega)
  · rw [← Rat.num_nonneg, Rat.num_mkRat, if_neg hn]
    exact Int.ediv_nonneg h0 (by omega)
theorem unmapQ {P : Rat → Prop} : ∀ es : List D, (∀ x ∈ es, ∃ y, x = qD y ∧ P y) → ∃ ys : List Rat, es = ys.map qD ∧ ys.length = es.length ∧ ∀ y ∈ ys, P y
  | [], _ => ⟨[], rfl, rfl, fun _ h => nomatch h⟩
  | e :: es, H => by
    obtain ⟨y, rfl, hy⟩ := H e List.mem_cons_self
    obtain ⟨ys, rfl, hl, h⟩ := unmapQ es fun x hx => H x (List.mem_cons_of_mem _ hx)
    exact ⟨y :: ys, rfl, by rw [List.length_cons, List.length_cons, hl], fun z hz => by rcases List.mem_cons.mp hz with rfl | hz; exact hy; exact h z hz⟩
theorem ann_row {me : Fun1} {h : Sto} {n g : Nat} {k : Kd} {s : Str} (hn : n + 100 < 2 ^ 40) (hg : g ≤ 2) (hs : (s == Str.ofString "num") = false) (hs2 : (s == Str.ofString "pair") = false) (B : Bag n h) {m : Nat}
    (ih : ∀ h, Bag (n + 4) h → Ev (me [.ref 0, kD k, .int g] h) fun d h' => (∃ a : An k, d = aD k a ∧ AFit g k a ∧ ∀ q ∈ nums k a, Good q) ∧ Bag (n + 4 + m) h') :
    Ev (bodyF 5 (b_law_annotation me) [.ref 0, .tup [.str s, kD k], .int g] h) fun d h' => (∃ (al : List Rat) (a : An k), d = .tup [rwD al, aD k a] ∧ al.length = g ∧ AFit g k a ∧ (∀ q ∈ al, Good q) ∧ ∀ q ∈ nums k a, Good q) ∧ Bag (n + 4 + m) h' := by
  unfold b_law_annotation
  simp (config := {dsimp := false}) only [↓e_pr, ↓e_some, ↓e_an, ↓e_brT, ↓e_brF, ↓e_asB, ↓e_asI, ↓e_asV, ↓e_stE, ↓e_stE0, ↓e_stL, ↓e_stL0, ↓e_sqN, ↓e_sqR, ↓e_sqB, ↓e_sqC, ↓e_afN, ↓e_afR, ↓e_afB, ↓e_afC, ↓e_rtN, ↓e_rtR, ↓e_var, ↓e_c, ↓e_op, ↓e_un, ↓e_t, ↓e_nt, ↓e_anT, ↓e_orT, ↓e_and, ↓e_or, ↓e_not, ↓e_ite, ↓e_ch, ↓e_nil, ↓e_cons, ↓e_star, ↓e_tup, ↓e_lst, ↓e_mut, ↓e_call, ↓e_isiT, ↓e_lz, ↓e_meth, ↓e_meth0, ↓e_oN, ↓e_oS, ↓e_sl, ↓e_gVar, ↓e_gSub, ↓e_gTp, ↓e_gN, ↓e_gC, ↓e_next, ↓e_seq, ↓e_drop, ↓e_ret, ↓e_retN, ↓e_brk, ↓e_cnt, ↓e_if, ↓e_asg, ↓e_as2, ↓e_as3, ↓e_par, ↓e_aug, ↓e_augS, ↓e_for, ↓e_f0, ↓e_f1, ↓e_while, ↓e_asS1, ↓e_asS2, ↓e_asS3, ↓e_iSeq, ↓e_enum, ↓e_asTI, ↓e_enumC, ↓e_rng1, ↓e_zip, ↓e_zipX, ↓e_comp, ↓e_c0, ↓e_c1, ↓e_y, ↓e_body, ↓e_addI, ↓e_addT, ↓e_addL, ↓e_subI, ↓e_iadd, ↓e_mulI, ↓e_divI, ↓e_modI, ↓e_powI, ↓e_negI, ↓e_mulT, ↓e_mulL, ↓e_cmp, ↓e_eq, ↓e_ne, ↓e_isN, ↓e_isB, ↓e_isNotN, ↓e_isNotB, ↓e_ix, ↓e_abs, ↓e_toI, ↓e_toB1, ↓e_toB0, ↓e_lenT, ↓e_lenL, ↓e_lenRo, ↓e_lenR, ↓e_tupT, ↓e_tupL, ↓e_tupR, ↓e_lstT, ↓e_lstL, ↓e_allM, ↓e_in, ↓e_notIn, ↓e_sum, ↓e_max, ↓e_par3, ↓e_pop, ↓e_frz, ↓e_frzR, ↓e_isi, ↓e_slT, ↓e_slL, ↓e_slRo, ↓e_app, ↓e_ext, ↓e_setM, r_it1, r_it2, r_it3, r_it4, r_ls2, r_ls3, r_ml2, r_ml3, r_mg0, r_mgn, r_at0, r_at1, r_at2, r_at3, r_ix0, r_ix1, r_ix2, r_ty1, r_ty2, r_ty3, r_ty4, r_ty5, r_ty6, r_ty7, r_ty8, r_sNt, r_sNi, r_sNb, r_sNs, r_sbt, r_sbi, r_sbb, r_sbs, r_sit, r_sii, r_sib, r_sis, r_sst, r_ssi, r_ssb, r_sss, r_stt, r_sti, r_stb, r_sts, r_slt, r_sli, r_slb, r_sls, r_aN, r_ab, r_ai, r_as, r_at, r_al, r_eqI, r_eqB, r_eqS, r_pu1, r_pu2, r_eqN, r_fr1, r_fx1, r_fx2, r_fx3, r_bo0, r_bo1, r_c0, r_c1, r_c2, r_c3, r_c4, r_c5, r_c6, r_c7, r_c8, r_c9, r_c10, r_c11, r_c12, r_pd0, r_pd1, r_pd2, r_wi0, r_wi1, List.set_cons_zero, List.set_cons_succ, List.getElem?_cons_zero, List.getElem?_cons_succ, ↓reduceIte, List.length_cons, List.length_nil, Nat.zero_add, Nat.reduceAdd, and_true, true_and, decide_true, decide_false, eq_self, beq_self_eq_true, Bool.true_beq, Bool.false_beq, Bool.not_true, Bool.not_false, Int.reduceEq, Int.reduceLT, Int.reduceLE, Int.reduceAdd, Int.reduceSub, Int.reduceMul, Int.reduceNeg, Bool.not_not, List.append_nil, List.nil_append, List.cons_append, z_int, z_bl, z_non, z_tup, z_lst, z_str, z_lint, z_lbl, z_lnon, z_ltup, z_llst, z_lstr, z_whole, hs, hs2, Int.toNat_natCast]
  refine ⟨⟨by omega, by omega⟩, le_sz (by rw [rng_len]; omega), ?_⟩
  refine (comp_inv (fun x => ∃ y, x = qD y ∧ Good y) (fun i h => Bag (n + 2 * i) h) (rangeL 0 g) 0 _ B ?_).mono ?_
  · rintro d hd i h z1 z2 B
    rw [rng_len] at z2
    obtain ⟨i2, hi2⟩ := List.mem_iff_getElem?.mp hd
    obtain ⟨rfl, _⟩ := rng_at hi2
    simp (config := {dsimp := false}) only [↓e_pr, ↓e_some, ↓e_an, ↓e_brT, ↓e_brF, ↓e_asB, ↓e_asI, ↓e_asV, ↓e_stE, ↓e_stE0, ↓e_stL, ↓e_stL0, ↓e_sqN, ↓e_sqR, ↓e_sqB, ↓e_sqC, ↓e_afN, ↓e_afR, ↓e_afB, ↓e_afC, ↓e_rtN, ↓e_rtR, ↓e_var, ↓e_c, ↓e_op, ↓e_un, ↓e_t, ↓e_nt, ↓e_anT, ↓e_orT, ↓e_and, ↓e_or, ↓e_not, ↓e_ite, ↓e_ch, ↓e_nil, ↓e_cons, ↓e_star, ↓e_tup, ↓e_lst, ↓e_mut, ↓e_call, ↓e_isiT, ↓e_lz, ↓e_meth, ↓e_meth0, ↓e_oN, ↓e_oS, ↓e_sl, ↓e_gVar, ↓e_gSub, ↓e_gTp, ↓e_gN, ↓e_gC, ↓e_next, ↓e_seq, ↓e_drop, ↓e_ret, ↓e_retN, ↓e_brk, ↓e_cnt, ↓e_if, ↓e_asg, ↓e_as2, ↓e_as3, ↓e_par, ↓e_aug, ↓e_augS, ↓e_for, ↓e_f0, ↓e_f1, ↓e_while, ↓e_asS1, ↓e_asS2, ↓e_asS3, ↓e_iSeq, ↓e_enum, ↓e_asTI, ↓e_enumC, ↓e_rng1, ↓e_zip, ↓e_zipX, ↓e_comp, ↓e_c0, ↓e_c1, ↓e_y, ↓e_body, ↓e_addI, ↓e_addT, ↓e_addL, ↓e_subI, ↓e_iadd, ↓e_mulI, ↓e_divI, ↓e_modI, ↓e_powI, ↓e_negI, ↓e_mulT, ↓e_mulL, ↓e_cmp, ↓e_eq, ↓e_ne, ↓e_isN, ↓e_isB, ↓e_isNotN, ↓e_isNotB, ↓e_ix, ↓e_abs, ↓e_toI, ↓e_toB1, ↓e_toB0, ↓e_lenT, ↓e_lenL, ↓e_lenRo, ↓e_lenR, ↓e_tupT, ↓e_tupL, ↓e_tupR, ↓e_lstT, ↓e_lstL, ↓e_allM, ↓e_in, ↓e_notIn, ↓e_sum, ↓e_max, ↓e_par3, ↓e_pop, ↓e_frz, ↓e_frzR, ↓e_isi, ↓e_slT, ↓e_slL, ↓e_slRo, ↓e_app, ↓e_ext, ↓e_setM, r_it1, r_it2, r_it3, r_it4, r_ls2, r_ls3, r_ml2, r_ml3, r_mg0, r_mgn, r_at0, r_at1, r_at2, r_at3, r_ix0, r_ix1, r_ix2, r_ty1, r_ty2, r_ty3, r_ty4, r_ty5, r_ty6, r_ty7, r_ty8, r_sNt, r_sNi, r_sNb, r_sNs, r_sbt, r_sbi, r_sbb, r_sbs, r_sit, r_sii, r_sib, r_sis, r_sst, r_ssi, r_ssb, r_sss, r_stt, r_sti, r_stb, r_sts, r_slt, r_sli, r_slb, r_sls, r_aN, r_ab, r_ai, r_as, r_at, r_al, r_eqI, r_eqB, r_eqS, r_pu1, r_pu2, r_eqN, r_fr1, r_fx1, r_fx2, r_fx3, r_bo0, r_bo1, r_c0, r_c1, r_c2, r_c3, r_c4, r_c5, r_c6, r_c7, r_c8, r_c9, r_c10, r_c11, r_c12, r_pd0, r_pd1, r_pd2, r_wi0, r_wi1, List.set_cons_zero, List.set_cons_succ, List.getElem?_cons_zero, List.getElem?_cons_succ, ↓reduceIte, List.length_cons, List.length_nil, Nat.zero_add, Nat.reduceAdd, and_true, true_and, decide_true, decide_false, eq_self, beq_self_eq_true, Bool.true_beq, Bool.false_beq, Bool.not_true, Bool.not_false, Int.reduceEq, Int.reduceLT, Int.reduceLE, Int.reduceAdd, Int.reduceSub, Int.reduceMul, Int.reduceNeg, Bool.not_not, List.append_nil, List.nil_append, List.cons_append, z_int, z_bl, z_non, z_tup, z_lst, z_str, z_lint, z_lbl, z_lnon, z_ltup, z_llst, z_lstr, z_whole]
    refine (sp_take (by decide) (by decide) (by omega) B).mono ?_
    rintro d h2 ⟨⟨v, rfl, v0, v1⟩, B2, _⟩
    have s4 : 4 ≤ sizeLine := by decide
    simp (config := {dsimp := false}) only [↓e_pr, ↓e_some, ↓e_an, ↓e_brT, ↓e_brF, ↓e_asB, ↓e_asI, ↓e_asV, ↓e_stE, ↓e_stE0, ↓e_stL, ↓e_stL0, ↓e_sqN, ↓e_sqR, ↓e_sqB, ↓e_sqC, ↓e_afN, ↓e_afR, ↓e_afB, ↓e_afC, ↓e_rtN, ↓e_rtR, ↓e_var, ↓e_c, ↓e_op, ↓e_un, ↓e_t, ↓e_nt, ↓e_anT, ↓e_orT, ↓e_and, ↓e_or, ↓e_not, ↓e_ite, ↓e_ch, ↓e_nil, ↓e_cons, ↓e_star, ↓e_tup, ↓e_lst, ↓e_mut, ↓e_call, ↓e_isiT, ↓e_lz, ↓e_meth, ↓e_meth0, ↓e_oN, ↓e_oS, ↓e_sl, ↓e_gVar, ↓e_gSub, ↓e_gTp, ↓e_gN, ↓e_gC, ↓e_next, ↓e_seq, ↓e_drop, ↓e_ret, ↓e_retN, ↓e_brk, ↓e_cnt, ↓e_if, ↓e_asg, ↓e_as2, ↓e_as3, ↓e_par, ↓e_aug, ↓e_augS, ↓e_for, ↓e_f0, ↓e_f1, ↓e_while, ↓e_asS1, ↓e_asS2, ↓e_asS3, ↓e_iSeq, ↓e_enum, ↓e_asTI, ↓e_enumC, ↓e_rng1, ↓e_zip, ↓e_zipX, ↓e_comp, ↓e_c0, ↓e_c1, ↓e_y, ↓e_body, ↓e_addI, ↓e_addT, ↓e_addL, ↓e_subI, ↓e_iadd, ↓e_mulI, ↓e_divI, ↓e_modI, ↓e_powI, ↓e_negI, ↓e_mulT, ↓e_mulL, ↓e_cmp, ↓e_eq, ↓e_ne, ↓e_isN, ↓e_isB, ↓e_isNotN, ↓e_isNotB, ↓e_ix, ↓e_abs, ↓e_toI, ↓e_toB1, ↓e_toB0, ↓e_lenT, ↓e_lenL, ↓e_lenRo, ↓e_lenR, ↓e_tupT, ↓e_tupL, ↓e_tupR, ↓e_lstT, ↓e_lstL, ↓e_allM, ↓e_in, ↓e_notIn, ↓e_sum, ↓e_max, ↓e_par3, ↓e_pop, ↓e_frz, ↓e_frzR, ↓e_isi, ↓e_slT, ↓e_slL, ↓e_slRo, ↓e_app, ↓e_ext, ↓e_setM, r_it1, r_it2, r_it3, r_it4, r_ls2, r_ls3, r_ml2, r_ml3, r_mg0, r_mgn, r_at0, r_at1, r_at2, r_at3, r_ix0, r_ix1, r_ix2, r_ty1, r_ty2, r_ty3, r_ty4, r_ty5, r_ty6, r_ty7, r_ty8, r_sNt, r_sNi, r_sNb, r_sNs, r_sbt, r_sbi, r_sbb, r_sbs, r_sit, r_sii, r_sib, r_sis, r_sst, r_ssi, r_ssb, r_sss, r_stt, r_sti, r_stb, r_sts, r_slt, r_sli, r_slb, r_sls, r_aN, r_ab, r_ai, r_as, r_at, r_al, r_eqI, r_eqB, r_eqS, r_pu1, r_pu2, r_eqN, r_fr1, r_fx1, r_fx2, r_fx3, r_bo0, r_bo1, r_c0, r_c1, r_c2, r_c3, r_c4, r_c5, r_c6, r_c7, r_c8, r_c9, r_c10, r_c11, r_c12, r_pd0, r_pd1, r_pd2, r_wi0, r_wi1, List.set_cons_zero, List.set_cons_succ, List.getElem?_cons_zero, List.getElem?_cons_succ, ↓reduceIte, List.length_cons, List.length_nil, Nat.zero_add, Nat.reduceAdd, and_true, true_and, decide_true, decide_false, eq_self, beq_self_eq_true, Bool.true_beq, Bool.false_beq, Bool.not_true, Bool.not_false, Int.reduceEq, Int.reduceLT, Int.reduceLE, Int.reduceAdd, Int.reduceSub, Int.reduceMul, Int.reduceNeg, Bool.not_not, List.append_nil, List.nil_append, List.cons_append, z_int, z_bl, z_non, z_tup, z_lst, z_str, z_lint, z_lbl, z_lnon, z_ltup, z_llst, z_lstr, z_whole, s4]
    refine (sp_some (by simp) (by decide) (by omega) B2).mono ?_
    rintro d h3 ⟨hd, B3, _⟩
    have hu : ∃ u : Int, d = .int u ∧ 1 ≤ u ∧ u ≤ 3 := by
      simp only [List.mem_cons, List.not_mem_nil, or_false] at hd
      rcases hd with rfl | rfl | rfl | rfl <;> exact ⟨_, rfl, by decide, by decide⟩
    obtain ⟨u, rfl, u0, u1⟩ := hu
    obtain ⟨q, hq, e⟩ := mk_good v0 v1 u0 u1 (h := h3)
    simp (config := {dsimp := false}) only [↓e_pr, ↓e_some, ↓e_an, ↓e_brT, ↓e_brF, ↓e_asB, ↓e_asI, ↓e_asV, ↓e_stE, ↓e_stE0, ↓e_stL, ↓e_stL0, ↓e_sqN, ↓e_sqR, ↓e_sqB, ↓e_sqC, ↓e_afN, ↓e_afR, ↓e_afB, ↓e_afC, ↓e_rtN, ↓e_rtR, ↓e_var, ↓e_c, ↓e_op, ↓e_un, ↓e_t, ↓e_nt, ↓e_anT, ↓e_orT, ↓e_and, ↓e_or, ↓e_not, ↓e_ite, ↓e_ch, ↓e_nil, ↓e_cons, ↓e_star, ↓e_tup, ↓e_lst, ↓e_mut, ↓e_call, ↓e_isiT, ↓e_lz, ↓e_meth, ↓e_meth0, ↓e_oN, ↓e_oS, ↓e_sl, ↓e_gVar, ↓e_gSub, ↓e_gTp, ↓e_gN, ↓e_gC, ↓e_next, ↓e_seq, ↓e_drop, ↓e_ret, ↓e_retN, ↓e_brk, ↓e_cnt, ↓e_if, ↓e_asg, ↓e_as2, ↓e_as3, ↓e_par, ↓e_aug, ↓e_augS, ↓e_for, ↓e_f0, ↓e_f1, ↓e_while, ↓e_asS1, ↓e_asS2, ↓e_asS3, ↓e_iSeq, ↓e_enum, ↓e_asTI, ↓e_enumC, ↓e_rng1, ↓e_zip, ↓e_zipX, ↓e_comp, ↓e_c0, ↓e_c1, ↓e_y, ↓e_body, ↓e_addI, ↓e_addT, ↓e_addL, ↓e_subI, ↓e_iadd, ↓e_mulI, ↓e_divI, ↓e_modI, ↓e_powI, ↓e_negI, ↓e_mulT, ↓e_mulL, ↓e_cmp, ↓e_eq, ↓e_ne, ↓e_isN, ↓e_isB, ↓e_isNotN, ↓e_isNotB, ↓e_ix, ↓e_abs, ↓e_toI, ↓e_toB1, ↓e_toB0, ↓e_lenT, ↓e_lenL, ↓e_lenRo, ↓e_lenR, ↓e_tupT, ↓e_tupL, ↓e_tupR, ↓e_lstT, ↓e_lstL, ↓e_allM, ↓e_in, ↓e_notIn, ↓e_sum, ↓e_max, ↓e_par3, ↓e_pop, ↓e_frz, ↓e_frzR, ↓e_isi, ↓e_slT, ↓e_slL, ↓e_slRo, ↓e_app, ↓e_ext, ↓e_setM, r_it1, r_it2, r_it3, r_it4, r_ls2, r_ls3, r_ml2, r_ml3, r_mg0, r_mgn, r_at0, r_at1, r_at2, r_at3, r_ix0, r_ix1, r_ix2, r_ty1, r_ty2, r_ty3, r_ty4, r_ty5, r_ty6, r_ty7, r_ty8, r_sNt, r_sNi, r_sNb, r_sNs, r_sbt, r_sbi, r_sbb, r_sbs, r_sit, r_sii, r_sib, r_sis, r_sst, r_ssi, r_ssb, r_sss, r_stt, r_sti, r_stb, r_sts, r_slt, r_sli, r_slb, r_sls, r_aN, r_ab, r_ai, r_as, r_at, r_al, r_eqI, r_eqB, r_eqS, r_pu1, r_pu2, r_eqN, r_fr1, r_fx1, r_fx2, r_fx3, r_bo0, r_bo1, r_c0, r_c1, r_c2, r_c3, r_c4, r_c5, r_c6, r_c7, r_c8, r_c9, r_c10, r_c11, r_c12, r_pd0, r_pd1, r_pd2, r_wi0, r_wi1, List.set_cons_zero, List.set_cons_succ, List.getElem?_cons_zero, List.getElem?_cons_succ, ↓reduceIte, List.length_cons, List.length_nil, Nat.zero_add, Nat.reduceAdd, and_true, true_and, decide_true, decide_false, eq_self, beq_self_eq_true, Bool.true_beq, Bool.false_beq, Bool.not_true, Bool.not_false, Int.reduceEq, Int.reduceLT, Int.reduceLE, Int.reduceAdd, Int.reduceSub, Int.reduceMul, Int.reduceNeg, Bool.not_not, List.append_nil, List.nil_append, List.cons_append, z_int, z_bl, z_non, z_tup, z_lst, z_str, z_lint, z_lbl, z_lnon, z_ltup, z_llst, z_lstr, z_whole, e]
    exact ⟨⟨q, rfl, hq⟩, B3.mono (by omega)⟩
  · rintro es h2 ⟨hl, hes, B2⟩
    rw [rng_len] at hl B2
    obtain ⟨al, rfl, hal, hgood⟩ := unmapQ es hes
    simp (config := {dsimp := false}) only [↓e_pr, ↓e_some, ↓e_an, ↓e_brT, ↓e_brF, ↓e_asB, ↓e_asI, ↓e_asV, ↓e_stE, ↓e_stE0, ↓e_stL, ↓e_stL0, ↓e_sqN, ↓e_sqR, ↓e_sqB, ↓e_sqC, ↓e_afN, ↓e_afR, ↓e_afB, ↓e_afC, ↓e_rtN, ↓e_rtR, ↓e_var, ↓e_c, ↓e_op, ↓e_un, ↓e_t, ↓e_nt, ↓e_anT, ↓e_orT, ↓e_and, ↓e_or, ↓e_not, ↓e_ite, ↓e_ch, ↓e_nil, ↓e_cons, ↓e_star, ↓e_tup, ↓e_lst, ↓e_mut, ↓e_call, ↓e_isiT, ↓e_lz, ↓e_meth, ↓e_meth0, ↓e_oN, ↓e_oS, ↓e_sl, ↓e_gVar, ↓e_gSub, ↓e_gTp, ↓e_gN, ↓e_gC, ↓e_next, ↓e_seq, ↓e_drop, ↓e_ret, ↓e_retN, ↓e_brk, ↓e_cnt, ↓e_if, ↓e_asg, ↓e_as2, ↓e_as3, ↓e_par, ↓e_aug, ↓e_augS, ↓e_for, ↓e_f0, ↓e_f1, ↓e_while, ↓e_asS1, ↓e_asS2, ↓e_asS3, ↓e_iSeq, ↓e_enum, ↓e_asTI, ↓e_enumC, ↓e_rng1, ↓e_zip, ↓e_zipX, ↓e_comp, ↓e_c0, ↓e_c1, ↓e_y, ↓e_body, ↓e_addI, ↓e_addT, ↓e_addL, ↓e_subI, ↓e_iadd, ↓e_mulI, ↓e_divI, ↓e_modI, ↓e_powI, ↓e_negI, ↓e_mulT, ↓e_mulL, ↓e_cmp, ↓e_eq, ↓e_ne, ↓e_isN, ↓e_isB, ↓e_isNotN, ↓e_isNotB, ↓e_ix, ↓e_abs, ↓e_toI, ↓e_toB1, ↓e_toB0, ↓e_lenT, ↓e_lenL, ↓e_lenRo, ↓e_lenR, ↓e_tupT, ↓e_tupL, ↓e_tupR, ↓e_lstT, ↓e_lstL, ↓e_allM, ↓e_in, ↓e_notIn, ↓e_sum, ↓e_max, ↓e_par3, ↓e_pop, ↓e_frz, ↓e_frzR, ↓e_isi, ↓e_slT, ↓e_slL, ↓e_slRo, ↓e_app, ↓e_ext, ↓e_setM, r_it1, r_it2, r_it3, r_it4, r_ls2, r_ls3, r_ml2, r_ml3, r_mg0, r_mgn, r_at0, r_at1, r_at2, r_at3, r_ix0, r_ix1, r_ix2, r_ty1, r_ty2, r_ty3, r_ty4, r_ty5, r_ty6, r_ty7, r_ty8, r_sNt, r_sNi, r_sNb, r_sNs, r_sbt, r_sbi, r_sbb, r_sbs, r_sit, r_sii, r_sib, r_sis, r_sst, r_ssi, r_ssb, r_sss, r_stt, r_sti, r_stb, r_sts, r_slt, r_sli, r_slb, r_sls, r_aN, r_ab, r_ai, r_as, r_at, r_al, r_eqI, r_eqB, r_eqS, r_pu1, r_pu2, r_eqN, r_fr1, r_fx1, r_fx2, r_fx3, r_bo0, r_bo1, r_c0, r_c1, r_c2, r_c3, r_c4, r_c5, r_c6, r_c7, r_c8, r_c9, r_c10, r_c11, r_c12, r_pd0, r_pd1, r_pd2, r_wi0, r_wi1, List.set_cons_zero, List.set_cons_succ, List.getElem?_cons_zero, List.getElem?_cons_succ, ↓reduceIte, List.length_cons, List.length_nil, Nat.zero_add, Nat.reduceAdd, and_true, true_and, decide_true, decide_false, eq_self, beq_self_eq_true, Bool.true_beq, Bool.false_beq, Bool.not_true, Bool.not_false, Int.reduceEq, Int.reduceLT, Int.reduceLE, Int.reduceAdd, Int.reduceSub, Int.reduceMul, Int.reduceNeg, Bool.not_not, List.append_nil, List.nil_append, List.cons_append, z_int, z_bl, z_non, z_tup, z_lst, z_str, z_lint, z_lbl, z_lnon, z_ltup, z_llst, z_lstr, z_whole]
    refine (ih h2 (B2.mono (by omega))).mono ?_
    rintro d h3 ⟨⟨a, rfl, hf, hq⟩, B3⟩
    simp (config := {dsimp := false}) only [↓e_pr, ↓e_some, ↓e_an, ↓e_brT, ↓e_brF, ↓e_asB, ↓e_asI, ↓e_asV, ↓e_stE, ↓e_stE0, ↓e_stL, ↓e_stL0, ↓e_sqN, ↓e_sqR, ↓e_sqB, ↓e_sqC, ↓e_afN, ↓e_afR, ↓e_afB, ↓e_afC, ↓e_rtN, ↓e_rtR, ↓e_var, ↓e_c, ↓e_op, ↓e_un, ↓e_t, ↓e_nt, ↓e_anT, ↓e_orT, ↓e_and, ↓e_or, ↓e_not, ↓e_ite, ↓e_ch, ↓e_nil, ↓e_cons, ↓e_star, ↓e_tup, ↓e_lst, ↓e_mut, ↓e_call, ↓e_isiT, ↓e_lz, ↓e_meth, ↓e_meth0, ↓e_oN, ↓e_oS, ↓e_sl, ↓e_gVar, ↓e_gSub, ↓e_gTp, ↓e_gN, ↓e_gC, ↓e_next, ↓e_seq, ↓e_drop, ↓e_ret, ↓e_retN, ↓e_brk, ↓e_cnt, ↓e_if, ↓e_asg, ↓e_as2, ↓e_as3, ↓e_par, ↓e_aug, ↓e_augS, ↓e_for, ↓e_f0, ↓e_f1, ↓e_while, ↓e_asS1, ↓e_asS2, ↓e_asS3, ↓e_iSeq, ↓e_enum, ↓e_asTI, ↓e_enumC, ↓e_rng1, ↓e_zip, ↓e_zipX, ↓e_comp, ↓e_c0, ↓e_c1, ↓e_y, ↓e_body, ↓e_addI, ↓e_addT, ↓e_addL, ↓e_subI, ↓e_iadd, ↓e_mulI, ↓e_divI, ↓e_modI, ↓e_powI, ↓e_negI, ↓e_mulT, ↓e_mulL, ↓e_cmp, ↓e_eq, ↓e_ne, ↓e_isN, ↓e_isB, ↓e_isNotN, ↓e_isNotB, ↓e_ix, ↓e_abs, ↓e_toI, ↓e_toB1, ↓e_toB0, ↓e_lenT, ↓e_lenL, ↓e_lenRo, ↓e_lenR, ↓e_tupT, ↓e_tupL, ↓e_tupR, ↓e_lstT, ↓e_lstL, ↓e_allM, ↓e_in, ↓e_notIn, ↓e_sum, ↓e_max, ↓e_par3, ↓e_pop, ↓e_frz, ↓e_frzR, ↓e_isi, ↓e_slT, ↓e_slL, ↓e_slRo, ↓e_app, ↓e_ext, ↓e_setM, r_it1, r_it2, r_it3, r_it4, r_ls2, r_ls3, r_ml2, r_ml3, r_mg0, r_mgn, r_at0, r_at1, r_at2, r_at3, r_ix0, r_ix1, r_ix2, r_ty1, r_ty2, r_ty3, r_ty4, r_ty5, r_ty6, r_ty7, r_ty8, r_sNt, r_sNi, r_sNb, r_sNs, r_sbt, r_sbi, r_sbb, r_sbs, r_sit, r_sii, r_sib, r_sis, r_sst, r_ssi, r_ssb, r_sss, r_stt, r_sti, r_stb, r_sts, r_slt, r_sli, r_slb, r_sls, r_aN, r_ab, r_ai, r_as, r_at, r_al, r_eqI, r_eqB, r_eqS, r_pu1, r_pu2, r_eqN, r_fr1, r_fx1, r_fx2, r_fx3, r_bo0, r_bo1, r_c0, r_c1, r_c2, r_c3, r_c4, r_c5, r_c6, r_c7, r_c8, r_c9, r_c10, r_c11, r_c12, r_pd0, r_pd1, r_pd2, r_wi0, r_wi1, List.set_cons_zero, List.set_cons_succ, List.getElem?_cons_zero, List.getElem?_cons_succ, ↓reduceIte, List.length_cons, List.length_nil, Nat.zero_add, Nat.reduceAdd, and_true, true_and, decide_true, decide_false, eq_self, beq_self_eq_true, Bool.true_beq, Bool.false_beq, Bool.not_true, Bool.not_false, Int.reduceEq, Int.reduceLT, Int.reduceLE, Int.reduceAdd, Int.reduceSub, Int.reduceMul, Int.reduceNeg, Bool.not_not, List.append_nil, List.nil_append, List.cons_append, z_int, z_bl, z_non, z_tup, z_lst, z_str, z_lint, z_lbl, z_lnon, z_ltup, z_llst, z_lstr, z_whole, s2]
    exact ⟨⟨al, a, rfl, by rw [hal, hl], hf, hgood, hq⟩, B3⟩

end K19
namespace K19
open Sh ShR Iv PySem PySem.Spec PyProof.Rows L2
theorem sp_annotation {g : Nat} (hg : g ≤ 2) : ∀ (k : Kd) (r n : Nat) (h : Sto), dep k < r → n + 4 * rows k + 100 < 2 ^ 40 → Bag n h →
    Ev (recF 5 b_law_annotation r [.ref 0, kD k, .int g] h) fun d h' => (∃ a : An k, d = aD k a ∧ AFit g k a ∧ ∀ q ∈ nums k a, Good q) ∧ Bag (n + 4 * rows k) h'
  | .num, r + 1, n, h, _, _, B => by
    refine rec_iff.mpr ?_
    unfold b_law_annotation
    simp (config := {dsimp := false}) only [↓e_pr, ↓e_some, ↓e_an, ↓e_brT, ↓e_brF, ↓e_asB, ↓e_asI, ↓e_asV, ↓e_stE, ↓e_stE0, ↓e_stL, ↓e_stL0, ↓e_sqN, ↓e_sqR, ↓e_sqB, ↓e_sqC, ↓e_afN, ↓e_afR, ↓e_afB, ↓e_afC, ↓e_rtN, ↓e_rtR, ↓e_var, ↓e_c, ↓e_op, ↓e_un, ↓e_t, ↓e_nt, ↓e_anT, ↓e_orT, ↓e_and, ↓e_or, ↓e_not, ↓e_ite, ↓e_ch, ↓e_nil, ↓e_cons, ↓e_star, ↓e_tup, ↓e_lst, ↓e_mut, ↓e_call, ↓e_isiT, ↓e_lz, ↓e_meth, ↓e_meth0, ↓e_oN, ↓e_oS, ↓e_sl, ↓e_gVar, ↓e_gSub, ↓e_gTp, ↓e_gN, ↓e_gC, ↓e_next, ↓e_seq, ↓e_drop, ↓e_ret, ↓e_retN, ↓e_brk, ↓e_cnt, ↓e_if, ↓e_asg, ↓e_as2, ↓e_as3, ↓e_par, ↓e_aug, ↓e_augS, ↓e_for, ↓e_f0, ↓e_f1, ↓e_while, ↓e_asS1, ↓e_asS2, ↓e_asS3, ↓e_iSeq, ↓e_enum, ↓e_asTI, ↓e_enumC, ↓e_rng1, ↓e_zip, ↓e_zipX, ↓e_comp, ↓e_c0, ↓e_c1, ↓e_y, ↓e_body, ↓e_addI, ↓e_addT, ↓e_addL, ↓e_subI, ↓e_iadd, ↓e_mulI, ↓e_divI, ↓e_modI, ↓e_powI, ↓e_negI, ↓e_mulT, ↓e_mulL, ↓e_cmp, ↓e_eq, ↓e_ne, ↓e_isN, ↓e_isB, ↓e_isNotN, ↓e_isNotB, ↓e_ix, ↓e_abs, ↓e_toI, ↓e_toB1, ↓e_toB0, ↓e_lenT, ↓e_lenL, ↓e_lenRo, ↓e_lenR, ↓e_tupT, ↓e_tupL, ↓e_tupR, ↓e_lstT, ↓e_lstL, ↓e_allM, ↓e_in, ↓e_notIn, ↓e_sum, ↓e_max, ↓e_par3, ↓e_pop, ↓e_frz, ↓e_frzR, ↓e_isi, ↓e_slT, ↓e_slL, ↓e_slRo, ↓e_app, ↓e_ext, ↓e_setM, r_it1, r_it2, r_it3, r_it4, r_ls2, r_ls3, r_ml2, r_ml3, r_mg0, r_mgn, r_at0, r_at1, r_at2, r_at3, r_ix0, r_ix1, r_ix2, r_ty1, r_ty2, r_ty3, r_ty4, r_ty5, r_ty6, r_ty7, r_ty8, r_sNt, r_sNi, r_sNb, r_sNs, r_sbt, r_sbi, r_sbb, r_sbs, r_sit, r_sii, r_sib, r_sis, r_sst, r_ssi, r_ssb, r_sss, r_stt, r_sti, r_stb, r_sts, r_slt, r_sli, r_slb, r_sls, r_aN, r_ab, r_ai, r_as, r_at, r_al, r_eqI, r_eqB, r_eqS, r_pu1, r_pu2, r_eqN, r_fr1, r_fx1, r_fx2, r_fx3, r_bo0, r_bo1, r_c0, r_c1, r_c2, r_c3, r_c4, r_c5, r_c6, r_c7, r_c8, r_c9, r_c10, r_c11, r_c12, r_pd0, r_pd1, r_pd2, r_wi0, r_wi1, List.set_cons_zero, List.set_cons_succ, List.getElem?_cons_zero, List.getElem?_cons_succ, ↓reduceIte, List.length_cons, List.length_nil, Nat.zero_add, Nat.reduceAdd, and_true, true_and, decide_true, decide_false, eq_self, beq_self_eq_true, Bool.true_beq, Bool.false_beq, Bool.not_true, Bool.not_false, Int.reduceEq, Int.reduceLT, Int.reduceLE, Int.reduceAdd, Int.reduceSub, Int.reduceMul, Int.reduceNeg, Bool.not_not, List.append_nil, List.nil_append, List.cons_append, z_int, z_bl, z_non, z_tup, z_lst, z_str, z_lint, z_lbl, z_lnon, z_ltup, z_llst, z_lstr, z_whole, kD, w_nn, s0]
    exact ⟨⟨(), rfl, trivial, fun _ h => nomatch h⟩, B⟩
  | .lst k, r + 1, n, h, hr, hn, B => by
    rw [dep] at hr
    rw [rows] at hn ⊢
    refine (ann_row (h := h) (n := n) (g := g) (k := k) (s := Str.ofString "list") (m := 4 * rows k) (by omega) hg w_ln w_lp B fun h B => sp_annotation hg k r (n + 4) h (by omega) (by omega) B).mono ?_
    rintro d h' ⟨⟨al, a, rfl, h1, h2, h3, h4⟩, B⟩
    exact ⟨⟨(al, a), rfl, ⟨h1, h2⟩, fun q hq => by rcases List.mem_append.mp hq with hq | hq; exact h3 q hq; exact h4 q hq⟩, B.mono (by omega)⟩
  | .tre k, r + 1, n, h, hr, hn, B => by
    rw [dep] at hr
    rw [rows] at hn ⊢
    refine (ann_row (h := h) (n := n) (g := g) (k := k) (s := Str.ofString "tree") (m := 4 * rows k) (by omega) hg w_tn w_tp B fun h B => sp_annotation hg k r (n + 4) h (by omega) (by omega) B).mono ?_
    rintro d h' ⟨⟨al, a, rfl, h1, h2, h3, h4⟩, B⟩
    exact ⟨⟨(al, a), rfl, ⟨h1, h2⟩, fun q hq => by rcases List.mem_append.mp hq with hq | hq; exact h3 q hq; exact h4 q hq⟩, B.mono (by omega)⟩
  | .par x y, r + 1, n, h, hr, hn, B => by
    rw [dep] at hr
    rw [rows] at hn ⊢
    have ih1 := fun h B => sp_annotation hg x r n h (by omega) (by omega) B
    have ih2 := fun h B => sp_annotation hg y r (n + 4 * rows x) h (by omega) (by omega) B
    refine rec_iff.mpr ?_
    generalize recF 5 b_law_annotation r = me at ih1 ih2 ⊢
    unfold b_law_annotation
    simp (config := {dsimp := false}) only [↓e_pr, ↓e_some, ↓e_an, ↓e_brT, ↓e_brF, ↓e_asB, ↓e_asI, ↓e_asV, ↓e_stE, ↓e_stE0, ↓e_stL, ↓e_stL0, ↓e_sqN, ↓e_sqR, ↓e_sqB, ↓e_sqC, ↓e_afN, ↓e_afR, ↓e_afB, ↓e_afC, ↓e_rtN, ↓e_rtR, ↓e_var, ↓e_c, ↓e_op, ↓e_un, ↓e_t, ↓e_nt, ↓e_anT, ↓e_orT, ↓e_and, ↓e_or, ↓e_not, ↓e_ite, ↓e_ch, ↓e_nil, ↓e_cons, ↓e_star, ↓e_tup, ↓e_lst, ↓e_mut, ↓e_call, ↓e_isiT, ↓e_lz, ↓e_meth, ↓e_meth0, ↓e_oN, ↓e_oS, ↓e_sl, ↓e_gVar, ↓e_gSub, ↓e_gTp, ↓e_gN, ↓e_gC, ↓e_next, ↓e_seq, ↓e_drop, ↓e_ret, ↓e_retN, ↓e_brk, ↓e_cnt, ↓e_if, ↓e_asg, ↓e_as2, ↓e_as3, ↓e_par, ↓e_aug, ↓e_augS, ↓e_for, ↓e_f0, ↓e_f1, ↓e_while, ↓e_asS1, ↓e_asS2, ↓e_asS3, ↓e_iSeq, ↓e_enum, ↓e_asTI, ↓e_enumC, ↓e_rng1, ↓e_zip, ↓e_zipX, ↓e_comp, ↓e_c0, ↓e_c1, ↓e_y, ↓e_body, ↓e_addI, ↓e_addT, ↓e_addL, ↓e_subI, ↓e_iadd, ↓e_mulI, ↓e_divI, ↓e_modI, ↓e_powI, ↓e_negI, ↓e_mulT, ↓e_mulL, ↓e_cmp, ↓e_eq, ↓e_ne, ↓e_isN, ↓e_isB, ↓e_isNotN, ↓e_isNotB, ↓e_ix, ↓e_abs, ↓e_toI, ↓e_toB1, ↓e_toB0, ↓e_lenT, ↓e_lenL, ↓e_lenRo, ↓e_lenR, ↓e_tupT, ↓e_tupL, ↓e_tupR, ↓e_lstT, ↓e_lstL, ↓e_allM, ↓e_in, ↓e_notIn, ↓e_sum, ↓e_max, ↓e_par3, ↓e_pop, ↓e_frz, ↓e_frzR, ↓e_isi, ↓e_slT, ↓e_slL, ↓e_slRo, ↓e_app, ↓e_ext, ↓e_setM, r_it1, r_it2, r_it3, r_it4, r_ls2, r_ls3, r_ml2, r_ml3, r_mg0, r_mgn, r_at0, r_at1, r_at2, r_at3, r_ix0, r_ix1, r_ix2, r_ty1, r_ty2, r_ty3, r_ty4, r_ty5, r_ty6, r_ty7, r_ty8, r_sNt, r_sNi, r_sNb, r_sNs, r_sbt, r_sbi, r_sbb, r_sbs, r_sit, r_sii, r_sib, r_sis, r_sst, r_ssi, r_ssb, r_sss, r_stt, r_sti, r_stb, r_sts, r_slt, r_sli, r_slb, r_sls, r_aN, r_ab, r_ai, r_as, r_at, r_al, r_eqI, r_eqB, r_eqS, r_pu1, r_pu2, r_eqN, r_fr1, r_fx1, r_fx2, r_fx3, r_bo0, r_bo1, r_c0, r_c1, r_c2, r_c3, r_c4, r_c5, r_c6, r_c7, r_c8, r_c9, r_c10, r_c11, r_c12, r_pd0, r_pd1, r_pd2, r_wi0, r_wi1, List.set_cons_zero, List.set_cons_succ, List.getElem?_cons_zero, List.getElem?_cons_succ, ↓reduceIte, List.length_cons, List.length_nil, Nat.zero_add, Nat.reduceAdd, and_true, true_and, decide_true, decide_false, eq_self, beq_self_eq_true, Bool.true_beq, Bool.false_beq, Bool.not_true, Bool.not_false, Int.reduceEq, Int.reduceLT, Int.reduceLE, Int.reduceAdd, Int.reduceSub, Int.reduceMul, Int.reduceNeg, Bool.not_not, List.append_nil, List.nil_append, List.cons_append, z_int, z_bl, z_non, z_tup, z_lst, z_str, z_lint, z_lbl, z_lnon, z_ltup, z_llst, z_lstr, z_whole, kD, w_pn, w_pp]
    refine (ih1 h B).mono ?_
    rintro d h1 ⟨⟨a, rfl, f1, q1⟩, B1⟩
    simp (config := {dsimp := false}) only [↓e_pr, ↓e_some, ↓e_an, ↓e_brT, ↓e_brF, ↓e_asB, ↓e_asI, ↓e_asV, ↓e_stE, ↓e_stE0, ↓e_stL, ↓e_stL0, ↓e_sqN, ↓e_sqR, ↓e_sqB, ↓e_sqC, ↓e_afN, ↓e_afR, ↓e_afB, ↓e_afC, ↓e_rtN, ↓e_rtR, ↓e_var, ↓e_c, ↓e_op, ↓e_un, ↓e_t, ↓e_nt, ↓e_anT, ↓e_orT, ↓e_and, ↓e_or, ↓e_not, ↓e_ite, ↓e_ch, ↓e_nil, ↓e_cons, ↓e_star, ↓e_tup, ↓e_lst, ↓e_mut, ↓e_call, ↓e_isiT, ↓e_lz, ↓e_meth, ↓e_meth0, ↓e_oN, ↓e_oS, ↓e_sl, ↓e_gVar, ↓e_gSub, ↓e_gTp, ↓e_gN, ↓e_gC, ↓e_next, ↓e_seq, ↓e_drop, ↓e_ret, ↓e_retN, ↓e_brk, ↓e_cnt, ↓e_if, ↓e_asg, ↓e_as2, ↓e_as3, ↓e_par, ↓e_aug, ↓e_augS, ↓e_for, ↓e_f0, ↓e_f1, ↓e_while, ↓e_asS1, ↓e_asS2, ↓e_asS3, ↓e_iSeq, ↓e_enum, ↓e_asTI, ↓e_enumC, ↓e_rng1, ↓e_zip, ↓e_zipX, ↓e_comp, ↓e_c0, ↓e_c1, ↓e_y, ↓e_body, ↓e_addI, ↓e_addT, ↓e_addL, ↓e_subI, ↓e_iadd, ↓e_mulI, ↓e_divI, ↓e_modI, ↓e_powI, ↓e_negI, ↓e_mulT, ↓e_mulL, ↓e_cmp, ↓e_eq, ↓e_ne, ↓e_isN, ↓e_isB, ↓e_isNotN, ↓e_isNotB, ↓e_ix, ↓e_abs, ↓e_toI, ↓e_toB1, ↓e_toB0, ↓e_lenT, ↓e_lenL, ↓e_lenRo, ↓e_lenR, ↓e_tupT, ↓e_tupL, ↓e_tupR, ↓e_lstT, ↓e_lstL, ↓e_allM, ↓e_in, ↓e_notIn, ↓e_sum, ↓e_max, ↓e_par3, ↓e_pop, ↓e_frz, ↓e_frzR, ↓e_isi, ↓e_slT, ↓e_slL, ↓e_slRo, ↓e_app, ↓e_ext, ↓e_setM, r_it1, r_it2, r_it3, r_it4, r_ls2, r_ls3, r_ml2, r_ml3, r_mg0, r_mgn, r_at0, r_at1, r_at2, r_at3, r_ix0, r_ix1, r_ix2, r_ty1, r_ty2, r_ty3, r_ty4, r_ty5, r_ty6, r_ty7, r_ty8, r_sNt, r_sNi, r_sNb, r_sNs, r_sbt, r_sbi, r_sbb, r_sbs, r_sit, r_sii, r_sib, r_sis, r_sst, r_ssi, r_ssb, r_sss, r_stt, r_sti, r_stb, r_sts, r_slt, r_sli, r_slb, r_sls, r_aN, r_ab, r_ai, r_as, r_at, r_al, r_eqI, r_eqB, r_eqS, r_pu1, r_pu2, r_eqN, r_fr1, r_fx1, r_fx2, r_fx3, r_bo0, r_bo1, r_c0, r_c1, r_c2, r_c3, r_c4, r_c5, r_c6, r_c7, r_c8, r_c9, r_c10, r_c11, r_c12, r_pd0, r_pd1, r_pd2, r_wi0, r_wi1, List.set_cons_zero, List.set_cons_succ, List.getElem?_cons_zero, List.getElem?_cons_succ, ↓reduceIte, List.length_cons, List.length_nil, Nat.zero_add, Nat.reduceAdd, and_true, true_and, decide_true, decide_false, eq_self, beq_self_eq_true, Bool.true_beq, Bool.false_beq, Bool.not_true, Bool.not_false, Int.reduceEq, Int.reduceLT, Int.reduceLE, Int.reduceAdd, Int.reduceSub, Int.reduceMul, Int.reduceNeg, Bool.not_not, List.append_nil, List.nil_append, List.cons_append, z_int, z_bl, z_non, z_tup, z_lst, z_str, z_lint, z_lbl, z_lnon, z_ltup, z_llst, z_lstr, z_whole]
    refine (ih2 h1 B1).mono ?_
    rintro d h2 ⟨⟨b, rfl, f2, q2⟩, B2⟩
    simp (config := {dsimp := false}) only [↓e_pr, ↓e_some, ↓e_an, ↓e_brT, ↓e_brF, ↓e_asB, ↓e_asI, ↓e_asV, ↓e_stE, ↓e_stE0, ↓e_stL, ↓e_stL0, ↓e_sqN, ↓e_sqR, ↓e_sqB, ↓e_sqC, ↓e_afN, ↓e_afR, ↓e_afB, ↓e_afC, ↓e_rtN, ↓e_rtR, ↓e_var, ↓e_c, ↓e_op, ↓e_un, ↓e_t, ↓e_nt, ↓e_anT, ↓e_orT, ↓e_and, ↓e_or, ↓e_not, ↓e_ite, ↓e_ch, ↓e_nil, ↓e_cons, ↓e_star, ↓e_tup, ↓e_lst, ↓e_mut, ↓e_call, ↓e_isiT, ↓e_lz, ↓e_meth, ↓e_meth0, ↓e_oN, ↓e_oS, ↓e_sl, ↓e_gVar, ↓e_gSub, ↓e_gTp, ↓e_gN, ↓e_gC, ↓e_next, ↓e_seq, ↓e_drop, ↓e_ret, ↓e_retN, ↓e_brk, ↓e_cnt, ↓e_if, ↓e_asg, ↓e_as2, ↓e_as3, ↓e_par, ↓e_aug, ↓e_augS, ↓e_for, ↓e_f0, ↓e_f1, ↓e_while, ↓e_asS1, ↓e_asS2, ↓e_asS3, ↓e_iSeq, ↓e_enum, ↓e_asTI, ↓e_enumC, ↓e_rng1, ↓e_zip, ↓e_zipX, ↓e_comp, ↓e_c0, ↓e_c1, ↓e_y, ↓e_body, ↓e_addI, ↓e_addT, ↓e_addL, ↓e_subI, ↓e_iadd, ↓e_mulI, ↓e_divI, ↓e_modI, ↓e_powI, ↓e_negI, ↓e_mulT, ↓e_mulL, ↓e_cmp, ↓e_eq, ↓e_ne, ↓e_isN, ↓e_isB, ↓e_isNotN, ↓e_isNotB, ↓e_ix, ↓e_abs, ↓e_toI, ↓e_toB1, ↓e_toB0, ↓e_lenT, ↓e_lenL, ↓e_lenRo, ↓e_lenR, ↓e_tupT, ↓e_tupL, ↓e_tupR, ↓e_lstT, ↓e_lstL, ↓e_allM, ↓e_in, ↓e_notIn, ↓e_sum, ↓e_max, ↓e_par3, ↓e_pop, ↓e_frz, ↓e_frzR, ↓e_isi, ↓e_slT, ↓e_slL, ↓e_slRo, ↓e_app, ↓e_ext, ↓e_setM, r_it1, r_it2, r_it3, r_it4, r_ls2, r_ls3, r_ml2, r_ml3, r_mg0, r_mgn, r_at0, r_at1, r_at2, r_at3, r_ix0, r_ix1, r_ix2, r_ty1, r_ty2, r_ty3, r_ty4, r_ty5, r_ty6, r_ty7, r_ty8, r_sNt, r_sNi, r_sNb, r_sNs, r_sbt, r_sbi, r_sbb, r_sbs, r_sit, r_sii, r_sib, r_sis, r_sst, r_ssi, r_ssb, r_sss, r_stt, r_sti, r_stb, r_sts, r_slt, r_sli, r_slb, r_sls, r_aN, r_ab, r_ai, r_as, r_at, r_al, r_eqI, r_eqB, r_eqS, r_pu1, r_pu2, r_eqN, r_fr1, r_fx1, r_fx2, r_fx3, r_bo0, r_bo1, r_c0, r_c1, r_c2, r_c3, r_c4, r_c5, r_c6, r_c7, r_c8, r_c9, r_c10, r_c11, r_c12, r_pd0, r_pd1, r_pd2, r_wi0, r_wi1, List.set_cons_zero, List.set_cons_succ, List.getElem?_cons_zero, List.getElem?_cons_succ, ↓reduceIte, List.length_cons, List.length_nil, Nat.zero_add, Nat.reduceAdd, and_true, true_and, decide_true, decide_false, eq_self, beq_self_eq_true, Bool.true_beq, Bool.false_beq, Bool.not_true, Bool.not_false, Int.reduceEq, Int.reduceLT, Int.reduceLE, Int.reduceAdd, Int.reduceSub, Int.reduceMul, Int.reduceNeg, Bool.not_not, List.append_nil, List.nil_append, List.cons_append, z_int, z_bl, z_non, z_tup, z_lst, z_str, z_lint, z_lbl, z_lnon, z_ltup, z_llst, z_lstr, z_whole, s2]
    exact ⟨⟨(a, b), rfl, ⟨f1, f2⟩, fun q hq => by rcases List.mem_append.mp hq with hq | hq; exact q1 q hq; exact q2 q hq⟩, B2.mono (by omega)⟩
/-! ### values drawn -/
def TAll {α : Type} (P : α → Prop) : Tr α → Prop
  | .leaf => True
  | .node l x r => TAll P l ∧ P x ∧ TAll P r
theorem TAll.pre {α : Type} {P : α → Prop} : ∀ (t : Tr α) (d : Nat), TAll P t → ∀ p ∈ t.pre d, P p.1
  | .leaf, _, _, _, h => nomatch h
  | .node l x r, d, h, p, hp => by
    rw [Tr.pre] at hp
    rcases List.mem_cons.mp hp with rfl | hp
    · exact h.2.1
    · rcases List.mem_append.mp hp with hp | hp
      · exact TAll.pre l _ h.1 p hp
      · exact TAll.pre r _ h.2.2 p hp
theorem pre_sum {α : Type} : ∀ (t : Tr α) (d : Nat), ((t.pre d).map (·.2)).sum ≤ t.size * (d + t.size)
  | .leaf, d => Nat.zero_le _
  | .node l x r, d => by
    have h1 := pre_sum l (d + 1)
    have h2 := pre_sum r (d + 1)
    rw [Tr.pre, List.map_cons, List.map_append, List.sum_cons, List.sum_append, Tr.size]
    have e1 : l.size * (d + 1 + l.size) ≤ l.size * (d + (l.size + r.size + 1)) := Nat.mul_le_mul_left _ (by omega)
    have e2 : r.size * (d + 1 + r.size) ≤ r.size * (d + (l.size + r.size + 1)) := Nat.mul_le_mul_left _ (by omega)
    rw [Nat.add_mul, Nat.add_mul, Nat.one_mul]
    show d + (_ + _) ≤ _
    omega
theorem dsum_le {α : Type} {t : Tr α} (h : t.size ≤ 5) : dsum t ≤ 32 := by
  have h1 := pre_sum t 0
  have h2 : t.size * (0 + t.size) ≤ 5 * 5 := Nat.mul_le_mul h (by omega)
  unfold dsum
  omega
def dv : Kd → Nat
  | .num => 2
  | .lst k => 1 + 5 * (dv k + 1)
  | .tre k => 1 + 5 * (dv k + 1)
  | .par a b => dv a + dv b

end K19
namespace K19
open Sh ShR Iv PySem PySem.Spec PyProof.Rows L2
theorem val_lst {k : Kd} {me : Fun1} {h : Sto} {n m : Nat} (hm : m ≤ 5) (hn : n + (1 + 5 * (dv k + 1)) + 100 < 2 ^ 40) (B : Bag n h)
    (ih : ∀ (n' : Nat) h, n' ≤ n + 5 * (dv k + 1) → Bag n' h → Ev (me [.ref 0, kD k, .int (if (m : Int) - 2 > 0 then (m : Int) - 2 else 0)] h) fun d h' => (∃ v : Vt k, d = vD k v ∧ VOk k v) ∧ Bag (n' + dv k) h') :
    Ev (bodyF 6 (b_law_value me) [.ref 0, kD (.lst k), .int m] h) fun d h' => (∃ l : List (Vt k), d = .tup (l.map (vD k)) ∧ l.length ≤ 5 ∧ ∀ x ∈ l, VOk k x) ∧ Bag (n + (1 + 5 * (dv k + 1))) h' := by
  unfold b_law_value
  simp (config := {dsimp := false}) only [↓e_pr, ↓e_some, ↓e_an, ↓e_brT, ↓e_brF, ↓e_asB, ↓e_asI, ↓e_asV, ↓e_stE, ↓e_stE0, ↓e_stL, ↓e_stL0, ↓e_sqN, ↓e_sqR, ↓e_sqB, ↓e_sqC, ↓e_afN, ↓e_afR, ↓e_afB, ↓e_afC, ↓e_rtN, ↓e_rtR, ↓e_var, ↓e_c, ↓e_op, ↓e_un, ↓e_t, ↓e_nt, ↓e_anT, ↓e_orT, ↓e_and, ↓e_or, ↓e_not, ↓e_ite, ↓e_ch, ↓e_nil, ↓e_cons, ↓e_star, ↓e_tup, ↓e_lst, ↓e_mut, ↓e_call, ↓e_isiT, ↓e_lz, ↓e_meth, ↓e_meth0, ↓e_oN, ↓e_oS, ↓e_sl, ↓e_gVar, ↓e_gSub, ↓e_gTp, ↓e_gN, ↓e_gC, ↓e_next, ↓e_seq, ↓e_drop, ↓e_ret, ↓e_retN, ↓e_brk, ↓e_cnt, ↓e_if, ↓e_asg, ↓e_as2, ↓e_as3, ↓e_par, ↓e_aug, ↓e_augS, ↓e_for, ↓e_f0, ↓e_f1, ↓e_while, ↓e_asS1, ↓e_asS2, ↓e_asS3, ↓e_iSeq, ↓e_enum, ↓e_asTI, ↓e_enumC, ↓e_rng1, ↓e_zip, ↓e_zipX, ↓e_comp, ↓e_c0, ↓e_c1, ↓e_y, ↓e_body, ↓e_addI, ↓e_addT, ↓e_addL, ↓e_subI, ↓e_iadd, ↓e_mulI, ↓e_divI, ↓e_modI, ↓e_powI, ↓e_negI, ↓e_mulT, ↓e_mulL, ↓e_cmp, ↓e_eq, ↓e_ne, ↓e_isN, ↓e_isB, ↓e_isNotN, ↓e_isNotB, ↓e_ix, ↓e_abs, ↓e_toI, ↓e_toB1, ↓e_toB0, ↓e_lenT, ↓e_lenL, ↓e_lenRo, ↓e_lenR, ↓e_tupT, ↓e_tupL, ↓e_tupR, ↓e_lstT, ↓e_lstL, ↓e_allM, ↓e_in, ↓e_notIn, ↓e_sum, ↓e_max, ↓e_par3, ↓e_pop, ↓e_frz, ↓e_frzR, ↓e_isi, ↓e_slT, ↓e_slL, ↓e_slRo, ↓e_app, ↓e_ext, ↓e_setM, r_it1, r_it2, r_it3, r_it4, r_ls2, r_ls3, r_ml2, r_ml3, r_mg0, r_mgn, r_at0, r_at1, r_at2, r_at3, r_ix0, r_ix1, r_ix2, r_ty1, r_ty2, r_ty3, r_ty4, r_ty5, r_ty6, r_ty7, r_ty8, r_sNt, r_sNi, r_sNb, r_sNs, r_sbt, r_sbi, r_sbb, r_sbs, r_sit, r_sii, r_sib, r_sis, r_sst, r_ssi, r_ssb, r_sss, r_stt, r_sti, r_stb, r_sts, r_slt, r_sli, r_slb, r_sls, r_aN, r_ab, r_ai, r_as, r_at, r_al, r_eqI, r_eqB, r_eqS, r_pu1, r_pu2, r_eqN, r_fr1, r_fx1, r_fx2, r_fx3, r_bo0, r_bo1, r_c0, r_c1, r_c2, r_c3, r_c4, r_c5, r_c6, r_c7, r_c8, r_c9, r_c10, r_c11, r_c12, r_pd0, r_pd1, r_pd2, r_wi0, r_wi1, List.set_cons_zero, List.set_cons_succ, List.getElem?_cons_zero, List.getElem?_cons_succ, ↓reduceIte, List.length_cons, List.length_nil, Nat.zero_add, Nat.reduceAdd, and_true, true_and, decide_true, decide_false, eq_self, beq_self_eq_true, Bool.true_beq, Bool.false_beq, Bool.not_true, Bool.not_false, Int.reduceEq, Int.reduceLT, Int.reduceLE, Int.reduceAdd, Int.reduceSub, Int.reduceMul, Int.reduceNeg, Bool.not_not, List.append_nil, List.nil_append, List.cons_append, z_int, z_bl, z_non, z_tup, z_lst, z_str, z_lint, z_lbl, z_lnon, z_ltup, z_llst, z_lstr, z_whole, kD, w_ln, w_lp, s0]
  refine (sp_take (m := (m : Int) + 1) (by omega) (by omega) (by omega) B).mono ?_
  rintro d h1 ⟨⟨u, rfl, u0, u1⟩, B1, _⟩
  obtain ⟨q, rfl⟩ : ∃ q : Nat, u = q := ⟨u.toNat, by omega⟩
  simp (config := {dsimp := false}) only [↓e_pr, ↓e_some, ↓e_an, ↓e_brT, ↓e_brF, ↓e_asB, ↓e_asI, ↓e_asV, ↓e_stE, ↓e_stE0, ↓e_stL, ↓e_stL0, ↓e_sqN, ↓e_sqR, ↓e_sqB, ↓e_sqC, ↓e_afN, ↓e_afR, ↓e_afB, ↓e_afC, ↓e_rtN, ↓e_rtR, ↓e_var, ↓e_c, ↓e_op, ↓e_un, ↓e_t, ↓e_nt, ↓e_anT, ↓e_orT, ↓e_and, ↓e_or, ↓e_not, ↓e_ite, ↓e_ch, ↓e_nil, ↓e_cons, ↓e_star, ↓e_tup, ↓e_lst, ↓e_mut, ↓e_call, ↓e_isiT, ↓e_lz, ↓e_meth, ↓e_meth0, ↓e_oN, ↓e_oS, ↓e_sl, ↓e_gVar, ↓e_gSub, ↓e_gTp, ↓e_gN, ↓e_gC, ↓e_next, ↓e_seq, ↓e_drop, ↓e_ret, ↓e_retN, ↓e_brk, ↓e_cnt, ↓e_if, ↓e_asg, ↓e_as2, ↓e_as3, ↓e_par, ↓e_aug, ↓e_augS, ↓e_for, ↓e_f0, ↓e_f1, ↓e_while, ↓e_asS1, ↓e_asS2, ↓e_asS3, ↓e_iSeq, ↓e_enum, ↓e_asTI, ↓e_enumC, ↓e_rng1, ↓e_zip, ↓e_zipX, ↓e_comp, ↓e_c0, ↓e_c1, ↓e_y, ↓e_body, ↓e_addI, ↓e_addT, ↓e_addL, ↓e_subI, ↓e_iadd, ↓e_mulI, ↓e_divI, ↓e_modI, ↓e_powI, ↓e_negI, ↓e_mulT, ↓e_mulL, ↓e_cmp, ↓e_eq, ↓e_ne, ↓e_isN, ↓e_isB, ↓e_isNotN, ↓e_isNotB, ↓e_ix, ↓e_abs, ↓e_toI, ↓e_toB1, ↓e_toB0, ↓e_lenT, ↓e_lenL, ↓e_lenRo, ↓e_lenR, ↓e_tupT, ↓e_tupL, ↓e_tupR, ↓e_lstT, ↓e_lstL, ↓e_allM, ↓e_in, ↓e_notIn, ↓e_sum, ↓e_max, ↓e_par3, ↓e_pop, ↓e_frz, ↓e_frzR, ↓e_isi, ↓e_slT, ↓e_slL, ↓e_slRo, ↓e_app, ↓e_ext, ↓e_setM, r_it1, r_it2, r_it3, r_it4, r_ls2, r_ls3, r_ml2, r_ml3, r_mg0, r_mgn, r_at0, r_at1, r_at2, r_at3, r_ix0, r_ix1, r_ix2, r_ty1, r_ty2, r_ty3, r_ty4, r_ty5, r_ty6, r_ty7, r_ty8, r_sNt, r_sNi, r_sNb, r_sNs, r_sbt, r_sbi, r_sbb, r_sbs, r_sit, r_sii, r_sib, r_sis, r_sst, r_ssi, r_ssb, r_sss, r_stt, r_sti, r_stb, r_sts, r_slt, r_sli, r_slb, r_sls, r_aN, r_ab, r_ai, r_as, r_at, r_al, r_eqI, r_eqB, r_eqS, r_pu1, r_pu2, r_eqN, r_fr1, r_fx1, r_fx2, r_fx3, r_bo0, r_bo1, r_c0, r_c1, r_c2, r_c3, r_c4, r_c5, r_c6, r_c7, r_c8, r_c9, r_c10, r_c11, r_c12, r_pd0, r_pd1, r_pd2, r_wi0, r_wi1, List.set_cons_zero, List.set_cons_succ, List.getElem?_cons_zero, List.getElem?_cons_succ, ↓reduceIte, List.length_cons, List.length_nil, Nat.zero_add, Nat.reduceAdd, and_true, true_and, decide_true, decide_false, eq_self, beq_self_eq_true, Bool.true_beq, Bool.false_beq, Bool.not_true, Bool.not_false, Int.reduceEq, Int.reduceLT, Int.reduceLE, Int.reduceAdd, Int.reduceSub, Int.reduceMul, Int.reduceNeg, Bool.not_not, List.append_nil, List.nil_append, List.cons_append, z_int, z_bl, z_non, z_tup, z_lst, z_str, z_lint, z_lbl, z_lnon, z_ltup, z_llst, z_lstr, z_whole, Int.toNat_natCast]
  refine ⟨⟨by omega, by omega⟩, ?_⟩
  refine (for_inv (fun i ρ h => Bag (n + 1 + i * (dv k + 1)) h ∧ ∃ (l : List (Vt k)) (o4 o5 : Option D), l.length = i ∧ (∀ x ∈ l, VOk k x) ∧ ρ = [some (.ref 0), some (.tup [sL, kD k]), some (.int m), some (.tup (l.map (vD k))), o4, o5]) (rangeL 0 q) 0 _ _ ⟨by rw [Nat.zero_mul]; exact B1, [], none, none, rfl, (fun _ h => nomatch h), rfl⟩ ?_).mono ?_
  · rintro j d ρ h hd ⟨B, l, o4, o5, hl, hv, rfl⟩
    obtain ⟨rfl, hj⟩ := rng_at hd
    rw [Nat.zero_add] at B hl ⊢
    have hj5 : j ≤ 4 := by omega
    have h3 := Nat.mul_le_mul_right (dv k + 1) hj5
    simp (config := {dsimp := false}) only [↓e_pr, ↓e_some, ↓e_an, ↓e_brT, ↓e_brF, ↓e_asB, ↓e_asI, ↓e_asV, ↓e_stE, ↓e_stE0, ↓e_stL, ↓e_stL0, ↓e_sqN, ↓e_sqR, ↓e_sqB, ↓e_sqC, ↓e_afN, ↓e_afR, ↓e_afB, ↓e_afC, ↓e_rtN, ↓e_rtR, ↓e_var, ↓e_c, ↓e_op, ↓e_un, ↓e_t, ↓e_nt, ↓e_anT, ↓e_orT, ↓e_and, ↓e_or, ↓e_not, ↓e_ite, ↓e_ch, ↓e_nil, ↓e_cons, ↓e_star, ↓e_tup, ↓e_lst, ↓e_mut, ↓e_call, ↓e_isiT, ↓e_lz, ↓e_meth, ↓e_meth0, ↓e_oN, ↓e_oS, ↓e_sl, ↓e_gVar, ↓e_gSub, ↓e_gTp, ↓e_gN, ↓e_gC, ↓e_next, ↓e_seq, ↓e_drop, ↓e_ret, ↓e_retN, ↓e_brk, ↓e_cnt, ↓e_if, ↓e_asg, ↓e_as2, ↓e_as3, ↓e_par, ↓e_aug, ↓e_augS, ↓e_for, ↓e_f0, ↓e_f1, ↓e_while, ↓e_asS1, ↓e_asS2, ↓e_asS3, ↓e_iSeq, ↓e_enum, ↓e_asTI, ↓e_enumC, ↓e_rng1, ↓e_zip, ↓e_zipX, ↓e_comp, ↓e_c0, ↓e_c1, ↓e_y, ↓e_body, ↓e_addI, ↓e_addT, ↓e_addL, ↓e_subI, ↓e_iadd, ↓e_mulI, ↓e_divI, ↓e_modI, ↓e_powI, ↓e_negI, ↓e_mulT, ↓e_mulL, ↓e_cmp, ↓e_eq, ↓e_ne, ↓e_isN, ↓e_isB, ↓e_isNotN, ↓e_isNotB, ↓e_ix, ↓e_abs, ↓e_toI, ↓e_toB1, ↓e_toB0, ↓e_lenT, ↓e_lenL, ↓e_lenRo, ↓e_lenR, ↓e_tupT, ↓e_tupL, ↓e_tupR, ↓e_lstT, ↓e_lstL, ↓e_allM, ↓e_in, ↓e_notIn, ↓e_sum, ↓e_max, ↓e_par3, ↓e_pop, ↓e_frz, ↓e_frzR, ↓e_isi, ↓e_slT, ↓e_slL, ↓e_slRo, ↓e_app, ↓e_ext, ↓e_setM, r_it1, r_it2, r_it3, r_it4, r_ls2, r_ls3, r_ml2, r_ml3, r_mg0, r_mgn, r_at0, r_at1, r_at2, r_at3, r_ix0, r_ix1, r_ix2, r_ty1, r_ty2, r_ty3, r_ty4, r_ty5, r_ty6, r_ty7, r_ty8, r_sNt, r_sNi, r_sNb, r_sNs, r_sbt, r_sbi, r_sbb, r_sbs, r_sit, r_sii, r_sib, r_sis, r_sst, r_ssi, r_ssb, r_sss, r_stt, r_sti, r_stb, r_sts, r_slt, r_sli, r_slb, r_sls, r_aN, r_ab, r_ai, r_as, r_at, r_al, r_eqI, r_eqB, r_eqS, r_pu1, r_pu2, r_eqN, r_fr1, r_fx1, r_fx2, r_fx3, r_bo0, r_bo1, r_c0, r_c1, r_c2, r_c3, r_c4, r_c5, r_c6, r_c7, r_c8, r_c9, r_c10, r_c11, r_c12, r_pd0, r_pd1, r_pd2, r_wi0, r_wi1, List.set_cons_zero, List.set_cons_succ, List.getElem?_cons_zero, List.getElem?_cons_succ, ↓reduceIte, List.length_cons, List.length_nil, Nat.zero_add, Nat.reduceAdd, and_true, true_and, decide_true, decide_false, eq_self, beq_self_eq_true, Bool.true_beq, Bool.false_beq, Bool.not_true, Bool.not_false, Int.reduceEq, Int.reduceLT, Int.reduceLE, Int.reduceAdd, Int.reduceSub, Int.reduceMul, Int.reduceNeg, Bool.not_not, List.append_nil, List.nil_append, List.cons_append, z_int, z_bl, z_non, z_tup, z_lst, z_str, z_lint, z_lbl, z_lnon, z_ltup, z_llst, z_lstr, z_whole]
    refine (ih (n + 1 + j * (dv k + 1)) h (by omega) B).mono ?_
    rintro d h2 ⟨⟨v, rfl, hvk⟩, B2⟩
    simp (config := {dsimp := false}) only [↓e_pr, ↓e_some, ↓e_an, ↓e_brT, ↓e_brF, ↓e_asB, ↓e_asI, ↓e_asV, ↓e_stE, ↓e_stE0, ↓e_stL, ↓e_stL0, ↓e_sqN, ↓e_sqR, ↓e_sqB, ↓e_sqC, ↓e_afN, ↓e_afR, ↓e_afB, ↓e_afC, ↓e_rtN, ↓e_rtR, ↓e_var, ↓e_c, ↓e_op, ↓e_un, ↓e_t, ↓e_nt, ↓e_anT, ↓e_orT, ↓e_and, ↓e_or, ↓e_not, ↓e_ite, ↓e_ch, ↓e_nil, ↓e_cons, ↓e_star, ↓e_tup, ↓e_lst, ↓e_mut, ↓e_call, ↓e_isiT, ↓e_lz, ↓e_meth, ↓e_meth0, ↓e_oN, ↓e_oS, ↓e_sl, ↓e_gVar, ↓e_gSub, ↓e_gTp, ↓e_gN, ↓e_gC, ↓e_next, ↓e_seq, ↓e_drop, ↓e_ret, ↓e_retN, ↓e_brk, ↓e_cnt, ↓e_if, ↓e_asg, ↓e_as2, ↓e_as3, ↓e_par, ↓e_aug, ↓e_augS, ↓e_for, ↓e_f0, ↓e_f1, ↓e_while, ↓e_asS1, ↓e_asS2, ↓e_asS3, ↓e_iSeq, ↓e_enum, ↓e_asTI, ↓e_enumC, ↓e_rng1, ↓e_zip, ↓e_zipX, ↓e_comp, ↓e_c0, ↓e_c1, ↓e_y, ↓e_body, ↓e_addI, ↓e_addT, ↓e_addL, ↓e_subI, ↓e_iadd, ↓e_mulI, ↓e_divI, ↓e_modI, ↓e_powI, ↓e_negI, ↓e_mulT, ↓e_mulL, ↓e_cmp, ↓e_eq, ↓e_ne, ↓e_isN, ↓e_isB, ↓e_isNotN, ↓e_isNotB, ↓e_ix, ↓e_abs, ↓e_toI, ↓e_toB1, ↓e_toB0, ↓e_lenT, ↓e_lenL, ↓e_lenRo, ↓e_lenR, ↓e_tupT, ↓e_tupL, ↓e_tupR, ↓e_lstT, ↓e_lstL, ↓e_allM, ↓e_in, ↓e_notIn, ↓e_sum, ↓e_max, ↓e_par3, ↓e_pop, ↓e_frz, ↓e_frzR, ↓e_isi, ↓e_slT, ↓e_slL, ↓e_slRo, ↓e_app, ↓e_ext, ↓e_setM, r_it1, r_it2, r_it3, r_it4, r_ls2, r_ls3, r_ml2, r_ml3, r_mg0, r_mgn, r_at0, r_at1, r_at2, r_at3, r_ix0, r_ix1, r_ix2, r_ty1, r_ty2, r_ty3, r_ty4, r_ty5, r_ty6, r_ty7, r_ty8, r_sNt, r_sNi, r_sNb, r_sNs, r_sbt, r_sbi, r_sbb, r_sbs, r_sit, r_sii, r_sib, r_sis, r_sst, r_ssi, r_ssb, r_sss, r_stt, r_sti, r_stb, r_sts, r_slt, r_sli, r_slb, r_sls, r_aN, r_ab, r_ai, r_as, r_at, r_al, r_eqI, r_eqB, r_eqS, r_pu1, r_pu2, r_eqN, r_fr1, r_fx1, r_fx2, r_fx3, r_bo0, r_bo1, r_c0, r_c1, r_c2, r_c3, r_c4, r_c5, r_c6, r_c7, r_c8, r_c9, r_c10, r_c11, r_c12, r_pd0, r_pd1, r_pd2, r_wi0, r_wi1, List.set_cons_zero, List.set_cons_succ, List.getElem?_cons_zero, List.getElem?_cons_succ, ↓reduceIte, List.length_cons, List.length_nil, Nat.zero_add, Nat.reduceAdd, and_true, true_and, decide_true, decide_false, eq_self, beq_self_eq_true, Bool.true_beq, Bool.false_beq, Bool.not_true, Bool.not_false, Int.reduceEq, Int.reduceLT, Int.reduceLE, Int.reduceAdd, Int.reduceSub, Int.reduceMul, Int.reduceNeg, Bool.not_not, List.append_nil, List.nil_append, List.cons_append, z_int, z_bl, z_non, z_tup, z_lst, z_str, z_lint, z_lbl, z_lnon, z_ltup, z_llst, z_lstr, z_whole, w_ll, s1, List.length_map]
    refine ⟨le_sz (by omega), B2.mono (by rw [Nat.add_mul]; omega), v :: l, _, _, by rw [List.length_cons, hl], fun x hx => ?_, rfl⟩
    rcases List.mem_cons.mp hx with rfl | hx
    · exact hvk
    · exact hv x hx
  · rintro f ρ h2 ⟨rfl, B2, l, o4, o5, hl, hv, rfl⟩
    rw [rng_len, Nat.zero_add] at B2 hl
    have hq5 : q ≤ 5 := by omega
    have h3 := Nat.mul_le_mul_right (dv k + 1) hq5
    simp (config := {dsimp := false}) only [↓e_pr, ↓e_some, ↓e_an, ↓e_brT, ↓e_brF, ↓e_asB, ↓e_asI, ↓e_asV, ↓e_stE, ↓e_stE0, ↓e_stL, ↓e_stL0, ↓e_sqN, ↓e_sqR, ↓e_sqB, ↓e_sqC, ↓e_afN, ↓e_afR, ↓e_afB, ↓e_afC, ↓e_rtN, ↓e_rtR, ↓e_var, ↓e_c, ↓e_op, ↓e_un, ↓e_t, ↓e_nt, ↓e_anT, ↓e_orT, ↓e_and, ↓e_or, ↓e_not, ↓e_ite, ↓e_ch, ↓e_nil, ↓e_cons, ↓e_star, ↓e_tup, ↓e_lst, ↓e_mut, ↓e_call, ↓e_isiT, ↓e_lz, ↓e_meth, ↓e_meth0, ↓e_oN, ↓e_oS, ↓e_sl, ↓e_gVar, ↓e_gSub, ↓e_gTp, ↓e_gN, ↓e_gC, ↓e_next, ↓e_seq, ↓e_drop, ↓e_ret, ↓e_retN, ↓e_brk, ↓e_cnt, ↓e_if, ↓e_asg, ↓e_as2, ↓e_as3, ↓e_par, ↓e_aug, ↓e_augS, ↓e_for, ↓e_f0, ↓e_f1, ↓e_while, ↓e_asS1, ↓e_asS2, ↓e_asS3, ↓e_iSeq, ↓e_enum, ↓e_asTI, ↓e_enumC, ↓e_rng1, ↓e_zip, ↓e_zipX, ↓e_comp, ↓e_c0, ↓e_c1, ↓e_y, ↓e_body, ↓e_addI, ↓e_addT, ↓e_addL, ↓e_subI, ↓e_iadd, ↓e_mulI, ↓e_divI, ↓e_modI, ↓e_powI, ↓e_negI, ↓e_mulT, ↓e_mulL, ↓e_cmp, ↓e_eq, ↓e_ne, ↓e_isN, ↓e_isB, ↓e_isNotN, ↓e_isNotB, ↓e_ix, ↓e_abs, ↓e_toI, ↓e_toB1, ↓e_toB0, ↓e_lenT, ↓e_lenL, ↓e_lenRo, ↓e_lenR, ↓e_tupT, ↓e_tupL, ↓e_tupR, ↓e_lstT, ↓e_lstL, ↓e_allM, ↓e_in, ↓e_notIn, ↓e_sum, ↓e_max, ↓e_par3, ↓e_pop, ↓e_frz, ↓e_frzR, ↓e_isi, ↓e_slT, ↓e_slL, ↓e_slRo, ↓e_app, ↓e_ext, ↓e_setM, r_it1, r_it2, r_it3, r_it4, r_ls2, r_ls3, r_ml2, r_ml3, r_mg0, r_mgn, r_at0, r_at1, r_at2, r_at3, r_ix0, r_ix1, r_ix2, r_ty1, r_ty2, r_ty3, r_ty4, r_ty5, r_ty6, r_ty7, r_ty8, r_sNt, r_sNi, r_sNb, r_sNs, r_sbt, r_sbi, r_sbb, r_sbs, r_sit, r_sii, r_sib, r_sis, r_sst, r_ssi, r_ssb, r_sss, r_stt, r_sti, r_stb, r_sts, r_slt, r_sli, r_slb, r_sls, r_aN, r_ab, r_ai, r_as, r_at, r_al, r_eqI, r_eqB, r_eqS, r_pu1, r_pu2, r_eqN, r_fr1, r_fx1, r_fx2, r_fx3, r_bo0, r_bo1, r_c0, r_c1, r_c2, r_c3, r_c4, r_c5, r_c6, r_c7, r_c8, r_c9, r_c10, r_c11, r_c12, r_pd0, r_pd1, r_pd2, r_wi0, r_wi1, List.set_cons_zero, List.set_cons_succ, List.getElem?_cons_zero, List.getElem?_cons_succ, ↓reduceIte, List.length_cons, List.length_nil, Nat.zero_add, Nat.reduceAdd, and_true, true_and, decide_true, decide_false, eq_self, beq_self_eq_true, Bool.true_beq, Bool.false_beq, Bool.not_true, Bool.not_false, Int.reduceEq, Int.reduceLT, Int.reduceLE, Int.reduceAdd, Int.reduceSub, Int.reduceMul, Int.reduceNeg, Bool.not_not, List.append_nil, List.nil_append, List.cons_append, z_int, z_bl, z_non, z_tup, z_lst, z_str, z_lint, z_lbl, z_lnon, z_ltup, z_llst, z_lstr, z_whole]
    exact ⟨⟨l, rfl, by omega, hv⟩, B2.mono (by omega)⟩
theorem val_tre {k : Kd} {me : Fun1} {h : Sto} {n m : Nat} (hm : m ≤ 5) (hn : n + (1 + 5 * (dv k + 1)) + 100 < 2 ^ 40) (B : Bag n h)
    (ih : ∀ (n' : Nat) h, n' ≤ n + 5 * (dv k + 1) → Bag n' h → Ev (me [.ref 0, kD k, .int (if (m : Int) - 2 > 0 then (m : Int) - 2 else 0)] h) fun d h' => (∃ v : Vt k, d = vD k v ∧ VOk k v) ∧ Bag (n' + dv k) h') :
    Ev (bodyF 6 (b_law_value me) [.ref 0, kD (.tre k), .int m] h) fun d h' => (∃ t : Tr (Vt k), d = t.toD (vD k) ∧ t.size ≤ 5 ∧ TAll (VOk k) t) ∧ Bag (n + (1 + 5 * (dv k + 1))) h' := by
  unfold b_law_value
  simp (config := {dsimp := false}) only [↓e_pr, ↓e_some, ↓e_an, ↓e_brT, ↓e_brF, ↓e_asB, ↓e_asI, ↓e_asV, ↓e_stE, ↓e_stE0, ↓e_stL, ↓e_stL0, ↓e_sqN, ↓e_sqR, ↓e_sqB, ↓e_sqC, ↓e_afN, ↓e_afR, ↓e_afB, ↓e_afC, ↓e_rtN, ↓e_rtR, ↓e_var, ↓e_c, ↓e_op, ↓e_un, ↓e_t, ↓e_nt, ↓e_anT, ↓e_orT, ↓e_and, ↓e_or, ↓e_not, ↓e_ite, ↓e_ch, ↓e_nil, ↓e_cons, ↓e_star, ↓e_tup, ↓e_lst, ↓e_mut, ↓e_call, ↓e_isiT, ↓e_lz, ↓e_meth, ↓e_meth0, ↓e_oN, ↓e_oS, ↓e_sl, ↓e_gVar, ↓e_gSub, ↓e_gTp, ↓e_gN, ↓e_gC, ↓e_next, ↓e_seq, ↓e_drop, ↓e_ret, ↓e_retN, ↓e_brk, ↓e_cnt, ↓e_if, ↓e_asg, ↓e_as2, ↓e_as3, ↓e_par, ↓e_aug, ↓e_augS, ↓e_for, ↓e_f0, ↓e_f1, ↓e_while, ↓e_asS1, ↓e_asS2, ↓e_asS3, ↓e_iSeq, ↓e_enum, ↓e_asTI, ↓e_enumC, ↓e_rng1, ↓e_zip, ↓e_zipX, ↓e_comp, ↓e_c0, ↓e_c1, ↓e_y, ↓e_body, ↓e_addI, ↓e_addT, ↓e_addL, ↓e_subI, ↓e_iadd, ↓e_mulI, ↓e_divI, ↓e_modI, ↓e_powI, ↓e_negI, ↓e_mulT, ↓e_mulL, ↓e_cmp, ↓e_eq, ↓e_ne, ↓e_isN, ↓e_isB, ↓e_isNotN, ↓e_isNotB, ↓e_ix, ↓e_abs, ↓e_toI, ↓e_toB1, ↓e_toB0, ↓e_lenT, ↓e_lenL, ↓e_lenRo, ↓e_lenR, ↓e_tupT, ↓e_tupL, ↓e_tupR, ↓e_lstT, ↓e_lstL, ↓e_allM, ↓e_in, ↓e_notIn, ↓e_sum, ↓e_max, ↓e_par3, ↓e_pop, ↓e_frz, ↓e_frzR, ↓e_isi, ↓e_slT, ↓e_slL, ↓e_slRo, ↓e_app, ↓e_ext, ↓e_setM, r_it1, r_it2, r_it3, r_it4, r_ls2, r_ls3, r_ml2, r_ml3, r_mg0, r_mgn, r_at0, r_at1, r_at2, r_at3, r_ix0, r_ix1, r_ix2, r_ty1, r_ty2, r_ty3, r_ty4, r_ty5, r_ty6, r_ty7, r_ty8, r_sNt, r_sNi, r_sNb, r_sNs, r_sbt, r_sbi, r_sbb, r_sbs, r_sit, r_sii, r_sib, r_sis, r_sst, r_ssi, r_ssb, r_sss, r_stt, r_sti, r_stb, r_sts, r_slt, r_sli, r_slb, r_sls, r_aN, r_ab, r_ai, r_as, r_at, r_al, r_eqI, r_eqB, r_eqS, r_pu1, r_pu2, r_eqN, r_fr1, r_fx1, r_fx2, r_fx3, r_bo0, r_bo1, r_c0, r_c1, r_c2, r_c3, r_c4, r_c5, r_c6, r_c7, r_c8, r_c9, r_c10, r_c11, r_c12, r_pd0, r_pd1, r_pd2, r_wi0, r_wi1, List.set_cons_zero, List.set_cons_succ, List.getElem?_cons_zero, List.getElem?_cons_succ, ↓reduceIte, List.length_cons, List.length_nil, Nat.zero_add, Nat.reduceAdd, and_true, true_and, decide_true, decide_false, eq_self, beq_self_eq_true, Bool.true_beq, Bool.false_beq, Bool.not_true, Bool.not_false, Int.reduceEq, Int.reduceLT, Int.reduceLE, Int.reduceAdd, Int.reduceSub, Int.reduceMul, Int.reduceNeg, Bool.not_not, List.append_nil, List.nil_append, List.cons_append, z_int, z_bl, z_non, z_tup, z_lst, z_str, z_lint, z_lbl, z_lnon, z_ltup, z_llst, z_lstr, z_whole, kD, w_tn, w_tp, s0]
  refine (sp_take (m := (m : Int) + 1) (by omega) (by omega) (by omega) B).mono ?_
  rintro d h1 ⟨⟨u, rfl, u0, u1⟩, B1, _⟩
  obtain ⟨q, rfl⟩ : ∃ q : Nat, u = q := ⟨u.toNat, by omega⟩
  simp (config := {dsimp := false}) only [↓e_pr, ↓e_some, ↓e_an, ↓e_brT, ↓e_brF, ↓e_asB, ↓e_asI, ↓e_asV, ↓e_stE, ↓e_stE0, ↓e_stL, ↓e_stL0, ↓e_sqN, ↓e_sqR, ↓e_sqB, ↓e_sqC, ↓e_afN, ↓e_afR, ↓e_afB, ↓e_afC, ↓e_rtN, ↓e_rtR, ↓e_var, ↓e_c, ↓e_op, ↓e_un, ↓e_t, ↓e_nt, ↓e_anT, ↓e_orT, ↓e_and, ↓e_or, ↓e_not, ↓e_ite, ↓e_ch, ↓e_nil, ↓e_cons, ↓e_star, ↓e_tup, ↓e_lst, ↓e_mut, ↓e_call, ↓e_isiT, ↓e_lz, ↓e_meth, ↓e_meth0, ↓e_oN, ↓e_oS, ↓e_sl, ↓e_gVar, ↓e_gSub, ↓e_gTp, ↓e_gN, ↓e_gC, ↓e_next, ↓e_seq, ↓e_drop, ↓e_ret, ↓e_retN, ↓e_brk, ↓e_cnt, ↓e_if, ↓e_asg, ↓e_as2, ↓e_as3, ↓e_par, ↓e_aug, ↓e_augS, ↓e_for, ↓e_f0, ↓e_f1, ↓e_while, ↓e_asS1, ↓e_asS2, ↓e_asS3, ↓e_iSeq, ↓e_enum, ↓e_asTI, ↓e_enumC, ↓e_rng1, ↓e_zip, ↓e_zipX, ↓e_comp, ↓e_c0, ↓e_c1, ↓e_y, ↓e_body, ↓e_addI, ↓e_addT, ↓e_addL, ↓e_subI, ↓e_iadd, ↓e_mulI, ↓e_divI, ↓e_modI, ↓e_powI, ↓e_negI, ↓e_mulT, ↓e_mulL, ↓e_cmp, ↓e_eq, ↓e_ne, ↓e_isN, ↓e_isB, ↓e_isNotN, ↓e_isNotB, ↓e_ix, ↓e_abs, ↓e_toI, ↓e_toB1, ↓e_toB0, ↓e_lenT, ↓e_lenL, ↓e_lenRo, ↓e_lenR, ↓e_tupT, ↓e_tupL, ↓e_tupR, ↓e_lstT, ↓e_lstL, ↓e_allM, ↓e_in, ↓e_notIn, ↓e_sum, ↓e_max, ↓e_par3, ↓e_pop, ↓e_frz, ↓e_frzR, ↓e_isi, ↓e_slT, ↓e_slL, ↓e_slRo, ↓e_app, ↓e_ext, ↓e_setM, r_it1, r_it2, r_it3, r_it4, r_ls2, r_ls3, r_ml2, r_ml3, r_mg0, r_mgn, r_at0, r_at1, r_at2, r_at3, r_ix0, r_ix1, r_ix2, r_ty1, r_ty2, r_ty3, r_ty4, r_ty5, r_ty6, r_ty7, r_ty8, r_sNt, r_sNi, r_sNb, r_sNs, r_sbt, r_sbi, r_sbb, r_sbs, r_sit, r_sii, r_sib, r_sis, r_sst, r_ssi, r_ssb, r_sss, r_stt, r_sti, r_stb, r_sts, r_slt, r_sli, r_slb, r_sls, r_aN, r_ab, r_ai, r_as, r_at, r_al, r_eqI, r_eqB, r_eqS, r_pu1, r_pu2, r_eqN, r_fr1, r_fx1, r_fx2, r_fx3, r_bo0, r_bo1, r_c0, r_c1, r_c2, r_c3, r_c4, r_c5, r_c6, r_c7, r_c8, r_c9, r_c10, r_c11, r_c12, r_pd0, r_pd1, r_pd2, r_wi0, r_wi1, List.set_cons_zero, List.set_cons_succ, List.getElem?_cons_zero, List.getElem?_cons_succ, ↓reduceIte, List.length_cons, List.length_nil, Nat.zero_add, Nat.reduceAdd, and_true, true_and, decide_true, decide_false, eq_self, beq_self_eq_true, Bool.true_beq, Bool.false_beq, Bool.not_true, Bool.not_false, Int.reduceEq, Int.reduceLT, Int.reduceLE, Int.reduceAdd, Int.reduceSub, Int.reduceMul, Int.reduceNeg, Bool.not_not, List.append_nil, List.nil_append, List.cons_append, z_int, z_bl, z_non, z_tup, z_lst, z_str, z_lint, z_lbl, z_lnon, z_ltup, z_llst, z_lstr, z_whole, Int.toNat_natCast]
  refine ⟨⟨by omega, by omega⟩, ?_⟩
  refine (for_inv (fun i ρ h => Bag (n + 1 + i * (dv k + 1)) h ∧ ∃ (t : Tr (Vt k)) (o4 o5 : Option D), t.size = i ∧ TAll (VOk k) t ∧ ρ = [some (.ref 0), some (.tup [sT, kD k]), some (.int m), some (t.toD (vD k)), o4, o5]) (rangeL 0 q) 0 _ _ ⟨by rw [Nat.zero_mul]; exact B1, .leaf, none, none, rfl, trivial, rfl⟩ ?_).mono ?_
  · rintro j d ρ h hd ⟨B, t, o4, o5, hl, hv, rfl⟩
    obtain ⟨rfl, hj⟩ := rng_at hd
    rw [Nat.zero_add] at B hl ⊢
    have hj5 : j ≤ 4 := by omega
    have h3 := Nat.mul_le_mul_right (dv k + 1) hj5
    simp (config := {dsimp := false}) only [↓e_pr, ↓e_some, ↓e_an, ↓e_brT, ↓e_brF, ↓e_asB, ↓e_asI, ↓e_asV, ↓e_stE, ↓e_stE0, ↓e_stL, ↓e_stL0, ↓e_sqN, ↓e_sqR, ↓e_sqB, ↓e_sqC, ↓e_afN, ↓e_afR, ↓e_afB, ↓e_afC, ↓e_rtN, ↓e_rtR, ↓e_var, ↓e_c, ↓e_op, ↓e_un, ↓e_t, ↓e_nt, ↓e_anT, ↓e_orT, ↓e_and, ↓e_or, ↓e_not, ↓e_ite, ↓e_ch, ↓e_nil, ↓e_cons, ↓e_star, ↓e_tup, ↓e_lst, ↓e_mut, ↓e_call, ↓e_isiT, ↓e_lz, ↓e_meth, ↓e_meth0, ↓e_oN, ↓e_oS, ↓e_sl, ↓e_gVar, ↓e_gSub, ↓e_gTp, ↓e_gN, ↓e_gC, ↓e_next, ↓e_seq, ↓e_drop, ↓e_ret, ↓e_retN, ↓e_brk, ↓e_cnt, ↓e_if, ↓e_asg, ↓e_as2, ↓e_as3, ↓e_par, ↓e_aug, ↓e_augS, ↓e_for, ↓e_f0, ↓e_f1, ↓e_while, ↓e_asS1, ↓e_asS2, ↓e_asS3, ↓e_iSeq, ↓e_enum, ↓e_asTI, ↓e_enumC, ↓e_rng1, ↓e_zip, ↓e_zipX, ↓e_comp, ↓e_c0, ↓e_c1, ↓e_y, ↓e_body, ↓e_addI, ↓e_addT, ↓e_addL, ↓e_subI, ↓e_iadd, ↓e_mulI, ↓e_divI, ↓e_modI, ↓e_powI, ↓e_negI, ↓e_mulT, ↓e_mulL, ↓e_cmp, ↓e_eq, ↓e_ne, ↓e_isN, ↓e_isB, ↓e_isNotN, ↓e_isNotB, ↓e_ix, ↓e_abs, ↓e_toI, ↓e_toB1, ↓e_toB0, ↓e_lenT, ↓e_lenL, ↓e_lenRo, ↓e_lenR, ↓e_tupT, ↓e_tupL, ↓e_tupR, ↓e_lstT, ↓e_lstL, ↓e_allM, ↓e_in, ↓e_notIn, ↓e_sum, ↓e_max, ↓e_par3, ↓e_pop, ↓e_frz, ↓e_frzR, ↓e_isi, ↓e_slT, ↓e_slL, ↓e_slRo, ↓e_app, ↓e_ext, ↓e_setM, r_it1, r_it2, r_it3, r_it4, r_ls2, r_ls3, r_ml2, r_ml3, r_mg0, r_mgn, r_at0, r_at1, r_at2, r_at3, r_ix0, r_ix1, r_ix2, r_ty1, r_ty2, r_ty3, r_ty4, r_ty5, r_ty6, r_ty7, r_ty8, r_sNt, r_sNi, r_sNb, r_sNs, r_sbt, r_sbi, r_sbb, r_sbs, r_sit, r_sii, r_sib, r_sis, r_sst, r_ssi, r_ssb, r_sss, r_stt, r_sti, r_stb, r_sts, r_slt, r_sli, r_slb, r_sls, r_aN, r_ab, r_ai, r_as, r_at, r_al, r_eqI, r_eqB, r_eqS, r_pu1, r_pu2, r_eqN, r_fr1, r_fx1, r_fx2, r_fx3, r_bo0, r_bo1, r_c0, r_c1, r_c2, r_c3, r_c4, r_c5, r_c6, r_c7, r_c8, r_c9, r_c10, r_c11, r_c12, r_pd0, r_pd1, r_pd2, r_wi0, r_wi1, List.set_cons_zero, List.set_cons_succ, List.getElem?_cons_zero, List.getElem?_cons_succ, ↓reduceIte, List.length_cons, List.length_nil, Nat.zero_add, Nat.reduceAdd, and_true, true_and, decide_true, decide_false, eq_self, beq_self_eq_true, Bool.true_beq, Bool.false_beq, Bool.not_true, Bool.not_false, Int.reduceEq, Int.reduceLT, Int.reduceLE, Int.reduceAdd, Int.reduceSub, Int.reduceMul, Int.reduceNeg, Bool.not_not, List.append_nil, List.nil_append, List.cons_append, z_int, z_bl, z_non, z_tup, z_lst, z_str, z_lint, z_lbl, z_lnon, z_ltup, z_llst, z_lstr, z_whole]
    refine (ih (n + 1 + j * (dv k + 1)) h (by omega) B).mono ?_
    rintro d h2 ⟨⟨v, rfl, hvk⟩, B2⟩
    simp (config := {dsimp := false}) only [↓e_pr, ↓e_some, ↓e_an, ↓e_brT, ↓e_brF, ↓e_asB, ↓e_asI, ↓e_asV, ↓e_stE, ↓e_stE0, ↓e_stL, ↓e_stL0, ↓e_sqN, ↓e_sqR, ↓e_sqB, ↓e_sqC, ↓e_afN, ↓e_afR, ↓e_afB, ↓e_afC, ↓e_rtN, ↓e_rtR, ↓e_var, ↓e_c, ↓e_op, ↓e_un, ↓e_t, ↓e_nt, ↓e_anT, ↓e_orT, ↓e_and, ↓e_or, ↓e_not, ↓e_ite, ↓e_ch, ↓e_nil, ↓e_cons, ↓e_star, ↓e_tup, ↓e_lst, ↓e_mut, ↓e_call, ↓e_isiT, ↓e_lz, ↓e_meth, ↓e_meth0, ↓e_oN, ↓e_oS, ↓e_sl, ↓e_gVar, ↓e_gSub, ↓e_gTp, ↓e_gN, ↓e_gC, ↓e_next, ↓e_seq, ↓e_drop, ↓e_ret, ↓e_retN, ↓e_brk, ↓e_cnt, ↓e_if, ↓e_asg, ↓e_as2, ↓e_as3, ↓e_par, ↓e_aug, ↓e_augS, ↓e_for, ↓e_f0, ↓e_f1, ↓e_while, ↓e_asS1, ↓e_asS2, ↓e_asS3, ↓e_iSeq, ↓e_enum, ↓e_asTI, ↓e_enumC, ↓e_rng1, ↓e_zip, ↓e_zipX, ↓e_comp, ↓e_c0, ↓e_c1, ↓e_y, ↓e_body, ↓e_addI, ↓e_addT, ↓e_addL, ↓e_subI, ↓e_iadd, ↓e_mulI, ↓e_divI, ↓e_modI, ↓e_powI, ↓e_negI, ↓e_mulT, ↓e_mulL, ↓e_cmp, ↓e_eq, ↓e_ne, ↓e_isN, ↓e_isB, ↓e_isNotN, ↓e_isNotB, ↓e_ix, ↓e_abs, ↓e_toI, ↓e_toB1, ↓e_toB0, ↓e_lenT, ↓e_lenL, ↓e_lenRo, ↓e_lenR, ↓e_tupT, ↓e_tupL, ↓e_tupR, ↓e_lstT, ↓e_lstL, ↓e_allM, ↓e_in, ↓e_notIn, ↓e_sum, ↓e_max, ↓e_par3, ↓e_pop, ↓e_frz, ↓e_frzR, ↓e_isi, ↓e_slT, ↓e_slL, ↓e_slRo, ↓e_app, ↓e_ext, ↓e_setM, r_it1, r_it2, r_it3, r_it4, r_ls2, r_ls3, r_ml2, r_ml3, r_mg0, r_mgn, r_at0, r_at1, r_at2, r_at3, r_ix0, r_ix1, r_ix2, r_ty1, r_ty2, r_ty3, r_ty4, r_ty5, r_ty6, r_ty7, r_ty8, r_sNt, r_sNi, r_sNb, r_sNs, r_sbt, r_sbi, r_sbb, r_sbs, r_sit, r_sii, r_sib, r_sis, r_sst, r_ssi, r_ssb, r_sss, r_stt, r_sti, r_stb, r_sts, r_slt, r_sli, r_slb, r_sls, r_aN, r_ab, r_ai, r_as, r_at, r_al, r_eqI, r_eqB, r_eqS, r_pu1, r_pu2, r_eqN, r_fr1, r_fx1, r_fx2, r_fx3, r_bo0, r_bo1, r_c0, r_c1, r_c2, r_c3, r_c4, r_c5, r_c6, r_c7, r_c8, r_c9, r_c10, r_c11, r_c12, r_pd0, r_pd1, r_pd2, r_wi0, r_wi1, List.set_cons_zero, List.set_cons_succ, List.getElem?_cons_zero, List.getElem?_cons_succ, ↓reduceIte, List.length_cons, List.length_nil, Nat.zero_add, Nat.reduceAdd, and_true, true_and, decide_true, decide_false, eq_self, beq_self_eq_true, Bool.true_beq, Bool.false_beq, Bool.not_true, Bool.not_false, Int.reduceEq, Int.reduceLT, Int.reduceLE, Int.reduceAdd, Int.reduceSub, Int.reduceMul, Int.reduceNeg, Bool.not_not, List.append_nil, List.nil_append, List.cons_append, z_int, z_bl, z_non, z_tup, z_lst, z_str, z_lint, z_lbl, z_lnon, z_ltup, z_llst, z_lstr, z_whole, w_tl]
    refine (sp_take (by decide) (by decide) (by omega) B2).mono ?_
    rintro d h4 ⟨⟨w, rfl, w0, w1⟩, B4, _⟩
    by_cases z : w = 0
    · subst z
      simp (config := {dsimp := false}) only [↓e_pr, ↓e_some, ↓e_an, ↓e_brT, ↓e_brF, ↓e_asB, ↓e_asI, ↓e_asV, ↓e_stE, ↓e_stE0, ↓e_stL, ↓e_stL0, ↓e_sqN, ↓e_sqR, ↓e_sqB, ↓e_sqC, ↓e_afN, ↓e_afR, ↓e_afB, ↓e_afC, ↓e_rtN, ↓e_rtR, ↓e_var, ↓e_c, ↓e_op, ↓e_un, ↓e_t, ↓e_nt, ↓e_anT, ↓e_orT, ↓e_and, ↓e_or, ↓e_not, ↓e_ite, ↓e_ch, ↓e_nil, ↓e_cons, ↓e_star, ↓e_tup, ↓e_lst, ↓e_mut, ↓e_call, ↓e_isiT, ↓e_lz, ↓e_meth, ↓e_meth0, ↓e_oN, ↓e_oS, ↓e_sl, ↓e_gVar, ↓e_gSub, ↓e_gTp, ↓e_gN, ↓e_gC, ↓e_next, ↓e_seq, ↓e_drop, ↓e_ret, ↓e_retN, ↓e_brk, ↓e_cnt, ↓e_if, ↓e_asg, ↓e_as2, ↓e_as3, ↓e_par, ↓e_aug, ↓e_augS, ↓e_for, ↓e_f0, ↓e_f1, ↓e_while, ↓e_asS1, ↓e_asS2, ↓e_asS3, ↓e_iSeq, ↓e_enum, ↓e_asTI, ↓e_enumC, ↓e_rng1, ↓e_zip, ↓e_zipX, ↓e_comp, ↓e_c0, ↓e_c1, ↓e_y, ↓e_body, ↓e_addI, ↓e_addT, ↓e_addL, ↓e_subI, ↓e_iadd, ↓e_mulI, ↓e_divI, ↓e_modI, ↓e_powI, ↓e_negI, ↓e_mulT, ↓e_mulL, ↓e_cmp, ↓e_eq, ↓e_ne, ↓e_isN, ↓e_isB, ↓e_isNotN, ↓e_isNotB, ↓e_ix, ↓e_abs, ↓e_toI, ↓e_toB1, ↓e_toB0, ↓e_lenT, ↓e_lenL, ↓e_lenRo, ↓e_lenR, ↓e_tupT, ↓e_tupL, ↓e_tupR, ↓e_lstT, ↓e_lstL, ↓e_allM, ↓e_in, ↓e_notIn, ↓e_sum, ↓e_max, ↓e_par3, ↓e_pop, ↓e_frz, ↓e_frzR, ↓e_isi, ↓e_slT, ↓e_slL, ↓e_slRo, ↓e_app, ↓e_ext, ↓e_setM, r_it1, r_it2, r_it3, r_it4, r_ls2, r_ls3, r_ml2, r_ml3, r_mg0, r_mgn, r_at0, r_at1, r_at2, r_at3, r_ix0, r_ix1, r_ix2, r_ty1, r_ty2, r_ty3, r_ty4, r_ty5, r_ty6, r_ty7, r_ty8, r_sNt, r_sNi, r_sNb, r_sNs, r_sbt, r_sbi, r_sbb, r_sbs, r_sit, r_sii, r_sib, r_sis, r_sst, r_ssi, r_ssb, r_sss, r_stt, r_sti, r_stb, r_sts, r_slt, r_sli, r_slb, r_sls, r_aN, r_ab, r_ai, r_as, r_at, r_al, r_eqI, r_eqB, r_eqS, r_pu1, r_pu2, r_eqN, r_fr1, r_fx1, r_fx2, r_fx3, r_bo0, r_bo1, r_c0, r_c1, r_c2, r_c3, r_c4, r_c5, r_c6, r_c7, r_c8, r_c9, r_c10, r_c11, r_c12, r_pd0, r_pd1, r_pd2, r_wi0, r_wi1, List.set_cons_zero, List.set_cons_succ, List.getElem?_cons_zero, List.getElem?_cons_succ, ↓reduceIte, List.length_cons, List.length_nil, Nat.zero_add, Nat.reduceAdd, and_true, true_and, decide_true, decide_false, eq_self, beq_self_eq_true, Bool.true_beq, Bool.false_beq, Bool.not_true, Bool.not_false, Int.reduceEq, Int.reduceLT, Int.reduceLE, Int.reduceAdd, Int.reduceSub, Int.reduceMul, Int.reduceNeg, Bool.not_not, List.append_nil, List.nil_append, List.cons_append, z_int, z_bl, z_non, z_tup, z_lst, z_str, z_lint, z_lbl, z_lnon, z_ltup, z_llst, z_lstr, z_whole, s0, s3]
      exact ⟨B4.mono (by rw [Nat.add_mul]; omega), .node t v .leaf, _, _, by rw [Tr.size, hl]; rfl, ⟨hv, hvk, trivial⟩, rfl⟩
    · simp (config := {dsimp := false}) only [↓e_pr, ↓e_some, ↓e_an, ↓e_brT, ↓e_brF, ↓e_asB, ↓e_asI, ↓e_asV, ↓e_stE, ↓e_stE0, ↓e_stL, ↓e_stL0, ↓e_sqN, ↓e_sqR, ↓e_sqB, ↓e_sqC, ↓e_afN, ↓e_afR, ↓e_afB, ↓e_afC, ↓e_rtN, ↓e_rtR, ↓e_var, ↓e_c, ↓e_op, ↓e_un, ↓e_t, ↓e_nt, ↓e_anT, ↓e_orT, ↓e_and, ↓e_or, ↓e_not, ↓e_ite, ↓e_ch, ↓e_nil, ↓e_cons, ↓e_star, ↓e_tup, ↓e_lst, ↓e_mut, ↓e_call, ↓e_isiT, ↓e_lz, ↓e_meth, ↓e_meth0, ↓e_oN, ↓e_oS, ↓e_sl, ↓e_gVar, ↓e_gSub, ↓e_gTp, ↓e_gN, ↓e_gC, ↓e_next, ↓e_seq, ↓e_drop, ↓e_ret, ↓e_retN, ↓e_brk, ↓e_cnt, ↓e_if, ↓e_asg, ↓e_as2, ↓e_as3, ↓e_par, ↓e_aug, ↓e_augS, ↓e_for, ↓e_f0, ↓e_f1, ↓e_while, ↓e_asS1, ↓e_asS2, ↓e_asS3, ↓e_iSeq, ↓e_enum, ↓e_asTI, ↓e_enumC, ↓e_rng1, ↓e_zip, ↓e_zipX, ↓e_comp, ↓e_c0, ↓e_c1, ↓e_y, ↓e_body, ↓e_addI, ↓e_addT, ↓e_addL, ↓e_subI, ↓e_iadd, ↓e_mulI, ↓e_divI, ↓e_modI, ↓e_powI, ↓e_negI, ↓e_mulT, ↓e_mulL, ↓e_cmp, ↓e_eq, ↓e_ne, ↓e_isN, ↓e_isB, ↓e_isNotN, ↓e_isNotB, ↓e_ix, ↓e_abs, ↓e_toI, ↓e_toB1, ↓e_toB0, ↓e_lenT, ↓e_lenL, ↓e_lenRo, ↓e_lenR, ↓e_tupT, ↓e_tupL, ↓e_tupR, ↓e_lstT, ↓e_lstL, ↓e_allM, ↓e_in, ↓e_notIn, ↓e_sum, ↓e_max, ↓e_par3, ↓e_pop, ↓e_frz, ↓e_frzR, ↓e_isi, ↓e_slT, ↓e_slL, ↓e_slRo, ↓e_app, ↓e_ext, ↓e_setM, r_it1, r_it2, r_it3, r_it4, r_ls2, r_ls3, r_ml2, r_ml3, r_mg0, r_mgn, r_at0, r_at1, r_at2, r_at3, r_ix0, r_ix1, r_ix2, r_ty1, r_ty2, r_ty3, r_ty4, r_ty5, r_ty6, r_ty7, r_ty8, r_sNt, r_sNi, r_sNb, r_sNs, r_sbt, r_sbi, r_sbb, r_sbs, r_sit, r_sii, r_sib, r_sis, r_sst, r_ssi, r_ssb, r_sss, r_stt, r_sti, r_stb, r_sts, r_slt, r_sli, r_slb, r_sls, r_aN, r_ab, r_ai, r_as, r_at, r_al, r_eqI, r_eqB, r_eqS, r_pu1, r_pu2, r_eqN, r_fr1, r_fx1, r_fx2, r_fx3, r_bo0, r_bo1, r_c0, r_c1, r_c2, r_c3, r_c4, r_c5, r_c6, r_c7, r_c8, r_c9, r_c10, r_c11, r_c12, r_pd0, r_pd1, r_pd2, r_wi0, r_wi1, List.set_cons_zero, List.set_cons_succ, List.getElem?_cons_zero, List.getElem?_cons_succ, ↓reduceIte, List.length_cons, List.length_nil, Nat.zero_add, Nat.reduceAdd, and_true, true_and, decide_true, decide_false, eq_self, beq_self_eq_true, Bool.true_beq, Bool.false_beq, Bool.not_true, Bool.not_false, Int.reduceEq, Int.reduceLT, Int.reduceLE, Int.reduceAdd, Int.reduceSub, Int.reduceMul, Int.reduceNeg, Bool.not_not, List.append_nil, List.nil_append, List.cons_append, z_int, z_bl, z_non, z_tup, z_lst, z_str, z_lint, z_lbl, z_lnon, z_ltup, z_llst, z_lstr, z_whole, z, decide_eq_false z, s0, s3]
      exact ⟨B4.mono (by rw [Nat.add_mul]; omega), .node .leaf v t, _, _, by rw [Tr.size, hl, Tr.size, Nat.zero_add], ⟨trivial, hvk, hv⟩, rfl⟩
  · rintro f ρ h2 ⟨rfl, B2, t, o4, o5, hl, hv, rfl⟩
    rw [rng_len, Nat.zero_add] at B2 hl
    have hq5 : q ≤ 5 := by omega
    have h3 := Nat.mul_le_mul_right (dv k + 1) hq5
    simp (config := {dsimp := false}) only [↓e_pr, ↓e_some, ↓e_an, ↓e_brT, ↓e_brF, ↓e_asB, ↓e_asI, ↓e_asV, ↓e_stE, ↓e_stE0, ↓e_stL, ↓e_stL0, ↓e_sqN, ↓e_sqR, ↓e_sqB, ↓e_sqC, ↓e_afN, ↓e_afR, ↓e_afB, ↓e_afC, ↓e_rtN, ↓e_rtR, ↓e_var, ↓e_c, ↓e_op, ↓e_un, ↓e_t, ↓e_nt, ↓e_anT, ↓e_orT, ↓e_and, ↓e_or, ↓e_not, ↓e_ite, ↓e_ch, ↓e_nil, ↓e_cons, ↓e_star, ↓e_tup, ↓e_lst, ↓e_mut, ↓e_call, ↓e_isiT, ↓e_lz, ↓e_meth, ↓e_meth0, ↓e_oN, ↓e_oS, ↓e_sl, ↓e_gVar, ↓e_gSub, ↓e_gTp, ↓e_gN, ↓e_gC, ↓e_next, ↓e_seq, ↓e_drop, ↓e_ret, ↓e_retN, ↓e_brk, ↓e_cnt, ↓e_if, ↓e_asg, ↓e_as2, ↓e_as3, ↓e_par, ↓e_aug, ↓e_augS, ↓e_for, ↓e_f0, ↓e_f1, ↓e_while, ↓e_asS1, ↓e_asS2, ↓e_asS3, ↓e_iSeq, ↓e_enum, ↓e_asTI, ↓e_enumC, ↓e_rng1, ↓e_zip, ↓e_zipX, ↓e_comp, ↓e_c0, ↓e_c1, ↓e_y, ↓e_body, ↓e_addI, ↓e_addT, ↓e_addL, ↓e_subI, ↓e_iadd, ↓e_mulI, ↓e_divI, ↓e_modI, ↓e_powI, ↓e_negI, ↓e_mulT, ↓e_mulL, ↓e_cmp, ↓e_eq, ↓e_ne, ↓e_isN, ↓e_isB, ↓e_isNotN, ↓e_isNotB, ↓e_ix, ↓e_abs, ↓e_toI, ↓e_toB1, ↓e_toB0, ↓e_lenT, ↓e_lenL, ↓e_lenRo, ↓e_lenR, ↓e_tupT, ↓e_tupL, ↓e_tupR, ↓e_lstT, ↓e_lstL, ↓e_allM, ↓e_in, ↓e_notIn, ↓e_sum, ↓e_max, ↓e_par3, ↓e_pop, ↓e_frz, ↓e_frzR, ↓e_isi, ↓e_slT, ↓e_slL, ↓e_slRo, ↓e_app, ↓e_ext, ↓e_setM, r_it1, r_it2, r_it3, r_it4, r_ls2, r_ls3, r_ml2, r_ml3, r_mg0, r_mgn, r_at0, r_at1, r_at2, r_at3, r_ix0, r_ix1, r_ix2, r_ty1, r_ty2, r_ty3, r_ty4, r_ty5, r_ty6, r_ty7, r_ty8, r_sNt, r_sNi, r_sNb, r_sNs, r_sbt, r_sbi, r_sbb, r_sbs, r_sit, r_sii, r_sib, r_sis, r_sst, r_ssi, r_ssb, r_sss, r_stt, r_sti, r_stb, r_sts, r_slt, r_sli, r_slb, r_sls, r_aN, r_ab, r_ai, r_as, r_at, r_al, r_eqI, r_eqB, r_eqS, r_pu1, r_pu2, r_eqN, r_fr1, r_fx1, r_fx2, r_fx3, r_bo0, r_bo1, r_c0, r_c1, r_c2, r_c3, r_c4, r_c5, r_c6, r_c7, r_c8, r_c9, r_c10, r_c11, r_c12, r_pd0, r_pd1, r_pd2, r_wi0, r_wi1, List.set_cons_zero, List.set_cons_succ, List.getElem?_cons_zero, List.getElem?_cons_succ, ↓reduceIte, List.length_cons, List.length_nil, Nat.zero_add, Nat.reduceAdd, and_true, true_and, decide_true, decide_false, eq_self, beq_self_eq_true, Bool.true_beq, Bool.false_beq, Bool.not_true, Bool.not_false, Int.reduceEq, Int.reduceLT, Int.reduceLE, Int.reduceAdd, Int.reduceSub, Int.reduceMul, Int.reduceNeg, Bool.not_not, List.append_nil, List.nil_append, List.cons_append, z_int, z_bl, z_non, z_tup, z_lst, z_str, z_lint, z_lbl, z_lnon, z_ltup, z_llst, z_lstr, z_whole]
    exact ⟨⟨t, rfl, by omega, hv⟩, B2.mono (by omega)⟩

end K19
namespace K19
open Sh ShR Iv PySem PySem.Spec PyProof.Rows L2
theorem sp_value : ∀ (k : Kd) (r n m : Nat) (h : Sto), dep k < r → m ≤ 5 → n + 10 * dv k + 100 < 2 ^ 40 → Bag n h →
    Ev (recF 6 b_law_value r [.ref 0, kD k, .int m] h) fun d h' => (∃ v : Vt k, d = vD k v ∧ VOk k v) ∧ Bag (n + dv k) h'
  | .num, r + 1, n, m, h, _, hm, hn, B => by
    rw [dv] at hn ⊢
    refine rec_iff.mpr ?_
    unfold b_law_value
    have s4 : 4 ≤ sizeLine := by decide
    simp (config := {dsimp := false}) only [↓e_pr, ↓e_some, ↓e_an, ↓e_brT, ↓e_brF, ↓e_asB, ↓e_asI, ↓e_asV, ↓e_stE, ↓e_stE0, ↓e_stL, ↓e_stL0, ↓e_sqN, ↓e_sqR, ↓e_sqB, ↓e_sqC, ↓e_afN, ↓e_afR, ↓e_afB, ↓e_afC, ↓e_rtN, ↓e_rtR, ↓e_var, ↓e_c, ↓e_op, ↓e_un, ↓e_t, ↓e_nt, ↓e_anT, ↓e_orT, ↓e_and, ↓e_or, ↓e_not, ↓e_ite, ↓e_ch, ↓e_nil, ↓e_cons, ↓e_star, ↓e_tup, ↓e_lst, ↓e_mut, ↓e_call, ↓e_isiT, ↓e_lz, ↓e_meth, ↓e_meth0, ↓e_oN, ↓e_oS, ↓e_sl, ↓e_gVar, ↓e_gSub, ↓e_gTp, ↓e_gN, ↓e_gC, ↓e_next, ↓e_seq, ↓e_drop, ↓e_ret, ↓e_retN, ↓e_brk, ↓e_cnt, ↓e_if, ↓e_asg, ↓e_as2, ↓e_as3, ↓e_par, ↓e_aug, ↓e_augS, ↓e_for, ↓e_f0, ↓e_f1, ↓e_while, ↓e_asS1, ↓e_asS2, ↓e_asS3, ↓e_iSeq, ↓e_enum, ↓e_asTI, ↓e_enumC, ↓e_rng1, ↓e_zip, ↓e_zipX, ↓e_comp, ↓e_c0, ↓e_c1, ↓e_y, ↓e_body, ↓e_addI, ↓e_addT, ↓e_addL, ↓e_subI, ↓e_iadd, ↓e_mulI, ↓e_divI, ↓e_modI, ↓e_powI, ↓e_negI, ↓e_mulT, ↓e_mulL, ↓e_cmp, ↓e_eq, ↓e_ne, ↓e_isN, ↓e_isB, ↓e_isNotN, ↓e_isNotB, ↓e_ix, ↓e_abs, ↓e_toI, ↓e_toB1, ↓e_toB0, ↓e_lenT, ↓e_lenL, ↓e_lenRo, ↓e_lenR, ↓e_tupT, ↓e_tupL, ↓e_tupR, ↓e_lstT, ↓e_lstL, ↓e_allM, ↓e_in, ↓e_notIn, ↓e_sum, ↓e_max, ↓e_par3, ↓e_pop, ↓e_frz, ↓e_frzR, ↓e_isi, ↓e_slT, ↓e_slL, ↓e_slRo, ↓e_app, ↓e_ext, ↓e_setM, r_it1, r_it2, r_it3, r_it4, r_ls2, r_ls3, r_ml2, r_ml3, r_mg0, r_mgn, r_at0, r_at1, r_at2, r_at3, r_ix0, r_ix1, r_ix2, r_ty1, r_ty2, r_ty3, r_ty4, r_ty5, r_ty6, r_ty7, r_ty8, r_sNt, r_sNi, r_sNb, r_sNs, r_sbt, r_sbi, r_sbb, r_sbs, r_sit, r_sii, r_sib, r_sis, r_sst, r_ssi, r_ssb, r_sss, r_stt, r_sti, r_stb, r_sts, r_slt, r_sli, r_slb, r_sls, r_aN, r_ab, r_ai, r_as, r_at, r_al, r_eqI, r_eqB, r_eqS, r_pu1, r_pu2, r_eqN, r_fr1, r_fx1, r_fx2, r_fx3, r_bo0, r_bo1, r_c0, r_c1, r_c2, r_c3, r_c4, r_c5, r_c6, r_c7, r_c8, r_c9, r_c10, r_c11, r_c12, r_pd0, r_pd1, r_pd2, r_wi0, r_wi1, List.set_cons_zero, List.set_cons_succ, List.getElem?_cons_zero, List.getElem?_cons_succ, ↓reduceIte, List.length_cons, List.length_nil, Nat.zero_add, Nat.reduceAdd, and_true, true_and, decide_true, decide_false, eq_self, beq_self_eq_true, Bool.true_beq, Bool.false_beq, Bool.not_true, Bool.not_false, Int.reduceEq, Int.reduceLT, Int.reduceLE, Int.reduceAdd, Int.reduceSub, Int.reduceMul, Int.reduceNeg, Bool.not_not, List.append_nil, List.nil_append, List.cons_append, z_int, z_bl, z_non, z_tup, z_lst, z_str, z_lint, z_lbl, z_lnon, z_ltup, z_llst, z_lstr, z_whole, kD, w_nn]
    refine (sp_take (m := 10000) (by decide) (by decide) (by omega) B).mono ?_
    rintro d h1 ⟨⟨u, rfl, u0, u1⟩, B1, _⟩
    simp (config := {dsimp := false}) only [↓e_pr, ↓e_some, ↓e_an, ↓e_brT, ↓e_brF, ↓e_asB, ↓e_asI, ↓e_asV, ↓e_stE, ↓e_stE0, ↓e_stL, ↓e_stL0, ↓e_sqN, ↓e_sqR, ↓e_sqB, ↓e_sqC, ↓e_afN, ↓e_afR, ↓e_afB, ↓e_afC, ↓e_rtN, ↓e_rtR, ↓e_var, ↓e_c, ↓e_op, ↓e_un, ↓e_t, ↓e_nt, ↓e_anT, ↓e_orT, ↓e_and, ↓e_or, ↓e_not, ↓e_ite, ↓e_ch, ↓e_nil, ↓e_cons, ↓e_star, ↓e_tup, ↓e_lst, ↓e_mut, ↓e_call, ↓e_isiT, ↓e_lz, ↓e_meth, ↓e_meth0, ↓e_oN, ↓e_oS, ↓e_sl, ↓e_gVar, ↓e_gSub, ↓e_gTp, ↓e_gN, ↓e_gC, ↓e_next, ↓e_seq, ↓e_drop, ↓e_ret, ↓e_retN, ↓e_brk, ↓e_cnt, ↓e_if, ↓e_asg, ↓e_as2, ↓e_as3, ↓e_par, ↓e_aug, ↓e_augS, ↓e_for, ↓e_f0, ↓e_f1, ↓e_while, ↓e_asS1, ↓e_asS2, ↓e_asS3, ↓e_iSeq, ↓e_enum, ↓e_asTI, ↓e_enumC, ↓e_rng1, ↓e_zip, ↓e_zipX, ↓e_comp, ↓e_c0, ↓e_c1, ↓e_y, ↓e_body, ↓e_addI, ↓e_addT, ↓e_addL, ↓e_subI, ↓e_iadd, ↓e_mulI, ↓e_divI, ↓e_modI, ↓e_powI, ↓e_negI, ↓e_mulT, ↓e_mulL, ↓e_cmp, ↓e_eq, ↓e_ne, ↓e_isN, ↓e_isB, ↓e_isNotN, ↓e_isNotB, ↓e_ix, ↓e_abs, ↓e_toI, ↓e_toB1, ↓e_toB0, ↓e_lenT, ↓e_lenL, ↓e_lenRo, ↓e_lenR, ↓e_tupT, ↓e_tupL, ↓e_tupR, ↓e_lstT, ↓e_lstL, ↓e_allM, ↓e_in, ↓e_notIn, ↓e_sum, ↓e_max, ↓e_par3, ↓e_pop, ↓e_frz, ↓e_frzR, ↓e_isi, ↓e_slT, ↓e_slL, ↓e_slRo, ↓e_app, ↓e_ext, ↓e_setM, r_it1, r_it2, r_it3, r_it4, r_ls2, r_ls3, r_ml2, r_ml3, r_mg0, r_mgn, r_at0, r_at1, r_at2, r_at3, r_ix0, r_ix1, r_ix2, r_ty1, r_ty2, r_ty3, r_ty4, r_ty5, r_ty6, r_ty7, r_ty8, r_sNt, r_sNi, r_sNb, r_sNs, r_sbt, r_sbi, r_sbb, r_sbs, r_sit, r_sii, r_sib, r_sis, r_sst, r_ssi, r_ssb, r_sss, r_stt, r_sti, r_stb, r_sts, r_slt, r_sli, r_slb, r_sls, r_aN, r_ab, r_ai, r_as, r_at, r_al, r_eqI, r_eqB, r_eqS, r_pu1, r_pu2, r_eqN, r_fr1, r_fx1, r_fx2, r_fx3, r_bo0, r_bo1, r_c0, r_c1, r_c2, r_c3, r_c4, r_c5, r_c6, r_c7, r_c8, r_c9, r_c10, r_c11, r_c12, r_pd0, r_pd1, r_pd2, r_wi0, r_wi1, List.set_cons_zero, List.set_cons_succ, List.getElem?_cons_zero, List.getElem?_cons_succ, ↓reduceIte, List.length_cons, List.length_nil, Nat.zero_add, Nat.reduceAdd, and_true, true_and, decide_true, decide_false, eq_self, beq_self_eq_true, Bool.true_beq, Bool.false_beq, Bool.not_true, Bool.not_false, Int.reduceEq, Int.reduceLT, Int.reduceLE, Int.reduceAdd, Int.reduceSub, Int.reduceMul, Int.reduceNeg, Bool.not_not, List.append_nil, List.nil_append, List.cons_append, z_int, z_bl, z_non, z_tup, z_lst, z_str, z_lint, z_lbl, z_lnon, z_ltup, z_llst, z_lstr, z_whole, s4]
    refine (sp_some (ds := [.int 0, .int 1, .int 2, .int u]) (by simp) (show 4 < 1000 by decide) (by omega) B1).mono ?_
    rintro d h2 ⟨hd, B2, _⟩
    simp (config := {dsimp := false}) only [↓e_pr, ↓e_some, ↓e_an, ↓e_brT, ↓e_brF, ↓e_asB, ↓e_asI, ↓e_asV, ↓e_stE, ↓e_stE0, ↓e_stL, ↓e_stL0, ↓e_sqN, ↓e_sqR, ↓e_sqB, ↓e_sqC, ↓e_afN, ↓e_afR, ↓e_afB, ↓e_afC, ↓e_rtN, ↓e_rtR, ↓e_var, ↓e_c, ↓e_op, ↓e_un, ↓e_t, ↓e_nt, ↓e_anT, ↓e_orT, ↓e_and, ↓e_or, ↓e_not, ↓e_ite, ↓e_ch, ↓e_nil, ↓e_cons, ↓e_star, ↓e_tup, ↓e_lst, ↓e_mut, ↓e_call, ↓e_isiT, ↓e_lz, ↓e_meth, ↓e_meth0, ↓e_oN, ↓e_oS, ↓e_sl, ↓e_gVar, ↓e_gSub, ↓e_gTp, ↓e_gN, ↓e_gC, ↓e_next, ↓e_seq, ↓e_drop, ↓e_ret, ↓e_retN, ↓e_brk, ↓e_cnt, ↓e_if, ↓e_asg, ↓e_as2, ↓e_as3, ↓e_par, ↓e_aug, ↓e_augS, ↓e_for, ↓e_f0, ↓e_f1, ↓e_while, ↓e_asS1, ↓e_asS2, ↓e_asS3, ↓e_iSeq, ↓e_enum, ↓e_asTI, ↓e_enumC, ↓e_rng1, ↓e_zip, ↓e_zipX, ↓e_comp, ↓e_c0, ↓e_c1, ↓e_y, ↓e_body, ↓e_addI, ↓e_addT, ↓e_addL, ↓e_subI, ↓e_iadd, ↓e_mulI, ↓e_divI, ↓e_modI, ↓e_powI, ↓e_negI, ↓e_mulT, ↓e_mulL, ↓e_cmp, ↓e_eq, ↓e_ne, ↓e_isN, ↓e_isB, ↓e_isNotN, ↓e_isNotB, ↓e_ix, ↓e_abs, ↓e_toI, ↓e_toB1, ↓e_toB0, ↓e_lenT, ↓e_lenL, ↓e_lenRo, ↓e_lenR, ↓e_tupT, ↓e_tupL, ↓e_tupR, ↓e_lstT, ↓e_lstL, ↓e_allM, ↓e_in, ↓e_notIn, ↓e_sum, ↓e_max, ↓e_par3, ↓e_pop, ↓e_frz, ↓e_frzR, ↓e_isi, ↓e_slT, ↓e_slL, ↓e_slRo, ↓e_app, ↓e_ext, ↓e_setM, r_it1, r_it2, r_it3, r_it4, r_ls2, r_ls3, r_ml2, r_ml3, r_mg0, r_mgn, r_at0, r_at1, r_at2, r_at3, r_ix0, r_ix1, r_ix2, r_ty1, r_ty2, r_ty3, r_ty4, r_ty5, r_ty6, r_ty7, r_ty8, r_sNt, r_sNi, r_sNb, r_sNs, r_sbt, r_sbi, r_sbb, r_sbs, r_sit, r_sii, r_sib, r_sis, r_sst, r_ssi, r_ssb, r_sss, r_stt, r_sti, r_stb, r_sts, r_slt, r_sli, r_slb, r_sls, r_aN, r_ab, r_ai, r_as, r_at, r_al, r_eqI, r_eqB, r_eqS, r_pu1, r_pu2, r_eqN, r_fr1, r_fx1, r_fx2, r_fx3, r_bo0, r_bo1, r_c0, r_c1, r_c2, r_c3, r_c4, r_c5, r_c6, r_c7, r_c8, r_c9, r_c10, r_c11, r_c12, r_pd0, r_pd1, r_pd2, r_wi0, r_wi1, List.set_cons_zero, List.set_cons_succ, List.getElem?_cons_zero, List.getElem?_cons_succ, ↓reduceIte, List.length_cons, List.length_nil, Nat.zero_add, Nat.reduceAdd, and_true, true_and, decide_true, decide_false, eq_self, beq_self_eq_true, Bool.true_beq, Bool.false_beq, Bool.not_true, Bool.not_false, Int.reduceEq, Int.reduceLT, Int.reduceLE, Int.reduceAdd, Int.reduceSub, Int.reduceMul, Int.reduceNeg, Bool.not_not, List.append_nil, List.nil_append, List.cons_append, z_int, z_bl, z_non, z_tup, z_lst, z_str, z_lint, z_lbl, z_lnon, z_ltup, z_llst, z_lstr, z_whole]
    refine ⟨?_, B2.mono (by omega)⟩
    simp only [List.mem_cons, List.not_mem_nil, or_false] at hd
    rcases hd with rfl | rfl | rfl | rfl
    · exact ⟨(0 : Int), rfl, (by decide : (0 : Int) ≤ 0 ∧ (0 : Int) < 10000)⟩
    · exact ⟨(1 : Int), rfl, (by decide : (0 : Int) ≤ 1 ∧ (1 : Int) < 10000)⟩
    · exact ⟨(2 : Int), rfl, (by decide : (0 : Int) ≤ 2 ∧ (2 : Int) < 10000)⟩
    · exact ⟨u, rfl, ⟨u0, u1⟩⟩
  | .lst k, r + 1, n, m, h, hr, hm, hn, B => by
    rw [dep] at hr
    rw [dv] at hn ⊢
    refine (val_lst (h := h) (n := n) (m := m) (me := recF 6 b_law_value r) hm (by omega) B fun n' h hn' B => ?_).mono ?_
    · obtain ⟨m', hm', hm5⟩ : ∃ m' : Nat, (if (m : Int) - 2 > 0 then (m : Int) - 2 else 0) = (m' : Int) ∧ m' ≤ 5 := ⟨m - 2, by split <;> omega, by omega⟩
      rw [hm']
      exact sp_value k r n' m' h (by omega) hm5 (by omega) B
    · rintro d h' ⟨⟨l, rfl, h1, h2⟩, B'⟩
      exact ⟨⟨l, rfl, ⟨h1, h2⟩⟩, B'⟩
  | .tre k, r + 1, n, m, h, hr, hm, hn, B => by
    rw [dep] at hr
    rw [dv] at hn ⊢
    refine (val_tre (h := h) (n := n) (m := m) (me := recF 6 b_law_value r) hm (by omega) B fun n' h hn' B => ?_).mono ?_
    · obtain ⟨m', hm', hm5⟩ : ∃ m' : Nat, (if (m : Int) - 2 > 0 then (m : Int) - 2 else 0) = (m' : Int) ∧ m' ≤ 5 := ⟨m - 2, by split <;> omega, by omega⟩
      rw [hm']
      exact sp_value k r n' m' h (by omega) hm5 (by omega) B
    · rintro d h' ⟨⟨t, rfl, h1, h2⟩, B'⟩
      exact ⟨⟨t, rfl, ⟨h1, TAll.pre t 0 h2, dsum_le h1⟩⟩, B'⟩
  | .par x y, r + 1, n, m, h, hr, hm, hn, B => by
    rw [dep] at hr
    rw [dv] at hn ⊢
    have ih1 := fun h B => sp_value x r n m h (by omega) hm (by omega) B
    have ih2 := fun h B => sp_value y r (n + dv x) m h (by omega) hm (by omega) B
    refine rec_iff.mpr ?_
    generalize recF 6 b_law_value r = me at ih1 ih2 ⊢
    unfold b_law_value
    simp (config := {dsimp := false}) only [↓e_pr, ↓e_some, ↓e_an, ↓e_brT, ↓e_brF, ↓e_asB, ↓e_asI, ↓e_asV, ↓e_stE, ↓e_stE0, ↓e_stL, ↓e_stL0, ↓e_sqN, ↓e_sqR, ↓e_sqB, ↓e_sqC, ↓e_afN, ↓e_afR, ↓e_afB, ↓e_afC, ↓e_rtN, ↓e_rtR, ↓e_var, ↓e_c, ↓e_op, ↓e_un, ↓e_t, ↓e_nt, ↓e_anT, ↓e_orT, ↓e_and, ↓e_or, ↓e_not, ↓e_ite, ↓e_ch, ↓e_nil, ↓e_cons, ↓e_star, ↓e_tup, ↓e_lst, ↓e_mut, ↓e_call, ↓e_isiT, ↓e_lz, ↓e_meth, ↓e_meth0, ↓e_oN, ↓e_oS, ↓e_sl, ↓e_gVar, ↓e_gSub, ↓e_gTp, ↓e_gN, ↓e_gC, ↓e_next, ↓e_seq, ↓e_drop, ↓e_ret, ↓e_retN, ↓e_brk, ↓e_cnt, ↓e_if, ↓e_asg, ↓e_as2, ↓e_as3, ↓e_par, ↓e_aug, ↓e_augS, ↓e_for, ↓e_f0, ↓e_f1, ↓e_while, ↓e_asS1, ↓e_asS2, ↓e_asS3, ↓e_iSeq, ↓e_enum, ↓e_asTI, ↓e_enumC, ↓e_rng1, ↓e_zip, ↓e_zipX, ↓e_comp, ↓e_c0, ↓e_c1, ↓e_y, ↓e_body, ↓e_addI, ↓e_addT, ↓e_addL, ↓e_subI, ↓e_iadd, ↓e_mulI, ↓e_divI, ↓e_modI, ↓e_powI, ↓e_negI, ↓e_mulT, ↓e_mulL, ↓e_cmp, ↓e_eq, ↓e_ne, ↓e_isN, ↓e_isB, ↓e_isNotN, ↓e_isNotB, ↓e_ix, ↓e_abs, ↓e_toI, ↓e_toB1, ↓e_toB0, ↓e_lenT, ↓e_lenL, ↓e_lenRo, ↓e_lenR, ↓e_tupT, ↓e_tupL, ↓e_tupR, ↓e_lstT, ↓e_lstL, ↓e_allM, ↓e_in, ↓e_notIn, ↓e_sum, ↓e_max, ↓e_par3, ↓e_pop, ↓e_frz, ↓e_frzR, ↓e_isi, ↓e_slT, ↓e_slL, ↓e_slRo, ↓e_app, ↓e_ext, ↓e_setM, r_it1, r_it2, r_it3, r_it4, r_ls2, r_ls3, r_ml2, r_ml3, r_mg0, r_mgn, r_at0, r_at1, r_at2, r_at3, r_ix0, r_ix1, r_ix2, r_ty1, r_ty2, r_ty3, r_ty4, r_ty5, r_ty6, r_ty7, r_ty8, r_sNt, r_sNi, r_sNb, r_sNs, r_sbt, r_sbi, r_sbb, r_sbs, r_sit, r_sii, r_sib, r_sis, r_sst, r_ssi, r_ssb, r_sss, r_stt, r_sti, r_stb, r_sts, r_slt, r_sli, r_slb, r_sls, r_aN, r_ab, r_ai, r_as, r_at, r_al, r_eqI, r_eqB, r_eqS, r_pu1, r_pu2, r_eqN, r_fr1, r_fx1, r_fx2, r_fx3, r_bo0, r_bo1, r_c0, r_c1, r_c2, r_c3, r_c4, r_c5, r_c6, r_c7, r_c8, r_c9, r_c10, r_c11, r_c12, r_pd0, r_pd1, r_pd2, r_wi0, r_wi1, List.set_cons_zero, List.set_cons_succ, List.getElem?_cons_zero, List.getElem?_cons_succ, ↓reduceIte, List.length_cons, List.length_nil, Nat.zero_add, Nat.reduceAdd, and_true, true_and, decide_true, decide_false, eq_self, beq_self_eq_true, Bool.true_beq, Bool.false_beq, Bool.not_true, Bool.not_false, Int.reduceEq, Int.reduceLT, Int.reduceLE, Int.reduceAdd, Int.reduceSub, Int.reduceMul, Int.reduceNeg, Bool.not_not, List.append_nil, List.nil_append, List.cons_append, z_int, z_bl, z_non, z_tup, z_lst, z_str, z_lint, z_lbl, z_lnon, z_ltup, z_llst, z_lstr, z_whole, kD, w_pn, w_pp]
    refine (ih1 h B).mono ?_
    rintro d h1 ⟨⟨a, rfl, f1⟩, B1⟩
    simp (config := {dsimp := false}) only [↓e_pr, ↓e_some, ↓e_an, ↓e_brT, ↓e_brF, ↓e_asB, ↓e_asI, ↓e_asV, ↓e_stE, ↓e_stE0, ↓e_stL, ↓e_stL0, ↓e_sqN, ↓e_sqR, ↓e_sqB, ↓e_sqC, ↓e_afN, ↓e_afR, ↓e_afB, ↓e_afC, ↓e_rtN, ↓e_rtR, ↓e_var, ↓e_c, ↓e_op, ↓e_un, ↓e_t, ↓e_nt, ↓e_anT, ↓e_orT, ↓e_and, ↓e_or, ↓e_not, ↓e_ite, ↓e_ch, ↓e_nil, ↓e_cons, ↓e_star, ↓e_tup, ↓e_lst, ↓e_mut, ↓e_call, ↓e_isiT, ↓e_lz, ↓e_meth, ↓e_meth0, ↓e_oN, ↓e_oS, ↓e_sl, ↓e_gVar, ↓e_gSub, ↓e_gTp, ↓e_gN, ↓e_gC, ↓e_next, ↓e_seq, ↓e_drop, ↓e_ret, ↓e_retN, ↓e_brk, ↓e_cnt, ↓e_if, ↓e_asg, ↓e_as2, ↓e_as3, ↓e_par, ↓e_aug, ↓e_augS, ↓e_for, ↓e_f0, ↓e_f1, ↓e_while, ↓e_asS1, ↓e_asS2, ↓e_asS3, ↓e_iSeq, ↓e_enum, ↓e_asTI, ↓e_enumC, ↓e_rng1, ↓e_zip, ↓e_zipX, ↓e_comp, ↓e_c0, ↓e_c1, ↓e_y, ↓e_body, ↓e_addI, ↓e_addT, ↓e_addL, ↓e_subI, ↓e_iadd, ↓e_mulI, ↓e_divI, ↓e_modI, ↓e_powI, ↓e_negI, ↓e_mulT, ↓e_mulL, ↓e_cmp, ↓e_eq, ↓e_ne, ↓e_isN, ↓e_isB, ↓e_isNotN, ↓e_isNotB, ↓e_ix, ↓e_abs, ↓e_toI, ↓e_toB1, ↓e_toB0, ↓e_lenT, ↓e_lenL, ↓e_lenRo, ↓e_lenR, ↓e_tupT, ↓e_tupL, ↓e_tupR, ↓e_lstT, ↓e_lstL, ↓e_allM, ↓e_in, ↓e_notIn, ↓e_sum, ↓e_max, ↓e_par3, ↓e_pop, ↓e_frz, ↓e_frzR, ↓e_isi, ↓e_slT, ↓e_slL, ↓e_slRo, ↓e_app, ↓e_ext, ↓e_setM, r_it1, r_it2, r_it3, r_it4, r_ls2, r_ls3, r_ml2, r_ml3, r_mg0, r_mgn, r_at0, r_at1, r_at2, r_at3, r_ix0, r_ix1, r_ix2, r_ty1, r_ty2, r_ty3, r_ty4, r_ty5, r_ty6, r_ty7, r_ty8, r_sNt, r_sNi, r_sNb, r_sNs, r_sbt, r_sbi, r_sbb, r_sbs, r_sit, r_sii, r_sib, r_sis, r_sst, r_ssi, r_ssb, r_sss, r_stt, r_sti, r_stb, r_sts, r_slt, r_sli, r_slb, r_sls, r_aN, r_ab, r_ai, r_as, r_at, r_al, r_eqI, r_eqB, r_eqS, r_pu1, r_pu2, r_eqN, r_fr1, r_fx1, r_fx2, r_fx3, r_bo0, r_bo1, r_c0, r_c1, r_c2, r_c3, r_c4, r_c5, r_c6, r_c7, r_c8, r_c9, r_c10, r_c11, r_c12, r_pd0, r_pd1, r_pd2, r_wi0, r_wi1, List.set_cons_zero, List.set_cons_succ, List.getElem?_cons_zero, List.getElem?_cons_succ, ↓reduceIte, List.length_cons, List.length_nil, Nat.zero_add, Nat.reduceAdd, and_true, true_and, decide_true, decide_false, eq_self, beq_self_eq_true, Bool.true_beq, Bool.false_beq, Bool.not_true, Bool.not_false, Int.reduceEq, Int.reduceLT, Int.reduceLE, Int.reduceAdd, Int.reduceSub, Int.reduceMul, Int.reduceNeg, Bool.not_not, List.append_nil, List.nil_append, List.cons_append, z_int, z_bl, z_non, z_tup, z_lst, z_str, z_lint, z_lbl, z_lnon, z_ltup, z_llst, z_lstr, z_whole]
    refine (ih2 h1 B1).mono ?_
    rintro d h2 ⟨⟨b, rfl, f2⟩, B2⟩
    simp (config := {dsimp := false}) only [↓e_pr, ↓e_some, ↓e_an, ↓e_brT, ↓e_brF, ↓e_asB, ↓e_asI, ↓e_asV, ↓e_stE, ↓e_stE0, ↓e_stL, ↓e_stL0, ↓e_sqN, ↓e_sqR, ↓e_sqB, ↓e_sqC, ↓e_afN, ↓e_afR, ↓e_afB, ↓e_afC, ↓e_rtN, ↓e_rtR, ↓e_var, ↓e_c, ↓e_op, ↓e_un, ↓e_t, ↓e_nt, ↓e_anT, ↓e_orT, ↓e_and, ↓e_or, ↓e_not, ↓e_ite, ↓e_ch, ↓e_nil, ↓e_cons, ↓e_star, ↓e_tup, ↓e_lst, ↓e_mut, ↓e_call, ↓e_isiT, ↓e_lz, ↓e_meth, ↓e_meth0, ↓e_oN, ↓e_oS, ↓e_sl, ↓e_gVar, ↓e_gSub, ↓e_gTp, ↓e_gN, ↓e_gC, ↓e_next, ↓e_seq, ↓e_drop, ↓e_ret, ↓e_retN, ↓e_brk, ↓e_cnt, ↓e_if, ↓e_asg, ↓e_as2, ↓e_as3, ↓e_par, ↓e_aug, ↓e_augS, ↓e_for, ↓e_f0, ↓e_f1, ↓e_while, ↓e_asS1, ↓e_asS2, ↓e_asS3, ↓e_iSeq, ↓e_enum, ↓e_asTI, ↓e_enumC, ↓e_rng1, ↓e_zip, ↓e_zipX, ↓e_comp, ↓e_c0, ↓e_c1, ↓e_y, ↓e_body, ↓e_addI, ↓e_addT, ↓e_addL, ↓e_subI, ↓e_iadd, ↓e_mulI, ↓e_divI, ↓e_modI, ↓e_powI, ↓e_negI, ↓e_mulT, ↓e_mulL, ↓e_cmp, ↓e_eq, ↓e_ne, ↓e_isN, ↓e_isB, ↓e_isNotN, ↓e_isNotB, ↓e_ix, ↓e_abs, ↓e_toI, ↓e_toB1, ↓e_toB0, ↓e_lenT, ↓e_lenL, ↓e_lenRo, ↓e_lenR, ↓e_tupT, ↓e_tupL, ↓e_tupR, ↓e_lstT, ↓e_lstL, ↓e_allM, ↓e_in, ↓e_notIn, ↓e_sum, ↓e_max, ↓e_par3, ↓e_pop, ↓e_frz, ↓e_frzR, ↓e_isi, ↓e_slT, ↓e_slL, ↓e_slRo, ↓e_app, ↓e_ext, ↓e_setM, r_it1, r_it2, r_it3, r_it4, r_ls2, r_ls3, r_ml2, r_ml3, r_mg0, r_mgn, r_at0, r_at1, r_at2, r_at3, r_ix0, r_ix1, r_ix2, r_ty1, r_ty2, r_ty3, r_ty4, r_ty5, r_ty6, r_ty7, r_ty8, r_sNt, r_sNi, r_sNb, r_sNs, r_sbt, r_sbi, r_sbb, r_sbs, r_sit, r_sii, r_sib, r_sis, r_sst, r_ssi, r_ssb, r_sss, r_stt, r_sti, r_stb, r_sts, r_slt, r_sli, r_slb, r_sls, r_aN, r_ab, r_ai, r_as, r_at, r_al, r_eqI, r_eqB, r_eqS, r_pu1, r_pu2, r_eqN, r_fr1, r_fx1, r_fx2, r_fx3, r_bo0, r_bo1, r_c0, r_c1, r_c2, r_c3, r_c4, r_c5, r_c6, r_c7, r_c8, r_c9, r_c10, r_c11, r_c12, r_pd0, r_pd1, r_pd2, r_wi0, r_wi1, List.set_cons_zero, List.set_cons_succ, List.getElem?_cons_zero, List.getElem?_cons_succ, ↓reduceIte, List.length_cons, List.length_nil, Nat.zero_add, Nat.reduceAdd, and_true, true_and, decide_true, decide_false, eq_self, beq_self_eq_true, Bool.true_beq, Bool.false_beq, Bool.not_true, Bool.not_false, Int.reduceEq, Int.reduceLT, Int.reduceLE, Int.reduceAdd, Int.reduceSub, Int.reduceMul, Int.reduceNeg, Bool.not_not, List.append_nil, List.nil_append, List.cons_append, z_int, z_bl, z_non, z_tup, z_lst, z_str, z_lint, z_lbl, z_lnon, z_ltup, z_llst, z_lstr, z_whole, s2]
    exact ⟨⟨(a, b), rfl, ⟨f1, f2⟩⟩, B2.mono (by omega)⟩

end K19
namespace K19
open Sh ShR Iv PySem PySem.Spec PyProof.Rows L2
theorem eqSame {h : Sto} {d : D} (z : Pl d) (hd : dpD d ≤ 60) : eqB h d d = some true := by
  obtain ⟨p, a1, a2, a3⟩ := pl_plain d z
  have e : toPh h d = some p := by
    cases d with
    | ref n => cases a1
    | _ => exact a1
  unfold eqB
  rw [e]
  show (if p.plain = true ∧ p.plain = true ∧ p.depth ≤ 64 then some (PyData.eqv p p) else none) = _
  rw [if_pos ⟨a2, a2, by omega⟩, SeqAt.eqv_refl_plain p a2]
theorem shared_add {g : Nat} (g1 : 1 ≤ g) {k : Kd} {a b : An k} (fa : AFit g k a) (fb : AFit g k b) : mkA (degI k a) k (List.zipWith (· + ·) (nums k a) (nums k b)) = addA k a b := by
  rw [← nums_addA k a b fa fb]
  exact mkA_nums k _ (degI_fit g1 fa _ (addA_fit k a b fa fb))
theorem scaled_mul {g : Nat} (g1 : 1 ≤ g) {k : Kd} {a : An k} {f : Rat} (fa : AFit g k a) : mkA (degI k a) k ((nums k a).map (· * f)) = mulA f k a := by
  rw [← nums_mulA k a]
  exact mkA_nums k _ (degI_fit g1 fa _ (mulA_fit k a fa))
theorem zw_zero : ∀ (l : List Rat), List.zipWith (· + ·) l (List.replicate l.length 0) = l
  | [] => rfl
  | x :: l => by
    rw [List.length_cons, List.replicate_succ, List.zipWith_cons_cons, zw_zero l, Rat.add_zero]
theorem zeroA_nums (g : Nat) (k : Kd) : nums k (zeroA g k) = List.replicate (width g k) 0 := nums_mkA k _ List.length_replicate
theorem zeroA_fit (g : Nat) (k : Kd) : AFit g k (zeroA g k) := mkA_fit k _ List.length_replicate
theorem shared_zero {g : Nat} (g1 : 1 ≤ g) {k : Kd} {a : An k} (fa : AFit g k a) : mkA (degI k a) k (List.zipWith (· + ·) (nums k a) (nums k (zeroA g k))) = a := by
  rw [zeroA_nums, ← nums_len k a fa, zw_zero]
  exact mkA_nums k a (degI_fit g1 fa _ fa)
theorem lessIn_no {k : Kd} {a b : An k} (h : ∀ p ∈ (nums k a).zip (nums k b), p.2 ≤ p.1) : lessIn a b = false := by
  unfold lessIn
  rw [List.any_eq_false]
  intro p hp
  have := h p hp
  simpa using Rat.not_lt.mpr this
theorem lessIn_le {k : Kd} {a b : An k} (h : lessIn a b = false) : ∀ p ∈ (nums k a).zip (nums k b), p.2 ≤ p.1 := fun p hp => by
  have := List.any_eq_false.mp h p hp
  exact Rat.not_lt.mp (by simpa using this)
theorem zip_add_ge : ∀ (r s : List Rat), (∀ q ∈ s, 0 ≤ q) → ∀ p ∈ (List.zipWith (· + ·) r s).zip r, p.2 ≤ p.1
  | [], _, _, _, h => by simp at h
  | a :: r, [], _, _, h => by simp at h
  | a :: r, b :: s, hs, p, hp => by
    rw [List.zipWith_cons_cons, List.zip_cons_cons] at hp
    rcases List.mem_cons.mp hp with rfl | hp
    · have := hs b List.mem_cons_self
      show a ≤ a + b
      grind
    · exact zip_add_ge r s (fun q hq => hs q (List.mem_cons_of_mem _ hq)) p hp
theorem zip_swap_le {α : Type} {P : α → α → Prop} : ∀ (r s : List α), (∀ p ∈ r.zip s, P p.1 p.2) → ∀ p ∈ s.zip r, P p.2 p.1
  | [], s, _, p, h => by simp at h
  | a :: r, [], _, p, h => by simp at h
  | a :: r, b :: s, h, p, hp => by
    rw [List.zip_cons_cons] at hp h
    rcases List.mem_cons.mp hp with rfl | hp
    · exact h (a, b) List.mem_cons_self
    · exact zip_swap_le r s (fun q hq => h q (List.mem_cons_of_mem _ hq)) p hp
theorem q_sm {q : Rat} (h : BQ 3 q) : Sm (qD q) := ⟨⟨by have := h.1; omega, by have := h.1; omega⟩, ⟨by omega, by have := h.2; omega⟩, trivial⟩
theorem a_sm : ∀ (k : Kd) (a : An k), (∀ q ∈ nums k a, BQ 3 q) → Sm (aD k a)
  | .num, _, _ => trivial
  | .lst k, a, h => ⟨smL_map a.1 fun q hq => q_sm (h q (List.mem_append_left _ hq)), a_sm k a.2 fun q hq => h q (List.mem_append_right _ hq), trivial⟩
  | .tre k, a, h => ⟨smL_map a.1 fun q hq => q_sm (h q (List.mem_append_left _ hq)), a_sm k a.2 fun q hq => h q (List.mem_append_right _ hq), trivial⟩
  | .par x y, a, h => ⟨a_sm x a.1 fun q hq => h q (List.mem_append_left _ hq), a_sm y a.2 fun q hq => h q (List.mem_append_right _ hq), trivial⟩
theorem a_wt : ∀ (k : Kd) (a : An k), wtD (aD k a) ≤ 4 * 3 ^ dep k + 3 * (nums k a).length
  | .num, _ => by show 1 + 0 ≤ 4 * 1 + 0; omega
  | .lst k, a => by
    have h1 := a_wt k a.2
    have h2 := wtL_map (f := qD) (c := 3) a.1 fun q _ => Nat.le_refl 3
    have h3 : 1 ≤ 3 ^ dep k := Nat.one_le_pow _ _ (by decide)
    rw [nums, List.length_append, dep, Nat.pow_succ]
    show 1 + ((1 + wtL (a.1.map qD)) + (wtD (aD k a.2) + 0)) ≤ _
    omega
  | .tre k, a => by
    have h1 := a_wt k a.2
    have h2 := wtL_map (f := qD) (c := 3) a.1 fun q _ => Nat.le_refl 3
    have h3 : 1 ≤ 3 ^ dep k := Nat.one_le_pow _ _ (by decide)
    rw [nums, List.length_append, dep, Nat.pow_succ]
    show 1 + ((1 + wtL (a.1.map qD)) + (wtD (aD k a.2) + 0)) ≤ _
    omega
  | .par x y, a => by
    have h1 := a_wt x a.1
    have h2 := a_wt y a.2
    have h3 : 3 ^ dep x ≤ 3 ^ (max (dep x) (dep y)) := Nat.pow_le_pow_right (by decide) (by omega)
    have h4 : 3 ^ dep y ≤ 3 ^ (max (dep x) (dep y)) := Nat.pow_le_pow_right (by decide) (by omega)
    have h5 : 1 ≤ 3 ^ (max (dep x) (dep y)) := Nat.one_le_pow _ _ (by decide)
    rw [nums, List.length_append, dep, Nat.pow_succ]
    show 1 + (wtD (aD x a.1) + (wtD (aD y a.2) + 0)) ≤ _
    omega

end K19
namespace K19
open Sh ShR Iv PySem PySem.Spec PyProof.Rows L2
theorem zw_bq {i j : Nat} : ∀ (r s : List Rat), (∀ q ∈ r, BQ i q) → (∀ q ∈ s, BQ j q) → ∀ q ∈ List.zipWith (· + ·) r s, BQ (i + j + 1) q
  | [], _, _, _, q, h => by simp at h
  | a :: r, [], _, _, q, h => by simp at h
  | a :: r, b :: s, hr, hs, q, h => by
    rw [List.zipWith_cons_cons] at h
    rcases List.mem_cons.mp h with rfl | h
    · exact (hr a List.mem_cons_self).add (hs b List.mem_cons_self)
    · exact zw_bq r s (fun q hq => hr q (List.mem_cons_of_mem _ hq)) (fun q hq => hs q (List.mem_cons_of_mem _ hq)) q h
theorem len16 {vs : Rho} (h : vs.length = 16) : ∃ a1 a2 a3 a4 a5 a6 a7 a8 a9 a10 a11 a12 a13 a14 a15 a16, vs = [a1, a2, a3, a4, a5, a6, a7, a8, a9, a10, a11, a12, a13, a14, a15, a16] := by
  match vs, h with
  | [a1, a2, a3, a4, a5, a6, a7, a8, a9, a10, a11, a12, a13, a14, a15, a16], _ => exact ⟨a1, a2, a3, a4, a5, a6, a7, a8, a9, a10, a11, a12, a13, a14, a15, a16, rfl⟩
theorem kind_dv {k : Kd} (h : k ∈ kinds) : dv k ≤ 86 ∧ rows k ≤ 2 := by
  simp only [kinds, List.mem_cons, List.not_mem_nil, or_false] at h
  rcases h with rfl | rfl | rfl | rfl | rfl | rfl | rfl | rfl <;> exact ⟨by decide, by decide⟩
theorem law_ev (ns : List Int) (hn : ns.length ≤ 63) : Ev (d_law [scrD ns] []) fun d _ => d = .bl true := by
  unfold d_law b_law
  simp (config := {dsimp := false}) only [↓e_pr, ↓e_some, ↓e_an, ↓e_brT, ↓e_brF, ↓e_asB, ↓e_asI, ↓e_asV, ↓e_stE, ↓e_stE0, ↓e_stL, ↓e_stL0, ↓e_sqN, ↓e_sqR, ↓e_sqB, ↓e_sqC, ↓e_afN, ↓e_afR, ↓e_afB, ↓e_afC, ↓e_rtN, ↓e_rtR, ↓e_var, ↓e_c, ↓e_op, ↓e_un, ↓e_t, ↓e_nt, ↓e_anT, ↓e_orT, ↓e_and, ↓e_or, ↓e_not, ↓e_ite, ↓e_ch, ↓e_nil, ↓e_cons, ↓e_star, ↓e_tup, ↓e_lst, ↓e_mut, ↓e_call, ↓e_isiT, ↓e_lz, ↓e_meth, ↓e_meth0, ↓e_oN, ↓e_oS, ↓e_sl, ↓e_gVar, ↓e_gSub, ↓e_gTp, ↓e_gN, ↓e_gC, ↓e_next, ↓e_seq, ↓e_drop, ↓e_ret, ↓e_retN, ↓e_brk, ↓e_cnt, ↓e_if, ↓e_asg, ↓e_as2, ↓e_as3, ↓e_par, ↓e_aug, ↓e_augS, ↓e_for, ↓e_f0, ↓e_f1, ↓e_while, ↓e_asS1, ↓e_asS2, ↓e_asS3, ↓e_iSeq, ↓e_enum, ↓e_asTI, ↓e_enumC, ↓e_rng1, ↓e_zip, ↓e_zipX, ↓e_comp, ↓e_c0, ↓e_c1, ↓e_y, ↓e_body, ↓e_addI, ↓e_addT, ↓e_addL, ↓e_subI, ↓e_iadd, ↓e_mulI, ↓e_divI, ↓e_modI, ↓e_powI, ↓e_negI, ↓e_mulT, ↓e_mulL, ↓e_cmp, ↓e_eq, ↓e_ne, ↓e_isN, ↓e_isB, ↓e_isNotN, ↓e_isNotB, ↓e_ix, ↓e_abs, ↓e_toI, ↓e_toB1, ↓e_toB0, ↓e_lenT, ↓e_lenL, ↓e_lenRo, ↓e_lenR, ↓e_tupT, ↓e_tupL, ↓e_tupR, ↓e_lstT, ↓e_lstL, ↓e_allM, ↓e_in, ↓e_notIn, ↓e_sum, ↓e_max, ↓e_par3, ↓e_pop, ↓e_frz, ↓e_frzR, ↓e_isi, ↓e_slT, ↓e_slL, ↓e_slRo, ↓e_app, ↓e_ext, ↓e_setM, r_it1, r_it2, r_it3, r_it4, r_ls2, r_ls3, r_ml2, r_ml3, r_mg0, r_mgn, r_at0, r_at1, r_at2, r_at3, r_ix0, r_ix1, r_ix2, r_ty1, r_ty2, r_ty3, r_ty4, r_ty5, r_ty6, r_ty7, r_ty8, r_sNt, r_sNi, r_sNb, r_sNs, r_sbt, r_sbi, r_sbb, r_sbs, r_sit, r_sii, r_sib, r_sis, r_sst, r_ssi, r_ssb, r_sss, r_stt, r_sti, r_stb, r_sts, r_slt, r_sli, r_slb, r_sls, r_aN, r_ab, r_ai, r_as, r_at, r_al, r_eqI, r_eqB, r_eqS, r_pu1, r_pu2, r_eqN, r_fr1, r_fx1, r_fx2, r_fx3, r_bo0, r_bo1, r_c0, r_c1, r_c2, r_c3, r_c4, r_c5, r_c6, r_c7, r_c8, r_c9, r_c10, r_c11, r_c12, r_pd0, r_pd1, r_pd2, r_wi0, r_wi1, List.set_cons_zero, List.set_cons_succ, List.getElem?_cons_zero, List.getElem?_cons_succ, ↓reduceIte, List.length_cons, List.length_nil, Nat.zero_add, Nat.reduceAdd, and_true, true_and, decide_true, decide_false, eq_self, beq_self_eq_true, Bool.true_beq, Bool.false_beq, Bool.not_true, Bool.not_false, Int.reduceEq, Int.reduceLT, Int.reduceLE, Int.reduceAdd, Int.reduceSub, Int.reduceMul, Int.reduceNeg, Bool.not_not, List.append_nil, List.nil_append, List.cons_append, z_int, z_bl, z_non, z_tup, z_lst, z_str, z_lint, z_lbl, z_lnon, z_ltup, z_llst, z_lstr, z_whole]
  refine (sp_bag hn).mono ?_
  rintro d h0 ⟨rfl, B0, _⟩
  simp (config := {dsimp := false}) only [↓e_pr, ↓e_some, ↓e_an, ↓e_brT, ↓e_brF, ↓e_asB, ↓e_asI, ↓e_asV, ↓e_stE, ↓e_stE0, ↓e_stL, ↓e_stL0, ↓e_sqN, ↓e_sqR, ↓e_sqB, ↓e_sqC, ↓e_afN, ↓e_afR, ↓e_afB, ↓e_afC, ↓e_rtN, ↓e_rtR, ↓e_var, ↓e_c, ↓e_op, ↓e_un, ↓e_t, ↓e_nt, ↓e_anT, ↓e_orT, ↓e_and, ↓e_or, ↓e_not, ↓e_ite, ↓e_ch, ↓e_nil, ↓e_cons, ↓e_star, ↓e_tup, ↓e_lst, ↓e_mut, ↓e_call, ↓e_isiT, ↓e_lz, ↓e_meth, ↓e_meth0, ↓e_oN, ↓e_oS, ↓e_sl, ↓e_gVar, ↓e_gSub, ↓e_gTp, ↓e_gN, ↓e_gC, ↓e_next, ↓e_seq, ↓e_drop, ↓e_ret, ↓e_retN, ↓e_brk, ↓e_cnt, ↓e_if, ↓e_asg, ↓e_as2, ↓e_as3, ↓e_par, ↓e_aug, ↓e_augS, ↓e_for, ↓e_f0, ↓e_f1, ↓e_while, ↓e_asS1, ↓e_asS2, ↓e_asS3, ↓e_iSeq, ↓e_enum, ↓e_asTI, ↓e_enumC, ↓e_rng1, ↓e_zip, ↓e_zipX, ↓e_comp, ↓e_c0, ↓e_c1, ↓e_y, ↓e_body, ↓e_addI, ↓e_addT, ↓e_addL, ↓e_subI, ↓e_iadd, ↓e_mulI, ↓e_divI, ↓e_modI, ↓e_powI, ↓e_negI, ↓e_mulT, ↓e_mulL, ↓e_cmp, ↓e_eq, ↓e_ne, ↓e_isN, ↓e_isB, ↓e_isNotN, ↓e_isNotB, ↓e_ix, ↓e_abs, ↓e_toI, ↓e_toB1, ↓e_toB0, ↓e_lenT, ↓e_lenL, ↓e_lenRo, ↓e_lenR, ↓e_tupT, ↓e_tupL, ↓e_tupR, ↓e_lstT, ↓e_lstL, ↓e_allM, ↓e_in, ↓e_notIn, ↓e_sum, ↓e_max, ↓e_par3, ↓e_pop, ↓e_frz, ↓e_frzR, ↓e_isi, ↓e_slT, ↓e_slL, ↓e_slRo, ↓e_app, ↓e_ext, ↓e_setM, r_it1, r_it2, r_it3, r_it4, r_ls2, r_ls3, r_ml2, r_ml3, r_mg0, r_mgn, r_at0, r_at1, r_at2, r_at3, r_ix0, r_ix1, r_ix2, r_ty1, r_ty2, r_ty3, r_ty4, r_ty5, r_ty6, r_ty7, r_ty8, r_sNt, r_sNi, r_sNb, r_sNs, r_sbt, r_sbi, r_sbb, r_sbs, r_sit, r_sii, r_sib, r_sis, r_sst, r_ssi, r_ssb, r_sss, r_stt, r_sti, r_stb, r_sts, r_slt, r_sli, r_slb, r_sls, r_aN, r_ab, r_ai, r_as, r_at, r_al, r_eqI, r_eqB, r_eqS, r_pu1, r_pu2, r_eqN, r_fr1, r_fx1, r_fx2, r_fx3, r_bo0, r_bo1, r_c0, r_c1, r_c2, r_c3, r_c4, r_c5, r_c6, r_c7, r_c8, r_c9, r_c10, r_c11, r_c12, r_pd0, r_pd1, r_pd2, r_wi0, r_wi1, List.set_cons_zero, List.set_cons_succ, List.getElem?_cons_zero, List.getElem?_cons_succ, ↓reduceIte, List.length_cons, List.length_nil, Nat.zero_add, Nat.reduceAdd, and_true, true_and, decide_true, decide_false, eq_self, beq_self_eq_true, Bool.true_beq, Bool.false_beq, Bool.not_true, Bool.not_false, Int.reduceEq, Int.reduceLT, Int.reduceLE, Int.reduceAdd, Int.reduceSub, Int.reduceMul, Int.reduceNeg, Bool.not_not, List.append_nil, List.nil_append, List.cons_append, z_int, z_bl, z_non, z_tup, z_lst, z_str, z_lint, z_lbl, z_lnon, z_ltup, z_llst, z_lstr, z_whole]
  refine ⟨⟨by decide, by decide⟩, ?_⟩
  refine (for_inv (fun i ρ h => Bag (300 * i) h ∧ ∃ vs : Rho, vs.length = 16 ∧ ρ = some (scrD ns) :: some (.ref 0) :: vs) _ 0 _ _ ⟨B0, _, ?_, rfl⟩ ?_).mono ?_
  · rfl
  · rintro j d ρ h hd ⟨B, vs, hvs, rfl⟩
    obtain ⟨a1, a2, a3, a4, a5, a6, a7, a8, a9, a10, a11, a12, a13, a14, a15, a16, rfl⟩ := len16 hvs
    obtain ⟨rfl, hj⟩ := rng_at hd
    have hj : j < 8 := hj
    rw [Nat.zero_add] at B ⊢
    simp (config := {dsimp := false}) only [↓e_pr, ↓e_some, ↓e_an, ↓e_brT, ↓e_brF, ↓e_asB, ↓e_asI, ↓e_asV, ↓e_stE, ↓e_stE0, ↓e_stL, ↓e_stL0, ↓e_sqN, ↓e_sqR, ↓e_sqB, ↓e_sqC, ↓e_afN, ↓e_afR, ↓e_afB, ↓e_afC, ↓e_rtN, ↓e_rtR, ↓e_var, ↓e_c, ↓e_op, ↓e_un, ↓e_t, ↓e_nt, ↓e_anT, ↓e_orT, ↓e_and, ↓e_or, ↓e_not, ↓e_ite, ↓e_ch, ↓e_nil, ↓e_cons, ↓e_star, ↓e_tup, ↓e_lst, ↓e_mut, ↓e_call, ↓e_isiT, ↓e_lz, ↓e_meth, ↓e_meth0, ↓e_oN, ↓e_oS, ↓e_sl, ↓e_gVar, ↓e_gSub, ↓e_gTp, ↓e_gN, ↓e_gC, ↓e_next, ↓e_seq, ↓e_drop, ↓e_ret, ↓e_retN, ↓e_brk, ↓e_cnt, ↓e_if, ↓e_asg, ↓e_as2, ↓e_as3, ↓e_par, ↓e_aug, ↓e_augS, ↓e_for, ↓e_f0, ↓e_f1, ↓e_while, ↓e_asS1, ↓e_asS2, ↓e_asS3, ↓e_iSeq, ↓e_enum, ↓e_asTI, ↓e_enumC, ↓e_rng1, ↓e_zip, ↓e_zipX, ↓e_comp, ↓e_c0, ↓e_c1, ↓e_y, ↓e_body, ↓e_addI, ↓e_addT, ↓e_addL, ↓e_subI, ↓e_iadd, ↓e_mulI, ↓e_divI, ↓e_modI, ↓e_powI, ↓e_negI, ↓e_mulT, ↓e_mulL, ↓e_cmp, ↓e_eq, ↓e_ne, ↓e_isN, ↓e_isB, ↓e_isNotN, ↓e_isNotB, ↓e_ix, ↓e_abs, ↓e_toI, ↓e_toB1, ↓e_toB0, ↓e_lenT, ↓e_lenL, ↓e_lenRo, ↓e_lenR, ↓e_tupT, ↓e_tupL, ↓e_tupR, ↓e_lstT, ↓e_lstL, ↓e_allM, ↓e_in, ↓e_notIn, ↓e_sum, ↓e_max, ↓e_par3, ↓e_pop, ↓e_frz, ↓e_frzR, ↓e_isi, ↓e_slT, ↓e_slL, ↓e_slRo, ↓e_app, ↓e_ext, ↓e_setM, r_it1, r_it2, r_it3, r_it4, r_ls2, r_ls3, r_ml2, r_ml3, r_mg0, r_mgn, r_at0, r_at1, r_at2, r_at3, r_ix0, r_ix1, r_ix2, r_ty1, r_ty2, r_ty3, r_ty4, r_ty5, r_ty6, r_ty7, r_ty8, r_sNt, r_sNi, r_sNb, r_sNs, r_sbt, r_sbi, r_sbb, r_sbs, r_sit, r_sii, r_sib, r_sis, r_sst, r_ssi, r_ssb, r_sss, r_stt, r_sti, r_stb, r_sts, r_slt, r_sli, r_slb, r_sls, r_aN, r_ab, r_ai, r_as, r_at, r_al, r_eqI, r_eqB, r_eqS, r_pu1, r_pu2, r_eqN, r_fr1, r_fx1, r_fx2, r_fx3, r_bo0, r_bo1, r_c0, r_c1, r_c2, r_c3, r_c4, r_c5, r_c6, r_c7, r_c8, r_c9, r_c10, r_c11, r_c12, r_pd0, r_pd1, r_pd2, r_wi0, r_wi1, List.set_cons_zero, List.set_cons_succ, List.getElem?_cons_zero, List.getElem?_cons_succ, ↓reduceIte, List.length_cons, List.length_nil, Nat.zero_add, Nat.reduceAdd, and_true, true_and, decide_true, decide_false, eq_self, beq_self_eq_true, Bool.true_beq, Bool.false_beq, Bool.not_true, Bool.not_false, Int.reduceEq, Int.reduceLT, Int.reduceLE, Int.reduceAdd, Int.reduceSub, Int.reduceMul, Int.reduceNeg, Bool.not_not, List.append_nil, List.nil_append, List.cons_append, z_int, z_bl, z_non, z_tup, z_lst, z_str, z_lint, z_lbl, z_lnon, z_ltup, z_llst, z_lstr, z_whole]
    refine (sp_kind (by omega) B).mono ?_
    rintro d h1 ⟨⟨k, hk, rfl⟩, B1⟩
    have hk0 := kind_ok hk
    have hkd := kind_dv hk
    simp (config := {dsimp := false}) only [↓e_pr, ↓e_some, ↓e_an, ↓e_brT, ↓e_brF, ↓e_asB, ↓e_asI, ↓e_asV, ↓e_stE, ↓e_stE0, ↓e_stL, ↓e_stL0, ↓e_sqN, ↓e_sqR, ↓e_sqB, ↓e_sqC, ↓e_afN, ↓e_afR, ↓e_afB, ↓e_afC, ↓e_rtN, ↓e_rtR, ↓e_var, ↓e_c, ↓e_op, ↓e_un, ↓e_t, ↓e_nt, ↓e_anT, ↓e_orT, ↓e_and, ↓e_or, ↓e_not, ↓e_ite, ↓e_ch, ↓e_nil, ↓e_cons, ↓e_star, ↓e_tup, ↓e_lst, ↓e_mut, ↓e_call, ↓e_isiT, ↓e_lz, ↓e_meth, ↓e_meth0, ↓e_oN, ↓e_oS, ↓e_sl, ↓e_gVar, ↓e_gSub, ↓e_gTp, ↓e_gN, ↓e_gC, ↓e_next, ↓e_seq, ↓e_drop, ↓e_ret, ↓e_retN, ↓e_brk, ↓e_cnt, ↓e_if, ↓e_asg, ↓e_as2, ↓e_as3, ↓e_par, ↓e_aug, ↓e_augS, ↓e_for, ↓e_f0, ↓e_f1, ↓e_while, ↓e_asS1, ↓e_asS2, ↓e_asS3, ↓e_iSeq, ↓e_enum, ↓e_asTI, ↓e_enumC, ↓e_rng1, ↓e_zip, ↓e_zipX, ↓e_comp, ↓e_c0, ↓e_c1, ↓e_y, ↓e_body, ↓e_addI, ↓e_addT, ↓e_addL, ↓e_subI, ↓e_iadd, ↓e_mulI, ↓e_divI, ↓e_modI, ↓e_powI, ↓e_negI, ↓e_mulT, ↓e_mulL, ↓e_cmp, ↓e_eq, ↓e_ne, ↓e_isN, ↓e_isB, ↓e_isNotN, ↓e_isNotB, ↓e_ix, ↓e_abs, ↓e_toI, ↓e_toB1, ↓e_toB0, ↓e_lenT, ↓e_lenL, ↓e_lenRo, ↓e_lenR, ↓e_tupT, ↓e_tupL, ↓e_tupR, ↓e_lstT, ↓e_lstL, ↓e_allM, ↓e_in, ↓e_notIn, ↓e_sum, ↓e_max, ↓e_par3, ↓e_pop, ↓e_frz, ↓e_frzR, ↓e_isi, ↓e_slT, ↓e_slL, ↓e_slRo, ↓e_app, ↓e_ext, ↓e_setM, r_it1, r_it2, r_it3, r_it4, r_ls2, r_ls3, r_ml2, r_ml3, r_mg0, r_mgn, r_at0, r_at1, r_at2, r_at3, r_ix0, r_ix1, r_ix2, r_ty1, r_ty2, r_ty3, r_ty4, r_ty5, r_ty6, r_ty7, r_ty8, r_sNt, r_sNi, r_sNb, r_sNs, r_sbt, r_sbi, r_sbb, r_sbs, r_sit, r_sii, r_sib, r_sis, r_sst, r_ssi, r_ssb, r_sss, r_stt, r_sti, r_stb, r_sts, r_slt, r_sli, r_slb, r_sls, r_aN, r_ab, r_ai, r_as, r_at, r_al, r_eqI, r_eqB, r_eqS, r_pu1, r_pu2, r_eqN, r_fr1, r_fx1, r_fx2, r_fx3, r_bo0, r_bo1, r_c0, r_c1, r_c2, r_c3, r_c4, r_c5, r_c6, r_c7, r_c8, r_c9, r_c10, r_c11, r_c12, r_pd0, r_pd1, r_pd2, r_wi0, r_wi1, List.set_cons_zero, List.set_cons_succ, List.getElem?_cons_zero, List.getElem?_cons_succ, ↓reduceIte, List.length_cons, List.length_nil, Nat.zero_add, Nat.reduceAdd, and_true, true_and, decide_true, decide_false, eq_self, beq_self_eq_true, Bool.true_beq, Bool.false_beq, Bool.not_true, Bool.not_false, Int.reduceEq, Int.reduceLT, Int.reduceLE, Int.reduceAdd, Int.reduceSub, Int.reduceMul, Int.reduceNeg, Bool.not_not, List.append_nil, List.nil_append, List.cons_append, z_int, z_bl, z_non, z_tup, z_lst, z_str, z_lint, z_lbl, z_lnon, z_ltup, z_llst, z_lstr, z_whole]
    refine (sp_take (by decide) (by decide) (by omega) B1).mono ?_
    rintro d h2 ⟨⟨u, rfl, u0, u1⟩, B2, _⟩
    obtain ⟨g, hg⟩ : ∃ g : Nat, (1 : Int) + u = g := ⟨(1 + u).toNat, by omega⟩
    have g1 : 1 ≤ g := by omega
    have g2 : g ≤ 2 := by omega
    simp (config := {dsimp := false}) only [↓e_pr, ↓e_some, ↓e_an, ↓e_brT, ↓e_brF, ↓e_asB, ↓e_asI, ↓e_asV, ↓e_stE, ↓e_stE0, ↓e_stL, ↓e_stL0, ↓e_sqN, ↓e_sqR, ↓e_sqB, ↓e_sqC, ↓e_afN, ↓e_afR, ↓e_afB, ↓e_afC, ↓e_rtN, ↓e_rtR, ↓e_var, ↓e_c, ↓e_op, ↓e_un, ↓e_t, ↓e_nt, ↓e_anT, ↓e_orT, ↓e_and, ↓e_or, ↓e_not, ↓e_ite, ↓e_ch, ↓e_nil, ↓e_cons, ↓e_star, ↓e_tup, ↓e_lst, ↓e_mut, ↓e_call, ↓e_isiT, ↓e_lz, ↓e_meth, ↓e_meth0, ↓e_oN, ↓e_oS, ↓e_sl, ↓e_gVar, ↓e_gSub, ↓e_gTp, ↓e_gN, ↓e_gC, ↓e_next, ↓e_seq, ↓e_drop, ↓e_ret, ↓e_retN, ↓e_brk, ↓e_cnt, ↓e_if, ↓e_asg, ↓e_as2, ↓e_as3, ↓e_par, ↓e_aug, ↓e_augS, ↓e_for, ↓e_f0, ↓e_f1, ↓e_while, ↓e_asS1, ↓e_asS2, ↓e_asS3, ↓e_iSeq, ↓e_enum, ↓e_asTI, ↓e_enumC, ↓e_rng1, ↓e_zip, ↓e_zipX, ↓e_comp, ↓e_c0, ↓e_c1, ↓e_y, ↓e_body, ↓e_addI, ↓e_addT, ↓e_addL, ↓e_subI, ↓e_iadd, ↓e_mulI, ↓e_divI, ↓e_modI, ↓e_powI, ↓e_negI, ↓e_mulT, ↓e_mulL, ↓e_cmp, ↓e_eq, ↓e_ne, ↓e_isN, ↓e_isB, ↓e_isNotN, ↓e_isNotB, ↓e_ix, ↓e_abs, ↓e_toI, ↓e_toB1, ↓e_toB0, ↓e_lenT, ↓e_lenL, ↓e_lenRo, ↓e_lenR, ↓e_tupT, ↓e_tupL, ↓e_tupR, ↓e_lstT, ↓e_lstL, ↓e_allM, ↓e_in, ↓e_notIn, ↓e_sum, ↓e_max, ↓e_par3, ↓e_pop, ↓e_frz, ↓e_frzR, ↓e_isi, ↓e_slT, ↓e_slL, ↓e_slRo, ↓e_app, ↓e_ext, ↓e_setM, r_it1, r_it2, r_it3, r_it4, r_ls2, r_ls3, r_ml2, r_ml3, r_mg0, r_mgn, r_at0, r_at1, r_at2, r_at3, r_ix0, r_ix1, r_ix2, r_ty1, r_ty2, r_ty3, r_ty4, r_ty5, r_ty6, r_ty7, r_ty8, r_sNt, r_sNi, r_sNb, r_sNs, r_sbt, r_sbi, r_sbb, r_sbs, r_sit, r_sii, r_sib, r_sis, r_sst, r_ssi, r_ssb, r_sss, r_stt, r_sti, r_stb, r_sts, r_slt, r_sli, r_slb, r_sls, r_aN, r_ab, r_ai, r_as, r_at, r_al, r_eqI, r_eqB, r_eqS, r_pu1, r_pu2, r_eqN, r_fr1, r_fx1, r_fx2, r_fx3, r_bo0, r_bo1, r_c0, r_c1, r_c2, r_c3, r_c4, r_c5, r_c6, r_c7, r_c8, r_c9, r_c10, r_c11, r_c12, r_pd0, r_pd1, r_pd2, r_wi0, r_wi1, List.set_cons_zero, List.set_cons_succ, List.getElem?_cons_zero, List.getElem?_cons_succ, ↓reduceIte, List.length_cons, List.length_nil, Nat.zero_add, Nat.reduceAdd, and_true, true_and, decide_true, decide_false, eq_self, beq_self_eq_true, Bool.true_beq, Bool.false_beq, Bool.not_true, Bool.not_false, Int.reduceEq, Int.reduceLT, Int.reduceLE, Int.reduceAdd, Int.reduceSub, Int.reduceMul, Int.reduceNeg, Bool.not_not, List.append_nil, List.nil_append, List.cons_append, z_int, z_bl, z_non, z_tup, z_lst, z_str, z_lint, z_lbl, z_lnon, z_ltup, z_llst, z_lstr, z_whole, hg, d_law_annotation]
    refine (sp_annotation g2 k 10 _ h2 (by omega) (by omega) B2).mono ?_
    rintro d h3 ⟨⟨a, rfl, fa, qa⟩, B3⟩
    simp (config := {dsimp := false}) only [↓e_pr, ↓e_some, ↓e_an, ↓e_brT, ↓e_brF, ↓e_asB, ↓e_asI, ↓e_asV, ↓e_stE, ↓e_stE0, ↓e_stL, ↓e_stL0, ↓e_sqN, ↓e_sqR, ↓e_sqB, ↓e_sqC, ↓e_afN, ↓e_afR, ↓e_afB, ↓e_afC, ↓e_rtN, ↓e_rtR, ↓e_var, ↓e_c, ↓e_op, ↓e_un, ↓e_t, ↓e_nt, ↓e_anT, ↓e_orT, ↓e_and, ↓e_or, ↓e_not, ↓e_ite, ↓e_ch, ↓e_nil, ↓e_cons, ↓e_star, ↓e_tup, ↓e_lst, ↓e_mut, ↓e_call, ↓e_isiT, ↓e_lz, ↓e_meth, ↓e_meth0, ↓e_oN, ↓e_oS, ↓e_sl, ↓e_gVar, ↓e_gSub, ↓e_gTp, ↓e_gN, ↓e_gC, ↓e_next, ↓e_seq, ↓e_drop, ↓e_ret, ↓e_retN, ↓e_brk, ↓e_cnt, ↓e_if, ↓e_asg, ↓e_as2, ↓e_as3, ↓e_par, ↓e_aug, ↓e_augS, ↓e_for, ↓e_f0, ↓e_f1, ↓e_while, ↓e_asS1, ↓e_asS2, ↓e_asS3, ↓e_iSeq, ↓e_enum, ↓e_asTI, ↓e_enumC, ↓e_rng1, ↓e_zip, ↓e_zipX, ↓e_comp, ↓e_c0, ↓e_c1, ↓e_y, ↓e_body, ↓e_addI, ↓e_addT, ↓e_addL, ↓e_subI, ↓e_iadd, ↓e_mulI, ↓e_divI, ↓e_modI, ↓e_powI, ↓e_negI, ↓e_mulT, ↓e_mulL, ↓e_cmp, ↓e_eq, ↓e_ne, ↓e_isN, ↓e_isB, ↓e_isNotN, ↓e_isNotB, ↓e_ix, ↓e_abs, ↓e_toI, ↓e_toB1, ↓e_toB0, ↓e_lenT, ↓e_lenL, ↓e_lenRo, ↓e_lenR, ↓e_tupT, ↓e_tupL, ↓e_tupR, ↓e_lstT, ↓e_lstL, ↓e_allM, ↓e_in, ↓e_notIn, ↓e_sum, ↓e_max, ↓e_par3, ↓e_pop, ↓e_frz, ↓e_frzR, ↓e_isi, ↓e_slT, ↓e_slL, ↓e_slRo, ↓e_app, ↓e_ext, ↓e_setM, r_it1, r_it2, r_it3, r_it4, r_ls2, r_ls3, r_ml2, r_ml3, r_mg0, r_mgn, r_at0, r_at1, r_at2, r_at3, r_ix0, r_ix1, r_ix2, r_ty1, r_ty2, r_ty3, r_ty4, r_ty5, r_ty6, r_ty7, r_ty8, r_sNt, r_sNi, r_sNb, r_sNs, r_sbt, r_sbi, r_sbb, r_sbs, r_sit, r_sii, r_sib, r_sis, r_sst, r_ssi, r_ssb, r_sss, r_stt, r_sti, r_stb, r_sts, r_slt, r_sli, r_slb, r_sls, r_aN, r_ab, r_ai, r_as, r_at, r_al, r_eqI, r_eqB, r_eqS, r_pu1, r_pu2, r_eqN, r_fr1, r_fx1, r_fx2, r_fx3, r_bo0, r_bo1, r_c0, r_c1, r_c2, r_c3, r_c4, r_c5, r_c6, r_c7, r_c8, r_c9, r_c10, r_c11, r_c12, r_pd0, r_pd1, r_pd2, r_wi0, r_wi1, List.set_cons_zero, List.set_cons_succ, List.getElem?_cons_zero, List.getElem?_cons_succ, ↓reduceIte, List.length_cons, List.length_nil, Nat.zero_add, Nat.reduceAdd, and_true, true_and, decide_true, decide_false, eq_self, beq_self_eq_true, Bool.true_beq, Bool.false_beq, Bool.not_true, Bool.not_false, Int.reduceEq, Int.reduceLT, Int.reduceLE, Int.reduceAdd, Int.reduceSub, Int.reduceMul, Int.reduceNeg, Bool.not_not, List.append_nil, List.nil_append, List.cons_append, z_int, z_bl, z_non, z_tup, z_lst, z_str, z_lint, z_lbl, z_lnon, z_ltup, z_llst, z_lstr, z_whole, d_law_annotation]
    refine (sp_annotation g2 k 10 _ h3 (by omega) (by omega) B3).mono ?_
    rintro d h4 ⟨⟨b, rfl, fb, qb⟩, B4⟩
    simp (config := {dsimp := false}) only [↓e_pr, ↓e_some, ↓e_an, ↓e_brT, ↓e_brF, ↓e_asB, ↓e_asI, ↓e_asV, ↓e_stE, ↓e_stE0, ↓e_stL, ↓e_stL0, ↓e_sqN, ↓e_sqR, ↓e_sqB, ↓e_sqC, ↓e_afN, ↓e_afR, ↓e_afB, ↓e_afC, ↓e_rtN, ↓e_rtR, ↓e_var, ↓e_c, ↓e_op, ↓e_un, ↓e_t, ↓e_nt, ↓e_anT, ↓e_orT, ↓e_and, ↓e_or, ↓e_not, ↓e_ite, ↓e_ch, ↓e_nil, ↓e_cons, ↓e_star, ↓e_tup, ↓e_lst, ↓e_mut, ↓e_call, ↓e_isiT, ↓e_lz, ↓e_meth, ↓e_meth0, ↓e_oN, ↓e_oS, ↓e_sl, ↓e_gVar, ↓e_gSub, ↓e_gTp, ↓e_gN, ↓e_gC, ↓e_next, ↓e_seq, ↓e_drop, ↓e_ret, ↓e_retN, ↓e_brk, ↓e_cnt, ↓e_if, ↓e_asg, ↓e_as2, ↓e_as3, ↓e_par, ↓e_aug, ↓e_augS, ↓e_for, ↓e_f0, ↓e_f1, ↓e_while, ↓e_asS1, ↓e_asS2, ↓e_asS3, ↓e_iSeq, ↓e_enum, ↓e_asTI, ↓e_enumC, ↓e_rng1, ↓e_zip, ↓e_zipX, ↓e_comp, ↓e_c0, ↓e_c1, ↓e_y, ↓e_body, ↓e_addI, ↓e_addT, ↓e_addL, ↓e_subI, ↓e_iadd, ↓e_mulI, ↓e_divI, ↓e_modI, ↓e_powI, ↓e_negI, ↓e_mulT, ↓e_mulL, ↓e_cmp, ↓e_eq, ↓e_ne, ↓e_isN, ↓e_isB, ↓e_isNotN, ↓e_isNotB, ↓e_ix, ↓e_abs, ↓e_toI, ↓e_toB1, ↓e_toB0, ↓e_lenT, ↓e_lenL, ↓e_lenRo, ↓e_lenR, ↓e_tupT, ↓e_tupL, ↓e_tupR, ↓e_lstT, ↓e_lstL, ↓e_allM, ↓e_in, ↓e_notIn, ↓e_sum, ↓e_max, ↓e_par3, ↓e_pop, ↓e_frz, ↓e_frzR, ↓e_isi, ↓e_slT, ↓e_slL, ↓e_slRo, ↓e_app, ↓e_ext, ↓e_setM, r_it1, r_it2, r_it3, r_it4, r_ls2, r_ls3, r_ml2, r_ml3, r_mg0, r_mgn, r_at0, r_at1, r_at2, r_at3, r_ix0, r_ix1, r_ix2, r_ty1, r_ty2, r_ty3, r_ty4, r_ty5, r_ty6, r_ty7, r_ty8, r_sNt, r_sNi, r_sNb, r_sNs, r_sbt, r_sbi, r_sbb, r_sbs, r_sit, r_sii, r_sib, r_sis, r_sst, r_ssi, r_ssb, r_sss, r_stt, r_sti, r_stb, r_sts, r_slt, r_sli, r_slb, r_sls, r_aN, r_ab, r_ai, r_as, r_at, r_al, r_eqI, r_eqB, r_eqS, r_pu1, r_pu2, r_eqN, r_fr1, r_fx1, r_fx2, r_fx3, r_bo0, r_bo1, r_c0, r_c1, r_c2, r_c3, r_c4, r_c5, r_c6, r_c7, r_c8, r_c9, r_c10, r_c11, r_c12, r_pd0, r_pd1, r_pd2, r_wi0, r_wi1, List.set_cons_zero, List.set_cons_succ, List.getElem?_cons_zero, List.getElem?_cons_succ, ↓reduceIte, List.length_cons, List.length_nil, Nat.zero_add, Nat.reduceAdd, and_true, true_and, decide_true, decide_false, eq_self, beq_self_eq_true, Bool.true_beq, Bool.false_beq, Bool.not_true, Bool.not_false, Int.reduceEq, Int.reduceLT, Int.reduceLE, Int.reduceAdd, Int.reduceSub, Int.reduceMul, Int.reduceNeg, Bool.not_not, List.append_nil, List.nil_append, List.cons_append, z_int, z_bl, z_non, z_tup, z_lst, z_str, z_lint, z_lbl, z_lnon, z_ltup, z_llst, z_lstr, z_whole, d_law_value]
    refine (sp_value k 10 _ 5 h4 (by omega) (by decide) (by omega) B4).mono ?_
    rintro d h5 ⟨⟨v, rfl, hv⟩, B5⟩
    simp (config := {dsimp := false}) only [↓e_pr, ↓e_some, ↓e_an, ↓e_brT, ↓e_brF, ↓e_asB, ↓e_asI, ↓e_asV, ↓e_stE, ↓e_stE0, ↓e_stL, ↓e_stL0, ↓e_sqN, ↓e_sqR, ↓e_sqB, ↓e_sqC, ↓e_afN, ↓e_afR, ↓e_afB, ↓e_afC, ↓e_rtN, ↓e_rtR, ↓e_var, ↓e_c, ↓e_op, ↓e_un, ↓e_t, ↓e_nt, ↓e_anT, ↓e_orT, ↓e_and, ↓e_or, ↓e_not, ↓e_ite, ↓e_ch, ↓e_nil, ↓e_cons, ↓e_star, ↓e_tup, ↓e_lst, ↓e_mut, ↓e_call, ↓e_isiT, ↓e_lz, ↓e_meth, ↓e_meth0, ↓e_oN, ↓e_oS, ↓e_sl, ↓e_gVar, ↓e_gSub, ↓e_gTp, ↓e_gN, ↓e_gC, ↓e_next, ↓e_seq, ↓e_drop, ↓e_ret, ↓e_retN, ↓e_brk, ↓e_cnt, ↓e_if, ↓e_asg, ↓e_as2, ↓e_as3, ↓e_par, ↓e_aug, ↓e_augS, ↓e_for, ↓e_f0, ↓e_f1, ↓e_while, ↓e_asS1, ↓e_asS2, ↓e_asS3, ↓e_iSeq, ↓e_enum, ↓e_asTI, ↓e_enumC, ↓e_rng1, ↓e_zip, ↓e_zipX, ↓e_comp, ↓e_c0, ↓e_c1, ↓e_y, ↓e_body, ↓e_addI, ↓e_addT, ↓e_addL, ↓e_subI, ↓e_iadd, ↓e_mulI, ↓e_divI, ↓e_modI, ↓e_powI, ↓e_negI, ↓e_mulT, ↓e_mulL, ↓e_cmp, ↓e_eq, ↓e_ne, ↓e_isN, ↓e_isB, ↓e_isNotN, ↓e_isNotB, ↓e_ix, ↓e_abs, ↓e_toI, ↓e_toB1, ↓e_toB0, ↓e_lenT, ↓e_lenL, ↓e_lenRo, ↓e_lenR, ↓e_tupT, ↓e_tupL, ↓e_tupR, ↓e_lstT, ↓e_lstL, ↓e_allM, ↓e_in, ↓e_notIn, ↓e_sum, ↓e_max, ↓e_par3, ↓e_pop, ↓e_frz, ↓e_frzR, ↓e_isi, ↓e_slT, ↓e_slL, ↓e_slRo, ↓e_app, ↓e_ext, ↓e_setM, r_it1, r_it2, r_it3, r_it4, r_ls2, r_ls3, r_ml2, r_ml3, r_mg0, r_mgn, r_at0, r_at1, r_at2, r_at3, r_ix0, r_ix1, r_ix2, r_ty1, r_ty2, r_ty3, r_ty4, r_ty5, r_ty6, r_ty7, r_ty8, r_sNt, r_sNi, r_sNb, r_sNs, r_sbt, r_sbi, r_sbb, r_sbs, r_sit, r_sii, r_sib, r_sis, r_sst, r_ssi, r_ssb, r_sss, r_stt, r_sti, r_stb, r_sts, r_slt, r_sli, r_slb, r_sls, r_aN, r_ab, r_ai, r_as, r_at, r_al, r_eqI, r_eqB, r_eqS, r_pu1, r_pu2, r_eqN, r_fr1, r_fx1, r_fx2, r_fx3, r_bo0, r_bo1, r_c0, r_c1, r_c2, r_c3, r_c4, r_c5, r_c6, r_c7, r_c8, r_c9, r_c10, r_c11, r_c12, r_pd0, r_pd1, r_pd2, r_wi0, r_wi1, List.set_cons_zero, List.set_cons_succ, List.getElem?_cons_zero, List.getElem?_cons_succ, ↓reduceIte, List.length_cons, List.length_nil, Nat.zero_add, Nat.reduceAdd, and_true, true_and, decide_true, decide_false, eq_self, beq_self_eq_true, Bool.true_beq, Bool.false_beq, Bool.not_true, Bool.not_false, Int.reduceEq, Int.reduceLT, Int.reduceLE, Int.reduceAdd, Int.reduceSub, Int.reduceMul, Int.reduceNeg, Bool.not_not, List.append_nil, List.nil_append, List.cons_append, z_int, z_bl, z_non, z_tup, z_lst, z_str, z_lint, z_lbl, z_lnon, z_ltup, z_llst, z_lstr, z_whole]
    refine (sp_take (by decide) (by decide) (by omega) B5).mono ?_
    rintro d h6 ⟨⟨x, rfl, x0, x1⟩, B6, _⟩
    simp (config := {dsimp := false}) only [↓e_pr, ↓e_some, ↓e_an, ↓e_brT, ↓e_brF, ↓e_asB, ↓e_asI, ↓e_asV, ↓e_stE, ↓e_stE0, ↓e_stL, ↓e_stL0, ↓e_sqN, ↓e_sqR, ↓e_sqB, ↓e_sqC, ↓e_afN, ↓e_afR, ↓e_afB, ↓e_afC, ↓e_rtN, ↓e_rtR, ↓e_var, ↓e_c, ↓e_op, ↓e_un, ↓e_t, ↓e_nt, ↓e_anT, ↓e_orT, ↓e_and, ↓e_or, ↓e_not, ↓e_ite, ↓e_ch, ↓e_nil, ↓e_cons, ↓e_star, ↓e_tup, ↓e_lst, ↓e_mut, ↓e_call, ↓e_isiT, ↓e_lz, ↓e_meth, ↓e_meth0, ↓e_oN, ↓e_oS, ↓e_sl, ↓e_gVar, ↓e_gSub, ↓e_gTp, ↓e_gN, ↓e_gC, ↓e_next, ↓e_seq, ↓e_drop, ↓e_ret, ↓e_retN, ↓e_brk, ↓e_cnt, ↓e_if, ↓e_asg, ↓e_as2, ↓e_as3, ↓e_par, ↓e_aug, ↓e_augS, ↓e_for, ↓e_f0, ↓e_f1, ↓e_while, ↓e_asS1, ↓e_asS2, ↓e_asS3, ↓e_iSeq, ↓e_enum, ↓e_asTI, ↓e_enumC, ↓e_rng1, ↓e_zip, ↓e_zipX, ↓e_comp, ↓e_c0, ↓e_c1, ↓e_y, ↓e_body, ↓e_addI, ↓e_addT, ↓e_addL, ↓e_subI, ↓e_iadd, ↓e_mulI, ↓e_divI, ↓e_modI, ↓e_powI, ↓e_negI, ↓e_mulT, ↓e_mulL, ↓e_cmp, ↓e_eq, ↓e_ne, ↓e_isN, ↓e_isB, ↓e_isNotN, ↓e_isNotB, ↓e_ix, ↓e_abs, ↓e_toI, ↓e_toB1, ↓e_toB0, ↓e_lenT, ↓e_lenL, ↓e_lenRo, ↓e_lenR, ↓e_tupT, ↓e_tupL, ↓e_tupR, ↓e_lstT, ↓e_lstL, ↓e_allM, ↓e_in, ↓e_notIn, ↓e_sum, ↓e_max, ↓e_par3, ↓e_pop, ↓e_frz, ↓e_frzR, ↓e_isi, ↓e_slT, ↓e_slL, ↓e_slRo, ↓e_app, ↓e_ext, ↓e_setM, r_it1, r_it2, r_it3, r_it4, r_ls2, r_ls3, r_ml2, r_ml3, r_mg0, r_mgn, r_at0, r_at1, r_at2, r_at3, r_ix0, r_ix1, r_ix2, r_ty1, r_ty2, r_ty3, r_ty4, r_ty5, r_ty6, r_ty7, r_ty8, r_sNt, r_sNi, r_sNb, r_sNs, r_sbt, r_sbi, r_sbb, r_sbs, r_sit, r_sii, r_sib, r_sis, r_sst, r_ssi, r_ssb, r_sss, r_stt, r_sti, r_stb, r_sts, r_slt, r_sli, r_slb, r_sls, r_aN, r_ab, r_ai, r_as, r_at, r_al, r_eqI, r_eqB, r_eqS, r_pu1, r_pu2, r_eqN, r_fr1, r_fx1, r_fx2, r_fx3, r_bo0, r_bo1, r_c0, r_c1, r_c2, r_c3, r_c4, r_c5, r_c6, r_c7, r_c8, r_c9, r_c10, r_c11, r_c12, r_pd0, r_pd1, r_pd2, r_wi0, r_wi1, List.set_cons_zero, List.set_cons_succ, List.getElem?_cons_zero, List.getElem?_cons_succ, ↓reduceIte, List.length_cons, List.length_nil, Nat.zero_add, Nat.reduceAdd, and_true, true_and, decide_true, decide_false, eq_self, beq_self_eq_true, Bool.true_beq, Bool.false_beq, Bool.not_true, Bool.not_false, Int.reduceEq, Int.reduceLT, Int.reduceLE, Int.reduceAdd, Int.reduceSub, Int.reduceMul, Int.reduceNeg, Bool.not_not, List.append_nil, List.nil_append, List.cons_append, z_int, z_bl, z_non, z_tup, z_lst, z_str, z_lint, z_lbl, z_lnon, z_ltup, z_llst, z_lstr, z_whole]
    refine (sp_take (by decide) (by decide) (by omega) B6).mono ?_
    rintro d h7 ⟨⟨y, rfl, y0, y1⟩, B7, _⟩
    obtain ⟨f, hf, ef⟩ := mk_good x0 (by omega) (u := 1 + y) (by omega) (by omega) (h := h7)
    have hw := hk0.2.2.1 g g2
    have la := nums_len k a fa
    have lb := nums_len k b fb
    have B3a : ∀ q ∈ nums k a, BQ 3 q := fun q hq => (qa q hq).1
    have B3b : ∀ q ∈ nums k b, BQ 3 q := fun q hq => (qb q hq).1
    have hbit3 := hk0.2.2.2 3 (by decide)
    have hbit7 := hk0.2.2.2 7 (by decide)
    have hd10 : dep k < 10 := by omega
    have p3 : 3 ^ dep k ≤ 3 ^ 2 := Nat.pow_le_pow_right (by decide) hk0.1
    have wa := a_wt k a
    have wb := a_wt k b
    have da := a_dp k a
    have db := a_dp k b
    obtain ⟨s, hs⟩ := sp_repr (d := .tup [aD k a, aD k b]) ⟨a_sm k a B3a, a_sm k b B3b, trivial⟩ rfl (by
      show 1 + (wtD (aD k a) + (wtD (aD k b) + 0)) ≤ 65000
      omega) (by
      show max (dpD (aD k a)) (max (dpD (aD k b)) 0) + 1 ≤ 60
      omega)
    have lp1 := fun h => sp_law_potential (c := 3) (h := h) (by decide) g1 g2 k a v 10 hd10 hk0.2.1 fa B3a hv (by omega)
    have lp2 := fun h => sp_law_potential (c := 3) (h := h) (by decide) g1 g2 k b v 10 hd10 hk0.2.1 fb B3b hv (by omega)
    have fl1 := fun h => sp_flat (h := h) k a 10 (by omega) (by omega) (by omega)
    have fl2 := fun h => sp_flat (h := h) k b 10 (by omega) (by omega) (by omega)
    simp (config := {dsimp := false}) only [↓e_pr, ↓e_some, ↓e_an, ↓e_brT, ↓e_brF, ↓e_asB, ↓e_asI, ↓e_asV, ↓e_stE, ↓e_stE0, ↓e_stL, ↓e_stL0, ↓e_sqN, ↓e_sqR, ↓e_sqB, ↓e_sqC, ↓e_afN, ↓e_afR, ↓e_afB, ↓e_afC, ↓e_rtN, ↓e_rtR, ↓e_var, ↓e_c, ↓e_op, ↓e_un, ↓e_t, ↓e_nt, ↓e_anT, ↓e_orT, ↓e_and, ↓e_or, ↓e_not, ↓e_ite, ↓e_ch, ↓e_nil, ↓e_cons, ↓e_star, ↓e_tup, ↓e_lst, ↓e_mut, ↓e_call, ↓e_isiT, ↓e_lz, ↓e_meth, ↓e_meth0, ↓e_oN, ↓e_oS, ↓e_sl, ↓e_gVar, ↓e_gSub, ↓e_gTp, ↓e_gN, ↓e_gC, ↓e_next, ↓e_seq, ↓e_drop, ↓e_ret, ↓e_retN, ↓e_brk, ↓e_cnt, ↓e_if, ↓e_asg, ↓e_as2, ↓e_as3, ↓e_par, ↓e_aug, ↓e_augS, ↓e_for, ↓e_f0, ↓e_f1, ↓e_while, ↓e_asS1, ↓e_asS2, ↓e_asS3, ↓e_iSeq, ↓e_enum, ↓e_asTI, ↓e_enumC, ↓e_rng1, ↓e_zip, ↓e_zipX, ↓e_comp, ↓e_c0, ↓e_c1, ↓e_y, ↓e_body, ↓e_addI, ↓e_addT, ↓e_addL, ↓e_subI, ↓e_iadd, ↓e_mulI, ↓e_divI, ↓e_modI, ↓e_powI, ↓e_negI, ↓e_mulT, ↓e_mulL, ↓e_cmp, ↓e_eq, ↓e_ne, ↓e_isN, ↓e_isB, ↓e_isNotN, ↓e_isNotB, ↓e_ix, ↓e_abs, ↓e_toI, ↓e_toB1, ↓e_toB0, ↓e_lenT, ↓e_lenL, ↓e_lenRo, ↓e_lenR, ↓e_tupT, ↓e_tupL, ↓e_tupR, ↓e_lstT, ↓e_lstL, ↓e_allM, ↓e_in, ↓e_notIn, ↓e_sum, ↓e_max, ↓e_par3, ↓e_pop, ↓e_frz, ↓e_frzR, ↓e_isi, ↓e_slT, ↓e_slL, ↓e_slRo, ↓e_app, ↓e_ext, ↓e_setM, r_it1, r_it2, r_it3, r_it4, r_ls2, r_ls3, r_ml2, r_ml3, r_mg0, r_mgn, r_at0, r_at1, r_at2, r_at3, r_ix0, r_ix1, r_ix2, r_ty1, r_ty2, r_ty3, r_ty4, r_ty5, r_ty6, r_ty7, r_ty8, r_sNt, r_sNi, r_sNb, r_sNs, r_sbt, r_sbi, r_sbb, r_sbs, r_sit, r_sii, r_sib, r_sis, r_sst, r_ssi, r_ssb, r_sss, r_stt, r_sti, r_stb, r_sts, r_slt, r_sli, r_slb, r_sls, r_aN, r_ab, r_ai, r_as, r_at, r_al, r_eqI, r_eqB, r_eqS, r_pu1, r_pu2, r_eqN, r_fr1, r_fx1, r_fx2, r_fx3, r_bo0, r_bo1, r_c0, r_c1, r_c2, r_c3, r_c4, r_c5, r_c6, r_c7, r_c8, r_c9, r_c10, r_c11, r_c12, r_pd0, r_pd1, r_pd2, r_wi0, r_wi1, List.set_cons_zero, List.set_cons_succ, List.getElem?_cons_zero, List.getElem?_cons_succ, ↓reduceIte, List.length_cons, List.length_nil, Nat.zero_add, Nat.reduceAdd, and_true, true_and, decide_true, decide_false, eq_self, beq_self_eq_true, Bool.true_beq, Bool.false_beq, Bool.not_true, Bool.not_false, Int.reduceEq, Int.reduceLT, Int.reduceLE, Int.reduceAdd, Int.reduceSub, Int.reduceMul, Int.reduceNeg, Bool.not_not, List.append_nil, List.nil_append, List.cons_append, z_int, z_bl, z_non, z_tup, z_lst, z_str, z_lint, z_lbl, z_lnon, z_ltup, z_llst, z_lstr, z_whole, ef, hs, d_law_potential, lp1, lp2, d_law_flat, fl1, fl2, ↓zip_maps, s2]
    refine ⟨le_sz (by rw [List.length_map, List.length_zip]; omega), ?_⟩
    refine comp_evm (fun p : Rat × Rat => .tup [qD p.1, qD p.2]) (fun p => qD (p.1 + p.2)) ((nums k a).zip (nums k b)) (fun p hp => ?_) ?_
    · have hp := List.of_mem_zip hp
      simp (config := {dsimp := false}) only [↓e_pr, ↓e_some, ↓e_an, ↓e_brT, ↓e_brF, ↓e_asB, ↓e_asI, ↓e_asV, ↓e_stE, ↓e_stE0, ↓e_stL, ↓e_stL0, ↓e_sqN, ↓e_sqR, ↓e_sqB, ↓e_sqC, ↓e_afN, ↓e_afR, ↓e_afB, ↓e_afC, ↓e_rtN, ↓e_rtR, ↓e_var, ↓e_c, ↓e_op, ↓e_un, ↓e_t, ↓e_nt, ↓e_anT, ↓e_orT, ↓e_and, ↓e_or, ↓e_not, ↓e_ite, ↓e_ch, ↓e_nil, ↓e_cons, ↓e_star, ↓e_tup, ↓e_lst, ↓e_mut, ↓e_call, ↓e_isiT, ↓e_lz, ↓e_meth, ↓e_meth0, ↓e_oN, ↓e_oS, ↓e_sl, ↓e_gVar, ↓e_gSub, ↓e_gTp, ↓e_gN, ↓e_gC, ↓e_next, ↓e_seq, ↓e_drop, ↓e_ret, ↓e_retN, ↓e_brk, ↓e_cnt, ↓e_if, ↓e_asg, ↓e_as2, ↓e_as3, ↓e_par, ↓e_aug, ↓e_augS, ↓e_for, ↓e_f0, ↓e_f1, ↓e_while, ↓e_asS1, ↓e_asS2, ↓e_asS3, ↓e_iSeq, ↓e_enum, ↓e_asTI, ↓e_enumC, ↓e_rng1, ↓e_zip, ↓e_zipX, ↓e_comp, ↓e_c0, ↓e_c1, ↓e_y, ↓e_body, ↓e_addI, ↓e_addT, ↓e_addL, ↓e_subI, ↓e_iadd, ↓e_mulI, ↓e_divI, ↓e_modI, ↓e_powI, ↓e_negI, ↓e_mulT, ↓e_mulL, ↓e_cmp, ↓e_eq, ↓e_ne, ↓e_isN, ↓e_isB, ↓e_isNotN, ↓e_isNotB, ↓e_ix, ↓e_abs, ↓e_toI, ↓e_toB1, ↓e_toB0, ↓e_lenT, ↓e_lenL, ↓e_lenRo, ↓e_lenR, ↓e_tupT, ↓e_tupL, ↓e_tupR, ↓e_lstT, ↓e_lstL, ↓e_allM, ↓e_in, ↓e_notIn, ↓e_sum, ↓e_max, ↓e_par3, ↓e_pop, ↓e_frz, ↓e_frzR, ↓e_isi, ↓e_slT, ↓e_slL, ↓e_slRo, ↓e_app, ↓e_ext, ↓e_setM, r_it1, r_it2, r_it3, r_it4, r_ls2, r_ls3, r_ml2, r_ml3, r_mg0, r_mgn, r_at0, r_at1, r_at2, r_at3, r_ix0, r_ix1, r_ix2, r_ty1, r_ty2, r_ty3, r_ty4, r_ty5, r_ty6, r_ty7, r_ty8, r_sNt, r_sNi, r_sNb, r_sNs, r_sbt, r_sbi, r_sbb, r_sbs, r_sit, r_sii, r_sib, r_sis, r_sst, r_ssi, r_ssb, r_sss, r_stt, r_sti, r_stb, r_sts, r_slt, r_sli, r_slb, r_sls, r_aN, r_ab, r_ai, r_as, r_at, r_al, r_eqI, r_eqB, r_eqS, r_pu1, r_pu2, r_eqN, r_fr1, r_fx1, r_fx2, r_fx3, r_bo0, r_bo1, r_c0, r_c1, r_c2, r_c3, r_c4, r_c5, r_c6, r_c7, r_c8, r_c9, r_c10, r_c11, r_c12, r_pd0, r_pd1, r_pd2, r_wi0, r_wi1, List.set_cons_zero, List.set_cons_succ, List.getElem?_cons_zero, List.getElem?_cons_succ, ↓reduceIte, List.length_cons, List.length_nil, Nat.zero_add, Nat.reduceAdd, and_true, true_and, decide_true, decide_false, eq_self, beq_self_eq_true, Bool.true_beq, Bool.false_beq, Bool.not_true, Bool.not_false, Int.reduceEq, Int.reduceLT, Int.reduceLE, Int.reduceAdd, Int.reduceSub, Int.reduceMul, Int.reduceNeg, Bool.not_not, List.append_nil, List.nil_append, List.cons_append, z_int, z_bl, z_non, z_tup, z_lst, z_str, z_lint, z_lbl, z_lnon, z_ltup, z_llst, z_lstr, z_whole, q_law_add (B3a _ hp.1) (B3b _ hp.2) (by omega)]
    have e5 : ((nums k a).zip (nums k b)).map (fun p => qD (p.1 + p.2)) = (nums k (addA k a b)).map qD := by
      rw [nums_addA k a b fa fb, List.zip, List.map_zipWith, List.map_zipWith]
    rw [e5]
    simp (config := {dsimp := false}) only [↓e_pr, ↓e_some, ↓e_an, ↓e_brT, ↓e_brF, ↓e_asB, ↓e_asI, ↓e_asV, ↓e_stE, ↓e_stE0, ↓e_stL, ↓e_stL0, ↓e_sqN, ↓e_sqR, ↓e_sqB, ↓e_sqC, ↓e_afN, ↓e_afR, ↓e_afB, ↓e_afC, ↓e_rtN, ↓e_rtR, ↓e_var, ↓e_c, ↓e_op, ↓e_un, ↓e_t, ↓e_nt, ↓e_anT, ↓e_orT, ↓e_and, ↓e_or, ↓e_not, ↓e_ite, ↓e_ch, ↓e_nil, ↓e_cons, ↓e_star, ↓e_tup, ↓e_lst, ↓e_mut, ↓e_call, ↓e_isiT, ↓e_lz, ↓e_meth, ↓e_meth0, ↓e_oN, ↓e_oS, ↓e_sl, ↓e_gVar, ↓e_gSub, ↓e_gTp, ↓e_gN, ↓e_gC, ↓e_next, ↓e_seq, ↓e_drop, ↓e_ret, ↓e_retN, ↓e_brk, ↓e_cnt, ↓e_if, ↓e_asg, ↓e_as2, ↓e_as3, ↓e_par, ↓e_aug, ↓e_augS, ↓e_for, ↓e_f0, ↓e_f1, ↓e_while, ↓e_asS1, ↓e_asS2, ↓e_asS3, ↓e_iSeq, ↓e_enum, ↓e_asTI, ↓e_enumC, ↓e_rng1, ↓e_zip, ↓e_zipX, ↓e_comp, ↓e_c0, ↓e_c1, ↓e_y, ↓e_body, ↓e_addI, ↓e_addT, ↓e_addL, ↓e_subI, ↓e_iadd, ↓e_mulI, ↓e_divI, ↓e_modI, ↓e_powI, ↓e_negI, ↓e_mulT, ↓e_mulL, ↓e_cmp, ↓e_eq, ↓e_ne, ↓e_isN, ↓e_isB, ↓e_isNotN, ↓e_isNotB, ↓e_ix, ↓e_abs, ↓e_toI, ↓e_toB1, ↓e_toB0, ↓e_lenT, ↓e_lenL, ↓e_lenRo, ↓e_lenR, ↓e_tupT, ↓e_tupL, ↓e_tupR, ↓e_lstT, ↓e_lstL, ↓e_allM, ↓e_in, ↓e_notIn, ↓e_sum, ↓e_max, ↓e_par3, ↓e_pop, ↓e_frz, ↓e_frzR, ↓e_isi, ↓e_slT, ↓e_slL, ↓e_slRo, ↓e_app, ↓e_ext, ↓e_setM, r_it1, r_it2, r_it3, r_it4, r_ls2, r_ls3, r_ml2, r_ml3, r_mg0, r_mgn, r_at0, r_at1, r_at2, r_at3, r_ix0, r_ix1, r_ix2, r_ty1, r_ty2, r_ty3, r_ty4, r_ty5, r_ty6, r_ty7, r_ty8, r_sNt, r_sNi, r_sNb, r_sNs, r_sbt, r_sbi, r_sbb, r_sbs, r_sit, r_sii, r_sib, r_sis, r_sst, r_ssi, r_ssb, r_sss, r_stt, r_sti, r_stb, r_sts, r_slt, r_sli, r_slb, r_sls, r_aN, r_ab, r_ai, r_as, r_at, r_al, r_eqI, r_eqB, r_eqS, r_pu1, r_pu2, r_eqN, r_fr1, r_fx1, r_fx2, r_fx3, r_bo0, r_bo1, r_c0, r_c1, r_c2, r_c3, r_c4, r_c5, r_c6, r_c7, r_c8, r_c9, r_c10, r_c11, r_c12, r_pd0, r_pd1, r_pd2, r_wi0, r_wi1, List.set_cons_zero, List.set_cons_succ, List.getElem?_cons_zero, List.getElem?_cons_succ, ↓reduceIte, List.length_cons, List.length_nil, Nat.zero_add, Nat.reduceAdd, and_true, true_and, decide_true, decide_false, eq_self, beq_self_eq_true, Bool.true_beq, Bool.false_beq, Bool.not_true, Bool.not_false, Int.reduceEq, Int.reduceLT, Int.reduceLE, Int.reduceAdd, Int.reduceSub, Int.reduceMul, Int.reduceNeg, Bool.not_not, List.append_nil, List.nil_append, List.cons_append, z_int, z_bl, z_non, z_tup, z_lst, z_str, z_lint, z_lbl, z_lnon, z_ltup, z_llst, z_lstr, z_whole]
    have cf := addA_fit k a b fa fb
    have esh : ∀ h, d_shared [kD k, aD k a, aD k b] h = some (aD k (addA k a b), h) := fun h => by
      have := sp_shared (h := h) (by omega) (show width g k ≤ 900 by omega) fa fb B3a B3b (by decide)
      rw [shared_add g1 fa fb] at this; exact this
    have B7c : ∀ q ∈ nums k (addA k a b), BQ 7 q := fun q hq => by
      rw [nums_addA k a b fa fb] at hq
      exact zw_bq (nums k a) (nums k b) B3a B3b q hq
    have B7a : ∀ q ∈ nums k a, BQ 7 q := fun q hq => (B3a q hq).mono (by decide)
    have lc := nums_len k _ cf
    have fl3 := fun h => sp_flat (h := h) k (addA k a b) 10 (by omega) (by omega) (by omega)
    have same : ∀ (l : List Rat) h, eqB h (.lst (l.map qD)) (.lst (l.map qD)) = some true := fun l h => eqSame (plL_map l fun q _ => q_pl q) (by
      show dpL (l.map qD) + 1 ≤ 60
      have := rw_dp l
      omega)
    have pb1 := pot_bq k a v B3a hv
    have pb2 := pot_bq k b v B3b hv
    have pl3 := fun h => sp_potential (c := 7) (by decide) g1 g2 k (addA k a b) v 10 h hd10 hk0.2.1 cf B7c hv (by omega)
    have cov := fun h => sp_covers (h := h) hd10 (show width g k ≤ 900 by omega) fa fb B3a B3b (by decide)
    have lcov := fun h => sp_law_covers (h := h) (show dep k < 8 by omega) (show width g k ≤ 900 by omega) fa fb B3a B3b (by decide)
    have padd := pot_add k a b v fa fb
    simp (config := {dsimp := false}) only [↓e_pr, ↓e_some, ↓e_an, ↓e_brT, ↓e_brF, ↓e_asB, ↓e_asI, ↓e_asV, ↓e_stE, ↓e_stE0, ↓e_stL, ↓e_stL0, ↓e_sqN, ↓e_sqR, ↓e_sqB, ↓e_sqC, ↓e_afN, ↓e_afR, ↓e_afB, ↓e_afC, ↓e_rtN, ↓e_rtR, ↓e_var, ↓e_c, ↓e_op, ↓e_un, ↓e_t, ↓e_nt, ↓e_anT, ↓e_orT, ↓e_and, ↓e_or, ↓e_not, ↓e_ite, ↓e_ch, ↓e_nil, ↓e_cons, ↓e_star, ↓e_tup, ↓e_lst, ↓e_mut, ↓e_call, ↓e_isiT, ↓e_lz, ↓e_meth, ↓e_meth0, ↓e_oN, ↓e_oS, ↓e_sl, ↓e_gVar, ↓e_gSub, ↓e_gTp, ↓e_gN, ↓e_gC, ↓e_next, ↓e_seq, ↓e_drop, ↓e_ret, ↓e_retN, ↓e_brk, ↓e_cnt, ↓e_if, ↓e_asg, ↓e_as2, ↓e_as3, ↓e_par, ↓e_aug, ↓e_augS, ↓e_for, ↓e_f0, ↓e_f1, ↓e_while, ↓e_asS1, ↓e_asS2, ↓e_asS3, ↓e_iSeq, ↓e_enum, ↓e_asTI, ↓e_enumC, ↓e_rng1, ↓e_zip, ↓e_zipX, ↓e_comp, ↓e_c0, ↓e_c1, ↓e_y, ↓e_body, ↓e_addI, ↓e_addT, ↓e_addL, ↓e_subI, ↓e_iadd, ↓e_mulI, ↓e_divI, ↓e_modI, ↓e_powI, ↓e_negI, ↓e_mulT, ↓e_mulL, ↓e_cmp, ↓e_eq, ↓e_ne, ↓e_isN, ↓e_isB, ↓e_isNotN, ↓e_isNotB, ↓e_ix, ↓e_abs, ↓e_toI, ↓e_toB1, ↓e_toB0, ↓e_lenT, ↓e_lenL, ↓e_lenRo, ↓e_lenR, ↓e_tupT, ↓e_tupL, ↓e_tupR, ↓e_lstT, ↓e_lstL, ↓e_allM, ↓e_in, ↓e_notIn, ↓e_sum, ↓e_max, ↓e_par3, ↓e_pop, ↓e_frz, ↓e_frzR, ↓e_isi, ↓e_slT, ↓e_slL, ↓e_slRo, ↓e_app, ↓e_ext, ↓e_setM, r_it1, r_it2, r_it3, r_it4, r_ls2, r_ls3, r_ml2, r_ml3, r_mg0, r_mgn, r_at0, r_at1, r_at2, r_at3, r_ix0, r_ix1, r_ix2, r_ty1, r_ty2, r_ty3, r_ty4, r_ty5, r_ty6, r_ty7, r_ty8, r_sNt, r_sNi, r_sNb, r_sNs, r_sbt, r_sbi, r_sbb, r_sbs, r_sit, r_sii, r_sib, r_sis, r_sst, r_ssi, r_ssb, r_sss, r_stt, r_sti, r_stb, r_sts, r_slt, r_sli, r_slb, r_sls, r_aN, r_ab, r_ai, r_as, r_at, r_al, r_eqI, r_eqB, r_eqS, r_pu1, r_pu2, r_eqN, r_fr1, r_fx1, r_fx2, r_fx3, r_bo0, r_bo1, r_c0, r_c1, r_c2, r_c3, r_c4, r_c5, r_c6, r_c7, r_c8, r_c9, r_c10, r_c11, r_c12, r_pd0, r_pd1, r_pd2, r_wi0, r_wi1, List.set_cons_zero, List.set_cons_succ, List.getElem?_cons_zero, List.getElem?_cons_succ, ↓reduceIte, List.length_cons, List.length_nil, Nat.zero_add, Nat.reduceAdd, and_true, true_and, decide_true, decide_false, eq_self, beq_self_eq_true, Bool.true_beq, Bool.false_beq, Bool.not_true, Bool.not_false, Int.reduceEq, Int.reduceLT, Int.reduceLE, Int.reduceAdd, Int.reduceSub, Int.reduceMul, Int.reduceNeg, Bool.not_not, List.append_nil, List.nil_append, List.cons_append, z_int, z_bl, z_non, z_tup, z_lst, z_str, z_lint, z_lbl, z_lnon, z_ltup, z_llst, z_lstr, z_whole, d_potential]
    refine ⟨by decide, ?_⟩
    rw [show rangeL 0 (Int.toNat 2) = [.int 0, .int 1] from rfl]
    simp (config := {dsimp := false}) only [↓e_pr, ↓e_some, ↓e_an, ↓e_brT, ↓e_brF, ↓e_asB, ↓e_asI, ↓e_asV, ↓e_stE, ↓e_stE0, ↓e_stL, ↓e_stL0, ↓e_sqN, ↓e_sqR, ↓e_sqB, ↓e_sqC, ↓e_afN, ↓e_afR, ↓e_afB, ↓e_afC, ↓e_rtN, ↓e_rtR, ↓e_var, ↓e_c, ↓e_op, ↓e_un, ↓e_t, ↓e_nt, ↓e_anT, ↓e_orT, ↓e_and, ↓e_or, ↓e_not, ↓e_ite, ↓e_ch, ↓e_nil, ↓e_cons, ↓e_star, ↓e_tup, ↓e_lst, ↓e_mut, ↓e_call, ↓e_isiT, ↓e_lz, ↓e_meth, ↓e_meth0, ↓e_oN, ↓e_oS, ↓e_sl, ↓e_gVar, ↓e_gSub, ↓e_gTp, ↓e_gN, ↓e_gC, ↓e_next, ↓e_seq, ↓e_drop, ↓e_ret, ↓e_retN, ↓e_brk, ↓e_cnt, ↓e_if, ↓e_asg, ↓e_as2, ↓e_as3, ↓e_par, ↓e_aug, ↓e_augS, ↓e_for, ↓e_f0, ↓e_f1, ↓e_while, ↓e_asS1, ↓e_asS2, ↓e_asS3, ↓e_iSeq, ↓e_enum, ↓e_asTI, ↓e_enumC, ↓e_rng1, ↓e_zip, ↓e_zipX, ↓e_comp, ↓e_c0, ↓e_c1, ↓e_y, ↓e_body, ↓e_addI, ↓e_addT, ↓e_addL, ↓e_subI, ↓e_iadd, ↓e_mulI, ↓e_divI, ↓e_modI, ↓e_powI, ↓e_negI, ↓e_mulT, ↓e_mulL, ↓e_cmp, ↓e_eq, ↓e_ne, ↓e_isN, ↓e_isB, ↓e_isNotN, ↓e_isNotB, ↓e_ix, ↓e_abs, ↓e_toI, ↓e_toB1, ↓e_toB0, ↓e_lenT, ↓e_lenL, ↓e_lenRo, ↓e_lenR, ↓e_tupT, ↓e_tupL, ↓e_tupR, ↓e_lstT, ↓e_lstL, ↓e_allM, ↓e_in, ↓e_notIn, ↓e_sum, ↓e_max, ↓e_par3, ↓e_pop, ↓e_frz, ↓e_frzR, ↓e_isi, ↓e_slT, ↓e_slL, ↓e_slRo, ↓e_app, ↓e_ext, ↓e_setM, r_it1, r_it2, r_it3, r_it4, r_ls2, r_ls3, r_ml2, r_ml3, r_mg0, r_mgn, r_at0, r_at1, r_at2, r_at3, r_ix0, r_ix1, r_ix2, r_ty1, r_ty2, r_ty3, r_ty4, r_ty5, r_ty6, r_ty7, r_ty8, r_sNt, r_sNi, r_sNb, r_sNs, r_sbt, r_sbi, r_sbb, r_sbs, r_sit, r_sii, r_sib, r_sis, r_sst, r_ssi, r_ssb, r_sss, r_stt, r_sti, r_stb, r_sts, r_slt, r_sli, r_slb, r_sls, r_aN, r_ab, r_ai, r_as, r_at, r_al, r_eqI, r_eqB, r_eqS, r_pu1, r_pu2, r_eqN, r_fr1, r_fx1, r_fx2, r_fx3, r_bo0, r_bo1, r_c0, r_c1, r_c2, r_c3, r_c4, r_c5, r_c6, r_c7, r_c8, r_c9, r_c10, r_c11, r_c12, r_pd0, r_pd1, r_pd2, r_wi0, r_wi1, List.set_cons_zero, List.set_cons_succ, List.getElem?_cons_zero, List.getElem?_cons_succ, ↓reduceIte, List.length_cons, List.length_nil, Nat.zero_add, Nat.reduceAdd, and_true, true_and, decide_true, decide_false, eq_self, beq_self_eq_true, Bool.true_beq, Bool.false_beq, Bool.not_true, Bool.not_false, Int.reduceEq, Int.reduceLT, Int.reduceLE, Int.reduceAdd, Int.reduceSub, Int.reduceMul, Int.reduceNeg, Bool.not_not, List.append_nil, List.nil_append, List.cons_append, z_int, z_bl, z_non, z_tup, z_lst, z_str, z_lint, z_lbl, z_lnon, z_ltup, z_llst, z_lstr, z_whole, esh, d_law_flat, fl3, same, d_potential]
    refine (pl3 _).mono ?_
    rintro d h8 ⟨rfl, z8, rfl⟩
    simp (config := {dsimp := false}) only [↓e_pr, ↓e_some, ↓e_an, ↓e_brT, ↓e_brF, ↓e_asB, ↓e_asI, ↓e_asV, ↓e_stE, ↓e_stE0, ↓e_stL, ↓e_stL0, ↓e_sqN, ↓e_sqR, ↓e_sqB, ↓e_sqC, ↓e_afN, ↓e_afR, ↓e_afB, ↓e_afC, ↓e_rtN, ↓e_rtR, ↓e_var, ↓e_c, ↓e_op, ↓e_un, ↓e_t, ↓e_nt, ↓e_anT, ↓e_orT, ↓e_and, ↓e_or, ↓e_not, ↓e_ite, ↓e_ch, ↓e_nil, ↓e_cons, ↓e_star, ↓e_tup, ↓e_lst, ↓e_mut, ↓e_call, ↓e_isiT, ↓e_lz, ↓e_meth, ↓e_meth0, ↓e_oN, ↓e_oS, ↓e_sl, ↓e_gVar, ↓e_gSub, ↓e_gTp, ↓e_gN, ↓e_gC, ↓e_next, ↓e_seq, ↓e_drop, ↓e_ret, ↓e_retN, ↓e_brk, ↓e_cnt, ↓e_if, ↓e_asg, ↓e_as2, ↓e_as3, ↓e_par, ↓e_aug, ↓e_augS, ↓e_for, ↓e_f0, ↓e_f1, ↓e_while, ↓e_asS1, ↓e_asS2, ↓e_asS3, ↓e_iSeq, ↓e_enum, ↓e_asTI, ↓e_enumC, ↓e_rng1, ↓e_zip, ↓e_zipX, ↓e_comp, ↓e_c0, ↓e_c1, ↓e_y, ↓e_body, ↓e_addI, ↓e_addT, ↓e_addL, ↓e_subI, ↓e_iadd, ↓e_mulI, ↓e_divI, ↓e_modI, ↓e_powI, ↓e_negI, ↓e_mulT, ↓e_mulL, ↓e_cmp, ↓e_eq, ↓e_ne, ↓e_isN, ↓e_isB, ↓e_isNotN, ↓e_isNotB, ↓e_ix, ↓e_abs, ↓e_toI, ↓e_toB1, ↓e_toB0, ↓e_lenT, ↓e_lenL, ↓e_lenRo, ↓e_lenR, ↓e_tupT, ↓e_tupL, ↓e_tupR, ↓e_lstT, ↓e_lstL, ↓e_allM, ↓e_in, ↓e_notIn, ↓e_sum, ↓e_max, ↓e_par3, ↓e_pop, ↓e_frz, ↓e_frzR, ↓e_isi, ↓e_slT, ↓e_slL, ↓e_slRo, ↓e_app, ↓e_ext, ↓e_setM, r_it1, r_it2, r_it3, r_it4, r_ls2, r_ls3, r_ml2, r_ml3, r_mg0, r_mgn, r_at0, r_at1, r_at2, r_at3, r_ix0, r_ix1, r_ix2, r_ty1, r_ty2, r_ty3, r_ty4, r_ty5, r_ty6, r_ty7, r_ty8, r_sNt, r_sNi, r_sNb, r_sNs, r_sbt, r_sbi, r_sbb, r_sbs, r_sit, r_sii, r_sib, r_sis, r_sst, r_ssi, r_ssb, r_sss, r_stt, r_sti, r_stb, r_sts, r_slt, r_sli, r_slb, r_sls, r_aN, r_ab, r_ai, r_as, r_at, r_al, r_eqI, r_eqB, r_eqS, r_pu1, r_pu2, r_eqN, r_fr1, r_fx1, r_fx2, r_fx3, r_bo0, r_bo1, r_c0, r_c1, r_c2, r_c3, r_c4, r_c5, r_c6, r_c7, r_c8, r_c9, r_c10, r_c11, r_c12, r_pd0, r_pd1, r_pd2, r_wi0, r_wi1, List.set_cons_zero, List.set_cons_succ, List.getElem?_cons_zero, List.getElem?_cons_succ, ↓reduceIte, List.length_cons, List.length_nil, Nat.zero_add, Nat.reduceAdd, and_true, true_and, decide_true, decide_false, eq_self, beq_self_eq_true, Bool.true_beq, Bool.false_beq, Bool.not_true, Bool.not_false, Int.reduceEq, Int.reduceLT, Int.reduceLE, Int.reduceAdd, Int.reduceSub, Int.reduceMul, Int.reduceNeg, Bool.not_not, List.append_nil, List.nil_append, List.cons_append, z_int, z_bl, z_non, z_tup, z_lst, z_str, z_lint, z_lbl, z_lnon, z_ltup, z_llst, z_lstr, z_whole, q_law_add pb1 pb2 (by omega), padd, r_eqQ, cov, lcov]
    refine (sp_alike (d := .bl (!lessIn a b)) trivial s1).mono ?_
    rintro d h9 ⟨rfl, z9, rfl⟩
    simp (config := {dsimp := false}) only [↓e_pr, ↓e_some, ↓e_an, ↓e_brT, ↓e_brF, ↓e_asB, ↓e_asI, ↓e_asV, ↓e_stE, ↓e_stE0, ↓e_stL, ↓e_stL0, ↓e_sqN, ↓e_sqR, ↓e_sqB, ↓e_sqC, ↓e_afN, ↓e_afR, ↓e_afB, ↓e_afC, ↓e_rtN, ↓e_rtR, ↓e_var, ↓e_c, ↓e_op, ↓e_un, ↓e_t, ↓e_nt, ↓e_anT, ↓e_orT, ↓e_and, ↓e_or, ↓e_not, ↓e_ite, ↓e_ch, ↓e_nil, ↓e_cons, ↓e_star, ↓e_tup, ↓e_lst, ↓e_mut, ↓e_call, ↓e_isiT, ↓e_lz, ↓e_meth, ↓e_meth0, ↓e_oN, ↓e_oS, ↓e_sl, ↓e_gVar, ↓e_gSub, ↓e_gTp, ↓e_gN, ↓e_gC, ↓e_next, ↓e_seq, ↓e_drop, ↓e_ret, ↓e_retN, ↓e_brk, ↓e_cnt, ↓e_if, ↓e_asg, ↓e_as2, ↓e_as3, ↓e_par, ↓e_aug, ↓e_augS, ↓e_for, ↓e_f0, ↓e_f1, ↓e_while, ↓e_asS1, ↓e_asS2, ↓e_asS3, ↓e_iSeq, ↓e_enum, ↓e_asTI, ↓e_enumC, ↓e_rng1, ↓e_zip, ↓e_zipX, ↓e_comp, ↓e_c0, ↓e_c1, ↓e_y, ↓e_body, ↓e_addI, ↓e_addT, ↓e_addL, ↓e_subI, ↓e_iadd, ↓e_mulI, ↓e_divI, ↓e_modI, ↓e_powI, ↓e_negI, ↓e_mulT, ↓e_mulL, ↓e_cmp, ↓e_eq, ↓e_ne, ↓e_isN, ↓e_isB, ↓e_isNotN, ↓e_isNotB, ↓e_ix, ↓e_abs, ↓e_toI, ↓e_toB1, ↓e_toB0, ↓e_lenT, ↓e_lenL, ↓e_lenRo, ↓e_lenR, ↓e_tupT, ↓e_tupL, ↓e_tupR, ↓e_lstT, ↓e_lstL, ↓e_allM, ↓e_in, ↓e_notIn, ↓e_sum, ↓e_max, ↓e_par3, ↓e_pop, ↓e_frz, ↓e_frzR, ↓e_isi, ↓e_slT, ↓e_slL, ↓e_slRo, ↓e_app, ↓e_ext, ↓e_setM, r_it1, r_it2, r_it3, r_it4, r_ls2, r_ls3, r_ml2, r_ml3, r_mg0, r_mgn, r_at0, r_at1, r_at2, r_at3, r_ix0, r_ix1, r_ix2, r_ty1, r_ty2, r_ty3, r_ty4, r_ty5, r_ty6, r_ty7, r_ty8, r_sNt, r_sNi, r_sNb, r_sNs, r_sbt, r_sbi, r_sbb, r_sbs, r_sit, r_sii, r_sib, r_sis, r_sst, r_ssi, r_ssb, r_sss, r_stt, r_sti, r_stb, r_sts, r_slt, r_sli, r_slb, r_sls, r_aN, r_ab, r_ai, r_as, r_at, r_al, r_eqI, r_eqB, r_eqS, r_pu1, r_pu2, r_eqN, r_fr1, r_fx1, r_fx2, r_fx3, r_bo0, r_bo1, r_c0, r_c1, r_c2, r_c3, r_c4, r_c5, r_c6, r_c7, r_c8, r_c9, r_c10, r_c11, r_c12, r_pd0, r_pd1, r_pd2, r_wi0, r_wi1, List.set_cons_zero, List.set_cons_succ, List.getElem?_cons_zero, List.getElem?_cons_succ, ↓reduceIte, List.length_cons, List.length_nil, Nat.zero_add, Nat.reduceAdd, and_true, true_and, decide_true, decide_false, eq_self, beq_self_eq_true, Bool.true_beq, Bool.false_beq, Bool.not_true, Bool.not_false, Int.reduceEq, Int.reduceLT, Int.reduceLE, Int.reduceAdd, Int.reduceSub, Int.reduceMul, Int.reduceNeg, Bool.not_not, List.append_nil, List.nil_append, List.cons_append, z_int, z_bl, z_non, z_tup, z_lst, z_str, z_lint, z_lbl, z_lnon, z_ltup, z_llst, z_lstr, z_whole, hs, r_eqSS, esh, d_law_flat, fl3, same, d_potential, s2]
    refine (pl3 _).mono ?_
    rintro d h8 ⟨rfl, z10, rfl⟩
    simp (config := {dsimp := false}) only [↓e_pr, ↓e_some, ↓e_an, ↓e_brT, ↓e_brF, ↓e_asB, ↓e_asI, ↓e_asV, ↓e_stE, ↓e_stE0, ↓e_stL, ↓e_stL0, ↓e_sqN, ↓e_sqR, ↓e_sqB, ↓e_sqC, ↓e_afN, ↓e_afR, ↓e_afB, ↓e_afC, ↓e_rtN, ↓e_rtR, ↓e_var, ↓e_c, ↓e_op, ↓e_un, ↓e_t, ↓e_nt, ↓e_anT, ↓e_orT, ↓e_and, ↓e_or, ↓e_not, ↓e_ite, ↓e_ch, ↓e_nil, ↓e_cons, ↓e_star, ↓e_tup, ↓e_lst, ↓e_mut, ↓e_call, ↓e_isiT, ↓e_lz, ↓e_meth, ↓e_meth0, ↓e_oN, ↓e_oS, ↓e_sl, ↓e_gVar, ↓e_gSub, ↓e_gTp, ↓e_gN, ↓e_gC, ↓e_next, ↓e_seq, ↓e_drop, ↓e_ret, ↓e_retN, ↓e_brk, ↓e_cnt, ↓e_if, ↓e_asg, ↓e_as2, ↓e_as3, ↓e_par, ↓e_aug, ↓e_augS, ↓e_for, ↓e_f0, ↓e_f1, ↓e_while, ↓e_asS1, ↓e_asS2, ↓e_asS3, ↓e_iSeq, ↓e_enum, ↓e_asTI, ↓e_enumC, ↓e_rng1, ↓e_zip, ↓e_zipX, ↓e_comp, ↓e_c0, ↓e_c1, ↓e_y, ↓e_body, ↓e_addI, ↓e_addT, ↓e_addL, ↓e_subI, ↓e_iadd, ↓e_mulI, ↓e_divI, ↓e_modI, ↓e_powI, ↓e_negI, ↓e_mulT, ↓e_mulL, ↓e_cmp, ↓e_eq, ↓e_ne, ↓e_isN, ↓e_isB, ↓e_isNotN, ↓e_isNotB, ↓e_ix, ↓e_abs, ↓e_toI, ↓e_toB1, ↓e_toB0, ↓e_lenT, ↓e_lenL, ↓e_lenRo, ↓e_lenR, ↓e_tupT, ↓e_tupL, ↓e_tupR, ↓e_lstT, ↓e_lstL, ↓e_allM, ↓e_in, ↓e_notIn, ↓e_sum, ↓e_max, ↓e_par3, ↓e_pop, ↓e_frz, ↓e_frzR, ↓e_isi, ↓e_slT, ↓e_slL, ↓e_slRo, ↓e_app, ↓e_ext, ↓e_setM, r_it1, r_it2, r_it3, r_it4, r_ls2, r_ls3, r_ml2, r_ml3, r_mg0, r_mgn, r_at0, r_at1, r_at2, r_at3, r_ix0, r_ix1, r_ix2, r_ty1, r_ty2, r_ty3, r_ty4, r_ty5, r_ty6, r_ty7, r_ty8, r_sNt, r_sNi, r_sNb, r_sNs, r_sbt, r_sbi, r_sbb, r_sbs, r_sit, r_sii, r_sib, r_sis, r_sst, r_ssi, r_ssb, r_sss, r_stt, r_sti, r_stb, r_sts, r_slt, r_sli, r_slb, r_sls, r_aN, r_ab, r_ai, r_as, r_at, r_al, r_eqI, r_eqB, r_eqS, r_pu1, r_pu2, r_eqN, r_fr1, r_fx1, r_fx2, r_fx3, r_bo0, r_bo1, r_c0, r_c1, r_c2, r_c3, r_c4, r_c5, r_c6, r_c7, r_c8, r_c9, r_c10, r_c11, r_c12, r_pd0, r_pd1, r_pd2, r_wi0, r_wi1, List.set_cons_zero, List.set_cons_succ, List.getElem?_cons_zero, List.getElem?_cons_succ, ↓reduceIte, List.length_cons, List.length_nil, Nat.zero_add, Nat.reduceAdd, and_true, true_and, decide_true, decide_false, eq_self, beq_self_eq_true, Bool.true_beq, Bool.false_beq, Bool.not_true, Bool.not_false, Int.reduceEq, Int.reduceLT, Int.reduceLE, Int.reduceAdd, Int.reduceSub, Int.reduceMul, Int.reduceNeg, Bool.not_not, List.append_nil, List.nil_append, List.cons_append, z_int, z_bl, z_non, z_tup, z_lst, z_str, z_lint, z_lbl, z_lnon, z_ltup, z_llst, z_lstr, z_whole, q_law_add pb1 pb2 (by omega), padd, r_eqQ, cov, lcov]
    refine (sp_alike (d := .bl (!lessIn a b)) trivial s1).mono ?_
    rintro d h9 ⟨rfl, z11, rfl⟩
    have zf := zeroA_fit g k
    have B3z : ∀ q ∈ nums k (zeroA g k), BQ 3 q := fun q hq => by
      rw [zeroA_nums] at hq
      rw [(List.mem_replicate.mp hq).2]; exact .zero
    have c1 : ∀ h, d_covers [kD k, aD k (addA k a b), aD k a] h = some (.bl true, h) := fun h => by
      rw [sp_covers hd10 (show width g k ≤ 900 by omega) cf fa B7c B7a (by decide), lessIn_no]
      · rfl
      · rw [nums_addA k a b fa fb]
        exact zip_add_ge _ _ fun q hq => (qb q hq).2
    have c2 : ∀ h, d_covers [kD k, aD k a, aD k (zeroA g k)] h = some (.bl true, h) := fun h => by
      rw [sp_covers hd10 (show width g k ≤ 900 by omega) fa zf B3a B3z (by decide), lessIn_no]
      · rfl
      · intro p hp
        have hp := List.of_mem_zip hp
        rw [zeroA_nums] at hp
        rw [(List.mem_replicate.mp hp.2).2]
        exact (qa _ hp.1).2
    have eno := fun h => sp_none (h := h) (k := k) (g := g) hd10 (by omega)
    simp (config := {dsimp := false}) only [↓e_pr, ↓e_some, ↓e_an, ↓e_brT, ↓e_brF, ↓e_asB, ↓e_asI, ↓e_asV, ↓e_stE, ↓e_stE0, ↓e_stL, ↓e_stL0, ↓e_sqN, ↓e_sqR, ↓e_sqB, ↓e_sqC, ↓e_afN, ↓e_afR, ↓e_afB, ↓e_afC, ↓e_rtN, ↓e_rtR, ↓e_var, ↓e_c, ↓e_op, ↓e_un, ↓e_t, ↓e_nt, ↓e_anT, ↓e_orT, ↓e_and, ↓e_or, ↓e_not, ↓e_ite, ↓e_ch, ↓e_nil, ↓e_cons, ↓e_star, ↓e_tup, ↓e_lst, ↓e_mut, ↓e_call, ↓e_isiT, ↓e_lz, ↓e_meth, ↓e_meth0, ↓e_oN, ↓e_oS, ↓e_sl, ↓e_gVar, ↓e_gSub, ↓e_gTp, ↓e_gN, ↓e_gC, ↓e_next, ↓e_seq, ↓e_drop, ↓e_ret, ↓e_retN, ↓e_brk, ↓e_cnt, ↓e_if, ↓e_asg, ↓e_as2, ↓e_as3, ↓e_par, ↓e_aug, ↓e_augS, ↓e_for, ↓e_f0, ↓e_f1, ↓e_while, ↓e_asS1, ↓e_asS2, ↓e_asS3, ↓e_iSeq, ↓e_enum, ↓e_asTI, ↓e_enumC, ↓e_rng1, ↓e_zip, ↓e_zipX, ↓e_comp, ↓e_c0, ↓e_c1, ↓e_y, ↓e_body, ↓e_addI, ↓e_addT, ↓e_addL, ↓e_subI, ↓e_iadd, ↓e_mulI, ↓e_divI, ↓e_modI, ↓e_powI, ↓e_negI, ↓e_mulT, ↓e_mulL, ↓e_cmp, ↓e_eq, ↓e_ne, ↓e_isN, ↓e_isB, ↓e_isNotN, ↓e_isNotB, ↓e_ix, ↓e_abs, ↓e_toI, ↓e_toB1, ↓e_toB0, ↓e_lenT, ↓e_lenL, ↓e_lenRo, ↓e_lenR, ↓e_tupT, ↓e_tupL, ↓e_tupR, ↓e_lstT, ↓e_lstL, ↓e_allM, ↓e_in, ↓e_notIn, ↓e_sum, ↓e_max, ↓e_par3, ↓e_pop, ↓e_frz, ↓e_frzR, ↓e_isi, ↓e_slT, ↓e_slL, ↓e_slRo, ↓e_app, ↓e_ext, ↓e_setM, r_it1, r_it2, r_it3, r_it4, r_ls2, r_ls3, r_ml2, r_ml3, r_mg0, r_mgn, r_at0, r_at1, r_at2, r_at3, r_ix0, r_ix1, r_ix2, r_ty1, r_ty2, r_ty3, r_ty4, r_ty5, r_ty6, r_ty7, r_ty8, r_sNt, r_sNi, r_sNb, r_sNs, r_sbt, r_sbi, r_sbb, r_sbs, r_sit, r_sii, r_sib, r_sis, r_sst, r_ssi, r_ssb, r_sss, r_stt, r_sti, r_stb, r_sts, r_slt, r_sli, r_slb, r_sls, r_aN, r_ab, r_ai, r_as, r_at, r_al, r_eqI, r_eqB, r_eqS, r_pu1, r_pu2, r_eqN, r_fr1, r_fx1, r_fx2, r_fx3, r_bo0, r_bo1, r_c0, r_c1, r_c2, r_c3, r_c4, r_c5, r_c6, r_c7, r_c8, r_c9, r_c10, r_c11, r_c12, r_pd0, r_pd1, r_pd2, r_wi0, r_wi1, List.set_cons_zero, List.set_cons_succ, List.getElem?_cons_zero, List.getElem?_cons_succ, ↓reduceIte, List.length_cons, List.length_nil, Nat.zero_add, Nat.reduceAdd, and_true, true_and, decide_true, decide_false, eq_self, beq_self_eq_true, Bool.true_beq, Bool.false_beq, Bool.not_true, Bool.not_false, Int.reduceEq, Int.reduceLT, Int.reduceLE, Int.reduceAdd, Int.reduceSub, Int.reduceMul, Int.reduceNeg, Bool.not_not, List.append_nil, List.nil_append, List.cons_append, z_int, z_bl, z_non, z_tup, z_lst, z_str, z_lint, z_lbl, z_lnon, z_ltup, z_llst, z_lstr, z_whole, hs, r_eqSS, s2, c1, c2, eno, cov]
    have ff := hf
    have B6s : ∀ q ∈ nums k (mulA f k a), BQ 7 q := fun q hq => by
      rw [nums_mulA k a] at hq
      obtain ⟨x, hx, rfl⟩ := List.mem_map.mp hq
      exact ((B3a x hx).mul hf.1).mono (by decide)
    have fs := mulA_fit (f := f) k a fa
    have esc : ∀ h, d_scaled [kD k, aD k a, qD f] h = some (aD k (mulA f k a), h) := fun h => by
      have := sp_scaled (h := h) hd10 (show width g k ≤ 900 by omega) fa B3a hf.1 (by decide)
      rw [scaled_mul g1 fa] at this; exact this
    have ls := nums_len k _ fs
    have fl4 := fun h => sp_flat (h := h) k (mulA f k a) 10 (by omega) (by omega) (by omega)
    have pl4 := fun h => sp_potential (c := 7) (by decide) g1 g2 k (mulA f k a) v 10 h hd10 hk0.2.1 fs B6s hv (by omega)
    have pmul := pot_mul (f := f) k a v
    have eshz : ∀ h, d_shared [kD k, aD k a, aD k (zeroA g k)] h = some (aD k a, h) := fun h => by
      have := sp_shared (h := h) hd10 (show width g k ≤ 900 by omega) fa zf B3a B3z (by decide)
      rw [shared_zero g1 fa] at this; exact this
    refine Br_both (fun z => ?ya) (fun z => ?na)
    case' ya =>
      have z : lessIn a b = false := by simpa using z
      have le : ¬ pot k a v < pot k b v := Rat.not_lt.mpr (pot_mono k b a v fb fa (leA_of k b a fb fa (zip_swap_le _ _ (P := fun x y => y ≤ x) (lessIn_le z))))
      simp (config := {dsimp := false}) only [↓e_pr, ↓e_some, ↓e_an, ↓e_brT, ↓e_brF, ↓e_asB, ↓e_asI, ↓e_asV, ↓e_stE, ↓e_stE0, ↓e_stL, ↓e_stL0, ↓e_sqN, ↓e_sqR, ↓e_sqB, ↓e_sqC, ↓e_afN, ↓e_afR, ↓e_afB, ↓e_afC, ↓e_rtN, ↓e_rtR, ↓e_var, ↓e_c, ↓e_op, ↓e_un, ↓e_t, ↓e_nt, ↓e_anT, ↓e_orT, ↓e_and, ↓e_or, ↓e_not, ↓e_ite, ↓e_ch, ↓e_nil, ↓e_cons, ↓e_star, ↓e_tup, ↓e_lst, ↓e_mut, ↓e_call, ↓e_isiT, ↓e_lz, ↓e_meth, ↓e_meth0, ↓e_oN, ↓e_oS, ↓e_sl, ↓e_gVar, ↓e_gSub, ↓e_gTp, ↓e_gN, ↓e_gC, ↓e_next, ↓e_seq, ↓e_drop, ↓e_ret, ↓e_retN, ↓e_brk, ↓e_cnt, ↓e_if, ↓e_asg, ↓e_as2, ↓e_as3, ↓e_par, ↓e_aug, ↓e_augS, ↓e_for, ↓e_f0, ↓e_f1, ↓e_while, ↓e_asS1, ↓e_asS2, ↓e_asS3, ↓e_iSeq, ↓e_enum, ↓e_asTI, ↓e_enumC, ↓e_rng1, ↓e_zip, ↓e_zipX, ↓e_comp, ↓e_c0, ↓e_c1, ↓e_y, ↓e_body, ↓e_addI, ↓e_addT, ↓e_addL, ↓e_subI, ↓e_iadd, ↓e_mulI, ↓e_divI, ↓e_modI, ↓e_powI, ↓e_negI, ↓e_mulT, ↓e_mulL, ↓e_cmp, ↓e_eq, ↓e_ne, ↓e_isN, ↓e_isB, ↓e_isNotN, ↓e_isNotB, ↓e_ix, ↓e_abs, ↓e_toI, ↓e_toB1, ↓e_toB0, ↓e_lenT, ↓e_lenL, ↓e_lenRo, ↓e_lenR, ↓e_tupT, ↓e_tupL, ↓e_tupR, ↓e_lstT, ↓e_lstL, ↓e_allM, ↓e_in, ↓e_notIn, ↓e_sum, ↓e_max, ↓e_par3, ↓e_pop, ↓e_frz, ↓e_frzR, ↓e_isi, ↓e_slT, ↓e_slL, ↓e_slRo, ↓e_app, ↓e_ext, ↓e_setM, r_it1, r_it2, r_it3, r_it4, r_ls2, r_ls3, r_ml2, r_ml3, r_mg0, r_mgn, r_at0, r_at1, r_at2, r_at3, r_ix0, r_ix1, r_ix2, r_ty1, r_ty2, r_ty3, r_ty4, r_ty5, r_ty6, r_ty7, r_ty8, r_sNt, r_sNi, r_sNb, r_sNs, r_sbt, r_sbi, r_sbb, r_sbs, r_sit, r_sii, r_sib, r_sis, r_sst, r_ssi, r_ssb, r_sss, r_stt, r_sti, r_stb, r_sts, r_slt, r_sli, r_slb, r_sls, r_aN, r_ab, r_ai, r_as, r_at, r_al, r_eqI, r_eqB, r_eqS, r_pu1, r_pu2, r_eqN, r_fr1, r_fx1, r_fx2, r_fx3, r_bo0, r_bo1, r_c0, r_c1, r_c2, r_c3, r_c4, r_c5, r_c6, r_c7, r_c8, r_c9, r_c10, r_c11, r_c12, r_pd0, r_pd1, r_pd2, r_wi0, r_wi1, List.set_cons_zero, List.set_cons_succ, List.getElem?_cons_zero, List.getElem?_cons_succ, ↓reduceIte, List.length_cons, List.length_nil, Nat.zero_add, Nat.reduceAdd, and_true, true_and, decide_true, decide_false, eq_self, beq_self_eq_true, Bool.true_beq, Bool.false_beq, Bool.not_true, Bool.not_false, Int.reduceEq, Int.reduceLT, Int.reduceLE, Int.reduceAdd, Int.reduceSub, Int.reduceMul, Int.reduceNeg, Bool.not_not, List.append_nil, List.nil_append, List.cons_append, z_int, z_bl, z_non, z_tup, z_lst, z_str, z_lint, z_lbl, z_lnon, z_ltup, z_llst, z_lstr, z_whole, sp_law_less pb1 pb2 (by omega), decide_eq_false le, esc, d_law_flat, fl4, fl1]
    case' na =>
      simp (config := {dsimp := false}) only [↓e_pr, ↓e_some, ↓e_an, ↓e_brT, ↓e_brF, ↓e_asB, ↓e_asI, ↓e_asV, ↓e_stE, ↓e_stE0, ↓e_stL, ↓e_stL0, ↓e_sqN, ↓e_sqR, ↓e_sqB, ↓e_sqC, ↓e_afN, ↓e_afR, ↓e_afB, ↓e_afC, ↓e_rtN, ↓e_rtR, ↓e_var, ↓e_c, ↓e_op, ↓e_un, ↓e_t, ↓e_nt, ↓e_anT, ↓e_orT, ↓e_and, ↓e_or, ↓e_not, ↓e_ite, ↓e_ch, ↓e_nil, ↓e_cons, ↓e_star, ↓e_tup, ↓e_lst, ↓e_mut, ↓e_call, ↓e_isiT, ↓e_lz, ↓e_meth, ↓e_meth0, ↓e_oN, ↓e_oS, ↓e_sl, ↓e_gVar, ↓e_gSub, ↓e_gTp, ↓e_gN, ↓e_gC, ↓e_next, ↓e_seq, ↓e_drop, ↓e_ret, ↓e_retN, ↓e_brk, ↓e_cnt, ↓e_if, ↓e_asg, ↓e_as2, ↓e_as3, ↓e_par, ↓e_aug, ↓e_augS, ↓e_for, ↓e_f0, ↓e_f1, ↓e_while, ↓e_asS1, ↓e_asS2, ↓e_asS3, ↓e_iSeq, ↓e_enum, ↓e_asTI, ↓e_enumC, ↓e_rng1, ↓e_zip, ↓e_zipX, ↓e_comp, ↓e_c0, ↓e_c1, ↓e_y, ↓e_body, ↓e_addI, ↓e_addT, ↓e_addL, ↓e_subI, ↓e_iadd, ↓e_mulI, ↓e_divI, ↓e_modI, ↓e_powI, ↓e_negI, ↓e_mulT, ↓e_mulL, ↓e_cmp, ↓e_eq, ↓e_ne, ↓e_isN, ↓e_isB, ↓e_isNotN, ↓e_isNotB, ↓e_ix, ↓e_abs, ↓e_toI, ↓e_toB1, ↓e_toB0, ↓e_lenT, ↓e_lenL, ↓e_lenRo, ↓e_lenR, ↓e_tupT, ↓e_tupL, ↓e_tupR, ↓e_lstT, ↓e_lstL, ↓e_allM, ↓e_in, ↓e_notIn, ↓e_sum, ↓e_max, ↓e_par3, ↓e_pop, ↓e_frz, ↓e_frzR, ↓e_isi, ↓e_slT, ↓e_slL, ↓e_slRo, ↓e_app, ↓e_ext, ↓e_setM, r_it1, r_it2, r_it3, r_it4, r_ls2, r_ls3, r_ml2, r_ml3, r_mg0, r_mgn, r_at0, r_at1, r_at2, r_at3, r_ix0, r_ix1, r_ix2, r_ty1, r_ty2, r_ty3, r_ty4, r_ty5, r_ty6, r_ty7, r_ty8, r_sNt, r_sNi, r_sNb, r_sNs, r_sbt, r_sbi, r_sbb, r_sbs, r_sit, r_sii, r_sib, r_sis, r_sst, r_ssi, r_ssb, r_sss, r_stt, r_sti, r_stb, r_sts, r_slt, r_sli, r_slb, r_sls, r_aN, r_ab, r_ai, r_as, r_at, r_al, r_eqI, r_eqB, r_eqS, r_pu1, r_pu2, r_eqN, r_fr1, r_fx1, r_fx2, r_fx3, r_bo0, r_bo1, r_c0, r_c1, r_c2, r_c3, r_c4, r_c5, r_c6, r_c7, r_c8, r_c9, r_c10, r_c11, r_c12, r_pd0, r_pd1, r_pd2, r_wi0, r_wi1, List.set_cons_zero, List.set_cons_succ, List.getElem?_cons_zero, List.getElem?_cons_succ, ↓reduceIte, List.length_cons, List.length_nil, Nat.zero_add, Nat.reduceAdd, and_true, true_and, decide_true, decide_false, eq_self, beq_self_eq_true, Bool.true_beq, Bool.false_beq, Bool.not_true, Bool.not_false, Int.reduceEq, Int.reduceLT, Int.reduceLE, Int.reduceAdd, Int.reduceSub, Int.reduceMul, Int.reduceNeg, Bool.not_not, List.append_nil, List.nil_append, List.cons_append, z_int, z_bl, z_non, z_tup, z_lst, z_str, z_lint, z_lbl, z_lnon, z_ltup, z_llst, z_lstr, z_whole, esc, d_law_flat, fl4, fl1]
    all_goals
      refine ⟨le_sz (by rw [List.length_map]; omega), ?_⟩
      refine comp_evm qD (fun q => qD (q * f)) (nums k a) (fun q hq => ?_) ?_
      · simp (config := {dsimp := false}) only [↓e_pr, ↓e_some, ↓e_an, ↓e_brT, ↓e_brF, ↓e_asB, ↓e_asI, ↓e_asV, ↓e_stE, ↓e_stE0, ↓e_stL, ↓e_stL0, ↓e_sqN, ↓e_sqR, ↓e_sqB, ↓e_sqC, ↓e_afN, ↓e_afR, ↓e_afB, ↓e_afC, ↓e_rtN, ↓e_rtR, ↓e_var, ↓e_c, ↓e_op, ↓e_un, ↓e_t, ↓e_nt, ↓e_anT, ↓e_orT, ↓e_and, ↓e_or, ↓e_not, ↓e_ite, ↓e_ch, ↓e_nil, ↓e_cons, ↓e_star, ↓e_tup, ↓e_lst, ↓e_mut, ↓e_call, ↓e_isiT, ↓e_lz, ↓e_meth, ↓e_meth0, ↓e_oN, ↓e_oS, ↓e_sl, ↓e_gVar, ↓e_gSub, ↓e_gTp, ↓e_gN, ↓e_gC, ↓e_next, ↓e_seq, ↓e_drop, ↓e_ret, ↓e_retN, ↓e_brk, ↓e_cnt, ↓e_if, ↓e_asg, ↓e_as2, ↓e_as3, ↓e_par, ↓e_aug, ↓e_augS, ↓e_for, ↓e_f0, ↓e_f1, ↓e_while, ↓e_asS1, ↓e_asS2, ↓e_asS3, ↓e_iSeq, ↓e_enum, ↓e_asTI, ↓e_enumC, ↓e_rng1, ↓e_zip, ↓e_zipX, ↓e_comp, ↓e_c0, ↓e_c1, ↓e_y, ↓e_body, ↓e_addI, ↓e_addT, ↓e_addL, ↓e_subI, ↓e_iadd, ↓e_mulI, ↓e_divI, ↓e_modI, ↓e_powI, ↓e_negI, ↓e_mulT, ↓e_mulL, ↓e_cmp, ↓e_eq, ↓e_ne, ↓e_isN, ↓e_isB, ↓e_isNotN, ↓e_isNotB, ↓e_ix, ↓e_abs, ↓e_toI, ↓e_toB1, ↓e_toB0, ↓e_lenT, ↓e_lenL, ↓e_lenRo, ↓e_lenR, ↓e_tupT, ↓e_tupL, ↓e_tupR, ↓e_lstT, ↓e_lstL, ↓e_allM, ↓e_in, ↓e_notIn, ↓e_sum, ↓e_max, ↓e_par3, ↓e_pop, ↓e_frz, ↓e_frzR, ↓e_isi, ↓e_slT, ↓e_slL, ↓e_slRo, ↓e_app, ↓e_ext, ↓e_setM, r_it1, r_it2, r_it3, r_it4, r_ls2, r_ls3, r_ml2, r_ml3, r_mg0, r_mgn, r_at0, r_at1, r_at2, r_at3, r_ix0, r_ix1, r_ix2, r_ty1, r_ty2, r_ty3, r_ty4, r_ty5, r_ty6, r_ty7, r_ty8, r_sNt, r_sNi, r_sNb, r_sNs, r_sbt, r_sbi, r_sbb, r_sbs, r_sit, r_sii, r_sib, r_sis, r_sst, r_ssi, r_ssb, r_sss, r_stt, r_sti, r_stb, r_sts, r_slt, r_sli, r_slb, r_sls, r_aN, r_ab, r_ai, r_as, r_at, r_al, r_eqI, r_eqB, r_eqS, r_pu1, r_pu2, r_eqN, r_fr1, r_fx1, r_fx2, r_fx3, r_bo0, r_bo1, r_c0, r_c1, r_c2, r_c3, r_c4, r_c5, r_c6, r_c7, r_c8, r_c9, r_c10, r_c11, r_c12, r_pd0, r_pd1, r_pd2, r_wi0, r_wi1, List.set_cons_zero, List.set_cons_succ, List.getElem?_cons_zero, List.getElem?_cons_succ, ↓reduceIte, List.length_cons, List.length_nil, Nat.zero_add, Nat.reduceAdd, and_true, true_and, decide_true, decide_false, eq_self, beq_self_eq_true, Bool.true_beq, Bool.false_beq, Bool.not_true, Bool.not_false, Int.reduceEq, Int.reduceLT, Int.reduceLE, Int.reduceAdd, Int.reduceSub, Int.reduceMul, Int.reduceNeg, Bool.not_not, List.append_nil, List.nil_append, List.cons_append, z_int, z_bl, z_non, z_tup, z_lst, z_str, z_lint, z_lbl, z_lnon, z_ltup, z_llst, z_lstr, z_whole, q_law_mul (B3a q hq) hf.1 (by omega)]
      have e6 : (nums k a).map (fun q => qD (q * f)) = (nums k (mulA f k a)).map qD := by rw [nums_mulA k a, List.map_map]; rfl
      rw [e6]
      simp (config := {dsimp := false}) only [↓e_pr, ↓e_some, ↓e_an, ↓e_brT, ↓e_brF, ↓e_asB, ↓e_asI, ↓e_asV, ↓e_stE, ↓e_stE0, ↓e_stL, ↓e_stL0, ↓e_sqN, ↓e_sqR, ↓e_sqB, ↓e_sqC, ↓e_afN, ↓e_afR, ↓e_afB, ↓e_afC, ↓e_rtN, ↓e_rtR, ↓e_var, ↓e_c, ↓e_op, ↓e_un, ↓e_t, ↓e_nt, ↓e_anT, ↓e_orT, ↓e_and, ↓e_or, ↓e_not, ↓e_ite, ↓e_ch, ↓e_nil, ↓e_cons, ↓e_star, ↓e_tup, ↓e_lst, ↓e_mut, ↓e_call, ↓e_isiT, ↓e_lz, ↓e_meth, ↓e_meth0, ↓e_oN, ↓e_oS, ↓e_sl, ↓e_gVar, ↓e_gSub, ↓e_gTp, ↓e_gN, ↓e_gC, ↓e_next, ↓e_seq, ↓e_drop, ↓e_ret, ↓e_retN, ↓e_brk, ↓e_cnt, ↓e_if, ↓e_asg, ↓e_as2, ↓e_as3, ↓e_par, ↓e_aug, ↓e_augS, ↓e_for, ↓e_f0, ↓e_f1, ↓e_while, ↓e_asS1, ↓e_asS2, ↓e_asS3, ↓e_iSeq, ↓e_enum, ↓e_asTI, ↓e_enumC, ↓e_rng1, ↓e_zip, ↓e_zipX, ↓e_comp, ↓e_c0, ↓e_c1, ↓e_y, ↓e_body, ↓e_addI, ↓e_addT, ↓e_addL, ↓e_subI, ↓e_iadd, ↓e_mulI, ↓e_divI, ↓e_modI, ↓e_powI, ↓e_negI, ↓e_mulT, ↓e_mulL, ↓e_cmp, ↓e_eq, ↓e_ne, ↓e_isN, ↓e_isB, ↓e_isNotN, ↓e_isNotB, ↓e_ix, ↓e_abs, ↓e_toI, ↓e_toB1, ↓e_toB0, ↓e_lenT, ↓e_lenL, ↓e_lenRo, ↓e_lenR, ↓e_tupT, ↓e_tupL, ↓e_tupR, ↓e_lstT, ↓e_lstL, ↓e_allM, ↓e_in, ↓e_notIn, ↓e_sum, ↓e_max, ↓e_par3, ↓e_pop, ↓e_frz, ↓e_frzR, ↓e_isi, ↓e_slT, ↓e_slL, ↓e_slRo, ↓e_app, ↓e_ext, ↓e_setM, r_it1, r_it2, r_it3, r_it4, r_ls2, r_ls3, r_ml2, r_ml3, r_mg0, r_mgn, r_at0, r_at1, r_at2, r_at3, r_ix0, r_ix1, r_ix2, r_ty1, r_ty2, r_ty3, r_ty4, r_ty5, r_ty6, r_ty7, r_ty8, r_sNt, r_sNi, r_sNb, r_sNs, r_sbt, r_sbi, r_sbb, r_sbs, r_sit, r_sii, r_sib, r_sis, r_sst, r_ssi, r_ssb, r_sss, r_stt, r_sti, r_stb, r_sts, r_slt, r_sli, r_slb, r_sls, r_aN, r_ab, r_ai, r_as, r_at, r_al, r_eqI, r_eqB, r_eqS, r_pu1, r_pu2, r_eqN, r_fr1, r_fx1, r_fx2, r_fx3, r_bo0, r_bo1, r_c0, r_c1, r_c2, r_c3, r_c4, r_c5, r_c6, r_c7, r_c8, r_c9, r_c10, r_c11, r_c12, r_pd0, r_pd1, r_pd2, r_wi0, r_wi1, List.set_cons_zero, List.set_cons_succ, List.getElem?_cons_zero, List.getElem?_cons_succ, ↓reduceIte, List.length_cons, List.length_nil, Nat.zero_add, Nat.reduceAdd, and_true, true_and, decide_true, decide_false, eq_self, beq_self_eq_true, Bool.true_beq, Bool.false_beq, Bool.not_true, Bool.not_false, Int.reduceEq, Int.reduceLT, Int.reduceLE, Int.reduceAdd, Int.reduceSub, Int.reduceMul, Int.reduceNeg, Bool.not_not, List.append_nil, List.nil_append, List.cons_append, z_int, z_bl, z_non, z_tup, z_lst, z_str, z_lint, z_lbl, z_lnon, z_ltup, z_llst, z_lstr, z_whole, same, d_potential]
      refine (pl4 _).mono ?_
      rintro d h8 ⟨rfl, z12, rfl⟩
      simp (config := {dsimp := false}) only [↓e_pr, ↓e_some, ↓e_an, ↓e_brT, ↓e_brF, ↓e_asB, ↓e_asI, ↓e_asV, ↓e_stE, ↓e_stE0, ↓e_stL, ↓e_stL0, ↓e_sqN, ↓e_sqR, ↓e_sqB, ↓e_sqC, ↓e_afN, ↓e_afR, ↓e_afB, ↓e_afC, ↓e_rtN, ↓e_rtR, ↓e_var, ↓e_c, ↓e_op, ↓e_un, ↓e_t, ↓e_nt, ↓e_anT, ↓e_orT, ↓e_and, ↓e_or, ↓e_not, ↓e_ite, ↓e_ch, ↓e_nil, ↓e_cons, ↓e_star, ↓e_tup, ↓e_lst, ↓e_mut, ↓e_call, ↓e_isiT, ↓e_lz, ↓e_meth, ↓e_meth0, ↓e_oN, ↓e_oS, ↓e_sl, ↓e_gVar, ↓e_gSub, ↓e_gTp, ↓e_gN, ↓e_gC, ↓e_next, ↓e_seq, ↓e_drop, ↓e_ret, ↓e_retN, ↓e_brk, ↓e_cnt, ↓e_if, ↓e_asg, ↓e_as2, ↓e_as3, ↓e_par, ↓e_aug, ↓e_augS, ↓e_for, ↓e_f0, ↓e_f1, ↓e_while, ↓e_asS1, ↓e_asS2, ↓e_asS3, ↓e_iSeq, ↓e_enum, ↓e_asTI, ↓e_enumC, ↓e_rng1, ↓e_zip, ↓e_zipX, ↓e_comp, ↓e_c0, ↓e_c1, ↓e_y, ↓e_body, ↓e_addI, ↓e_addT, ↓e_addL, ↓e_subI, ↓e_iadd, ↓e_mulI, ↓e_divI, ↓e_modI, ↓e_powI, ↓e_negI, ↓e_mulT, ↓e_mulL, ↓e_cmp, ↓e_eq, ↓e_ne, ↓e_isN, ↓e_isB, ↓e_isNotN, ↓e_isNotB, ↓e_ix, ↓e_abs, ↓e_toI, ↓e_toB1, ↓e_toB0, ↓e_lenT, ↓e_lenL, ↓e_lenRo, ↓e_lenR, ↓e_tupT, ↓e_tupL, ↓e_tupR, ↓e_lstT, ↓e_lstL, ↓e_allM, ↓e_in, ↓e_notIn, ↓e_sum, ↓e_max, ↓e_par3, ↓e_pop, ↓e_frz, ↓e_frzR, ↓e_isi, ↓e_slT, ↓e_slL, ↓e_slRo, ↓e_app, ↓e_ext, ↓e_setM, r_it1, r_it2, r_it3, r_it4, r_ls2, r_ls3, r_ml2, r_ml3, r_mg0, r_mgn, r_at0, r_at1, r_at2, r_at3, r_ix0, r_ix1, r_ix2, r_ty1, r_ty2, r_ty3, r_ty4, r_ty5, r_ty6, r_ty7, r_ty8, r_sNt, r_sNi, r_sNb, r_sNs, r_sbt, r_sbi, r_sbb, r_sbs, r_sit, r_sii, r_sib, r_sis, r_sst, r_ssi, r_ssb, r_sss, r_stt, r_sti, r_stb, r_sts, r_slt, r_sli, r_slb, r_sls, r_aN, r_ab, r_ai, r_as, r_at, r_al, r_eqI, r_eqB, r_eqS, r_pu1, r_pu2, r_eqN, r_fr1, r_fx1, r_fx2, r_fx3, r_bo0, r_bo1, r_c0, r_c1, r_c2, r_c3, r_c4, r_c5, r_c6, r_c7, r_c8, r_c9, r_c10, r_c11, r_c12, r_pd0, r_pd1, r_pd2, r_wi0, r_wi1, List.set_cons_zero, List.set_cons_succ, List.getElem?_cons_zero, List.getElem?_cons_succ, ↓reduceIte, List.length_cons, List.length_nil, Nat.zero_add, Nat.reduceAdd, and_true, true_and, decide_true, decide_false, eq_self, beq_self_eq_true, Bool.true_beq, Bool.false_beq, Bool.not_true, Bool.not_false, Int.reduceEq, Int.reduceLT, Int.reduceLE, Int.reduceAdd, Int.reduceSub, Int.reduceMul, Int.reduceNeg, Bool.not_not, List.append_nil, List.nil_append, List.cons_append, z_int, z_bl, z_non, z_tup, z_lst, z_str, z_lint, z_lbl, z_lnon, z_ltup, z_llst, z_lstr, z_whole, q_law_mul pb1 hf.1 (by omega), pmul, r_eqQ, eno, eshz]
      refine (sp_alike (a_pl k a) (Nat.le_trans wa (Nat.le_trans (show _ ≤ 60 by omega) (by decide)))).mono ?_
      rintro d h9 ⟨rfl, z13, rfl⟩
      simp (config := {dsimp := false}) only [↓e_pr, ↓e_some, ↓e_an, ↓e_brT, ↓e_brF, ↓e_asB, ↓e_asI, ↓e_asV, ↓e_stE, ↓e_stE0, ↓e_stL, ↓e_stL0, ↓e_sqN, ↓e_sqR, ↓e_sqB, ↓e_sqC, ↓e_afN, ↓e_afR, ↓e_afB, ↓e_afC, ↓e_rtN, ↓e_rtR, ↓e_var, ↓e_c, ↓e_op, ↓e_un, ↓e_t, ↓e_nt, ↓e_anT, ↓e_orT, ↓e_and, ↓e_or, ↓e_not, ↓e_ite, ↓e_ch, ↓e_nil, ↓e_cons, ↓e_star, ↓e_tup, ↓e_lst, ↓e_mut, ↓e_call, ↓e_isiT, ↓e_lz, ↓e_meth, ↓e_meth0, ↓e_oN, ↓e_oS, ↓e_sl, ↓e_gVar, ↓e_gSub, ↓e_gTp, ↓e_gN, ↓e_gC, ↓e_next, ↓e_seq, ↓e_drop, ↓e_ret, ↓e_retN, ↓e_brk, ↓e_cnt, ↓e_if, ↓e_asg, ↓e_as2, ↓e_as3, ↓e_par, ↓e_aug, ↓e_augS, ↓e_for, ↓e_f0, ↓e_f1, ↓e_while, ↓e_asS1, ↓e_asS2, ↓e_asS3, ↓e_iSeq, ↓e_enum, ↓e_asTI, ↓e_enumC, ↓e_rng1, ↓e_zip, ↓e_zipX, ↓e_comp, ↓e_c0, ↓e_c1, ↓e_y, ↓e_body, ↓e_addI, ↓e_addT, ↓e_addL, ↓e_subI, ↓e_iadd, ↓e_mulI, ↓e_divI, ↓e_modI, ↓e_powI, ↓e_negI, ↓e_mulT, ↓e_mulL, ↓e_cmp, ↓e_eq, ↓e_ne, ↓e_isN, ↓e_isB, ↓e_isNotN, ↓e_isNotB, ↓e_ix, ↓e_abs, ↓e_toI, ↓e_toB1, ↓e_toB0, ↓e_lenT, ↓e_lenL, ↓e_lenRo, ↓e_lenR, ↓e_tupT, ↓e_tupL, ↓e_tupR, ↓e_lstT, ↓e_lstL, ↓e_allM, ↓e_in, ↓e_notIn, ↓e_sum, ↓e_max, ↓e_par3, ↓e_pop, ↓e_frz, ↓e_frzR, ↓e_isi, ↓e_slT, ↓e_slL, ↓e_slRo, ↓e_app, ↓e_ext, ↓e_setM, r_it1, r_it2, r_it3, r_it4, r_ls2, r_ls3, r_ml2, r_ml3, r_mg0, r_mgn, r_at0, r_at1, r_at2, r_at3, r_ix0, r_ix1, r_ix2, r_ty1, r_ty2, r_ty3, r_ty4, r_ty5, r_ty6, r_ty7, r_ty8, r_sNt, r_sNi, r_sNb, r_sNs, r_sbt, r_sbi, r_sbb, r_sbs, r_sit, r_sii, r_sib, r_sis, r_sst, r_ssi, r_ssb, r_sss, r_stt, r_sti, r_stb, r_sts, r_slt, r_sli, r_slb, r_sls, r_aN, r_ab, r_ai, r_as, r_at, r_al, r_eqI, r_eqB, r_eqS, r_pu1, r_pu2, r_eqN, r_fr1, r_fx1, r_fx2, r_fx3, r_bo0, r_bo1, r_c0, r_c1, r_c2, r_c3, r_c4, r_c5, r_c6, r_c7, r_c8, r_c9, r_c10, r_c11, r_c12, r_pd0, r_pd1, r_pd2, r_wi0, r_wi1, List.set_cons_zero, List.set_cons_succ, List.getElem?_cons_zero, List.getElem?_cons_succ, ↓reduceIte, List.length_cons, List.length_nil, Nat.zero_add, Nat.reduceAdd, and_true, true_and, decide_true, decide_false, eq_self, beq_self_eq_true, Bool.true_beq, Bool.false_beq, Bool.not_true, Bool.not_false, Int.reduceEq, Int.reduceLT, Int.reduceLE, Int.reduceAdd, Int.reduceSub, Int.reduceMul, Int.reduceNeg, Bool.not_not, List.append_nil, List.nil_append, List.cons_append, z_int, z_bl, z_non, z_tup, z_lst, z_str, z_lint, z_lbl, z_lnon, z_ltup, z_llst, z_lstr, z_whole]
      exact ⟨((((((B7.app z8).app z9).app z10).app z11).app z12).app z13).mono (by omega), _, rfl, rfl⟩
  · rintro f ρ h ⟨rfl, B, vs, _, rfl⟩
    simp (config := {dsimp := false}) only [↓e_pr, ↓e_some, ↓e_an, ↓e_brT, ↓e_brF, ↓e_asB, ↓e_asI, ↓e_asV, ↓e_stE, ↓e_stE0, ↓e_stL, ↓e_stL0, ↓e_sqN, ↓e_sqR, ↓e_sqB, ↓e_sqC, ↓e_afN, ↓e_afR, ↓e_afB, ↓e_afC, ↓e_rtN, ↓e_rtR, ↓e_var, ↓e_c, ↓e_op, ↓e_un, ↓e_t, ↓e_nt, ↓e_anT, ↓e_orT, ↓e_and, ↓e_or, ↓e_not, ↓e_ite, ↓e_ch, ↓e_nil, ↓e_cons, ↓e_star, ↓e_tup, ↓e_lst, ↓e_mut, ↓e_call, ↓e_isiT, ↓e_lz, ↓e_meth, ↓e_meth0, ↓e_oN, ↓e_oS, ↓e_sl, ↓e_gVar, ↓e_gSub, ↓e_gTp, ↓e_gN, ↓e_gC, ↓e_next, ↓e_seq, ↓e_drop, ↓e_ret, ↓e_retN, ↓e_brk, ↓e_cnt, ↓e_if, ↓e_asg, ↓e_as2, ↓e_as3, ↓e_par, ↓e_aug, ↓e_augS, ↓e_for, ↓e_f0, ↓e_f1, ↓e_while, ↓e_asS1, ↓e_asS2, ↓e_asS3, ↓e_iSeq, ↓e_enum, ↓e_asTI, ↓e_enumC, ↓e_rng1, ↓e_zip, ↓e_zipX, ↓e_comp, ↓e_c0, ↓e_c1, ↓e_y, ↓e_body, ↓e_addI, ↓e_addT, ↓e_addL, ↓e_subI, ↓e_iadd, ↓e_mulI, ↓e_divI, ↓e_modI, ↓e_powI, ↓e_negI, ↓e_mulT, ↓e_mulL, ↓e_cmp, ↓e_eq, ↓e_ne, ↓e_isN, ↓e_isB, ↓e_isNotN, ↓e_isNotB, ↓e_ix, ↓e_abs, ↓e_toI, ↓e_toB1, ↓e_toB0, ↓e_lenT, ↓e_lenL, ↓e_lenRo, ↓e_lenR, ↓e_tupT, ↓e_tupL, ↓e_tupR, ↓e_lstT, ↓e_lstL, ↓e_allM, ↓e_in, ↓e_notIn, ↓e_sum, ↓e_max, ↓e_par3, ↓e_pop, ↓e_frz, ↓e_frzR, ↓e_isi, ↓e_slT, ↓e_slL, ↓e_slRo, ↓e_app, ↓e_ext, ↓e_setM, r_it1, r_it2, r_it3, r_it4, r_ls2, r_ls3, r_ml2, r_ml3, r_mg0, r_mgn, r_at0, r_at1, r_at2, r_at3, r_ix0, r_ix1, r_ix2, r_ty1, r_ty2, r_ty3, r_ty4, r_ty5, r_ty6, r_ty7, r_ty8, r_sNt, r_sNi, r_sNb, r_sNs, r_sbt, r_sbi, r_sbb, r_sbs, r_sit, r_sii, r_sib, r_sis, r_sst, r_ssi, r_ssb, r_sss, r_stt, r_sti, r_stb, r_sts, r_slt, r_sli, r_slb, r_sls, r_aN, r_ab, r_ai, r_as, r_at, r_al, r_eqI, r_eqB, r_eqS, r_pu1, r_pu2, r_eqN, r_fr1, r_fx1, r_fx2, r_fx3, r_bo0, r_bo1, r_c0, r_c1, r_c2, r_c3, r_c4, r_c5, r_c6, r_c7, r_c8, r_c9, r_c10, r_c11, r_c12, r_pd0, r_pd1, r_pd2, r_wi0, r_wi1, List.set_cons_zero, List.set_cons_succ, List.getElem?_cons_zero, List.getElem?_cons_succ, ↓reduceIte, List.length_cons, List.length_nil, Nat.zero_add, Nat.reduceAdd, and_true, true_and, decide_true, decide_false, eq_self, beq_self_eq_true, Bool.true_beq, Bool.false_beq, Bool.not_true, Bool.not_false, Int.reduceEq, Int.reduceLT, Int.reduceLE, Int.reduceAdd, Int.reduceSub, Int.reduceMul, Int.reduceNeg, Bool.not_not, List.append_nil, List.nil_append, List.cons_append, z_int, z_bl, z_non, z_tup, z_lst, z_str, z_lint, z_lbl, z_lnon, z_ltup, z_llst, z_lstr, z_whole]
theorem law_true (ns : List Int) (hn : ns.length ≤ 63) : ∃ h', d_law [scrD ns] [] = some (.bl true, h') := by
  obtain ⟨d, h, e, rfl⟩ := law_ev ns hn
  exact ⟨h, e⟩

end K19
open PySem PySem.W PyProof.Rows
set_option maxHeartbeats 0 in
theorem PySem.Challenge.cw_spendtold_k19_annotations_summed_covered_holds : PySem.Challenge.rw_spendtold_k19_annotations_summed_covered.Holds := by
  w_on; o_law; k_head; (case hw => w_witness2)
  k_fill
  refine Iv.walk_has (l := PySem.Challenge.rw_spendtold_k19_annotations_summed_covered) (n := 63) (k := 22) (g := K19.d_law) rfl (by decide) rfl ⟨rfl, by decide, by decide⟩ (fun w h Y => PySem.W.kIn_of Y) ?F K19.law_true
  case F =>
    intro w mg h KX G base _ _
    refine' K19.all (Iv.stands_mk KX G ?a0 ?l0 ?c0 ?k0) (Iv.stands_mk KX G ?a1 ?l1 ?c1 ?k1) (Iv.stands_mk KX G ?a2 ?l2 ?c2 ?k2) (Iv.stands_mk KX G ?a3 ?l3 ?c3 ?k3) (Iv.stands_mk KX G ?a4 ?l4 ?c4 ?k4) (Iv.stands_mk KX G ?a5 ?l5 ?c5 ?k5) (Iv.stands_mk KX G ?a6 ?l6 ?c6 ?k6) (Iv.stands_mk KX G ?a7 ?l7 ?c7 ?k7) (Iv.stands_mk KX G ?a8 ?l8 ?c8 ?k8) (Iv.stands_mk KX G ?a9 ?l9 ?c9 ?k9) (Iv.stands_mk KX G ?a10 ?l10 ?c10 ?k10) (Iv.stands_mk KX G ?a11 ?l11 ?c11 ?k11) (Iv.stands_mk KX G ?a12 ?l12 ?c12 ?k12) (Iv.stands_mk KX G ?a13 ?l13 ?c13 ?k13) (Iv.stands_mk KX G ?a14 ?l14 ?c14 ?k14) (Iv.stands_mk KX G ?a15 ?l15 ?c15 ?k15) (Iv.stands_mk KX G ?a16 ?l16 ?c16 ?k16) (Iv.stands_mk KX G ?a17 ?l17 ?c17 ?k17) (Iv.stands_mk KX G ?a18 ?l18 ?c18 ?k18) (Iv.stands_mk KX G ?a19 ?l19 ?c19 ?k19) (Iv.stands_mk KX G ?a20 ?l20 ?c20 ?k20) (Iv.stands_mk KX G ?a21 ?l21 ?c21 ?k21) (Iv.stands_mk KX G ?a22 ?l22 ?c22 ?k22) (Iv.stands_mk KX G ?a23 ?l23 ?c23 ?k23) (Iv.stands_mk KX G ?a24 ?l24 ?c24 ?k24) (Iv.stands_mk KX G ?a25 ?l25 ?c25 ?k25) (Iv.stands_mk KX G ?a26 ?l26 ?c26 ?k26) (Iv.stands_mk KX G ?a27 ?l27 ?c27 ?k27) (Iv.stands_mk KX G ?a28 ?l28 ?c28 ?k28) (Iv.stands_mk KX G ?a29 ?l29 ?c29 ?k29) (Iv.stands_mk KX G ?a30 ?l30 ?c30 ?k30) (Iv.stands_mk KX G ?a31 ?l31 ?c31 ?k31) (Iv.stands_mk KX G ?a32 ?l32 ?c32 ?k32) (Iv.stands_mk KX G ?a33 ?l33 ?c33 ?k33) (Iv.stands_mk KX G ?a34 ?l34 ?c34 ?k34) (Iv.stands_mk KX G ?a35 ?l35 ?c35 ?k35) (Iv.stands_mk KX G ?a36 ?l36 ?c36 ?k36) (Iv.isc_int KX G ?i0) (Iv.isc_tup KX G ?t1 ?u1 (.int (.int .nil)) (by show 2 ≤ sizeLine; decide)) (Iv.isc_str KX G ?i2) (Iv.isc_str KX G ?i3) (Iv.isc_str KX G ?i4) (Iv.none_mk KX G ?z0) (Iv.none_mk KX G ?z1) (Iv.none_mk KX G ?z2) (Iv.none_mk KX G ?z3) (Iv.none_mk KX G ?z4) (Iv.none_mk KX G ?z5) (Iv.none_mk KX G ?z6) (Iv.none_mk KX G ?z7) (Iv.none_mk KX G ?z8) (Iv.none_mk KX G ?z9) (Iv.none_mk KX G ?z10) (Iv.none_mk KX G ?z11) (Iv.none_mk KX G ?z12) (Iv.none_mk KX G ?z13) (Iv.none_mk KX G ?z14)
    (case a0 => k_is); (case l0 => k_is); (case c0 => k_is); (case k0 => k_is); (case a1 => k_is); (case l1 => k_is); (case c1 => k_is); (case k1 => k_is)
    (case a2 => k_is); (case l2 => k_is); (case c2 => k_is); (case k2 => k_is); (case a3 => k_is); (case l3 => k_is); (case c3 => k_is); (case k3 => k_is)
    (case a4 => k_is); (case l4 => k_is); (case c4 => k_is); (case k4 => k_is); (case a5 => k_is); (case l5 => k_is); (case c5 => k_is); (case k5 => k_is)
    (case a6 => k_is); (case l6 => k_is); (case c6 => k_is); (case k6 => k_is); (case a7 => k_is); (case l7 => k_is); (case c7 => k_is); (case k7 => k_is)
    (case a8 => k_is); (case l8 => k_is); (case c8 => k_is); (case k8 => k_is); (case a9 => k_is); (case l9 => k_is); (case c9 => k_is); (case k9 => k_is)
    (case a10 => k_is); (case l10 => k_is); (case c10 => k_is); (case k10 => k_is); (case a11 => k_is); (case l11 => k_is); (case c11 => k_is); (case k11 => k_is)
    (case a12 => k_is); (case l12 => k_is); (case c12 => k_is); (case k12 => k_is); (case a13 => k_is); (case l13 => k_is); (case c13 => k_is); (case k13 => k_is)
    (case a14 => k_is); (case l14 => k_is); (case c14 => k_is); (case k14 => k_is); (case a15 => k_is); (case l15 => k_is); (case c15 => k_is); (case k15 => k_is)
    (case a16 => k_is); (case l16 => k_is); (case c16 => k_is); (case k16 => k_is); (case a17 => k_is); (case l17 => k_is); (case c17 => k_is); (case k17 => k_is)
    (case a18 => k_is); (case l18 => k_is); (case c18 => k_is); (case k18 => k_is); (case a19 => k_is); (case l19 => k_is); (case c19 => k_is); (case k19 => k_is)
    (case a20 => k_is); (case l20 => k_is); (case c20 => k_is); (case k20 => k_is); (case a21 => k_is); (case l21 => k_is); (case c21 => k_is); (case k21 => k_is)
    (case a22 => k_is); (case l22 => k_is); (case c22 => k_is); (case k22 => k_is); (case a23 => k_is); (case l23 => k_is); (case c23 => k_is); (case k23 => k_is)
    (case a24 => k_is); (case l24 => k_is); (case c24 => k_is); (case k24 => k_is); (case a25 => k_is); (case l25 => k_is); (case c25 => k_is); (case k25 => k_is)
    (case a26 => k_is); (case l26 => k_is); (case c26 => k_is); (case k26 => k_is); (case a27 => k_is); (case l27 => k_is); (case c27 => k_is); (case k27 => k_is)
    (case a28 => k_is); (case l28 => k_is); (case c28 => k_is); (case k28 => k_is); (case a29 => k_is); (case l29 => k_is); (case c29 => k_is); (case k29 => k_is)
    (case a30 => k_is); (case l30 => k_is); (case c30 => k_is); (case k30 => k_is); (case a31 => k_is); (case l31 => k_is); (case c31 => k_is); (case k31 => k_is)
    (case a32 => k_is); (case l32 => k_is); (case c32 => k_is); (case k32 => k_is); (case a33 => k_is); (case l33 => k_is); (case c33 => k_is); (case k33 => k_is)
    (case a34 => k_is); (case l34 => k_is); (case c34 => k_is); (case k34 => k_is); (case a35 => k_is); (case l35 => k_is); (case c35 => k_is); (case k35 => k_is)
    (case a36 => k_is); (case l36 => k_is); (case c36 => k_is); (case k36 => k_is); (case i0 => k_is); (case t1 => k_is); (case u1 => k_is); (case i2 => k_is)
    (case i3 => k_is); (case i4 => k_is); (case z0 => k_is); (case z1 => k_is); (case z2 => k_is); (case z3 => k_is); (case z4 => k_is); (case z5 => k_is)
    (case z6 => k_is); (case z7 => k_is); (case z8 => k_is); (case z9 => k_is); (case z10 => k_is); (case z11 => k_is); (case z12 => k_is); (case z13 => k_is)
    (case z14 => k_is)
