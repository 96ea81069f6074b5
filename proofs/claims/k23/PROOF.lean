import PyProof.Rows.All
import Wide.All
import OpenK.AllK
import Wide.FinOn
import HandS.ForMost
import HandS.Zip
import HandS.IsInst
import HandS.Style
import HandS.Wide
import HandS.Deep
import HandS.Flow
import HandS.TupAny
import HandS.TryOnly
import HandS.Flt
import HandS.Zip0
import KE.GoesMore
import KE.GoesEnum
import HandS.SetFor
import HandS.SortRule
import HandS.ExcOwn
import HandS.ExcIs
import HandS.ExcValue
import HandS.WordsExc
import PySem.Challenge.RW_sampleyard_k23_stretches
set_option Elab.async false
set_option linter.all false
set_option maxRecDepth 100000
set_option maxHeartbeats 4000000
/-! P1 -/
/-! a small evaluator over plain data, and why the hand layer's readings follow from its answers -/
namespace PL
open PySem PySem.Spec PyProof.Rows L2

/-- plain data -/
inductive D where
  | non | bl (b : Bool) | int (i : Int) | str (s : Str) | tup (xs : List D) | lst (xs : List D) | flst (xs : List D)
instance : Inhabited D := ⟨.non⟩

mutual
def toPy : D → PyData
  | .non => .none | .bl b => .bool b | .int i => .int i | .str s => .str s
  | .tup xs => .tuple (toPys xs) | .lst xs => .list (toPys xs) | .flst xs => .list (toPys xs)
def toPys : List D → List PyData
  | [] => []
  | x :: xs => toPy x :: toPys xs
end
def shp : Nat → D → Bool
  | 0, _ => false
  | _ + 1, .non => true
  | _ + 1, .bl _ => true
  | _ + 1, .int _ => true
  | _ + 1, .str s => PyData.strOk s
  | n + 1, .tup xs => xs.all (shp n)
  | n + 1, .lst xs => xs.all (shp n)
  | n + 1, .flst xs => xs.all (shp n)
theorem canLayAll_of {f : D → Bool} (hf : ∀ x, f x = true → (toPy x).canLay0 = true) : ∀ xs : List D, xs.all f = true → PyData.canLayAll0 (toPys xs) = true
  | [], _ => by simp [toPys, PyData.canLayAll0]
  | x :: xs, h => by
    simp only [List.all_cons, Bool.and_eq_true] at h
    simp only [toPys, PyData.canLayAll0, Bool.and_eq_true]
    exact ⟨hf x h.1, canLayAll_of hf xs h.2⟩
theorem shp_lay : ∀ (n : Nat) (d : D), shp n d = true → (toPy d).canLay0 = true
  | 0, _, h => by simp [shp] at h
  | _ + 1, .non, _ => rfl
  | _ + 1, .bl _, _ => rfl
  | _ + 1, .int _, _ => rfl
  | _ + 1, .str s, h => by simpa [shp, toPy, PyData.canLay0] using h
  | n + 1, .tup xs, h => by simp only [shp] at h; simp only [toPy, PyData.canLay0]; exact canLayAll_of (shp_lay n) xs h
  | n + 1, .lst xs, h => by simp only [shp] at h; simp only [toPy, PyData.canLay0]; exact canLayAll_of (shp_lay n) xs h
  | n + 1, .flst xs, h => by simp only [shp] at h; simp only [toPy, PyData.canLay0]; exact canLayAll_of (shp_lay n) xs h
theorem depthAll_of {f : D → Bool} {n : Nat} (hf : ∀ x, f x = true → (toPy x).depth ≤ n) : ∀ xs : List D, xs.all f = true → PyData.depthAll (toPys xs) ≤ n
  | [], _ => by simp [toPys, PyData.depthAll]
  | x :: xs, h => by
    simp only [List.all_cons, Bool.and_eq_true] at h
    have h1 := hf x h.1
    have h2 := depthAll_of hf xs h.2
    simp only [toPys, PyData.depthAll]
    omega
theorem shp_depth : ∀ (n : Nat) (d : D), shp n d = true → (toPy d).depth ≤ n
  | 0, _, h => by simp [shp] at h
  | _ + 1, .non, _ => by simp [toPy, PyData.depth]
  | _ + 1, .bl _, _ => by simp [toPy, PyData.depth]
  | _ + 1, .int _, _ => by simp [toPy, PyData.depth]
  | _ + 1, .str s, h => by simp [toPy, PyData.depth]
  | n + 1, .tup xs, h => by simp only [shp] at h; simp only [toPy, PyData.depth]; have := depthAll_of (shp_depth n) xs h; omega
  | n + 1, .lst xs, h => by simp only [shp] at h; simp only [toPy, PyData.depth]; have := depthAll_of (shp_depth n) xs h; omega
  | n + 1, .flst xs, h => by simp only [shp] at h; simp only [toPy, PyData.depth]; have := depthAll_of (shp_depth n) xs h; omega
theorem shp_shaped {d : D} (h : shp 20 d = true) : SeqAt.shaped (toPy d) = true := by
  unfold SeqAt.shaped
  rw [shp_lay _ _ h, Bool.true_and]
  exact decide_eq_true (Nat.le_trans (shp_depth _ _ h) (by decide))
def eqD (a b : D) : Bool := PyData.eqv (toPy a) (toPy b)

/-! ### what stands for what -/
section
variable (K : PySem.W.Frag)
mutual
def R (F : Hp) : V → D → Prop
  | v, .non => v = .non
  | v, .bl b => v = .bl b
  | v, .int i => v = .int i
  | v, .str s => v = .str s
  | v, .tup ds => ∃ a vs, v = .ref a ∧ SqT K F a vs ∧ Rs F vs ds
  | v, .lst ds => ∃ a vs, v = .ref a ∧ F a = some (.lst vs) ∧ Rs F vs ds
  | v, .flst ds => ∃ a vs, v = .ref a ∧ SqL K F a vs ∧ Rs F vs ds
def Rs (F : Hp) : List V → List D → Prop
  | vs, [] => vs = []
  | vs, d :: ds => ∃ v r, vs = v :: r ∧ R F v d ∧ Rs F r ds
end
end
theorem Same.tup {K : PySem.W.Frag} {H H' : Hp} {a : Addr} {xs : List V} (e : Same H H') (h : SqT K H a xs) : SqT K H' a xs := by
  rcases h with (h | ⟨o, h⟩) | h
  · exact .inl (.inl (e _ _ h))
  · exact .inl (.inr ⟨o, e _ _ h⟩)
  · exact .inr h
section
variable {K : PySem.W.Frag} {F F' H H' : Hp}
mutual
theorem R.mono (s : Same F F') : ∀ (d : D) {v : V}, R K F v d → R K F' v d
  | .non, _, h => by simpa only [R] using h
  | .bl _, _, h => by simpa only [R] using h
  | .int _, _, h => by simpa only [R] using h
  | .str _, _, h => by simpa only [R] using h
  | .tup ds, _, h => by
    simp only [R] at h ⊢
    obtain ⟨a, vs, e, t, r⟩ := h
    exact ⟨a, vs, e, PL.Same.tup s t, Rs.mono s ds r⟩
  | .lst ds, _, h => by
    simp only [R] at h ⊢
    obtain ⟨a, vs, e, t, r⟩ := h
    exact ⟨a, vs, e, s _ _ t, Rs.mono s ds r⟩
  | .flst ds, _, h => by
    simp only [R] at h ⊢
    obtain ⟨a, vs, e, t, r⟩ := h
    exact ⟨a, vs, e, s.seq t, Rs.mono s ds r⟩
theorem Rs.mono (s : Same F F') : ∀ (ds : List D) {vs : List V}, Rs K F vs ds → Rs K F' vs ds
  | [], _, h => by simpa only [Rs] using h
  | d :: ds, _, h => by
    simp only [Rs] at h ⊢
    obtain ⟨v, r, e, h1, h2⟩ := h
    exact ⟨v, r, e, R.mono s d h1, Rs.mono s ds h2⟩
end
mutual
theorem R.dp (s : Same F H) : ∀ (d : D) {v : V}, R K F v d → Dp K H v (toPy d)
  | .non, _, h => by simp only [R] at h; subst h; exact .non
  | .bl b, _, h => by simp only [R] at h; subst h; exact .bl b
  | .int i, _, h => by simp only [R] at h; subst h; exact .int i
  | .str x, _, h => by simp only [R] at h; subst h; exact .str x
  | .tup ds, _, h => by
    simp only [R] at h
    obtain ⟨a, vs, rfl, t, r⟩ := h
    exact .tup (PL.Same.tup s t) (Rs.dp s ds r)
  | .lst ds, _, h => by
    simp only [R] at h
    obtain ⟨a, vs, rfl, t, r⟩ := h
    exact .lst (SqL.of (s _ _ t)) (Rs.dp s ds r)
  | .flst ds, _, h => by
    simp only [R] at h
    obtain ⟨a, vs, rfl, t, r⟩ := h
    exact .lst (s.seq t) (Rs.dp s ds r)
theorem Rs.dp (s : Same F H) : ∀ (ds : List D) {vs : List V}, Rs K F vs ds → DpAll K H vs (toPys ds)
  | [], _, h => by simp only [Rs] at h; subst h; exact .nil
  | d :: ds, _, h => by
    simp only [Rs] at h
    obtain ⟨v, r, rfl, h1, h2⟩ := h
    exact .cons (R.dp s d h1) (Rs.dp s ds h2)
end
theorem Rs.length : ∀ {ds : List D} {vs : List V}, Rs K F vs ds → vs.length = ds.length
  | [], _, h => by simp only [Rs] at h; subst h; rfl
  | d :: ds, _, h => by
    simp only [Rs] at h
    obtain ⟨v, r, rfl, _, h2⟩ := h
    rw [List.length_cons, List.length_cons, Rs.length h2]
theorem Rs.get : ∀ {ds : List D} {vs : List V} {i : Nat} {d : D}, Rs K F vs ds → ds[i]? = some d → ∃ v, vs[i]? = some v ∧ R K F v d
  | [], _, _, _, _, h => by simp at h
  | d :: ds, _, 0, _, h, e => by
    simp only [Rs] at h
    obtain ⟨v, r, rfl, h1, h2⟩ := h
    simp only [List.getElem?_cons_zero, Option.some.injEq] at e
    subst e
    exact ⟨v, rfl, h1⟩
  | d :: ds, _, i + 1, d', h, e => by
    simp only [Rs] at h
    obtain ⟨v, r, rfl, h1, h2⟩ := h
    simp only [List.getElem?_cons_succ] at e
    obtain ⟨u, h3, h4⟩ := Rs.get h2 e
    exact ⟨u, by simpa using h3, h4⟩
theorem Rs.append : ∀ {ds es : List D} {vs us : List V}, Rs K F vs ds → Rs K F us es → Rs K F (vs ++ us) (ds ++ es)
  | [], _, _, _, h, g => by simp only [Rs] at h; subst h; exact g
  | d :: ds, _, _, _, h, g => by
    simp only [Rs] at h
    obtain ⟨v, r, rfl, h1, h2⟩ := h
    show Rs K F _ (d :: (ds ++ _))
    simp only [Rs]
    exact ⟨v, _, rfl, h1, Rs.append h2 g⟩
theorem Rs.take : ∀ {ds : List D} {vs : List V} (n : Nat), Rs K F vs ds → Rs K F (vs.take n) (ds.take n)
  | _, _, 0, _ => by simp [Rs]
  | [], _, n + 1, h => by simp only [Rs] at h; subst h; simp [Rs]
  | d :: ds, _, n + 1, h => by
    simp only [Rs] at h
    obtain ⟨v, r, rfl, h1, h2⟩ := h
    simp only [List.take_succ_cons, Rs]
    exact ⟨v, _, rfl, h1, Rs.take n h2⟩
theorem Rs.drop : ∀ {ds : List D} {vs : List V} (n : Nat), Rs K F vs ds → Rs K F (vs.drop n) (ds.drop n)
  | _, _, 0, h => by simpa using h
  | [], _, n + 1, h => by simp only [Rs] at h; subst h; simp [Rs]
  | d :: ds, _, n + 1, h => by
    simp only [Rs] at h
    obtain ⟨v, r, rfl, h1, h2⟩ := h
    simp only [List.drop_succ_cons]
    exact Rs.drop n h2
theorem Rs.set : ∀ {ds : List D} {vs : List V} (n : Nat) {v : V} {d : D}, Rs K F vs ds → R K F v d → Rs K F (vs.set n v) (ds.set n d)
  | [], _, n, _, _, h, _ => by simp only [Rs] at h; subst h; simp [Rs]
  | d :: ds, _, 0, u, e, h, g => by
    simp only [Rs] at h
    obtain ⟨v, r, rfl, h1, h2⟩ := h
    simp only [List.set_cons_zero, Rs]
    exact ⟨_, _, rfl, g, h2⟩
  | d :: ds, _, n + 1, u, e, h, g => by
    simp only [Rs] at h
    obtain ⟨v, r, rfl, h1, h2⟩ := h
    simp only [List.set_cons_succ, Rs]
    exact ⟨v, _, rfl, h1, Rs.set n h2 g⟩
theorem Rs.eraseIdx : ∀ {ds : List D} {vs : List V} (n : Nat), Rs K F vs ds → Rs K F (vs.eraseIdx n) (ds.eraseIdx n)
  | [], _, n, h => by simp only [Rs] at h; subst h; simp [Rs]
  | d :: ds, _, 0, h => by
    simp only [Rs] at h
    obtain ⟨v, r, rfl, h1, h2⟩ := h
    simpa only [List.eraseIdx_cons_zero] using h2
  | d :: ds, _, n + 1, h => by
    simp only [Rs] at h
    obtain ⟨v, r, rfl, h1, h2⟩ := h
    simp only [List.eraseIdx_cons_succ, Rs]
    exact ⟨v, _, rfl, h1, Rs.eraseIdx n h2⟩
theorem Rs.rep {ds : List D} {vs : List V} (h : Rs K F vs ds) : ∀ n : Nat, Rs K F (List.replicate n vs).flatten (List.replicate n ds).flatten
  | 0 => by simp [Rs]
  | n + 1 => by
    rw [List.replicate_succ, List.replicate_succ, List.flatten_cons, List.flatten_cons]
    exact Rs.append h (Rs.rep h n)
theorem Rs.reverse : ∀ {ds : List D} {vs : List V}, Rs K F vs ds → Rs K F vs.reverse ds.reverse
  | [], _, h => by simp only [Rs] at h; subst h; simp [Rs]
  | d :: ds, _, h => by
    simp only [Rs] at h
    obtain ⟨v, r, rfl, h1, h2⟩ := h
    simp only [List.reverse_cons]
    exact Rs.append (Rs.reverse h2) (by simp only [Rs]; exact ⟨v, [], rfl, h1, rfl⟩)
theorem Rs.one {v : V} {d : D} (h : R K F v d) : Rs K F [v] [d] := by simp only [Rs]; exact ⟨v, [], rfl, h, rfl⟩

/-! ### two heaps: F what stands for ever, H what stands -/
structure Gr (F H F' H' : Hp) : Prop where
  ff : Same F F'
  hh : Same H H'
  fh : Same F' H'
  fr : ∀ a, H a ≠ none → F' a = F a
theorem Gr.refl (s : Same F H) : Gr F H F H := ⟨Same.refl _, Same.refl _, s, fun _ _ => rfl⟩
theorem Gr.trans {F1 H1 F2 H2 : Hp} (a : Gr F H F1 H1) (b : Gr F1 H1 F2 H2) : Gr F H F2 H2 := ⟨a.ff.trans b.ff, a.hh.trans b.hh, b.fh, fun x h => by
  have h1 : H1 x ≠ none := by
    cases e : H x with
    | none => exact absurd e h
    | some o => rw [a.hh x o e]; exact fun z => nomatch z
  rw [b.fr x h1, a.fr x h]⟩
theorem same_upd {H : Hp} {p : Addr} {o : HO} (h : H p = none) : Same H (upd H p o) := fun b x e => by
  rw [upd_ne (ne_of_none e h)]
  exact e
theorem same_both {F H : Hp} {p : Addr} {o : HO} (s : Same F H) : Same (upd F p o) (upd H p o) := fun b x e => by
  by_cases hb : b = p
  · subst hb
    rw [upd_same] at e ⊢
    exact e
  · rw [upd_ne hb] at e ⊢
    exact s b x e
theorem none_of_same {F H : Hp} {p : Addr} (s : Same F H) (h : H p = none) : F p = none := by
  cases e : F p with
  | none => rfl
  | some o => rw [s p o e] at h; cases h
/-- a new thing that stands for ever -/
theorem Gr.new {F H : Hp} {p : Addr} (o : HO) (s : Same F H) (h : H p = none) : Gr F H (upd F p o) (upd H p o) :=
  ⟨same_upd (none_of_same s h), same_upd h, same_both s, fun a ha => upd_ne fun e => ha (e ▸ h)⟩
/-- a new thing that may yet change -/
theorem Gr.newO {F H : Hp} {p : Addr} (o : HO) (s : Same F H) (h : H p = none) : Gr F H F (upd H p o) :=
  ⟨Same.refl _, same_upd h, s.trans (same_upd h), fun _ _ => rfl⟩
/-- a thing younger than the start is held for ever from now on -/
theorem Gr.freeze {F H F' H' : Hp} {p : Addr} {o : HO} (g : Gr F H F' H') (hp : H p = none) (hn : F' p = none) (ho : H' p = some o) : Gr F H (upd F' p o) H' :=
  ⟨g.ff.trans (same_upd hn), g.hh, fun b x e => by
    by_cases hb : b = p
    · subst hb
      rw [upd_same] at e
      rw [ho]
      exact e
    · rw [upd_ne hb] at e
      exact g.fh b x e, fun a ha => by
    have ne : a ≠ p := fun e => ha (by rw [e]; exact hp)
    rw [upd_ne ne]
    exact g.fr a ha⟩
/-- a thing younger than the start changes -/
theorem Gr.mut {F H F' H' : Hp} {p : Addr} {o : HO} (g : Gr F H F' H') (hp : H p = none) (hn : F' p = none) : Gr F H F' (upd H' p o) :=
  ⟨g.ff, fun b x e => by rw [upd_ne (ne_of_none e hp)]; exact g.hh b x e, fun b x e => by rw [upd_ne (ne_of_none e hn)]; exact g.fh b x e, g.fr⟩
theorem Gr.fresh {F H F' H' : Hp} {p : Addr} (g : Gr F H F' H') (h : H' p = none) : H p = none := none_of_same g.hh h

/-- what an expression hands back: a thing for ever, or a list of one's own -/
inductive Rv where
  | pv (d : D) | li (xs : List D)
def Rv.fz : Rv → D
  | .pv d => d
  | .li xs => .lst xs
/-- Rv's meaning behind a step from H -/
def RR (K : PySem.W.Frag) (H F' H' : Hp) (v : V) : Rv → Prop
  | .pv d => R K F' v d
  | .li xs => ∃ a vs, v = .ref a ∧ H' a = some (.lst vs) ∧ Rs K F' vs xs ∧ F' a = none ∧ H a = none
/-- a thing, or a list that may yet change -/
def RV (K : PySem.W.Frag) (F H : Hp) (v : V) (d : D) : Prop := R K F v d ∨ ∃ a vs xs, d = .lst xs ∧ v = .ref a ∧ H a = some (.lst vs) ∧ Rs K F vs xs
theorem RV.mono {F H F' H' : Hp} {v : V} {d : D} (g : Gr F H F' H') (h : RV K F H v d) : RV K F' H' v d := by
  rcases h with h | ⟨a, vs, xs, e, e2, h1, h2⟩
  · exact .inl (h.mono g.ff)
  · exact .inr ⟨a, vs, xs, e, e2, g.hh _ _ h1, h2.mono g.ff⟩
theorem RV.dp (s : Same F H) {d : D} {v : V} (h : RV K F H v d) : Dp K H v (toPy d) := by
  rcases h with h | ⟨a, vs, xs, rfl, rfl, h1, h2⟩
  · exact R.dp s d h
  · exact .lst (SqL.of h1) (Rs.dp s xs h2)
theorem RV.int {v : V} {i : Int} (h : RV K F H v (.int i)) : v = .int i := by
  rcases h with h | ⟨_, _, _, e, _⟩
  · simpa only [R] using h
  · cases e
theorem RV.bl {v : V} {i : Bool} (h : RV K F H v (.bl i)) : v = .bl i := by
  rcases h with h | ⟨_, _, _, e, _⟩
  · simpa only [R] using h
  · cases e
theorem RV.non {v : V} (h : RV K F H v .non) : v = .non := by
  rcases h with h | ⟨_, _, _, e, _⟩
  · simpa only [R] using h
  · cases e
theorem RV.str {v : V} {i : Str} (h : RV K F H v (.str i)) : v = .str i := by
  rcases h with h | ⟨_, _, _, e, _⟩
  · simpa only [R] using h
  · cases e
theorem RV.tup (s : Same F H) {v : V} {ds : List D} (h : RV K F H v (.tup ds)) : ∃ a vs, v = .ref a ∧ SqT K H a vs ∧ Rs K F vs ds := by
  rcases h with h | ⟨_, _, _, e, _⟩
  · simp only [R] at h
    obtain ⟨a, vs, e, t, r⟩ := h
    exact ⟨a, vs, e, PL.Same.tup s t, r⟩
  · cases e
theorem RV.lst (s : Same F H) {v : V} {ds : List D} (h : RV K F H v (.lst ds)) : ∃ a vs, v = .ref a ∧ H a = some (.lst vs) ∧ Rs K F vs ds := by
  rcases h with h | ⟨a, vs, xs, e, e2, h1, h2⟩
  · simp only [R] at h
    obtain ⟨a, vs, e, t, r⟩ := h
    exact ⟨a, vs, e, s _ _ t, r⟩
  · cases e
    exact ⟨a, vs, e2, h1, h2⟩
theorem RV.flst (s : Same F H) {v : V} {ds : List D} (h : RV K F H v (.flst ds)) : ∃ a vs, v = .ref a ∧ SqL K H a vs ∧ Rs K F vs ds := by
  rcases h with h | ⟨_, _, _, e, _⟩
  · simp only [R] at h
    obtain ⟨a, vs, e, t, r⟩ := h
    exact ⟨a, vs, e, s.seq t, r⟩
  · cases e
/-- a list, of one's own, for ever, or written -/
def asL : D → Option (List D)
  | .lst xs => some xs
  | .flst xs => some xs
  | _ => none
theorem RV.asL (s : Same F H) {v : V} {d : D} {ds : List D} (h : RV K F H v d) (e : asL d = some ds) : ∃ a vs, v = .ref a ∧ SqL K H a vs ∧ Rs K F vs ds := by
  cases d with
  | lst xs =>
    cases e
    obtain ⟨a, vs, e, t, r⟩ := RV.lst s h
    exact ⟨a, vs, e, SqL.of t, r⟩
  | flst xs =>
    cases e
    exact RV.flst s h
  | _ => cases e
/-- a list or a tuple -/
def asQ : D → Option (List D)
  | .lst xs => some xs
  | .flst xs => some xs
  | .tup xs => some xs
  | _ => none
theorem RV.asQ (s : Same F H) {v : V} {d : D} {ds : List D} (h : RV K F H v d) (e : asQ d = some ds) : ∃ a vs, v = .ref a ∧ (SqL K H a vs ∨ SqT K H a vs) ∧ Rs K F vs ds := by
  cases d with
  | lst xs =>
    cases e
    obtain ⟨a, vs, e, t, r⟩ := RV.lst s h
    exact ⟨a, vs, e, .inl (SqL.of t), r⟩
  | flst xs =>
    cases e
    obtain ⟨a, vs, e, t, r⟩ := RV.flst s h
    exact ⟨a, vs, e, .inl t, r⟩
  | tup xs =>
    cases e
    obtain ⟨a, vs, e, t, r⟩ := RV.tup s h
    exact ⟨a, vs, e, .inr t, r⟩
  | _ => cases e
end
end PL

/-! PZ -/
/-! zip of a list and a tuple, either way (and of two of a kind) -/
namespace PL
open PySem PySem.Spec PyProof.Rows L2 RZ
def SqB (K : PySem.W.Frag) (f : Bool) (H : Hp) (a : Addr) (xs : List V) : Prop := match f with | true => SqL K H a xs | false => SqT K H a xs
def AtB (f : Bool) (h : Heap) (it a : Addr) (i : Nat) : Prop := match f with | true => h.IsListIter it a i | false => h.IsTupleIter it a i
def IsB (f : Bool) (h : Heap) (a : Addr) (its : Array Value) : Prop := match f with | true => h.IsList a its | false => h.IsTuple a its
theorem drawsB {prog : Program} {w : World} {A : Around} (hh : A.handled = none) (f : Bool) (it l : Addr) (hne : l ≠ it) (items : Array Value) :
    Draws prog w A it [it, l] items.size (fun i v => items[i]? = some v) (fun i h => AtB f h it l i ∧ IsB f h l items) := by
  cases f with
  | true => exact Draws.list hh it l hne items
  | false => exact Draws.tuple hh it l hne items
theorem AtB.cell {f : Bool} {h : Heap} {it a : Addr} {i : Nat} (x : AtB f h it a i) : ∃ o, h.get? it = some o ∧ ∀ v, o.data ≠ .cell v := by
  cases f with
  | true =>
    obtain ⟨o, e, _, d⟩ := x
    exact ⟨o, e, fun v q => by rw [d] at q; cases q⟩
  | false =>
    obtain ⟨o, e, _, d⟩ := x
    exact ⟨o, e, fun v q => by rw [d] at q; cases q⟩
theorem AtB.moved {f : Bool} {h h' : Heap} {it a : Addr} {i : Nat} (x : AtB f h it a i) (k : ∀ o, h.get? it = some o → h'.get? it = some o) : AtB f h' it a i := by
  cases f with
  | true => exact Heap.IsListIter.at (h := h) x k
  | false => exact Heap.IsTupleIter.at (h := h) x k
section
variable {X : Cx} {pins : List (Addr × Obj)} {σ : L2.St} {H : Hp} {s : Shared}
theorem sqB_its {f : Bool} {a : Addr} {xs : List V} (I : Inv X pins σ H s) (h : SqB X.K f H a xs) : ∃ its : List Value, Vals xs its ∧ IsB f s.heap a its.toArray ∧ a < s.heap.objs.size := by
  cases f with
  | true =>
    obtain ⟨its, rv, p, _⟩ := I.list h
    exact ⟨its, rv, p.isList, p.lt⟩
  | false =>
    obtain ⟨its, rv, p, _⟩ := I.tuple h
    obtain ⟨o, e, _⟩ := id p
    exact ⟨its, rv, p, Heap.lt_size e⟩
theorem sqB_one {f : Bool} {a : Addr} {xs ys : List V} (I : Inv X pins σ H s) (h : SqB X.K f H a xs) (g : SqB X.K f H a ys) : xs = ys := by
  cases f with
  | true => exact I.list_inj h g
  | false => exact I.tuple_inj h g
end
theorem sepOf {z TI TO i1 i2 a b : Addr} (D : ZipApart z TI TO i1 i2 a b) : ZipSep2 z TI TO i1 i2 [i1, a] [i2, b] where
  TIz := D.TIz
  TOz := D.TOz
  TITO := D.TITO
  TIi1 := D.TIi1
  mem1 := by simp
  zf1 := by simp [Ne.symm D.i1z, Ne.symm D.l1z]
  Tf1 := by simp [D.TOi1, Ne.symm D.l1TO]
  TIi2 := D.TIi2
  mem2 := by simp
  zf2 := by simp [Ne.symm D.i2z, Ne.symm D.l2z]
  Tf2 := by simp [D.TOi2, Ne.symm D.l2TO]
  sep1_2 := by simp [D.i12, Ne.symm D.l2i1]
  sep2_1 := by simp [Ne.symm D.i12, Ne.symm D.l1i2]
def ItzG (K : PySem.W.Frag) (fa fb : Bool) (a b : Addr) : It where
  go i H := ∃ (xs ys : List V) (x y : V), SqB K fa H a xs ∧ SqB K fb H b ys ∧ xs[i]? = some x ∧ ys[i]? = some y
  yld i H v H' := ∃ T x y, v = .ref T ∧ H T = none ∧ H' = upd H T (.tup [x, y]) ∧ (∀ xs, SqB K fa H a xs → xs[i]? = some x) ∧ ∀ ys, SqB K fb H b ys → ys[i]? = some y
  stop i H := ∃ xs ys : List V, SqB K fa H a xs ∧ SqB K fb H b ys ∧ i ≤ xs.length ∧ i ≤ ys.length ∧ (xs.length = i ∨ ys.length = i)
theorem turn_zipG {P : Program} {w : World} {K : PySem.W.Frag} {elts : List Expr} {kk : Nat} {tpos : Pos} {fa fb : Bool} {a b z TI TO i1 i2 : Addr} (D : ZipApart z TI TO i1 i2 a b) :
    Turn P w K (.Tuple elts kk tpos) (ItzG K fa fb a b) [z, TI, TO, i1, i2] z fun i h => IsZip h z TI TO .none ∧ IsTupOf2 h TI (.ref i1) (.ref i2) ∧ (∃ x y, IsTupOf2 h TO x y) ∧ AtB fa h i1 a i ∧ AtB fb h i2 b i where
  mem := by simp
  obj i h st c hc := by
    obtain ⟨hz, hTI, ⟨x, y, hTO⟩, st1, st2⟩ := st
    simp only [List.mem_cons, List.not_mem_nil, or_false] at hc
    rcases hc with rfl | rfl | rfl | rfl | rfl
    · exact ⟨_, hz, fun v q => by cases q⟩
    · exact ⟨_, hTI, fun v q => by cases q⟩
    · exact ⟨_, hTO, fun v q => by cases q⟩
    · exact st1.cell
    · exact st2.cell
  keep i h h' st k := by
    obtain ⟨hz, hTI, ⟨x, y, hTO⟩, st1, st2⟩ := st
    refine ⟨k z (by simp) _ hz, k TI (by simp) _ hTI, ⟨x, y, k TO (by simp) _ hTO⟩, st1.moved fun o => k i1 (by simp) o, st2.moved fun o => k i2 (by simp) o⟩
  item := by
    intro X eP ew eK hc i pins s σ H E I hf st hg
    subst eP ew eK
    obtain ⟨hz, hTI, ⟨x0, y0, hTO⟩, st1, st2⟩ := st
    obtain ⟨xs, ys, x, y, qx, qy, hx, hy⟩ := hg
    obtain ⟨its, rv, p, _⟩ := sqB_its I qx
    obtain ⟨its2, rv2, p2, _⟩ := sqB_its I qy
    obtain ⟨u, hu, ru⟩ := rv.get hx
    obtain ⟨u2, hu2, ru2⟩ := rv2.get hy
    have n1 : i < its.toArray.size := by simpa using (List.getElem?_eq_some_iff.mp hu).1
    have n2 : i < its2.toArray.size := by simpa using (List.getElem?_eq_some_iff.mp hu2).1
    have zl : z < s.heap.objs.size := Heap.lt_size hz
    have S := sepOf D
    refine wpAny_pyNext_zipD2_item (A := X.A) S (drawsB (A := X.A.in1) (I.ok.hd hc) fa i1 a D.l1i1 its.toArray) (drawsB (A := X.A.in1) (I.ok.hd hc) fb i2 b D.l2i2 its2.toArray) hz hTI hTO ⟨st1, p⟩ ⟨st2, p2⟩ n1 n2 fun v1 v2 h' tk e1 e2 z' to' d1 d2 hT hsz hk => ?_
    have ev1 : v1 = u := by
      rw [List.getElem?_toArray, hu] at e1
      exact (Option.some.inj e1).symm
    have ev2 : v2 = u2 := by
      rw [List.getElem?_toArray, hu2] at e2
      exact (Option.some.inj e2).symm
    subst ev1 ev2
    refine ⟨_, rfl, ?_⟩
    refine wpAny_letOwnedTupleGo_zip (s := { s with heap := h', toks := tk }) z' fun g zg sb => ?_
    have hT2 : g.get? s.heap.objs.size = some { cls := .type "tuple", data := .seq #[v1, v2] } := (sb.2 _ (Nat.ne_of_gt zl)).trans hT
    have nw : ObjOk X.prog X.w (upd H s.heap.objs.size (.tup [x, y])) g s.heap.objs.size (.tup [x, y]) := ⟨by show 2 ≤ sizeLine; decide, [v1, v2], .cons ru (.cons ru2 .nil), ⟨_, hT2, rfl, _, rfl⟩⟩
    have I1 : Inv X pins σ (upd H s.heap.objs.size (.tup [x, y])) { s with heap := g, toks := tk } := by
      refine I.turnedNew (ch := [z, TI, TO, i1, i2]) (fun c o hb q => ?_) hf (Nat.le_refl _) nw
      simp only [List.mem_cons, List.not_mem_nil, or_false, not_or] at hb
      exact (sb.2 c hb.1).trans (hk c o hb.1 hb.2.2.1 hb.2.2.2.1 hb.2.2.2.2 q)
    refine ⟨.ref s.heap.objs.size, _, I1, rfl, ⟨_, x, y, rfl, I.hok.fresh (Nat.le_refl _), rfl, fun l hl => ?_, fun l hl => ?_⟩, ⟨zg, ?_, ⟨v1, v2, ?_⟩, ?_, ?_⟩, fun c hcm => ?_⟩
    · rw [sqB_one I hl qx]; exact hx
    · rw [sqB_one I hl qy]; exact hy
    · exact (sb.2 _ D.TIz).trans (hk _ _ D.TIz D.TITO D.TIi1 D.TIi2 hTI)
    · exact (sb.2 _ D.TOz).trans to'
    · exact d1.1.moved fun o q => (sb.2 i1 D.i1z).trans q
    · exact d2.1.moved fun o q => (sb.2 i2 D.i2z).trans q
    · have lt : c < s.heap.objs.size := by
        simp only [List.mem_cons, List.not_mem_nil, or_false] at hcm
        rcases hcm with rfl | rfl | rfl | rfl | rfl
        · exact zl
        · exact Heap.lt_size hTI
        · exact Heap.lt_size hTO
        · obtain ⟨_, e, _⟩ := st1.cell; exact Heap.lt_size e
        · obtain ⟨_, e, _⟩ := st2.cell; exact Heap.lt_size e
      rw [upd_ne (Nat.ne_of_lt lt)]
      exact (hf c hcm).1
  done := by
    intro X eP ew eK hc i pins s σ H E I hf st hg
    subst eP ew eK
    obtain ⟨hz, hTI, ⟨x0, y0, hTO⟩, st1, st2⟩ := st
    obtain ⟨xs, ys, qx, qy, le1, le2, hend⟩ := hg
    obtain ⟨its, rv, p, _⟩ := sqB_its I qx
    obtain ⟨its2, rv2, p2, _⟩ := sqB_its I qy
    have l1 := rv.length
    have l2 := rv2.length
    refine wpAny_pyNext_zipD2_end (A := X.A) (sepOf D) (drawsB (A := X.A.in1) (I.ok.hd hc) fa i1 a D.l1i1 its.toArray) (drawsB (A := X.A.in1) (I.ok.hd hc) fb i2 b D.l2i2 its2.toArray) hz hTI hTO ⟨st1, p⟩ ⟨st2, p2⟩ (by simp; omega) (by simp; omega) (by simp; omega) fun h' tk hk => ⟨rfl, ?_⟩
    refine I.turnedL (ch := [z, TI, TO, i1, i2]) (fun c o hb q => ?_) hf
    simp only [List.mem_cons, List.not_mem_nil, or_false, not_or] at hb
    exact hk c o hb.1 hb.2.2.1 hb.2.2.2.1 hb.2.2.2.2 q
  self A i s Q E st h := wpAny_pyIter_zip st.1 h
def iZipG (K : PySem.W.Frag) (ta : TA) : TI := fun σ H R => ta σ H fun vs H1 => ∃ fa fb a b xs ys, vs = [.ref a, .ref b] ∧ SqB K fa H1 a xs ∧ SqB K fb H1 b ys ∧ R (ItzG K fa fb a b) H1
def objB (f : Bool) (l : Addr) : Obj := match f with
  | true => ⟨.type "list_iterator", none, .fields #[.ref l, .int 0 0], #[]⟩
  | false => ⟨.type "tuple_iterator", none, .fields #[.ref l, .int 0 0], #[]⟩
theorem begB (f : Bool) (l : Addr) (items : Array Value) : Begins (.ref l) (objB f l) fun h => IsB f h l items := by
  cases f with
  | true => exact begins_list l items
  | false => exact begins_tuple l items
theorem atB_new {f : Bool} {h : Heap} {it l : Addr} (e : h.get? it = some (objB f l)) : AtB f h it l 0 := by
  cases f with
  | true => exact ⟨_, e, rfl, rfl⟩
  | false => exact ⟨_, e, rfl, rfl⟩
theorem pi_zipG {X : Cx} {e e2 : Expr} {ta : TA} {p pos tpos : Pos} {elts : List Expr} {kk : Nat} (hg : Gl X "zip") (hm : X.mg "zip" = none) (ha : PA X [e, e2] ta)
    (hs : starEach [e, e2] X.env = (false, eval e X.env) :: starEach [e2] X.env) (hpl : (backTo pos (starEach [e2] X.env)).any (·.1) = false) :
    PI X (.Tuple elts kk tpos) (.Call (.Name "zip" p) [e, e2] [] pos) (iZipG X.K ta) := by
  refine ⟨fun pins s σ H R I h => ?_⟩
  refine Call_ (ld_blt I hg hm PyProof.Rows.boot_zip (PyProof.Rows.callWith_type1 ?_ hs hpl))
  refine thn (ha.run pos pins s σ H _ I h) fun us s1 ⟨vs, H1, I1, r1, q1⟩ => ?_
  obtain ⟨fa, fb, a, b, xs, ys, ex, qx, qy, q⟩ := q1
  subst ex
  cases r1 with
  | cons r rr =>
    cases rr with
    | cons r' rr =>
      cases rr
      cases r
      cases r'
      obtain ⟨its, rv, p1, l1⟩ := sqB_its I1 qx
      obtain ⟨its2, rv2, p2, l2⟩ := sqB_its I1 qy
      refine zip_begins2 (begB fa a its.toArray) (begB fb b its2.toArray) p1 p2 fun h' hz hTI hTO g1 g2 hsz hk => ?_
      refine wpAny_pyIter_zip hz ?_
      have I2 : Inv X pins σ H1 { s1 with heap := h' } := I1.kept (t' := s1.toks) hk
      refine ⟨s1.heap.objs.size + 4, [s1.heap.objs.size + 4, s1.heap.objs.size + 2, s1.heap.objs.size + 3, s1.heap.objs.size, s1.heap.objs.size + 1], _, _, H1, rfl, I2, turn_zipG (fa := fa) (fb := fb) (PySem.W.ktu_apart s1.heap.objs.size a b l1 l2), ⟨hz, hTI, ⟨_, _, hTO⟩, atB_new g1, atB_new g2⟩, fun c hcm => ?_, q⟩
      have hle : s1.heap.objs.size ≤ c := by
        simp only [List.mem_cons, List.not_mem_nil, or_false] at hcm
        rcases hcm with q' | q' | q' | q' | q' <;> rw [q'] <;> first | exact Nat.le_refl _ | exact Nat.le_add_right _ _
      exact I1.fpOk hle (I1.hok.fresh hle)
end PL

/-! PZT -/
/-! zip of three; list.remove and sorted of data -/
namespace PL
open PySem PySem.Spec PyProof.Rows L2 RZ
def ItzG3 (K : PySem.W.Frag) (fa fb fc : Bool) (a b c : Addr) : It where
  go i H := ∃ (xs ys zs : List V) (x y z : V), SqB K fa H a xs ∧ SqB K fb H b ys ∧ SqB K fc H c zs ∧ xs[i]? = some x ∧ ys[i]? = some y ∧ zs[i]? = some z
  yld i H v H' := ∃ T x y z, v = .ref T ∧ H T = none ∧ H' = upd H T (.tup [x, y, z]) ∧ (∀ xs, SqB K fa H a xs → xs[i]? = some x) ∧ (∀ ys, SqB K fb H b ys → ys[i]? = some y) ∧ ∀ zs, SqB K fc H c zs → zs[i]? = some z
  stop i H := ∃ xs ys zs : List V, SqB K fa H a xs ∧ SqB K fb H b ys ∧ SqB K fc H c zs ∧ i ≤ xs.length ∧ i ≤ ys.length ∧ i ≤ zs.length ∧ (xs.length = i ∨ ys.length = i ∨ zs.length = i)
theorem turn_zipG3 {P : Program} {w : World} {K : PySem.W.Frag} {elts : List Expr} {kk : Nat} {tpos : Pos} {fa fb fc : Bool} {a b c z TI TO i1 i2 i3 : Addr} (S : ZipSep3 z TI TO i1 i2 i3 [i1, a] [i2, b] [i3, c]) (na : a ≠ i1) (nb : b ≠ i2) (nc : c ≠ i3) :
    Turn P w K (.Tuple elts kk tpos) (ItzG3 K fa fb fc a b c) [z, TI, TO, i1, i2, i3] z fun i h => IsZip h z TI TO .none ∧ IsTupOf3 h TI (.ref i1) (.ref i2) (.ref i3) ∧ (∃ x y u, IsTupOf3 h TO x y u) ∧ AtB fa h i1 a i ∧ AtB fb h i2 b i ∧ AtB fc h i3 c i where
  mem := by simp
  obj i h st c hc := by
    obtain ⟨hz, hTI, ⟨x, y, u, hTO⟩, st1, st2, st3⟩ := st
    simp only [List.mem_cons, List.not_mem_nil, or_false] at hc
    rcases hc with rfl | rfl | rfl | rfl | rfl | rfl
    · exact ⟨_, hz, fun v q => by cases q⟩
    · exact ⟨_, hTI, fun v q => by cases q⟩
    · exact ⟨_, hTO, fun v q => by cases q⟩
    · exact st1.cell
    · exact st2.cell
    · exact st3.cell
  keep i h h' st k := by
    obtain ⟨hz, hTI, ⟨x, y, u, hTO⟩, st1, st2, st3⟩ := st
    refine ⟨k z (by simp) _ hz, k TI (by simp) _ hTI, ⟨x, y, u, k TO (by simp) _ hTO⟩, st1.moved fun o => k i1 (by simp) o, st2.moved fun o => k i2 (by simp) o, st3.moved fun o => k i3 (by simp) o⟩
  item := by
    intro X eP ew eK hc i pins s σ H E I hf st hg
    subst eP ew eK
    obtain ⟨hz, hTI, ⟨x0, y0, u0, hTO⟩, st1, st2, st3⟩ := st
    obtain ⟨xs, ys, zs, x, y, zz, qx, qy, qz, hx, hy, hzz⟩ := hg
    obtain ⟨its, rv, p, _⟩ := sqB_its I qx
    obtain ⟨its2, rv2, p2, _⟩ := sqB_its I qy
    obtain ⟨its3, rv3, p3, _⟩ := sqB_its I qz
    obtain ⟨u, hu, ru⟩ := rv.get hx
    obtain ⟨u2, hu2, ru2⟩ := rv2.get hy
    obtain ⟨u3, hu3, ru3⟩ := rv3.get hzz
    have n1 : i < its.toArray.size := by simpa using (List.getElem?_eq_some_iff.mp hu).1
    have n2 : i < its2.toArray.size := by simpa using (List.getElem?_eq_some_iff.mp hu2).1
    have n3 : i < its3.toArray.size := by simpa using (List.getElem?_eq_some_iff.mp hu3).1
    have zl : z < s.heap.objs.size := Heap.lt_size hz
    refine wpAny_pyNext_zipD3_item (A := X.A) S (drawsB (A := X.A.in1) (I.ok.hd hc) fa i1 a na its.toArray) (drawsB (A := X.A.in1) (I.ok.hd hc) fb i2 b nb its2.toArray) (drawsB (A := X.A.in1) (I.ok.hd hc) fc i3 c nc its3.toArray) hz hTI hTO ⟨st1, p⟩ ⟨st2, p2⟩ ⟨st3, p3⟩ n1 n2 n3 fun v1 v2 v3 h' tk e1 e2 e3 z' to' d1 d2 d3 hT hsz hk => ?_
    have ev1 : v1 = u := by
      rw [List.getElem?_toArray, hu] at e1
      exact (Option.some.inj e1).symm
    have ev2 : v2 = u2 := by
      rw [List.getElem?_toArray, hu2] at e2
      exact (Option.some.inj e2).symm
    have ev3 : v3 = u3 := by
      rw [List.getElem?_toArray, hu3] at e3
      exact (Option.some.inj e3).symm
    subst ev1 ev2 ev3
    refine ⟨_, rfl, ?_⟩
    refine wpAny_letOwnedTupleGo_zip (s := { s with heap := h', toks := tk }) z' fun g zg sb => ?_
    have hT2 : g.get? s.heap.objs.size = some { cls := .type "tuple", data := .seq #[v1, v2, v3] } := (sb.2 _ (Nat.ne_of_gt zl)).trans hT
    have nw : ObjOk X.prog X.w (upd H s.heap.objs.size (.tup [x, y, zz])) g s.heap.objs.size (.tup [x, y, zz]) := ⟨by show 3 ≤ sizeLine; decide, [v1, v2, v3], .cons ru (.cons ru2 (.cons ru3 .nil)), ⟨_, hT2, rfl, _, rfl⟩⟩
    have I1 : Inv X pins σ (upd H s.heap.objs.size (.tup [x, y, zz])) { s with heap := g, toks := tk } := by
      refine I.turnedNew (ch := [z, TI, TO, i1, i2, i3]) (fun c o hb q => ?_) hf (Nat.le_refl _) nw
      simp only [List.mem_cons, List.not_mem_nil, or_false, not_or] at hb
      exact (sb.2 c hb.1).trans (hk c o hb.1 hb.2.2.1 hb.2.2.2.1 hb.2.2.2.2.1 hb.2.2.2.2.2 q)
    refine ⟨.ref s.heap.objs.size, _, I1, rfl, ⟨_, x, y, zz, rfl, I.hok.fresh (Nat.le_refl _), rfl, fun l hl => ?_, fun l hl => ?_, fun l hl => ?_⟩, ⟨zg, ?_, ⟨v1, v2, v3, ?_⟩, ?_, ?_, ?_⟩, fun c hcm => ?_⟩
    · rw [sqB_one I hl qx]; exact hx
    · rw [sqB_one I hl qy]; exact hy
    · rw [sqB_one I hl qz]; exact hzz
    · exact (sb.2 _ S.TIz).trans (hk _ _ S.TIz S.TITO S.TIi1 S.TIi2 S.TIi3 hTI)
    · exact (sb.2 _ S.TOz).trans to'
    · exact d1.1.moved fun o q => (sb.2 i1 (Ne.symm S.zi1)).trans q
    · exact d2.1.moved fun o q => (sb.2 i2 (Ne.symm S.zi2)).trans q
    · exact d3.1.moved fun o q => (sb.2 i3 (Ne.symm S.zi3)).trans q
    · have lt : c < s.heap.objs.size := by
        simp only [List.mem_cons, List.not_mem_nil, or_false] at hcm
        rcases hcm with rfl | rfl | rfl | rfl | rfl | rfl
        · exact zl
        · exact Heap.lt_size hTI
        · exact Heap.lt_size hTO
        · obtain ⟨_, e, _⟩ := st1.cell; exact Heap.lt_size e
        · obtain ⟨_, e, _⟩ := st2.cell; exact Heap.lt_size e
        · obtain ⟨_, e, _⟩ := st3.cell; exact Heap.lt_size e
      rw [upd_ne (Nat.ne_of_lt lt)]
      exact (hf c hcm).1
  done := by
    intro X eP ew eK hc i pins s σ H E I hf st hg
    subst eP ew eK
    obtain ⟨hz, hTI, ⟨x0, y0, u0, hTO⟩, st1, st2, st3⟩ := st
    obtain ⟨xs, ys, zs, qx, qy, qz, le1, le2, le3, hend⟩ := hg
    obtain ⟨its, rv, p, _⟩ := sqB_its I qx
    obtain ⟨its2, rv2, p2, _⟩ := sqB_its I qy
    obtain ⟨its3, rv3, p3, _⟩ := sqB_its I qz
    have l1 := rv.length
    have l2 := rv2.length
    have l3 := rv3.length
    refine wpAny_pyNext_zipD3_end (A := X.A) S (drawsB (A := X.A.in1) (I.ok.hd hc) fa i1 a na its.toArray) (drawsB (A := X.A.in1) (I.ok.hd hc) fb i2 b nb its2.toArray) (drawsB (A := X.A.in1) (I.ok.hd hc) fc i3 c nc its3.toArray) hz hTI hTO ⟨st1, p⟩ ⟨st2, p2⟩ ⟨st3, p3⟩ (by simp; omega) (by simp; omega) (by simp; omega) (by simp; omega) fun h' tk hk => ⟨rfl, ?_⟩
    refine I.turnedL (ch := [z, TI, TO, i1, i2, i3]) (fun c o hb q => ?_) hf
    simp only [List.mem_cons, List.not_mem_nil, or_false, not_or] at hb
    exact hk c o hb.1 hb.2.2.1 hb.2.2.2.1 hb.2.2.2.2.1 hb.2.2.2.2.2 q
  self A i s Q E st h := wpAny_pyIter_zip st.1 h
def iZipG3 (K : PySem.W.Frag) (ta : TA) : TI := fun σ H R => ta σ H fun vs H1 => ∃ fa fb fc a b c xs ys zs, vs = [.ref a, .ref b, .ref c] ∧ SqB K fa H1 a xs ∧ SqB K fb H1 b ys ∧ SqB K fc H1 c zs ∧ R (ItzG3 K fa fb fc a b c) H1
theorem pi_zipG3 {X : Cx} {e e2 e3 : Expr} {ta : TA} {p pos tpos : Pos} {elts : List Expr} {kk : Nat} (hg : Gl X "zip") (hm : X.mg "zip" = none) (ha : PA X [e, e2, e3] ta)
    (hs : starEach [e, e2, e3] X.env = (false, eval e X.env) :: starEach [e2, e3] X.env) (hpl : (backTo pos (starEach [e2, e3] X.env)).any (·.1) = false) :
    PI X (.Tuple elts kk tpos) (.Call (.Name "zip" p) [e, e2, e3] [] pos) (iZipG3 X.K ta) := by
  refine ⟨fun pins s σ H R I h => ?_⟩
  refine Call_ (ld_blt I hg hm PyProof.Rows.boot_zip (PyProof.Rows.callWith_type1 ?_ hs hpl))
  refine thn (ha.run pos pins s σ H _ I h) fun us s1 ⟨vs, H1, I1, r1, q1⟩ => ?_
  obtain ⟨fa, fb, fc, a, b, c, xs, ys, zs, ex, qx, qy, qz, q⟩ := q1
  subst ex
  cases r1 with
  | cons r rr =>
    cases rr with
    | cons r' rr =>
      cases rr with
      | cons r'' rr =>
        cases rr
        cases r
        cases r'
        cases r''
        obtain ⟨its, rv, p1, l1⟩ := sqB_its I1 qx
        obtain ⟨its2, rv2, p2, l2⟩ := sqB_its I1 qy
        obtain ⟨its3, rv3, p3, l3⟩ := sqB_its I1 qz
        refine zip_begins3 (begB fa a its.toArray) (begB fb b its2.toArray) (begB fc c its3.toArray) p1 p2 p3 fun h' hz hTI hTO g1 g2 g3 hsz hk => ?_
        refine wpAny_pyIter_zip hz ?_
        have I2 : Inv X pins σ H1 { s1 with heap := h' } := I1.kept (t' := s1.toks) hk
        have S : ZipSep3 (s1.heap.objs.size + 5) (s1.heap.objs.size + 3) (s1.heap.objs.size + 4) s1.heap.objs.size (s1.heap.objs.size + 1) (s1.heap.objs.size + 2) [s1.heap.objs.size, a] [s1.heap.objs.size + 1, b] [s1.heap.objs.size + 2, c] :=
          zip_sep3 (fun x hx => by rw [List.mem_singleton.mp hx]; exact l1) (fun x hx => by rw [List.mem_singleton.mp hx]; exact l2) (fun x hx => by rw [List.mem_singleton.mp hx]; exact l3)
        refine ⟨s1.heap.objs.size + 5, [s1.heap.objs.size + 5, s1.heap.objs.size + 3, s1.heap.objs.size + 4, s1.heap.objs.size, s1.heap.objs.size + 1, s1.heap.objs.size + 2], _, _, H1, rfl, I2, turn_zipG3 (fa := fa) (fb := fb) (fc := fc) S (Nat.ne_of_lt l1) (Nat.ne_of_lt (Nat.lt_succ_of_lt l2)) (Nat.ne_of_lt (Nat.lt_succ_of_lt (Nat.lt_succ_of_lt l3))), ⟨hz, hTI, ⟨_, _, _, hTO⟩, atB_new g1, atB_new g2, atB_new g3⟩, fun c hcm => ?_, q⟩
        have hle : s1.heap.objs.size ≤ c := by
          simp only [List.mem_cons, List.not_mem_nil, or_false] at hcm
          rcases hcm with q' | q' | q' | q' | q' | q' <;> rw [q'] <;> first | exact Nat.le_refl _ | exact Nat.le_add_right _ _
        exact I1.fpOk hle (I1.hok.fresh hle)

/-! ### list.remove -/
open PySem.MeetsSeq PySem.SeqAt in
theorem remove_loopAt (l : Addr) (items : Array Value) (n : Nat) (x : Value) (e : Value → Bool) (j : Nat) (hj : j < items.size) (hit : e items[j] = true) (k : Nat) (hs1 : items.size ≤ sizeLine) :
    ∀ i : Nat, j - i = k → i ≤ j → (∀ m (hm : m < items.size), i ≤ m → m < j → e items[m] = false) → Meets (Builtin.«list.remove.loop» ⟨[.ref l, x, rawInt i], []⟩)
      (fun A R s => s.heap.get? l = some { cls := .type "list", dict := none, data := .seq items n, slots := #[] } ∧ (∀ y, y ∈ items → EqAt A.in1 s y x (e y)) ∧ R (.ok (.ret .none)) { s with heap := s.heap.update l (Obj.mapSeq fun xs => xs.eraseIdxIfInBounds j) }) := by
  induction k with
  | zero =>
    intro i hk hij hno prog w A R s h
    obtain ⟨hp, g, d, tk, os⟩ := s; obtain ⟨hl, he, h⟩ := h
    have hij' : i = j := by omega
    subst hij'
    wp_walk using AutoSeq1.wpAny_loadPart' hl
    have hi : items[((i : Nat) : Int).toNat]? = some items[i] := by simp [hj]
    rw [hi]
    refine wpAny_bind (he _ (Array.getElem_mem hj) prog w _ _ ?_)
    rw [hit]
    have hz' : (items.eraseIdxIfInBounds i).size ≤ sizeLine + 1 := Nat.le_trans (size_erased items _) (Nat.le_succ_of_le hs1)
    wp_walk using (wpAny_updateSeq hl rfl (hz := hs1) (_hz' := hz')), AutoSeq1.wpAny_loadPart' hl
    simpa using h
  | succ k ih =>
    intro i hk hij hno prog w A R s h
    obtain ⟨hp, g, d, tk, os⟩ := s; obtain ⟨hl, he, h⟩ := h
    have hlt : i < items.size := by omega
    wp_walk using AutoSeq1.wpAny_loadPart' hl
    have hi : items[((i : Nat) : Int).toNat]? = some items[i] := by simp [hlt]
    have hc : ((i : Int) + 1) = ((i + 1 : Nat) : Int) := by push_cast; rfl
    rw [hi]
    refine wpAny_bind (he _ (Array.getElem_mem hlt) prog w _ _ ?_)
    rw [hno i hlt (Nat.le_refl _) (by omega)]
    wp_walk
    rw [hc]
    exact ⟨plainId_quiet plain_remove_loop _, codeAny_builtin entry_remove_loop (by
      rw [Around.under_plainId plain_remove_loop _]
      exact ih (i + 1) (by omega) (by omega) (fun m hm h1 h2 => hno m hm (by omega) h2) prog w A R _ ⟨hl, he, h⟩)⟩
open PySem.MeetsSeq PySem.SeqAt in
theorem list_removeAt (l : Addr) (items : Array Value) (n : Nat) (x : Value) (e : Value → Bool) (j : Nat) (hj : j < items.size)
    (hit : e items[j] = true) (hno : ∀ m (hm : m < items.size), m < j → e items[m] = false) (hs1 : items.size ≤ sizeLine) :
    Meets (Builtin.«list.remove» ⟨[.ref l, x], []⟩)
      (fun A R s => s.heap.get? l = some { cls := .type "list", dict := none, data := .seq items n, slots := #[] } ∧ (∀ y, y ∈ items → EqAt A.in1 s y x (e y)) ∧ R (.ok (.ret .none)) { s with heap := s.heap.update l (Obj.mapSeq fun xs => xs.eraseIdxIfInBounds j) }) := by
  intro prog w A R s h
  obtain ⟨hp, g, d, tk, os⟩ := s; obtain ⟨hl, he, h⟩ := h
  wp_walk using AutoSeq1.wpAny_loadPart' hl
  exact ⟨plainId_quiet plain_remove_loop _, codeAny_builtin entry_remove_loop (by
    rw [Around.under_plainId plain_remove_loop _]
    exact remove_loopAt l items n x e j hj hit _ hs1 0 rfl (Nat.zero_le _) (fun m hm _ h2 => hno m hm h2) prog w A R _ ⟨hl, he, h⟩)⟩
def rRemD (K : PySem.W.Frag) : V → List V → Hp → VK → Prop := fun x xs H Q => ∃ (a : Addr) (y : V) (us : List V) (d : PyData) (ds : List PyData) (j : Nat) (z : PyData), x = V.ref a ∧ xs = [y] ∧ H a = some (.lst us) ∧ DpAll K H us ds ∧ Dp K H y d ∧
  SeqAt.shaped (.list ds) = true ∧ SeqAt.shaped d = true ∧ ds[j]? = some z ∧ PyData.eqv z d = true ∧ (∀ (m : Nat) (z' : PyData), m < j → ds[m]? = some z' → PyData.eqv z' d = false) ∧ Q .non (upd H a (.lst (us.eraseIdx j)))
theorem mt_removeD {X : Cx} (hu : X.A.units + 65 < cLine) : MtM X "list.remove" (rRemD X.K) := by
  intro pins s σ H x xs v us Q I rx rxs h
  obtain ⟨a, y, ws, d, ds, j, z, rfl, rfl, hH, ha, hy, sl, sd, hz, hzj, hno, q⟩ := h
  cases rx
  cases rxs with
  | cons ry rt =>
    rename_i uy ut
    cases rt
    obtain ⟨bs, r1⟩ := Dp.reads I d y uy hy ry
    have hxs : PyData.canLayAll0 ds = true := SeqAt.canLay_of_shaped sl
    have hroom : X.A.units + 1 + min (PyData.depthAll ds) d.depth < cLine := room_in_shaped sd hu
    obtain ⟨zl, its, n, rv, hl, e⟩ := I.lstM hH
    obtain ⟨as, h4⟩ := Dp.readsAll I ds _ its ha rv
    have hn : its.length = ds.length := SeqAt.ReadsAll.length ds its as h4
    have hmap : its.map (SeqAt.readOf s.heap) = ds := SeqAt.readsAll_map ds its as hxs h4
    have hvl := rv.length
    have hsl := sizeLine_eq
    obtain ⟨hjd, _⟩ := List.getElem?_eq_some_iff.mp hz
    have hjl : j < its.length := by omega
    have hj : j < its.toArray.size := by simpa using hjl
    have at_ : ∀ (m : Nat) (hm : m < its.toArray.size) (z' : PyData), ds[m]? = some z' → SeqAt.readOf s.heap its.toArray[m] = z' := by
      intro m hm z' hz'
      have hml : m < its.length := by simpa using hm
      rw [← hmap, List.getElem?_map, List.getElem?_eq_getElem hml] at hz'
      have e1 : SeqAt.readOf s.heap its[m] = z' := Option.some.inj (show some (SeqAt.readOf s.heap its[m]) = some z' from hz')
      simpa using e1
    refine call_meets PySem.F.slot_list_remove ⟨_, e, rfl⟩ PySem.F.entry_list_remove (PySem.F.args_list_remove_2 _ _)
      (list_removeAt a its.toArray n uy (fun u => PyData.eqv (SeqAt.readOf s.heap u) d) j hj ?_ ?_ (by rw [List.size_toArray]; omega)) ⟨e, SeqAt.items_eqAt (vs := its.toArray) (show ReadsAll s.heap its.toArray.toList ds as from h4) r1 hxs (SeqAt.canLay_of_shaped sd) hroom, ?_⟩
    · show PyData.eqv (SeqAt.readOf s.heap its.toArray[j]) d = true
      rw [at_ j hj z hz]
      exact hzj
    · intro m hm hmj
      have hmd : m < ds.length := by omega
      have hz' : ds[m]? = some ds[m] := List.getElem?_eq_getElem hmd
      show PyData.eqv (SeqAt.readOf s.heap its.toArray[m]) d = false
      rw [at_ m hm _ hz']
      exact hno m _ hmj hz'
    · have rr := rv.eraseIdx j
      refine ⟨.non, _, I.lset (its' := its.eraseIdx j) (t' := s.toks) hH e ?_ rr ?_, rfl, q⟩
      · show its.toArray.eraseIdxIfInBounds j = (its.eraseIdx j).toArray
        rw [List.eraseIdxIfInBounds_toArray]
      · rw [List.length_eraseIdx]
        split <;> omega

/-! ### sorted(l), l a list of pairs of whole numbers -/
def lexLe (p q : Int × Int) : Prop := p.1 < q.1 ∨ p.1 = q.1 ∧ p.2 ≤ q.2
def rSortD (K : PySem.W.Frag) : List V → Hp → VK → Prop := fun vs H Q => ∃ (a : Addr) (xs : List V) (ps : List (Int × Int)), vs = [V.ref a] ∧ SqL K H a xs ∧ xs.length = ps.length ∧
  (∀ (i : Nat) (x : V) (p : Int × Int), xs[i]? = some x → ps[i]? = some p → ∃ t, x = V.ref t ∧ SqT K H t [.int p.1, .int p.2]) ∧
  ∀ (ys : List V) (qs : List (Int × Int)) (p : Addr), ys.length = qs.length → (ys.zip qs).Perm (xs.zip ps) → qs.Pairwise lexLe → H p = none → Q (.ref p) (upd H p (.lst ys))
theorem zip_maps {α β γ : Type} (f : α → β) (g : α → γ) : ∀ l : List α, (l.map f).zip (l.map g) = l.map fun v => (f v, g v)
  | [] => rfl
  | a :: l => by simp [zip_maps f g l]
theorem cr_sortD {X : Cx} : CallR X (.builtin "sorted") (rSortD X.K) := by
  intro pins s σ H vs us Q I r h
  obtain ⟨a, xs, ps, rfl, hs, hlen, hx, q⟩ := h
  obtain ⟨its, rv, hl, hz⟩ := I.list hs
  obtain ⟨u, rfl, ru⟩ := vals1 r
  obtain rfl : u = Value.ref a := ru
  have hvl := rv.length
  obtain ⟨e1, e2⟩ := refs_back rv fun x m => by
    obtain ⟨i, hi⟩ := List.mem_iff_getElem?.mp m
    have hip : i < ps.length := by rw [← hlen]; exact (List.getElem?_eq_some_iff.mp hi).1
    obtain ⟨t, e, _⟩ := hx i x ps[i] hi (List.getElem?_eq_getElem hip)
    exact ⟨t, e⟩
  have hat : ∀ (i : Nat) (v : Value) (p : Int × Int), its[i]? = some v → ps[i]? = some p → ∃ t, v = Value.ref t ∧ SqT X.K H t [.int p.1, .int p.2] := by
    intro i v p hv hp
    obtain ⟨t0, rfl⟩ := e2 v (List.mem_of_getElem? hv)
    have hxi : xs[i]? = some (V.ref t0) := by rw [e1, List.getElem?_map, hv]; rfl
    obtain ⟨t, e, z⟩ := hx i _ p hxi hp
    cases e
    exact ⟨_, rfl, z⟩
  let k : Value → Int × Int := fun v => open Classical in if h : ∃ p : Int × Int, ∃ i : Nat, its[i]? = some v ∧ ps[i]? = some p then h.choose else (0, 0)
  have hk : ∀ (i : Nat) (v : Value) (p : Int × Int), its[i]? = some v → ps[i]? = some p → k v = p := by
    intro i v p hv hp
    have hex : ∃ p : Int × Int, ∃ i : Nat, its[i]? = some v ∧ ps[i]? = some p := ⟨p, i, hv, hp⟩
    have ek : k v = hex.choose := dif_pos hex
    obtain ⟨i', hv', hp'⟩ := hex.choose_spec
    obtain ⟨t, e, z⟩ := hat i v p hv hp
    obtain ⟨t', e', z'⟩ := hat i' v _ hv' hp'
    rw [e] at e'
    cases e'
    have inj := I.tuple_inj z z'
    rw [ek]
    simp only [List.cons.injEq, V.int.injEq, and_true] at inj
    exact Prod.ext inj.1.symm inj.2.symm
  have hks : its.map k = ps := by
    refine List.ext_getElem? fun i => ?_
    rw [List.getElem?_map]
    by_cases hi : i < its.length
    · have hip : i < ps.length := by omega
      rw [List.getElem?_eq_getElem hi, List.getElem?_eq_getElem hip]
      exact congrArg some (hk i _ _ (List.getElem?_eq_getElem hi) (List.getElem?_eq_getElem hip))
    · rw [List.getElem?_eq_none (by omega), List.getElem?_eq_none (by omega)]; rfl
  refine SrtO.sorted_pairsO (k := k) hl.isList (by rw [← rv.length]; exact hz) (fun v hv => ?_) fun h' d out h1 h2 kp hd hn => ?_
  · obtain ⟨i, hi⟩ := List.mem_iff_getElem?.mp hv
    have hip : i < ps.length := by have := (List.getElem?_eq_some_iff.mp hi).1; omega
    obtain ⟨t, rfl, z⟩ := hat i v ps[i] hi (List.getElem?_eq_getElem hip)
    rw [hk i _ _ hi (List.getElem?_eq_getElem hip)]
    obtain ⟨its2, r2, ⟨o, ho, hc, n, hd⟩, _⟩ := I.tuple z
    obtain ⟨u1, u2, rfl, ri, rj⟩ := vals2 r2
    obtain ⟨t1, rfl⟩ := ri
    obtain ⟨t2, rfl⟩ := rj
    exact ⟨t, o, t1, t2, n, rfl, ho, hc, hd⟩
  · have h3 : ∀ u ∈ out, ∃ a, u = Value.ref a := fun u hu => e2 u (h2.perm.mem_iff.mp hu)
    obtain ⟨n, hn⟩ := hn
    refine ⟨.ref d, upd H d (.lst (out.map backV)), I.laid (t' := s.toks) kp hd ⟨?_, out, n, vals_back h3, hn⟩, rfl, q _ (out.map k) d (by simp) ?_ ?_ (I.hok.fresh hd)⟩
    · rw [List.length_map, h2.perm.length_eq, ← hvl]
      exact hz
    · have e3 : xs.zip ps = its.map fun v => (backV v, k v) := by
        rw [← zip_maps backV k its, hks, ← e1]
      rw [e3, zip_maps]
      exact h2.perm.map _
    · refine List.pairwise_map.mpr (h1.imp fun {x y} hxy => ?_)
      have := SrtO.lexB_no.mp hxy
      unfold lexLe
      omega
/-! ### len(set(l)), l a list of whole numbers -/
def ddI (ns : List Int) : List Int := ns.foldl (fun acc x => if acc.any (· == x) then acc else acc ++ [x]) []
theorem ddI_is (ns : List Int) : firstMet (fun i => ns.getD i 0) ns.length = ddI ns := by
  have e : (List.range ns.length).map (fun i => ns.getD i 0) = ns := by
    refine List.ext_getElem (by simp) fun i h1 h2 => ?_
    simp [h2]
  unfold firstMet ddI
  rw [e]
  rfl
theorem ddI_len (ns : List Int) : (ddI ns).length ≤ ns.length := by rw [← ddI_is]; exact firstMet_length_le _ _
def tLenSetD (K : PySem.W.Frag) (ta : TE) : TE := fun σ H Q => ta σ H fun x H1 => ∃ (l : Addr) (ns : List Int), x = .ref l ∧ SqL K H1 l (ns.map V.int) ∧ ns.length ≤ 4000 ∧ Q (.int ((ddI ns).length : Nat)) H1
theorem pe_lenSetD {X : Cx} {a : Expr} {ta : TE} {p p2 q pos : Pos} (hg : Gl X "len") (hm : X.mg "len" = none) (hg2 : Gl X "set") (hm2 : X.mg "set" = none) (ha : PE X a ta) (hc : X.calm = true)
    (na : starEach [a] X.env = (false, eval a X.env) :: starEach [] X.env) : PE X (.Call (.Name "len" p) [.Call (.Name "set" p2) [a] [] q] [] pos) (tLenSetD X.K ta) := by
  refine ⟨fun pins s σ H Q I h => ?_⟩
  refine Call_ (ld_blt I hg hm PySem.boot_len ?_)
  refine PyProof.Rows.callWith_builtin1 (PyProof.Rows.args_cons ?_ rfl) rfl rfl
  refine Call_ (ld_blt I hg2 hm2 PyProof.Rows.boot_set ?_)
  refine PyProof.Rows.callWith_type1 (PyProof.Rows.args_cons (thn (ha.run pins s σ H _ I h) fun v s1 ⟨x, H1, I1, r1, q1⟩ => PyProof.Rows.args_nil ?_) na) na rfl
  obtain ⟨l, ns, rfl, hq, hl, q1⟩ := q1
  cases r1
  obtain ⟨its, r, pl, hz⟩ := I1.list hq
  have hlen : its.toArray.size = ns.length := by rw [List.size_toArray, ← r.length, List.length_map]
  refine call_set_list (I1.ok.hd hc) pl.isList (by simpa using intsAre_vals r) (by rw [hlen]; unfold scanBound; omega) fun h' tk hS hk => ?_
  refine PyProof.Rows.args_nil ?_
  rw [hlen, ddI_is] at hS
  have dl := ddI_len ns
  obtain ⟨o, es, ep, t, ho, hex, hd, _, _, _, hf, hn⟩ := hS
  have I2 : Inv X pins σ H1 { s1 with heap := h', toks := tk } := I1.kept fun b o e => hk b o (Heap.lt_size e) e
  exact call_len_set ho hex hd hf (by rw [hn] <;> omega) ⟨.int (ddI ns).length, H1, I2.tok _, ⟨_, by rw [hn]⟩, q1⟩
end PL

/-! PQ -/
/-! a caught error that stays known: tracked in the heap from the clause on -/
namespace PL
open PySem PySem.Spec PyProof.Rows L2
/-- an error's object of the class D, at a -/
def ExF (D a : Addr) : HO := .ext fun h => ∃ (ob : Obj) (fv : Array Value), h.get? a = some ob ∧ Zc (.ref D) none ob ∧ ob.data = .fields fv
theorem exF_ok {P : Program} {w : World} {H : Hp} {h : Heap} {D a : Addr} {ob : Obj} {fv : Array Value} (q1 : h.get? a = some ob) (q2 : Zc (.ref D) none ob) (q3 : ob.data = .fields fv) : ObjOk P w H h a (ExF D a) :=
  ⟨⟨ob, fv, q1, q2, q3⟩, ⟨ob, q1⟩, fun _ _ ⟨u, v, r1, r2⟩ st => ⟨u, v, st u r1, r2⟩⟩
section
variable {X : Cx} {pins : List (Addr × Obj)} {σ : L2.St} {H : Hp} {s : Shared}
theorem Inv.trackE {a D : Addr} {ob : Obj} {fv : Array Value} (J : Inv X pins σ H s) (q1 : s.heap.get? a = some ob) (q2 : Zc (.ref D) none ob) (q3 : ob.data = .fields fv) (na : H a = none) (nL : a ≠ X.env.locals)
    (n0 : X.s_0.heap.get? a = none) (np : ∀ p ∈ X.pn ++ pins, p.1 ≠ a) : Inv X pins σ (upd H a (ExF D a)) s where
  ok := J.ok
  os := J.os
  bare := J.bare
  base := {
    keep := J.base.keep
    slot := J.base.slot
    free := fun b u e n hx => by
      have nb : b ≠ a := fun z => by rw [z, n0] at e; cases e
      rw [upd_ne nb]; exact J.base.free b u e n hx
    there := J.base.there
    tups := fun b xs e => by have e2 := J.base.tups b xs e; rw [upd_ne (ne_of_none e2 na)]; exact e2
    frzs := fun b u xs e => by have e2 := J.base.frzs b u xs e; rw [upd_ne (ne_of_none e2 na)]; exact e2
    tbls := fun b ps e => by obtain ⟨m, e2⟩ := J.base.tbls b ps e; exact ⟨m, by rw [upd_ne (ne_of_none e2 na)]; exact e2⟩ }
  loc := J.loc
  cell := J.cell
  free := by rw [upd_ne (Ne.symm nL)]; exact J.free
  freeC := fun x c e => by
    have nc : c ≠ a := fun z => by
      obtain ⟨v, u, r1, r2⟩ := J.cell x c e
      rw [z, q1] at r1
      cases r1
      rw [q3] at r2
      cases r2
    rw [upd_ne nc]; exact J.freeC x c e
  pin := fun p hp => by
    obtain ⟨r1, r2, r3⟩ := J.pin p hp
    exact ⟨r1, by rw [upd_ne (np p hp)]; exact r2, r3⟩
  hok := J.hok.laidN (fun _ _ z => z) na (exF_ok q1 q2 q3)
  len := J.len
theorem Inv.suite0 (J : Inv X pins σ H s) (a : Addr) : Inv (X.suite a (X.pn ++ pins)) [] σ H s :=
  ⟨J.ok.suite _ _, J.os, J.bare, J.base, J.loc, J.cell, J.free, J.freeC, fun p hp => J.pin p (by simpa using hp), J.hok, J.len⟩
theorem Inv.unsuite0 {a : Addr} {pn' : List (Addr × Obj)} (J : Inv (X.suite a (X.pn ++ pins)) pn' σ H s) (ok : X.Ok) : Inv X pins σ H s :=
  ⟨ok, J.os, J.bare, J.base, J.loc, J.cell, J.free, J.freeC, fun p hp => J.pin p (List.mem_append_left _ hp), J.hok, J.len⟩
end
/-- what the clause 'except x as n' wishes, where the error stays known -/
def wTrk (K : PySem.W.Frag) (c : Value) (i : Nat) (ts : TS) (Wo : WX) (D : Ends) : WX := fun cls d σ H =>
  ∃ b, PySem.W.exmOne K cls c = some b ∧ (b = true → ∃ DD, cls = .ref DD ∧ d = none ∧ ∀ a, H a = none → ts { nx := fun σ2 H2 => D.nx (σ2.set i none) H2, rt := D.rt, bk := fun σ2 H2 => D.bk (σ2.set i none) H2, ct := fun σ2 H2 => D.ct (σ2.set i none) H2 } (σ.set i (some (.ref a))) (upd H a (ExF DD a))) ∧
    (b = false → Wo cls d σ H)
section
variable {X : Cx} {x n : Str} {c : Value} {i : Nat} {body suite : List Stmt} {b₀ : Stmt} {np pos pos2 : Pos} {tb : WX → TS} {ts : TS} {Wo : WX}
theorem ps_tryA (hs : X.stack = X.env :: X.outer) (hf : X.env.frame = some X.env.locals) (hex : X.ex = []) (hN : X.N.Nodup) (hi : X.N[i]? = some n) (hln : X.env.kindOf n = some .local) (hc : Names X x c) (tk : Takes X Wo)
    (hb : ∀ (W : WX) (pn : List (Addr × Obj)) (xe : Value → Shared → Prop), Takes (X.tr pn xe) W → PassesOwn (model X.prog X.w) X.A X.env xe → PSs (X.tr pn xe) body (tb W)) (hsu : ∀ (a : Addr) (pn : List (Addr × Obj)), PSs (X.suite a pn) (b₀ :: suite) ts) :
    PS X (.Try body [.ExceptHandler (some (.Name x np)) (some n) (b₀ :: suite) pos2] [] [] pos) (fun D σ H => tb (wTrk X.K c i ts Wo D) D σ H) := by
  refine ⟨fun pins s σ H D I h => ?_⟩
  have okX := I.ok
  have frX : X.A.frames = some (X.env :: X.outer) := by rw [okX.frames, hs]
  refine wpAny_Try_except ?_
  have BODY := (hb (wTrk X.K c i ts Wo D) (X.pn ++ pins) (fun e t1 => wpAny (model X.prog X.w) X.A (noteFrame e X.env) (fun _ t2 => wpAny (model X.prog X.w) X.A (setFlight e none) (fun _ t3 => wpAny (model X.prog X.w) X.A (handleBy e X.env [.ExceptHandler (some (.Name x np)) (some n) (b₀ :: suite) pos2]) (SP X pins D) X.xe t3) X.xe t2) X.xe t1) (fun u t' xx => ?_) PassesOwn.looking).run [] s σ H D (I.toTry _) h
  · refine wpAny_mono BODY (fun fl t1 sp => ?_) (fun e t1 z => z)
    cases fl with
    | next => obtain ⟨σ2, H2, J2, q⟩ := sp; exact wpAny_execs_nil ⟨σ2, H2, J2.ofTry okX, q⟩
    | brk => obtain ⟨σ2, H2, J2, q⟩ := sp; exact ⟨σ2, H2, J2.ofTry okX, q⟩
    | cont => obtain ⟨σ2, H2, J2, q⟩ := sp; exact ⟨σ2, H2, J2.ofTry okX, q⟩
    | ret u => obtain ⟨v, σ2, H2, J2, r, q⟩ := sp; exact ⟨v, σ2, H2, J2.ofTry okX, r, q⟩
  · obtain ⟨a, B, t0, pins2, σ2, H2, cls, d, rfl, G', nb, up, sky, na, os, ag, b, hb1, hyes, hno⟩ := xx
    have G : Inv X pins σ2 H2 t0 := G'.ofTry okX
    have sky2 : Sky B (X.env :: X.outer) a (Zc cls d) X.env.locals t'.heap := by rw [← hs]; exact sky
    show wpAny (model X.prog X.w) X.A (noteFrame (.ref a) X.env) _ _ _
    refine Sky.land Zc.steady frX hf sky2 fun g3 fl3 up3 => ?_
    have G3 : Inv X pins σ2 H2 { t' with heap := g3 } := G.landed nb fl3.1 (up.trans up3) os ag
    obtain ⟨o3, v3, e3, z3, d3⟩ := fl3.there
    have notF : a ∉ frs (X.env :: X.outer) := fun hm => by
      obtain ⟨_, o', e', hnf⟩ := fl3.2.2.1.mem hm
      rw [e3] at e'
      cases e'
      exact hnf _ d3
    have nL : a ≠ X.env.locals := fun z => notF (List.mem_filterMap.mpr ⟨X.env, List.mem_cons_self, by rw [hf, z]⟩)
    have nF : a ∉ X.fs := fun hm => by
      obtain ⟨y, hy, q⟩ := List.mem_filterMap.mp hm
      exact notF (List.mem_filterMap.mpr ⟨y, List.mem_cons_of_mem _ hy, q⟩)
    have nB : B.get? a = none := fl3.2.1
    have notS : a ∉ frs X.stack := by rw [hs]; exact notF
    have n0 : X.s_0.heap.get? a = none := by
      cases e : X.s_0.heap.get? a with
      | none => rfl
      | some o0 =>
        obtain ⟨o1, e1⟩ := G.base.there a o0 e (by rw [hex]; exact fun z => nomatch z)
        rw [nb a o1 e1 notS] at nB
        cases nB
    have nP : ∀ p ∈ X.pn ++ pins, p.1 ≠ a := fun p hp z => by
      obtain ⟨r1, r2, r3, r4, _⟩ := G.pin p hp
      have r5 : p.1 ∉ frs X.stack := fun hm => by
        rcases List.mem_cons.mp (G.stkSub _ hm) with y | y
        · exact r3 y
        · exact r4 y
      have r6 := nb _ _ r1 r5
      rw [z, nB] at r6
      cases r6
    have S3 := G3.suite e3 d3 na nL nF
    refine wpAny_handleBy_cons (codeAny_handlers_test ?_) (by intro q; cases q)
    have LT : PySem.W.Looks (model X.prog X.w) g3 (typeOf (.ref a)) cls := fun _ _ _ _ k q => wpAny_typeOf_ref (k _ _ e3) (by rw [z3.1]; exact q)
    have LM := PySem.W.exm_one (M := model X.prog X.w) G3.kIn LT hb1
    have tst : ∀ {Q E : Value → Shared → Prop}, Q c { t' with heap := g3 } → wpAny (model X.prog X.w) (X.A.mark (some (.ref a))) (eval (.Name x np) X.env) Q E { t' with heap := g3 } := fun {Q E} q => by
      obtain ⟨y1, y2, y3 | ⟨y3, y4, y5⟩⟩ := hc
      · exact ld_glob (X := X.suite a ((a, o3) :: (X.pn ++ pins))) S3 y1 y3 q y2
      · exact ld_blt (X := X.suite a ((a, o3) :: (X.pn ++ pins))) S3 y1 y3 y4 q y5 y2
    refine tst (LM.here ?_)
    cases b with
    | true =>
      refine codeAny_handlers_suite_as (HandSPX.lands_againZ fl3 fun g4 fl4 up4 => ?_)
      obtain ⟨DD, ec, ed, hts⟩ := hyes rfl
      subst ec ed
      have G4 : Inv X pins σ2 H2 { t' with heap := g4 } := G.landed nb fl4.1 ((up.trans up3).trans up4) os ag
      obtain ⟨o4, v4, e4, z4, d4⟩ := fl4.there
      have G5 := Inv.trackE G4 e4 z4 d4 na nL n0 nP
      refine store_ok (X := X.suite a (X.pn ++ pins)) (v := .ref a) (Inv.suite0 G5 a) hN hi (.inl hln) rfl (fun t5 G6 => ?_) (.inr hln)
      refine wpAny_mono ((hsu a (X.pn ++ pins)).run [] t5 _ _ _ G6 (hts a na)) (fun fl t6 sp => ?_) (fun _ _ z => False.elim z)
      have fin : ∀ {σ6 : L2.St} {H6 : Hp} {Q : Shared → Prop}, Inv (X.suite a (X.pn ++ pins)) [] σ6 H6 t6 → (∀ t7, Inv X pins (σ6.set i none) H6 t7 → Q t7) → wpAny (model X.prog X.w) X.A (do bindName X.env n .none; unbindBehindTheSuite X.env n pos2) (fun _ t7 => Q t7) X.xe t6 :=
        fun {σ6 H6 Q} G7 hq => gone_ok (Inv.unsuite0 G7 okX) hN hi hln hq
      cases fl with
      | next => obtain ⟨σ6, H6, G7, q6⟩ := sp; exact fin G7 fun t7 G8 => ⟨_, _, G8, q6⟩
      | brk => obtain ⟨σ6, H6, G7, q6⟩ := sp; exact fin G7 fun t7 G8 => ⟨_, _, G8, q6⟩
      | cont => obtain ⟨σ6, H6, G7, q6⟩ := sp; exact fin G7 fun t7 G8 => ⟨_, _, G8, q6⟩
      | ret u => obtain ⟨v6, σ6, H6, G7, r6, q6⟩ := sp; exact fin G7 fun t7 G8 => ⟨_, _, _, G8, r6, q6⟩
    | false =>
      show wpAny _ X.A (handleBy (.ref a) X.env []) _ _ _
      refine wpAny_handleBy_nil ?_
      obtain ⟨k1, k2, k3, oe, vs, T, oT, ts', he, hz, hd, h1, hr⟩ := id fl3
      unfold PySem.passOn
      refine wpAny_bind (wpAny_field he hd h1 ?_)
      rw [if_neg (by simp)]
      have out : wpAny (model X.prog X.w) X.A (setFlight (.ref a) X.env.frame) (fun _ t4 => wpAny (model X.prog X.w) X.A (throw (.ref a) : Sem Flow) (SP X pins D) X.xe t4) X.xe { t' with heap := g3 } := by
        rw [hf]
        refine HandSPX.setFlight_upZ fl3 fun g4 hh4 up4 => wpAny_throw (tk _ _ ⟨a, B, t0, pins, σ2, H2, cls, d, rfl, G, nb, (up.trans up3).trans up4, .inr (.inr (by rw [hs]; exact hh4)), na, os, ag, hno rfl⟩)
      first
        | exact wpAny_bind (wpAny_pure (wpAny_bind out))
        | exact wpAny_bind out
end
/-! ### isinstance of a known error -/
def ExAt (H : Hp) (a D : Addr) : Prop := H a = some (ExF D a)
def rIsX1 (K : PySem.W.Frag) : List V → Hp → VK → Prop := fun xs H Q => ∃ (a D : Addr) (c : V) (cv : Value) (b : Bool), xs = [.ref a, c] ∧ ExAt H a D ∧ ExcC K D ∧ ClsV c cv ∧ PySem.W.kitOne K (.ref D) cv = some b ∧ Q (.bl b) H
def rIsXT (K : PySem.W.Frag) : List V → Hp → VK → Prop := fun xs H Q => ∃ (a D tp : Addr) (cs : List V) (us : List Value) (b : Bool), xs = [.ref a, .ref tp] ∧ ExAt H a D ∧ ExcC K D ∧ H tp = some (.tup cs) ∧ Paired ClsV cs us ∧ PySem.W.kitAny K (.ref D) us = some b ∧ Q (.bl b) H
theorem exAt_inst {X : Cx} {pins : List (Addr × Obj)} {σ : L2.St} {H : Hp} {s : Shared} {a D : Addr} (I : Inv X pins σ H s) (h : ExAt H a D) : ∃ ob, PySem.W.InstAt s.heap a ob D none := by
  obtain ⟨⟨ob, fv, q1, ⟨q2, q3⟩, q4⟩, _⟩ := (show ObjOk X.prog X.w H s.heap a (ExF D a) from I.hok a _ h)
  obtain ⟨oc, od, oda, osl⟩ := ob
  dsimp only at q2 q3 q4
  subst q2 q3 q4
  exact ⟨_, q1, rfl, rfl, trivial⟩
theorem call_isX1 {X : Cx} : CallR X (.builtin "isinstance") (rIsX1 X.K) := by
  intro pins s σ H xs us Q I r h
  obtain ⟨a, D, c, cv, b, rfl, hx, C, hc, e, q⟩ := h
  obtain ⟨u1, u2, rfl, r1, r2⟩ := vals2 r
  cases (show u1 = Value.ref a from r1)
  have e2 := hc.eq r2
  subst e2
  obtain ⟨ob, J⟩ := exAt_inst I hx
  exact PySem.W.kia_one (PySem.W.handS_kitx_exc C.hg C.hk C.hs C.hd C.ha C.hn C.ht C.hm) I.kIn J e (fun z => nomatch z) fun tk => ⟨.bl b, H, I.tok tk, rfl, q⟩
theorem call_isXT {X : Cx} : CallR X (.builtin "isinstance") (rIsXT X.K) := by
  intro pins s σ H xs us Q I r h
  obtain ⟨a, D, tp, cs, ws, b, rfl, hx, C, hT, hc, e, q⟩ := h
  obtain ⟨u1, u2, rfl, r1, r2⟩ := vals2 r
  cases (show u1 = Value.ref a from r1)
  cases (show u2 = Value.ref tp from r2)
  obtain ⟨ob, J⟩ := exAt_inst I hx
  obtain ⟨_, its, rv, o, h1, h2, n, h3⟩ := (show ObjOk X.prog X.w H s.heap tp (.tup cs) from I.hok tp _ hT)
  have e3 := ClsV.all hc rv
  subst e3
  obtain ⟨oc, od, dt, sl⟩ := o
  simp only at h2 h3
  subst h2 h3
  exact PySem.W.kia_tup (PySem.W.handS_kitx_exc C.hg C.hk C.hs C.hd C.ha C.hn C.ht C.hm) I.kIn J h1 e (fun z => nomatch z) fun tk => ⟨.bl b, H, I.tok tk, rfl, q⟩
end PL

/-! PR -/
/-! a < b < c < d -/
namespace PL
open PySem PySem.Spec PyProof.Rows L2
def tChain3 (r r2 r3 : R2) (ta tb tc td : TE) : TE := fun σ H Q => ta σ H fun x H1 => tb σ H1 fun y H2 => r x y H2 fun z H3 => ∃ k, z = .bl k ∧
  (if k = true then tc σ H3 fun u H4 => r2 y u H4 fun z2 H5 => ∃ k2, z2 = .bl k2 ∧ (if k2 = true then td σ H5 fun w H6 => r3 u w H6 Q else Q (.bl false) H5) else Q (.bl false) H3)
section
variable {X : Cx} {op op2 op3 : CmpOp} {r r2 r3 : R2} {a b c d : Expr} {ta tb tc td : TE} {pos : Pos}
theorem pe_chain3 (ho : OpR X (compareOp op) r) (ho2 : OpR X (compareOp op2) r2) (ho3 : OpR X (compareOp op3) r3) (ha : PE X a ta) (hb : PE X b tb) (hc : PE X c tc) (hd : PE X d td)
    (hm : lastMarks [op, op2, op3] [b, c, d] = false) : PE X (.Compare a [op, op2, op3] [b, c, d] pos) (tChain3 r r2 r3 ta tb tc td) := by
  refine ⟨fun pins s σ H Q I h => ?_⟩
  refine Compare_chain (thn (ha.run pins s σ H _ I h) fun v s1 ⟨x, H1, I1, r1, q1⟩ => chain_link (thn (hb.run pins s1 σ H1 _ I1 q1) fun u s2 ⟨y, H2, I2, ry, q2⟩ =>
    thn (ho pins s2 σ H2 x y v u _ I2 r1 ry q2) fun e s3 ⟨z, H3, I3, rz, k, ez, q3⟩ => ?_)) hm
  subst ez
  cases rz
  refine wpAny_truthy_bool ?_
  cases k with
  | false => exact ite_ff ⟨.bl false, H3, I3, rfl, q3⟩
  | true =>
    refine ite_tt (chain_link (thn (hc.run pins s3 σ H3 _ I3 q3) fun u2 s4 ⟨y2, H4, I4, ry2, q4⟩ => thn (ho2 pins s4 σ H4 y y2 u u2 _ I4 ry ry2 q4) fun e2 s5 ⟨z2, H5, I5, rz2, k2, ez2, q5⟩ => ?_))
    subst ez2
    cases rz2
    refine wpAny_truthy_bool ?_
    cases k2 with
    | false => exact ite_ff ⟨.bl false, H5, I5, rfl, q5⟩
    | true => exact ite_tt (chain_last (thn (hd.run pins s5 σ H5 _ I5 q5) fun u3 s6 ⟨y3, H6, I6, ry3, q6⟩ => ho3 pins s6 σ H6 y2 y3 u2 u3 Q I6 ry2 ry3 q6))
theorem pt_chain3 (ho : OpR X (compareOp op) r) (ho2 : OpR X (compareOp op2) r2) (ho3 : OpR X (compareOp op3) r3) (ha : PE X a ta) (hb : PE X b tb) (hc : PE X c tc) (hd : PE X d td)
    (hm : lastMarks [op, op2, op3] [b, c, d] = false) : PT X (.Compare a [op, op2, op3] [b, c, d] pos) (tTest (tChain3 r r2 r3 ta tb tc td)) := by
  refine ⟨fun pins s σ H Q I h => ?_⟩
  refine isTrue_chain (thn (ha.run pins s σ H _ I h) fun v s1 ⟨x, H1, I1, r1, q1⟩ => test_link (thn (hb.run pins s1 σ H1 _ I1 q1) fun u s2 ⟨y, H2, I2, ry, q2⟩ =>
    thn (ho pins s2 σ H2 x y v u _ I2 r1 ry q2) fun e s3 ⟨z, H3, I3, rz, k, ez, q3⟩ => ?_)) hm
  subst ez
  cases rz
  refine wpAny_truthy_bool ?_
  cases k with
  | false =>
    obtain ⟨k', e', q'⟩ := q3
    cases e'
    exact ite_ff ⟨H3, I3, q'⟩
  | true =>
    refine ite_tt (test_link (thn (hc.run pins s3 σ H3 _ I3 q3) fun u2 s4 ⟨y2, H4, I4, ry2, q4⟩ => thn (ho2 pins s4 σ H4 y y2 u u2 _ I4 ry ry2 q4) fun e2 s5 ⟨z2, H5, I5, rz2, k2, ez2, q5⟩ => ?_))
    subst ez2
    cases rz2
    refine wpAny_truthy_bool ?_
    cases k2 with
    | false =>
      obtain ⟨k', e', q'⟩ := q5
      cases e'
      exact ite_ff ⟨H5, I5, q'⟩
    | true =>
      refine ite_tt (test_last (thn (hd.run pins s5 σ H5 _ I5 q5) fun u3 s6 ⟨y3, H6, I6, ry3, q6⟩ => thn (ho3 pins s6 σ H6 y2 y3 u2 u3 _ I6 ry2 ry3 q6) fun e3 s7 ⟨z3, H7, I7, rz3, k3, ez3, q7⟩ => ?_))
      subst ez3
      cases rz3
      exact wpAny_truthy_bool ⟨H7, I7, q7⟩
end
end PL

/-! P2 -/
namespace PL
open PySem PySem.Spec PyProof.Rows L2

inductive Bop where | add | sub | mul | fdiv | mod | pow | shl | shr | band | bor
inductive Cop where | lt | le | gt | ge | eq | ne | is | isn | inn | nin
inductive Bi where | len | abs | max | min | sum | all | any | list | tuple | int | divmod | sorted
  deriving DecidableEq
inductive Tg where | nm (i : Nat) | tup (is : List Nat)
  deriving DecidableEq

@[irreducible] def BIGM : Nat := 2 ^ 400000
@[irreducible] def BIGD : Nat := 2 ^ 9000
theorem bigm_eq : BIGM = 2 ^ 400000 := by unfold BIGM; rfl
theorem bigd_eq : BIGD = 2 ^ 9000 := by unfold BIGD; rfl
/-- a product that the machine takes -/
def mulOk (i j : Int) : Bool := decide (i.natAbs < BIGM) && decide (j.natAbs < BIGM) || decide (-(2 ^ 64) < j ∧ j < 2 ^ 64) || decide (-(2 ^ 64) < i ∧ i < 2 ^ 64)
def powOk (i j : Int) : Bool := decide (0 ≤ j ∧ j ≤ 1000000 ∧ i.natAbs < 2 ^ 64)
def divOk (j : Int) : Bool := decide (j ≠ 0) && decide (j.natAbs < BIGD)

def divPos (j : Int) : Bool := decide (0 < j ∧ j < 1073741824)

def binD : Bop → D → D → Option Rv
  | .add, .int i, .int j => some (.pv (.int (i + j)))
  | .add, .str s, .str t => if s.length + t.length ≤ 16777216 then some (.pv (.str (s ++ t))) else none
  | .add, .tup xs, .tup ys => if xs.length + ys.length ≤ 16777216 then some (.pv (.tup (xs ++ ys))) else none
  | .add, .lst xs, .lst ys => if xs.length + ys.length ≤ 16777216 then some (.li (xs ++ ys)) else none
  | .sub, .int i, .int j => some (.pv (.int (i - j)))
  | .mul, .int i, .int j => if mulOk i j = true then some (.pv (.int (i * j))) else none
  | .mul, .lst xs, .int n => if decide (-(2 ^ 62) ≤ n ∧ n < 2 ^ 62) = true ∧ xs.length * n.toNat ≤ 16777216 then some (.li (List.replicate n.toNat xs).flatten) else none
  | .fdiv, .int i, .int j => if divOk j = true then some (.pv (.int (i.fdiv j))) else none
  | .mod, .int i, .int j => if j ≠ 0 then some (.pv (.int (i.fmod j))) else none
  | .pow, .int i, .int j => if powOk i j = true then some (.pv (.int (i ^ j.toNat))) else none
  | .shl, .int i, .int j => if powOk i j = true then some (.pv (.int (i * 2 ^ j.toNat))) else none
  | .shr, .int i, .int j => if 0 ≤ j then some (.pv (.int (i / 2 ^ j.toNat))) else none
  | .band, .int i, .int j => some (.pv (.int (Builtin.bitAnd i j)))
  | .bor, .int i, .int j => some (.pv (.int (Builtin.bitOr i j)))
  | _, _, _ => none

def asInts : List D → Option (List Int)
  | [] => some []
  | .int i :: r => (asInts r).map (i :: ·)
  | _ :: _ => none
def asBls : List D → Option (List Bool)
  | [] => some []
  | .bl i :: r => (asBls r).map (i :: ·)
  | _ :: _ => none

def cmpD : Cop → D → D → Option Bool
  | .lt, .int i, .int j => some (decide (i < j))
  | .le, .int i, .int j => some (decide (i ≤ j))
  | .gt, .int i, .int j => some (decide (j < i))
  | .ge, .int i, .int j => some (decide (j ≤ i))
  | .eq, a, b => if shp 20 a = true ∧ shp 20 b = true then some (eqD a b) else none
  | .ne, a, b => if shp 20 a = true ∧ shp 20 b = true then some (!eqD a b) else none
  | .is, .bl a, .bl b => some (decide (a = b))
  | .is, .non, .non => some true
  | .is, .bl _, .non => some false
  | .is, .int _, .non => some false
  | .is, .str _, .non => some false
  | .is, .tup _, .non => some false
  | .is, .lst _, .non => some false
  | .is, .flst _, .non => some false
  | .isn, .bl a, .bl b => some (!decide (a = b))
  | .isn, .non, .non => some false
  | .isn, .bl _, .non => some true
  | .isn, .int _, .non => some true
  | .isn, .str _, .non => some true
  | .isn, .tup _, .non => some true
  | .isn, .lst _, .non => some true
  | .isn, .flst _, .non => some true
  | .inn, x, .lst ds => if shp 20 x = true ∧ shp 20 (.lst ds) = true then some (ds.any fun z => eqD z x) else none
  | .inn, x, .flst ds => if shp 20 x = true ∧ shp 20 (.lst ds) = true then some (ds.any fun z => eqD z x) else none
  | .inn, .int i, .tup ds => (asInts ds).map fun ns => ns.any fun n => decide (n = i)
  | .nin, x, .lst ds => if shp 20 x = true ∧ shp 20 (.lst ds) = true then some (!ds.any fun z => eqD z x) else none
  | .nin, x, .flst ds => if shp 20 x = true ∧ shp 20 (.lst ds) = true then some (!ds.any fun z => eqD z x) else none
  | .nin, .int i, .tup ds => (asInts ds).map fun ns => !ns.any fun n => decide (n = i)
  | _, _, _ => none

def maxI : Int → List Int → Int
  | m, [] => m
  | m, x :: r => maxI (if x > m then x else m) r
def minI : Int → List Int → Int
  | m, [] => m
  | m, x :: r => minI (if x < m then x else m) r

/-- pairs of whole numbers, in rising order -/
def asPrs : List D → Option (List (Int × Int))
  | [] => some []
  | .tup [.int i, .int j] :: r => (asPrs r).map ((i, j) :: ·)
  | _ :: _ => none
def prD (p : Int × Int) : D := .tup [.int p.1, .int p.2]
def lexLeB (p q : Int × Int) : Bool := decide (p.1 < q.1) || (decide (p.1 = q.1) && decide (p.2 ≤ q.2))
@[irreducible] def sortP (ps : List (Int × Int)) : List (Int × Int) := ps.mergeSort lexLeB
def biD : Bi → List D → Option Rv
  | .len, [.str s] => if s.length ≤ 16777216 then some (.pv (.int (s.length : Nat))) else none
  | .len, [x] => (asQ x).map fun xs => .pv (.int (xs.length : Nat))
  | .abs, [.int i] => some (.pv (.int (if i < 0 then -i else i)))
  | .max, [.int i, .int j] => some (.pv (.int (if j > i then j else i)))
  | .max, [.int i, .int j, .int k] => some (.pv (.int (if k > (if j > i then j else i) then k else (if j > i then j else i))))
  | .max, [x] => (asL x).bind fun xs => (asInts xs).bind fun ns => match ns with | [] => none | n :: r => some (.pv (.int (maxI n r)))
  | .min, [.int i, .int j] => some (.pv (.int (if j < i then j else i)))
  | .min, [x] => (asL x).bind fun xs => (asInts xs).bind fun ns => match ns with | [] => none | n :: r => some (.pv (.int (minI n r)))
  | .sum, [x] => (asL x).bind fun xs => (asInts xs).bind fun ns => some (.pv (.int ns.sum))
  | .all, [x] => (asL x).bind fun xs => (asBls xs).bind fun bs => some (.pv (.bl (bs.all id)))
  | .any, [x] => (asL x).bind fun xs => (asBls xs).bind fun bs => some (.pv (.bl (bs.any id)))
  | .list, [x] => (asQ x).map fun xs => .li xs
  | .tuple, [x] => (asQ x).map fun xs => .pv (.tup xs)
  | .divmod, [.int i, .int j] => if divPos j = true then some (.pv (.tup [.int (i / j), .int (i % j)])) else none
  | .sorted, [x] => (asL x).bind fun xs => (asPrs xs).map fun ps => .li ((sortP ps).map prD)
  | .int, [.int i] => some (.pv (.int i))
  | .int, [.bl b] => some (.pv (.int (if b = true then 1 else 0)))
  | _, _ => none

def tyN : D → String
  | .non => "NoneType" | .bl _ => "bool" | .int _ => "int" | .str _ => "str" | .tup _ => "tuple" | .lst _ => "list" | .flst _ => "list"
def isiN (n T : String) : Bool := n == T || (T == "int" && n == "bool")
def isiD (d : D) (T : String) : Bool := isiN (tyN d) T
def tyOk (T : String) : Bool := T == "bool" || T == "int" || T == "str" || T == "tuple" || T == "list"

def idxD : D → D → Option D
  | .tup xs, .int i => atI xs i
  | .lst xs, .int i => atI xs i
  | .flst xs, .int i => atI xs i
  | _, _ => none
def cutD {α : Type} (xs : List α) (lo hi : Option Int) : List α := (xs.drop (HT.sIx xs.length 0 lo)).take (HT.sIx xs.length xs.length hi - HT.sIx xs.length 0 lo)
def slD : D → Option Int → Option Int → Option Rv
  | .tup xs, lo, hi => some (.pv (.tup (cutD xs lo hi)))
  | .lst xs, lo, hi => some (.li (cutD xs lo hi))
  | .flst xs, lo, hi => some (.li (cutD xs lo hi))
  | _, _, _ => none

mutual
inductive Ex where
  | slot (i : Nat) | cst (d : D) | glb (x : Str)
  | bin (o : Bop) (a b : Ex) | neg (a : Ex) | notE (a : Ex)
  | cmp (o : Cop) (a b : Ex) | chain (o o' : Cop) (a b c : Ex) | bool (k : Bool) (es : Exs) | ife (c a b : Ex)
  | tup (es : Exs) | lst (es : Exs) | idx (a b : Ex) | sl (a : Ex) (lo hi : Exo)
  | call (f : Str) (es : Exs) | bi (f : Bi) (es : Exs) | isi (a : Ex) (T : String)
  | rev (a : Ex) | isx (i : Nat) (ts : List Str)
  | chain3 (o1 o2 o3 : Cop) (a b c d : Ex) | lidx (i : Nat) (e : Ex) | lens (e : Ex)
  | comp (own : List (Str × Nat)) (elt : Ex) (tg : Tg) (it : Itx) (c : Exo)
inductive Exs where
  | nil | cons (e : Ex) (es : Exs)
inductive Exo where
  | no | yes (e : Ex)
inductive Itx where
  | sql (e : Ex) | sqt (e : Ex) | rng1 (a : Ex) | rng2 (a b : Ex) | zip (a b : Ex) | enum (a : Ex) | zip3 (a b c : Ex)
end

/-- an error of the class c is one of t's -/
def subX (c t : Str) : Bool := decide (t = c) || decide (t = "YardError") || decide (t = "ValueError")
/-- a slot: empty, a thing, a list of the frame's own -/
inductive Sl where
  | un | pv (d : D) | li (xs : List D) | ex (c : Str) | hid
abbrev Ev := List Sl
def viewS (env : Ev) (i : Nat) : Option D := match env[i]? with
  | some (.pv d) => some d
  | some (.li xs) => some (.lst xs)
  | _ => none
def fzo (r : Option Rv) : Option D := r.map Rv.fz
def viewOr (x : Ex) (env : Ev) (r : Option Rv) : Option D := match x with
  | .slot i => viewS env i
  | _ => r.map Rv.fz
def toB (r : Option Rv) : Option Bool := match r with
  | some (.pv (.bl b)) => some b
  | _ => none
def wipeS (env : Ev) : List Nat → Ev
  | [] => env
  | v :: vs => (wipeS env vs).set v .un
def bindL : List Nat → List D → Ev → Option Ev
  | [], [], env => some env
  | i :: is, d :: ds, env => if i < env.length then bindL is ds (env.set i (.pv d)) else none
  | _, _, _ => none
def bindT : Tg → D → Ev → Option Ev
  | .nm i, d, env => if i < env.length then some (env.set i (.pv d)) else none
  | .tup is, .tup ds, env => bindL is ds env
  | .tup is, .lst ds, env => bindL is ds env
  | .tup is, .flst ds, env => bindL is ds env
  | _, _, _ => none
def colD (g : D → Option (Option D)) : List D → Option (List D)
  | [] => some []
  | v :: r => (g v).bind fun o => (colD g r).map fun rest => match o with | some d => d :: rest | none => rest
/-- the first place of y -/
def idxOf (y : D) : List D → Option Nat
  | [] => none
  | x :: xs => if eqD x y = true then some 0 else (idxOf y xs).map (· + 1)
def rngD (lo : Int) (n : Nat) : List D := (List.range n).map fun (k : Nat) => D.int (lo + (k : Int))
def enumD : Nat → List D → List D
  | _, [] => []
  | k, d :: r => .tup [.int (k : Nat), d] :: enumD (k + 1) r
def zipD : List D → List D → List D
  | d :: r, e :: s => .tup [d, e] :: zipD r s
  | _, _ => []
def zip3D : List D → List D → List D → List D
  | d :: r, e :: s, f :: t => .tup [d, e, f] :: zip3D r s t
  | _, _, _ => []
def asI : D → Option Int
  | .int i => some i
  | _ => none
def inRg (i : Int) : Bool := decide (-(2 ^ 62) ≤ i ∧ i < 2 ^ 62)

section
variable (ρ : Str → List D → Option Rv) (κ : Str → Option D)
mutual
def evR : Ex → Ev → Option Rv
  | .slot i, env => match env[i]? with
    | some (.pv d) => some (.pv d)
    | _ => none
  | .cst d, _ => some (.pv d)
  | .glb x, _ => (κ x).map .pv
  | .bin o a b, env => (viewOr a env (evR a env)).bind fun x => (viewOr b env (evR b env)).bind fun y => binD o x y
  | .neg a, env => (fzo (evR a env)).bind fun x => (asI x).map fun i => .pv (.int (-i))
  | .notE a, env => (toB (evR a env)).map fun b => .pv (.bl (!b))
  | .cmp o a b, env => (viewOr a env (evR a env)).bind fun x => (viewOr b env (evR b env)).bind fun y => (cmpD o x y).map fun k => .pv (.bl k)
  | .chain o o' a b c, env => (viewOr a env (evR a env)).bind fun x => (viewOr b env (evR b env)).bind fun y => (cmpD o x y).bind fun k =>
      if k = true then (viewOr c env (evR c env)).bind fun z => (cmpD o' y z).map fun k => .pv (.bl k) else some (.pv (.bl false))
  | .chain3 o o2 o3 a b c d, env => (viewOr a env (evR a env)).bind fun x => (viewOr b env (evR b env)).bind fun y => (cmpD o x y).bind fun k =>
      if k = true then (viewOr c env (evR c env)).bind fun z => (cmpD o2 y z).bind fun k => if k = true then (viewOr d env (evR d env)).bind fun u => (cmpD o3 z u).map fun k => .pv (.bl k) else some (.pv (.bl false)) else some (.pv (.bl false))
  | .lidx i e, env => (viewS env i).bind fun x => (asL x).bind fun xs => (fzo (evR e env)).bind fun y => if shp 20 y = true ∧ shp 20 (.lst xs) = true then (idxOf y xs).map fun j => .pv (.int (j : Nat)) else none
  | .lens e, env => (viewOr e env (evR e env)).bind fun x => (asL x).bind fun xs => (asInts xs).bind fun ns => if ns.length ≤ 4000 then some (.pv (.int ((ddI ns).length : Nat))) else none
  | .bool k es, env => (evB k es env).map fun b => .pv (.bl b)
  | .ife c a b, env => (toB (evR c env)).bind fun k => if k = true then evR a env else evR b env
  | .tup es, env => (evEs es env).bind fun ds => if ds.length ≤ 16777216 then some (.pv (.tup ds)) else none
  | .lst es, env => (evEs es env).bind fun ds => if ds.length ≤ 16777216 then some (.li ds) else none
  | .idx a b, env => (viewOr a env (evR a env)).bind fun x => (fzo (evR b env)).bind fun y => (idxD x y).map .pv
  | .sl a lo hi, env => (viewOr a env (evR a env)).bind fun x => (evO lo env).bind fun l => (evO hi env).bind fun u => slD x l u
  | .call f es, env => (evEs es env).bind fun ds => ρ f ds
  | .bi f es, env => (evVs es env).bind fun ds => biD f ds
  | .isi a T, env => (viewOr a env (evR a env)).map fun d => .pv (.bl (isiD d T))
  | .rev a, env => (viewOr a env (evR a env)).bind fun x => (asL x).map fun xs => .li xs.reverse
  | .isx i ts, env => match env[i]? with
    | some (.ex c) => some (.pv (.bl (ts.any (subX c))))
    | _ => none
  | .comp own elt tg it c, env => (evI it env).bind fun vs => if vs.length ≤ 16777216 then
      (colD (fun v => (bindT tg v (wipeS env (own.map (·.2)))).bind fun env2 => (evC c env2).bind fun k => if k = true then (fzo (evR elt env2)).map some else some none) vs).map .li else none
def evEs : Exs → Ev → Option (List D)
  | .nil, _ => some []
  | .cons e es, env => (fzo (evR e env)).bind fun d => (evEs es env).map fun ds => d :: ds
def evVs : Exs → Ev → Option (List D)
  | .nil, _ => some []
  | .cons e es, env => (viewOr e env (evR e env)).bind fun d => (evVs es env).map fun ds => d :: ds
/-- and (true), or (false) -/
def evB : Bool → Exs → Ev → Option Bool
  | k, .nil, _ => some k
  | k, .cons e es, env => (toB (evR e env)).bind fun b => if b = k then evB k es env else some b
/-- a slice's part -/
def evO : Exo → Ev → Option (Option Int)
  | .no, _ => some none
  | .yes e, env => (fzo (evR e env)).bind fun d => (asI d).map some
/-- a comprehension's test -/
def evC : Exo → Ev → Option Bool
  | .no, _ => some true
  | .yes e, env => toB (evR e env)
def evI : Itx → Ev → Option (List D)
  | .sql e, env => (viewOr e env (evR e env)).bind asQ
  | .sqt e, env => (fzo (evR e env)).bind fun d => match d with | .tup xs => some xs | _ => none
  | .rng1 a, env => (fzo (evR a env)).bind fun d => (asI d).bind fun i => if inRg i = true then some (rngD 0 i.toNat) else none
  | .rng2 a b, env => (fzo (evR a env)).bind fun d => (asI d).bind fun i => (fzo (evR b env)).bind fun d => (asI d).bind fun j => if inRg i = true ∧ inRg j = true then some (rngD i (j - i).toNat) else none
  | .zip a b, env => (viewOr a env (evR a env)).bind fun x => (viewOr b env (evR b env)).bind fun y => (asQ x).bind fun xs => (asQ y).map fun ys => zipD xs ys
  | .enum a, env => (viewOr a env (evR a env)).bind fun x => (asL x).map fun xs => enumD 0 xs
  | .zip3 a b c, env => (viewOr a env (evR a env)).bind fun x => (viewOr b env (evR b env)).bind fun y => (viewOr c env (evR c env)).bind fun z => (asQ x).bind fun xs => (asQ y).bind fun ys => (asQ z).map fun zs => zip3D xs ys zs
end

/-! ### what raises -/
/-- x raises, or it has an answer and k raises -/
def thX {α : Type} (x : Option Str) (v : Option α) (k : Option Str) : Option Str := match x with
  | some c => some c
  | none => match v with
    | some _ => k
    | none => none
variable (ξ : Str → List D → Option Str)
mutual
def xE : Ex → Ev → Option Str
  | .bin _ a b, env => thX (xE a env) (viewOr a env (evR ρ κ a env)) (xE b env)
  | .notE a, env => xE a env
  | .cmp _ a b, env => thX (xE a env) (viewOr a env (evR ρ κ a env)) (xE b env)
  | .bool k es, env => xB k es env
  | .tup es, env => xEs es env
  | .lst es, env => xEs es env
  | .idx a b, env => thX (xE a env) (viewOr a env (evR ρ κ a env)) (xE b env)
  | .call f es, env => thX (xEs es env) (evEs ρ κ es env) ((evEs ρ κ es env).bind (ξ f))
  | _, _ => none
def xEs : Exs → Ev → Option Str
  | .nil, _ => none
  | .cons e es, env => thX (xE e env) (fzo (evR ρ κ e env)) (xEs es env)
def xB : Bool → Exs → Ev → Option Str
  | _, .nil, _ => none
  | k, .cons e es, env => match xE e env with
    | some c => some c
    | none => match toB (evR ρ κ e env) with
      | some b => if b = k then xB k es env else none
      | none => none
end
end
end PL

/-! P3 -/
namespace PL
open PySem PySem.Spec PyProof.Rows L2

theorem sizeL : (sizeLine : Nat) = 16777216 := sizeLine_eq
theorem OpR.or {X : Cx} {f : Value → Value → Sem Value} {r r' : R2} (h : OpR X f r) (h' : OpR X f r') : OpR X f (fun x y H Q => r x y H Q ∨ r' x y H Q) := by
  intro pins s σ H x y v u Q I rx ry q
  rcases q with q | q
  · exact h pins s σ H x y v u Q I rx ry q
  · exact h' pins s σ H x y v u Q I rx ry q
def rNo : R2 := fun _ _ _ _ => False
theorem OpR.no {X : Cx} {f : Value → Value → Sem Value} : OpR X f rNo := fun _ _ _ _ _ _ _ _ _ _ _ _ q => q.elim
def rAddS : R2 := fun x y H Q => ∃ i j, x = .str i ∧ y = .str j ∧ i.length + j.length ≤ sizeLine ∧ Q (.str (i ++ j)) H
def CDivX (i j : Int) : Prop := j ≠ 0 ∧ Builtin.divisionGoesByPylong i j = false

def bopP : Bop → Operator
  | .add => .Add | .sub => .Sub | .mul => .Mult | .fdiv => .FloorDiv | .mod => .Mod | .pow => .Pow | .shl => .LShift | .shr => .RShift | .band => .BitAnd | .bor => .BitOr
def rBin (K : PySem.W.Frag) : Bop → R2
  | .add => fun x y H Q => rI0 (fun i j => .int (i + j)) x y H Q ∨ rAddS x y H Q ∨ rCatA K x y H Q ∨ rCat x y H Q
  | .sub => rI0 fun i j => .int (i - j)
  | .mul => fun x y H Q => rI CMul (fun i j => .int (i * j)) x y H Q ∨ rI CMulW (fun i j => .int (i * j)) x y H Q ∨ rRep x y H Q
  | .fdiv => rI CDivX fun i j => .int (i.fdiv j)
  | .mod => rI (fun _ j => j ≠ 0) fun i j => .int (i.fmod j)
  | .pow => rI CPow fun i j => .int (i ^ j.toNat)
  | .shl => rI CPow fun i j => .int (i * 2 ^ j.toNat)
  | .shr => rI (fun _ j => 0 ≤ j) fun i j => .int (i / 2 ^ j.toNat)
  | .band => rI0 fun i j => .int (Builtin.bitAnd i j)
  | .bor => rI0 fun i j => .int (Builtin.bitOr i j)
theorem opBin {X : Cx} : ∀ o : Bop, OpR X (binaryOp (bopP o)) (rBin X.K o)
  | .add => OpR.or op_add (OpR.or op_add_str (OpR.or op_catA op_cat))
  | .sub => op_sub
  | .mul => OpR.or op_mul (OpR.or op_mulW op_rep)
  | .fdiv => opI fun _ _ _ _ _ _ _ hc q => floordiv_int hc.1 q (.inl hc.2)
  | .mod => op_modN
  | .pow => op_pow
  | .shl => op_shl
  | .shr => op_shr
  | .band => op_and
  | .bor => op_or

theorem divOk_of {i j : Int} (h : divOk j = true) : CDivX i j := by
  unfold divOk at h
  simp only [Bool.and_eq_true, decide_eq_true_eq] at h
  refine ⟨h.1, PyProof.noPylong_of_log2 ?_⟩
  have h2 := h.2
  rw [bigd_eq] at h2
  exact PySem.Flt.log2_lt_of (by decide) h2
theorem powOk_of {i j : Int} (h : powOk i j = true) : CPow i j := by
  unfold powOk at h
  have q : 0 ≤ j ∧ j ≤ 1000000 ∧ i.natAbs < 2 ^ 64 := of_decide_eq_true h
  exact q
theorem mulOk_of {i j : Int} (h : mulOk i j = true) : CMul i j ∨ CMulW i j := by
  unfold mulOk at h
  simp only [Bool.or_eq_true, Bool.and_eq_true, decide_eq_true_eq] at h
  rcases h with (⟨h1, h2⟩ | h) | h
  · rw [bigm_eq] at h1 h2
    exact .inr (wide_mul h1 h2 (by decide) (by decide) (by decide))
  · exact .inl (.inr h)
  · exact .inl (.inl h)

section
variable {K : PySem.W.Frag} {F H : Hp} {Q : VK}
/-- what is wanted behind a step -/
def Wish (K : PySem.W.Frag) (F H : Hp) (Q : VK) (r : Rv) : Prop := ∀ F' H' v, Gr F H F' H' → RR K H F' H' v r → Q v H'
theorem Wish.pvi (s : Same F H) {i : Int} (w : Wish K F H Q (.pv (.int i))) : Q (.int i) H := w F H (.int i) (Gr.refl s) (by simp only [RR, R])
theorem Wish.pvb (s : Same F H) {i : Bool} (w : Wish K F H Q (.pv (.bl i))) : Q (.bl i) H := w F H (.bl i) (Gr.refl s) (by simp only [RR, R])
theorem Wish.pvs (s : Same F H) {i : Str} (w : Wish K F H Q (.pv (.str i))) : Q (.str i) H := w F H (.str i) (Gr.refl s) (by simp only [RR, R])
theorem Wish.tup (s : Same F H) {vs : List V} {ds : List D} (w : Wish K F H Q (.pv (.tup ds))) (r : Rs K F vs ds) {p : Addr} (hp : H p = none) : Q (.ref p) (upd H p (.tup vs)) := by
  have g := Gr.new (.tup vs) s hp
  refine w _ _ _ g ?_
  simp only [RR, R]
  exact ⟨p, vs, rfl, .inl (.inl upd_same), r.mono g.ff⟩
theorem Wish.li (s : Same F H) {vs : List V} {ds : List D} (w : Wish K F H Q (.li ds)) (r : Rs K F vs ds) {p : Addr} (hp : H p = none) : Q (.ref p) (upd H p (.lst vs)) := by
  have g := Gr.newO (.lst vs) s hp
  refine w _ _ _ g ?_
  exact ⟨p, vs, rfl, upd_same, r, none_of_same s hp, hp⟩
theorem Wish.same (s : Same F H) {v : V} {d : D} (w : Wish K F H Q (.pv d)) (r : R K F v d) : Q v H := w F H v (Gr.refl s) r

theorem binB (s : Same F H) {x y : V} {d e : D} {r : Rv} : ∀ o : Bop, RV K F H x d → RV K F H y e → binD o d e = some r → Wish K F H Q r → rBin K o x y H Q := by
  intro o hx hy h w
  cases o with
  | add =>
    cases d <;> cases e <;> simp only [binD, reduceCtorEq] at h
    · cases h
      exact .inl ⟨_, _, hx.int, hy.int, w.pvi s⟩
    · split at h
      · rename_i hl
        cases h
        exact .inr (.inl ⟨_, _, hx.str, hy.str, by rw [sizeL]; exact hl, w.pvs s⟩)
      · cases h
    · split at h
      · rename_i hl
        cases h
        obtain ⟨a, vs, rfl, t1, r1⟩ := hx.tup s
        obtain ⟨b, us, rfl, t2, r2⟩ := hy.tup s
        have len0 : ∀ {us : List V} {es : List D}, Rs K F us es → us = [] → es = [] := fun q e0 => by
          have e1 := q.length
          rw [e0] at e1
          exact List.length_eq_zero_iff.mp e1.symm
        refine .inr (.inr (.inl ⟨a, b, vs, us, rfl, rfl, t1, t2, by rw [sizeL, r1.length, r2.length]; exact hl, fun e0 => ?_, fun _ e0 => ?_, fun _ _ p hp => w.tup s (r1.append r2) hp⟩))
        · have e2 := len0 r1 e0
          subst e2
          rw [List.nil_append] at w
          rcases hy with hy | ⟨_, _, _, z, _⟩
          · exact w.same s hy
          · cases z
        · have e2 := len0 r2 e0
          subst e2
          rw [List.append_nil] at w
          rcases hx with hx | ⟨_, _, _, z, _⟩
          · exact w.same s hx
          · cases z
      · cases h
    · split at h
      · rename_i hl
        cases h
        obtain ⟨a, vs, rfl, t1, r1⟩ := hx.lst s
        obtain ⟨b, us, rfl, t2, r2⟩ := hy.lst s
        exact .inr (.inr (.inr ⟨a, b, vs, us, rfl, rfl, t1, t2, by rw [sizeL, r1.length, r2.length]; exact hl, fun p hp => w.li s (r1.append r2) hp⟩))
      · cases h
  | sub =>
    cases d <;> cases e <;> simp only [binD, reduceCtorEq] at h
    cases h
    exact ⟨_, _, hx.int, hy.int, w.pvi s⟩
  | mul =>
    cases d <;> cases e <;> simp only [binD, reduceCtorEq] at h
    split at h
    · rename_i hl
      cases h
      rcases mulOk_of hl with q | q
      · exact .inl ⟨_, _, hx.int, hy.int, q, w.pvi s⟩
      · exact .inr (.inl ⟨_, _, hx.int, hy.int, q, w.pvi s⟩)
    · cases h
    · split at h
      · rename_i hl
        cases h
        obtain ⟨a, vs, rfl, t1, r1⟩ := hx.lst s
        have hb := of_decide_eq_true hl.1
        exact .inr (.inr ⟨a, _, vs, rfl, hy.int, t1, by omega, by omega, by rw [sizeL, r1.length]; exact hl.2, fun p hp => w.li s (r1.rep _) hp⟩)
      · cases h
  | fdiv =>
    cases d <;> cases e <;> simp only [binD, reduceCtorEq] at h
    split at h
    · rename_i hl
      cases h
      exact ⟨_, _, hx.int, hy.int, divOk_of hl, w.pvi s⟩
    · cases h
  | mod =>
    cases d <;> cases e <;> simp only [binD, reduceCtorEq] at h
    split at h
    · rename_i hl
      cases h
      exact ⟨_, _, hx.int, hy.int, hl, w.pvi s⟩
    · cases h
  | pow =>
    cases d <;> cases e <;> simp only [binD, reduceCtorEq] at h
    split at h
    · rename_i hl
      cases h
      exact ⟨_, _, hx.int, hy.int, powOk_of hl, w.pvi s⟩
    · cases h
  | shl =>
    cases d <;> cases e <;> simp only [binD, reduceCtorEq] at h
    split at h
    · rename_i hl
      cases h
      exact ⟨_, _, hx.int, hy.int, powOk_of hl, w.pvi s⟩
    · cases h
  | shr =>
    cases d <;> cases e <;> simp only [binD, reduceCtorEq] at h
    split at h
    · rename_i hl
      cases h
      exact ⟨_, _, hx.int, hy.int, hl, w.pvi s⟩
    · cases h
  | band =>
    cases d <;> cases e <;> simp only [binD, reduceCtorEq] at h
    cases h
    exact ⟨_, _, hx.int, hy.int, w.pvi s⟩
  | bor =>
    cases d <;> cases e <;> simp only [binD, reduceCtorEq] at h
    cases h
    exact ⟨_, _, hx.int, hy.int, w.pvi s⟩
end

/-! ### comparisons -/
def copP : Cop → CmpOp
  | .lt => .Lt | .le => .LtE | .gt => .Gt | .ge => .GtE | .eq => .Eq | .ne => .NotEq | .is => .Is | .isn => .IsNot | .inn => .In | .nin => .NotIn
def rIsN1 : R2 := fun x y H Q => y = .non ∧ Q (.bl (decide (x = .non))) H
def rNotN1 : R2 := fun x y H Q => y = .non ∧ Q (.bl (!decide (x = .non))) H
def rCmp (K : PySem.W.Frag) : Cop → R2
  | .lt => rI0 fun i j => .bl (decide (i < j))
  | .le => rI0 fun i j => .bl (decide (i ≤ j))
  | .gt => rI0 fun i j => .bl (decide (j < i))
  | .ge => rI0 fun i j => .bl (decide (j ≤ i))
  | .eq => rEqD K
  | .ne => rNeD K
  | .is => fun x y H Q => rIsN1 x y H Q ∨ rIsB x y H Q
  | .isn => fun x y H Q => rNotN1 x y H Q ∨ rNotB x y H Q
  | .inn => fun x y H Q => rInD K x y H Q ∨ rIn K false x y H Q
  | .nin => fun x y H Q => rNotInD K x y H Q ∨ rIn K true x y H Q
theorem opCmp {X : Cx} (hu : X.A.units + 65 < cLine) : ∀ o : Cop, OpR X (compareOp (copP o)) (rCmp X.K o)
  | .lt => op_lt
  | .le => op_le
  | .gt => op_gt
  | .ge => op_ge
  | .eq => op_eqD (by omega)
  | .ne => op_neD (by omega)
  | .is => OpR.or op_isN op_isBl
  | .isn => OpR.or op_notN op_notBl
  | .inn => OpR.or (op_inD hu) op_in_seq
  | .nin => OpR.or (op_notInD hu) op_notIn_seq
theorem asInts_rs {K : PySem.W.Frag} {F : Hp} : ∀ {ds : List D} {ns : List Int} {vs : List V}, asInts ds = some ns → Rs K F vs ds → vs = ns.map V.int
  | [], _, _, h, r => by
    simp only [asInts] at h
    cases h
    simp only [Rs] at r
    subst r
    rfl
  | d :: ds, ns, vs, h, r => by
    simp only [Rs] at r
    obtain ⟨v, us, rfl, r1, r2⟩ := r
    cases d <;> simp only [asInts, reduceCtorEq] at h
    rename_i i
    cases e : asInts ds with
    | none => rw [e] at h; cases h
    | some ms =>
      rw [e] at h
      cases h
      simp only [R] at r1
      subst r1
      rw [asInts_rs e r2]
      rfl
theorem asBls_rs {K : PySem.W.Frag} {F : Hp} : ∀ {ds : List D} {ns : List Bool} {vs : List V}, asBls ds = some ns → Rs K F vs ds → vs = ns.map V.bl
  | [], _, _, h, r => by
    simp only [asBls] at h
    cases h
    simp only [Rs] at r
    subst r
    rfl
  | d :: ds, ns, vs, h, r => by
    simp only [Rs] at r
    obtain ⟨v, us, rfl, r1, r2⟩ := r
    cases d <;> simp only [asBls, reduceCtorEq] at h
    rename_i i
    cases e : asBls ds with
    | none => rw [e] at h; cases h
    | some ms =>
      rw [e] at h
      cases h
      simp only [R] at r1
      subst r1
      rw [asBls_rs e r2]
      rfl
theorem flat_ints : ∀ ns : List Int, (ns.map V.int).all flatV = true
  | [] => rfl
  | _ :: r => by simp only [List.map_cons, List.all_cons, flatV, Bool.true_and]; exact flat_ints r
theorem inV_ints (i : Int) : ∀ ns : List Int, inV (.int i) (ns.map V.int) = ns.any fun n => decide (n = i)
  | [] => rfl
  | n :: r => by
    have h := inV_ints i r
    unfold inV at h ⊢
    simp only [List.map_cons, List.any_cons, h, L2.eqV]
    congr 1
theorem toPys_any (x : D) : ∀ ds : List D, ((toPys ds).any fun z => PyData.eqv z (toPy x)) = ds.any fun z => eqD z x
  | [] => rfl
  | d :: ds => by simp only [toPys, List.any_cons, toPys_any x ds]; rfl
section
variable {K : PySem.W.Frag} {F H : Hp} {Q : VK}
theorem R_ref_non {v : V} {a : Addr} (e : v = .ref a) : decide (v = V.non) = false := by subst e; rfl
theorem cmpB (s : Same F H) {x y : V} {d e : D} {k : Bool} : ∀ o : Cop, RV K F H x d → RV K F H y e → cmpD o d e = some k → Q (.bl k) H → rCmp K o x y H Q := by
  intro o hx hy h w
  cases o with
  | lt => cases d <;> cases e <;> simp only [cmpD, reduceCtorEq] at h; cases h; exact ⟨_, _, hx.int, hy.int, w⟩
  | le => cases d <;> cases e <;> simp only [cmpD, reduceCtorEq] at h; cases h; exact ⟨_, _, hx.int, hy.int, w⟩
  | gt => cases d <;> cases e <;> simp only [cmpD, reduceCtorEq] at h; cases h; exact ⟨_, _, hx.int, hy.int, w⟩
  | ge => cases d <;> cases e <;> simp only [cmpD, reduceCtorEq] at h; cases h; exact ⟨_, _, hx.int, hy.int, w⟩
  | eq =>
    simp only [cmpD] at h
    split at h
    · rename_i hl
      cases h
      exact ⟨_, _, hx.dp s, hy.dp s, shp_shaped hl.1, shp_shaped hl.2, w⟩
    · cases h
  | ne =>
    simp only [cmpD] at h
    split at h
    · rename_i hl
      cases h
      exact ⟨_, _, hx.dp s, hy.dp s, shp_shaped hl.1, shp_shaped hl.2, w⟩
    · cases h
  | is =>
    cases d <;> cases e <;> simp only [cmpD, reduceCtorEq] at h <;> cases h
    · refine .inl ⟨hy.non, ?_⟩; rw [hx.non]; exact w
    · refine .inl ⟨hy.non, ?_⟩; rw [hx.bl]; exact w
    · exact .inr ⟨_, _, hx.bl, hy.bl, w⟩
    · refine .inl ⟨hy.non, ?_⟩; rw [hx.int]; exact w
    · refine .inl ⟨hy.non, ?_⟩; rw [hx.str]; exact w
    · obtain ⟨a, vs, e, _⟩ := hx.tup s; refine .inl ⟨hy.non, ?_⟩; rw [R_ref_non e]; exact w
    · obtain ⟨a, vs, e, _⟩ := hx.lst s; refine .inl ⟨hy.non, ?_⟩; rw [R_ref_non e]; exact w
    · obtain ⟨a, vs, e, _⟩ := hx.flst s; refine .inl ⟨hy.non, ?_⟩; rw [R_ref_non e]; exact w
  | isn =>
    cases d <;> cases e <;> simp only [cmpD, reduceCtorEq] at h <;> cases h
    · refine .inl ⟨hy.non, ?_⟩; rw [hx.non]; exact w
    · refine .inl ⟨hy.non, ?_⟩; rw [hx.bl]; exact w
    · exact .inr ⟨_, _, hx.bl, hy.bl, w⟩
    · refine .inl ⟨hy.non, ?_⟩; rw [hx.int]; exact w
    · refine .inl ⟨hy.non, ?_⟩; rw [hx.str]; exact w
    · obtain ⟨a, vs, e, _⟩ := hx.tup s; refine .inl ⟨hy.non, ?_⟩; rw [R_ref_non e]; exact w
    · obtain ⟨a, vs, e, _⟩ := hx.lst s; refine .inl ⟨hy.non, ?_⟩; rw [R_ref_non e]; exact w
    · obtain ⟨a, vs, e, _⟩ := hx.flst s; refine .inl ⟨hy.non, ?_⟩; rw [R_ref_non e]; exact w
  | inn =>
    cases e <;> simp only [cmpD, reduceCtorEq] at h
    · cases d <;> simp only [reduceCtorEq] at h
      rename_i ds i
      cases e : asInts ds with
      | none => rw [e] at h; cases h
      | some ns =>
        rw [e] at h
        cases h
        obtain ⟨a, vs, rfl, t, r⟩ := hy.tup s
        have ev := asInts_rs e r
        subst ev
        refine .inr ⟨a, _, rfl, .inr t, ?_, flat_ints ns, ?_⟩
        · rw [hx.int]; rfl
        · rw [hx.int, inV_ints]; exact w
    · rename_i ds
      split at h
      · rename_i hl
        cases h
        exact .inl ⟨toPy d, toPys ds, hx.dp s, hy.dp s, shp_shaped hl.1, shp_shaped hl.2, by rw [toPys_any]; exact w⟩
      · cases h
    · rename_i ds
      split at h
      · rename_i hl
        cases h
        exact .inl ⟨toPy d, toPys ds, hx.dp s, hy.dp s, shp_shaped hl.1, shp_shaped hl.2, by rw [toPys_any]; exact w⟩
      · cases h
  | nin =>
    cases e <;> simp only [cmpD, reduceCtorEq] at h
    · cases d <;> simp only [reduceCtorEq] at h
      rename_i ds i
      cases e : asInts ds with
      | none => rw [e] at h; cases h
      | some ns =>
        rw [e] at h
        cases h
        obtain ⟨a, vs, rfl, t, r⟩ := hy.tup s
        have ev := asInts_rs e r
        subst ev
        refine .inr ⟨a, _, rfl, .inr t, ?_, flat_ints ns, ?_⟩
        · rw [hx.int]; rfl
        · rw [hx.int, inV_ints]; exact w
    · rename_i ds
      split at h
      · rename_i hl
        cases h
        exact .inl ⟨toPy d, toPys ds, hx.dp s, hy.dp s, shp_shaped hl.1, shp_shaped hl.2, by rw [toPys_any]; exact w⟩
      · cases h
    · rename_i ds
      split at h
      · rename_i hl
        cases h
        exact .inl ⟨toPy d, toPys ds, hx.dp s, hy.dp s, shp_shaped hl.1, shp_shaped hl.2, by rw [toPys_any]; exact w⟩
      · cases h
end
end PL

/-! P4 -/
namespace PL
open PySem PySem.Spec PyProof.Rows L2
def biN : Bi → Str
  | .len => "len" | .abs => "abs" | .max => "max" | .min => "min" | .sum => "sum" | .all => "all" | .any => "any" | .list => "list" | .tuple => "tuple" | .int => "int" | .divmod => "divmod" | .sorted => "sorted"
/-- a built-in class, or a built-in function -/
def biTy : Bi → Bool
  | .list => true | .tuple => true | .int => true | _ => false
def biV : Bi → Value
  | .len => .builtin "len" | .abs => .builtin "abs" | .max => .builtin "max" | .min => .builtin "min" | .sum => .builtin "sum" | .all => .builtin "all" | .any => .builtin "any" | .list => .type "list" | .tuple => .type "tuple" | .int => .type "int" | .divmod => .builtin "divmod" | .sorted => .builtin "sorted"
abbrev RL := List V → Hp → VK → Prop
def rLen (K : PySem.W.Frag) : RL := fun xs H Q => ∃ x n, xs = [x] ∧ LenV K x H n ∧ Q (.int n) H
def rAbs : RL := fun xs H Q => ∃ i, xs = [.int i] ∧ Q (.int (if i < 0 then -i else i)) H
def rMax2 : RL := fun xs H Q => ∃ i j, xs = [.int i, .int j] ∧ Q (.int (if j > i then j else i)) H
def rMin2 : RL := fun xs H Q => ∃ i j, xs = [.int i, .int j] ∧ Q (.int (if j < i then j else i)) H
def rListO (K : PySem.W.Frag) : RL := fun xs H Q => ∃ p ys, xs = [.ref p] ∧ (SqL K H p ys ∨ SqT K H p ys) ∧ ∀ l, H l = none → Q (.ref l) (upd H l (.lst ys))
def rTupO (K : PySem.W.Frag) : RL := fun xs H Q => ∃ p ys, xs = [.ref p] ∧ ((SqL K H p ys ∧ ∀ l, H l = none → Q (.ref l) (upd H l (.tup ys))) ∨ (SqT K H p ys ∧ Q (.ref p) H))
def rInt1 : RL := fun xs H Q => (∃ i, xs = [.int i] ∧ Q (.int i) H) ∨ ∃ k, xs = [.bl k] ∧ Q (.int (if k then 1 else 0)) H
def rDivmod : RL := fun xs H Q => ∃ i j, xs = [.int i, .int j] ∧ CDiv i j ∧ ∀ p, H p = none → Q (.ref p) (upd H p (.tup [.int (i / j), .int (i % j)]))
def rBi (K : PySem.W.Frag) : Bi → RL
  | .len => rLen K
  | .abs => rAbs
  | .max => fun xs H Q => rMax2 xs H Q ∨ rMax K xs H Q ∨ rNuC3 nuMax3 xs H Q
  | .min => fun xs H Q => rMin2 xs H Q ∨ rMin K xs H Q
  | .sum => rSum K
  | .all => rAll K
  | .any => rAny K
  | .list => rListO K
  | .tuple => rTupO K
  | .int => rInt1
  | .divmod => rDivmod
  | .sorted => rSortD K
theorem opBi {X : Cx} (hc : X.calm = true) : ∀ f : Bi, CallR X (biV f) (rBi X.K f)
  | .len => call_len
  | .abs => call_abs
  | .max => CallR.or (call_max2 hc) (CallR.or (cr_max hc) (call_max3Nu hc))
  | .min => CallR.or (call_min2 hc) (cr_min hc)
  | .sum => cr_sum hc
  | .all => cr_all hc
  | .any => cr_any hc
  | .list => call_list_of
  | .tuple => call_tuple_of
  | .int => call_int1
  | .divmod => call_divmod
  | .sorted => cr_sortD
theorem maxI_ge : ∀ (r : List Int) (m : Int), m ≤ maxI m r ∧ ∀ y ∈ r, y ≤ maxI m r
  | [], m => ⟨Int.le_refl _, fun _ h => by cases h⟩
  | x :: r, m => by
    have h := maxI_ge r (if x > m then x else m)
    show m ≤ maxI (if x > m then x else m) r ∧ ∀ y ∈ x :: r, y ≤ maxI (if x > m then x else m) r
    refine ⟨?_, fun y hy => ?_⟩
    · have := h.1
      split at this <;> omega
    · rcases List.mem_cons.mp hy with e | hy
      · subst e
        have := h.1
        split at this <;> omega
      · exact h.2 y hy
theorem maxI_mem : ∀ (r : List Int) (m : Int), maxI m r = m ∨ maxI m r ∈ r
  | [], m => .inl rfl
  | x :: r, m => by
    show maxI (if x > m then x else m) r = m ∨ maxI (if x > m then x else m) r ∈ x :: r
    rcases maxI_mem r (if x > m then x else m) with h | h
    · rw [h]
      split
      · exact .inr (List.mem_cons_self ..)
      · exact .inl rfl
    · exact .inr (List.mem_cons_of_mem _ h)
theorem minI_le : ∀ (r : List Int) (m : Int), minI m r ≤ m ∧ ∀ y ∈ r, minI m r ≤ y
  | [], m => ⟨Int.le_refl _, fun _ h => by cases h⟩
  | x :: r, m => by
    have h := minI_le r (if x < m then x else m)
    show minI (if x < m then x else m) r ≤ m ∧ ∀ y ∈ x :: r, minI (if x < m then x else m) r ≤ y
    refine ⟨?_, fun y hy => ?_⟩
    · have := h.1
      split at this <;> omega
    · rcases List.mem_cons.mp hy with e | hy
      · subst e
        have := h.1
        split at this <;> omega
      · exact h.2 y hy
theorem minI_mem : ∀ (r : List Int) (m : Int), minI m r = m ∨ minI m r ∈ r
  | [], m => .inl rfl
  | x :: r, m => by
    show minI (if x < m then x else m) r = m ∨ minI (if x < m then x else m) r ∈ x :: r
    rcases minI_mem r (if x < m then x else m) with h | h
    · rw [h]
      split
      · exact .inr (List.mem_cons_self ..)
      · exact .inl rfl
    · exact .inr (List.mem_cons_of_mem _ h)
theorem max_is {n m : Int} {r : List Int} (h1 : m ∈ n :: r) (h2 : ∀ y, y ∈ n :: r → y ≤ m) : m = maxI n r := by
  have a := maxI_ge r n
  have b := maxI_mem r n
  have c : maxI n r ∈ n :: r := by
    rcases b with b | b
    · rw [b]; exact List.mem_cons_self ..
    · exact List.mem_cons_of_mem _ b
  have d := h2 _ c
  have e : m ≤ maxI n r := by
    rcases List.mem_cons.mp h1 with e | e
    · rw [e]; exact a.1
    · exact a.2 _ e
  omega
theorem min_is {n m : Int} {r : List Int} (h1 : m ∈ n :: r) (h2 : ∀ y, y ∈ n :: r → m ≤ y) : m = minI n r := by
  have a := minI_le r n
  have b := minI_mem r n
  have c : minI n r ∈ n :: r := by
    rcases b with b | b
    · rw [b]; exact List.mem_cons_self ..
    · exact List.mem_cons_of_mem _ b
  have d := h2 _ c
  have e : minI n r ≤ m := by
    rcases List.mem_cons.mp h1 with e | e
    · rw [e]; exact a.1
    · exact a.2 _ e
  omega
/-- the readings of several values -/
def RVs (K : PySem.W.Frag) (F H : Hp) : List V → List D → Prop
  | vs, [] => vs = []
  | vs, d :: ds => ∃ v r, vs = v :: r ∧ RV K F H v d ∧ RVs K F H r ds
section
variable {K : PySem.W.Frag} {F H : Hp} {Q : VK}
theorem RVs.mono {F' H' : Hp} (g : Gr F H F' H') : ∀ {ds : List D} {vs : List V}, RVs K F H vs ds → RVs K F' H' vs ds
  | [], _, h => h
  | d :: ds, _, h => by
    obtain ⟨v, r, e, h1, h2⟩ := h
    exact ⟨v, r, e, h1.mono g, RVs.mono g h2⟩
theorem RVs.one {vs : List V} {d : D} (h : RVs K F H vs [d]) : ∃ v, vs = [v] ∧ RV K F H v d := by
  obtain ⟨v, r, rfl, h1, h2⟩ := h
  have e : r = [] := h2
  subst e
  exact ⟨v, rfl, h1⟩
theorem RVs.two {vs : List V} {d e : D} (h : RVs K F H vs [d, e]) : ∃ v u, vs = [v, u] ∧ RV K F H v d ∧ RV K F H u e := by
  obtain ⟨v, r, rfl, h1, h2⟩ := h
  obtain ⟨u, rfl, h3⟩ := RVs.one h2
  exact ⟨v, u, rfl, h1, h3⟩
theorem lenB (s : Same F H) {v : V} {d : D} {r : Rv} (hv : RV K F H v d) (h : biD .len [d] = some r) (w : Wish K F H Q r) : rLen K [v] H Q := by
  have main : ∀ xs, asQ d = some xs → r = .pv (.int (xs.length : Nat)) → rLen K [v] H Q := fun xs e er => by
    subst er
    obtain ⟨a, vs, rfl, t, q⟩ := hv.asQ s e
    refine ⟨.ref a, vs.length, rfl, ?_, by rw [q.length]; exact w.pvi s⟩
    rcases t with t | t
    · exact .inl ⟨vs, t, rfl⟩
    · exact .inr ⟨vs, t, rfl⟩
  cases d with
  | str x =>
    simp only [biD] at h
    split at h
    · rename_i hl
      cases h
      rw [hv.str]
      exact ⟨_, _, rfl, ⟨by rw [sizeL]; exact hl, rfl⟩, w.pvi s⟩
    · cases h
  | tup xs => simp only [biD, asQ, Option.map_some, Option.some.injEq] at h; exact main xs rfl h.symm
  | lst xs => simp only [biD, asQ, Option.map_some, Option.some.injEq] at h; exact main xs rfl h.symm
  | flst xs => simp only [biD, asQ, Option.map_some, Option.some.injEq] at h; exact main xs rfl h.symm
  | _ => simp only [biD, asQ, Option.map_none, reduceCtorEq] at h
theorem seqI {d : D} {α : Type} {g : List Int → Option α} {r : α} (h : ((asL d).bind fun xs => (asInts xs).bind g) = some r) : ∃ xs ns, asL d = some xs ∧ asInts xs = some ns ∧ g ns = some r := by
  cases e : asL d with
  | none => rw [e] at h; cases h
  | some xs =>
    rw [e] at h
    simp only [Option.bind_some] at h
    cases e2 : asInts xs with
    | none => rw [e2] at h; cases h
    | some ns => rw [e2] at h; exact ⟨xs, ns, rfl, e2, h⟩
theorem seqB {d : D} {α : Type} {g : List Bool → Option α} {r : α} (h : ((asL d).bind fun xs => (asBls xs).bind g) = some r) : ∃ xs ns, asL d = some xs ∧ asBls xs = some ns ∧ g ns = some r := by
  cases e : asL d with
  | none => rw [e] at h; cases h
  | some xs =>
    rw [e] at h
    simp only [Option.bind_some] at h
    cases e2 : asBls xs with
    | none => rw [e2] at h; cases h
    | some ns => rw [e2] at h; exact ⟨xs, ns, rfl, e2, h⟩
theorem asPrs_is : ∀ {xs : List D} {ps : List (Int × Int)}, asPrs xs = some ps → xs = ps.map prD
  | [], ps, h => by cases h; rfl
  | .tup [.int i, .int j] :: r, ps, h => by
    simp only [asPrs] at h
    cases e : asPrs r with
    | none => rw [e] at h; cases h
    | some qs =>
      rw [e] at h
      cases h
      rw [asPrs_is e]; rfl
  | .non :: _, _, h => by simp [asPrs] at h
  | .bl _ :: _, _, h => by simp [asPrs] at h
  | .int _ :: _, _, h => by simp [asPrs] at h
  | .str _ :: _, _, h => by simp [asPrs] at h
  | .lst _ :: _, _, h => by simp [asPrs] at h
  | .flst _ :: _, _, h => by simp [asPrs] at h
  | .tup [] :: _, _, h => by simp [asPrs] at h
  | .tup [_] :: _, _, h => by simp [asPrs] at h
  | .tup (_ :: _ :: _ :: _) :: _, _, h => by simp [asPrs] at h
  | .tup [.non, _] :: _, _, h => by simp [asPrs] at h
  | .tup [.bl _, _] :: _, _, h => by simp [asPrs] at h
  | .tup [.str _, _] :: _, _, h => by simp [asPrs] at h
  | .tup [.tup _, _] :: _, _, h => by simp [asPrs] at h
  | .tup [.lst _, _] :: _, _, h => by simp [asPrs] at h
  | .tup [.flst _, _] :: _, _, h => by simp [asPrs] at h
  | .tup [.int _, .non] :: _, _, h => by simp [asPrs] at h
  | .tup [.int _, .bl _] :: _, _, h => by simp [asPrs] at h
  | .tup [.int _, .str _] :: _, _, h => by simp [asPrs] at h
  | .tup [.int _, .tup _] :: _, _, h => by simp [asPrs] at h
  | .tup [.int _, .lst _] :: _, _, h => by simp [asPrs] at h
  | .tup [.int _, .flst _] :: _, _, h => by simp [asPrs] at h
theorem asPrs_map : ∀ ps : List (Int × Int), asPrs (ps.map prD) = some ps
  | [] => rfl
  | p :: ps => by show (asPrs (ps.map prD)).map ((p.1, p.2) :: ·) = _; rw [asPrs_map ps]; rfl
theorem lexLe_b {p q : Int × Int} : lexLeB p q = true ↔ lexLe p q := by
  simp [lexLeB, lexLe]
theorem lexLe_anti {p q : Int × Int} (h : lexLe p q) (g : lexLe q p) : p = q := by
  unfold lexLe at h g
  exact Prod.ext (by omega) (by omega)
theorem lexLe_refl (p : Int × Int) : lexLe p p := by unfold lexLe; omega
theorem pw_uniq : ∀ {ps qs : List (Int × Int)}, ps.Perm qs → ps.Pairwise lexLe → qs.Pairwise lexLe → ps = qs
  | [], qs, h, _, _ => (List.nil_perm.mp h).symm
  | p :: ps, [], h, _, _ => by simpa using h
  | p :: ps, q :: qs, h, h1, h2 => by
    have a1 : lexLe p q := by
      rcases List.mem_cons.mp (h.symm.mem_iff.mp (List.mem_cons_self ..) : q ∈ p :: ps) with e | e
      · rw [e]; exact lexLe_refl _
      · exact (List.pairwise_cons.mp h1).1 _ e
    have a2 : lexLe q p := by
      rcases List.mem_cons.mp (h.mem_iff.mp (List.mem_cons_self ..) : p ∈ q :: qs) with e | e
      · rw [e]; exact lexLe_refl _
      · exact (List.pairwise_cons.mp h2).1 _ e
    have e := lexLe_anti a1 a2
    subst e
    rw [pw_uniq (List.Perm.cons_inv h) (List.pairwise_cons.mp h1).2 (List.pairwise_cons.mp h2).2]
theorem sortP_perm (ps : List (Int × Int)) : (sortP ps).Perm ps := by unfold sortP; exact List.mergeSort_perm ps _
theorem sortP_pw (ps : List (Int × Int)) : (sortP ps).Pairwise lexLe := by
  unfold sortP
  refine (List.pairwise_mergeSort (fun a b c h1 h2 => ?_) (fun a b => ?_) ps).imp fun {a b} h => lexLe_b.mp h
  · rw [lexLe_b] at *
    unfold lexLe at *
    omega
  · have : lexLe a b ∨ lexLe b a := by unfold lexLe; omega
    rcases this with h | h
    · rw [lexLe_b.mpr h]; rfl
    · rw [lexLe_b.mpr h]; exact Bool.or_true _
theorem sortP_is {ps qs : List (Int × Int)} (h : qs.Perm ps) (g : qs.Pairwise lexLe) : sortP ps = qs := pw_uniq ((sortP_perm ps).trans h.symm) (sortP_pw ps) g
theorem rs_zip {K : PySem.W.Frag} {F : Hp} : ∀ {ys : List V} {qs : List (Int × Int)}, ys.length = qs.length → (∀ u ∈ ys.zip qs, R K F u.1 (prD u.2)) → Rs K F ys (qs.map prD)
  | [], [], _, _ => by simp [Rs]
  | [], _ :: _, h, _ => by simp at h
  | _ :: _, [], h, _ => by simp at h
  | y :: ys, q :: qs, h, g => by
    simp only [List.map_cons, Rs]
    exact ⟨y, ys, rfl, g (y, q) (by simp), rs_zip (by simpa using h) fun u hu => g u (by simp only [List.zip_cons_cons]; exact List.mem_cons_of_mem _ hu)⟩
theorem zip_in {K : PySem.W.Frag} {F : Hp} : ∀ {ys : List V} {qs : List (Int × Int)}, Rs K F ys (qs.map prD) → ∀ u ∈ ys.zip qs, R K F u.1 (prD u.2)
  | _, [], h, u, hu => by simp at hu
  | ys, q :: qs, h, u, hu => by
    simp only [List.map_cons, Rs] at h
    obtain ⟨y, r, rfl, h1, h2⟩ := h
    simp only [List.zip_cons_cons, List.mem_cons] at hu
    rcases hu with rfl | hu
    · exact h1
    · exact zip_in h2 u hu
theorem biB (s : Same F H) : ∀ (f : Bi) {ds : List D} {vs : List V} {r : Rv}, RVs K F H vs ds → biD f ds = some r → Wish K F H Q r → rBi K f vs H Q
  | .len, [], _, _, _, h, _ => by simp [biD] at h
  | .len, [d], vs, r, hv, h, w => by
    obtain ⟨v, rfl, hw⟩ := hv.one
    exact lenB s hw h w
  | .len, _ :: _ :: _, _, _, _, h, _ => by simp [biD] at h
  | .abs, ds, vs, r, hv, h, w => by
    match ds, h, hv with
    | [.int i], h, hv =>
      obtain ⟨v, rfl, hw⟩ := hv.one
      simp only [biD] at h
      cases h
      rw [hw.int]
      exact ⟨_, rfl, w.pvi s⟩
  | .max, ds, vs, r, hv, h, w => by
    match ds, h, hv with
    | [.int i, .int j], h, hv =>
      obtain ⟨v, u, rfl, h1, h2⟩ := hv.two
      simp only [biD] at h
      cases h
      rw [h1.int, h2.int]
      exact .inl ⟨_, _, rfl, w.pvi s⟩
    | [d], h, hv =>
      obtain ⟨v, rfl, hw⟩ := hv.one
      have h' : ((asL d).bind fun xs => (asInts xs).bind fun ns => match ns with | [] => none | n :: r => some (Rv.pv (.int (maxI n r)))) = some r := by
        cases d <;> exact h
      obtain ⟨xs, ns, e1, e2, e3⟩ := seqI h'
      cases ns with
      | nil => cases e3
      | cons n q =>
        cases e3
        obtain ⟨a, us, rfl, t, rr⟩ := hw.asL s e1
        have e4 := asInts_rs e2 rr
        subst e4
        refine .inr (.inl ⟨a, n :: q, rfl, t, Nat.succ_pos _, fun m hm hy => ?_⟩)
        rw [max_is hm hy]
        exact w.pvi s
    | [.int i, .int j, .int k], h, hv =>
      obtain ⟨v, r3, rfl, h1, h2⟩ := hv
      obtain ⟨u, x, rfl, h2, h3⟩ := h2.two
      simp only [biD] at h
      cases h
      rw [h1.int, h2.int, h3.int]
      refine .inr (.inr ⟨_, _, _, .int (if k > (if j > i then j else i) then k else (if j > i then j else i)), rfl, ?_, w.pvi s⟩)
      have e2 : ∀ a b : Int, nuMax2 (.int a) (.int b) = some (.int (if b > a then b else a)) := fun a b => by
        show (some (decide (a < b))).map _ = _
        by_cases q : a < b
        · simp [q]
        · simp [q]
      show (nuMax2 (.int i) (.int j)).bind _ = _
      rw [e2, Option.bind_some, e2]
  | .min, ds, vs, r, hv, h, w => by
    match ds, h, hv with
    | [.int i, .int j], h, hv =>
      obtain ⟨v, u, rfl, h1, h2⟩ := hv.two
      simp only [biD] at h
      cases h
      rw [h1.int, h2.int]
      exact .inl ⟨_, _, rfl, w.pvi s⟩
    | [d], h, hv =>
      obtain ⟨v, rfl, hw⟩ := hv.one
      have h' : ((asL d).bind fun xs => (asInts xs).bind fun ns => match ns with | [] => none | n :: r => some (Rv.pv (.int (minI n r)))) = some r := by
        cases d <;> exact h
      obtain ⟨xs, ns, e1, e2, e3⟩ := seqI h'
      cases ns with
      | nil => cases e3
      | cons n q =>
        cases e3
        obtain ⟨a, us, rfl, t, rr⟩ := hw.asL s e1
        have e4 := asInts_rs e2 rr
        subst e4
        refine .inr ⟨a, n :: q, rfl, t, Nat.succ_pos _, fun m hm hy => ?_⟩
        rw [min_is hm hy]
        exact w.pvi s
  | .sum, ds, vs, r, hv, h, w => by
    match ds, h, hv with
    | [d], h, hv =>
      obtain ⟨v, rfl, hw⟩ := hv.one
      have h' : ((asL d).bind fun xs => (asInts xs).bind fun ns => some (Rv.pv (.int ns.sum))) = some r := by cases d <;> exact h
      obtain ⟨xs, ns, e1, e2, e3⟩ := seqI h'
      cases e3
      obtain ⟨a, us, rfl, t, rr⟩ := hw.asL s e1
      have e4 := asInts_rs e2 rr
      subst e4
      exact ⟨a, ns, rfl, t, w.pvi s⟩
  | .all, ds, vs, r, hv, h, w => by
    match ds, h, hv with
    | [d], h, hv =>
      obtain ⟨v, rfl, hw⟩ := hv.one
      have h' : ((asL d).bind fun xs => (asBls xs).bind fun ns => some (Rv.pv (.bl (ns.all id)))) = some r := by cases d <;> exact h
      obtain ⟨xs, ns, e1, e2, e3⟩ := seqB h'
      cases e3
      obtain ⟨a, us, rfl, t, rr⟩ := hw.asL s e1
      have e4 := asBls_rs e2 rr
      subst e4
      exact ⟨a, ns, rfl, t, w.pvb s⟩
  | .any, ds, vs, r, hv, h, w => by
    match ds, h, hv with
    | [d], h, hv =>
      obtain ⟨v, rfl, hw⟩ := hv.one
      have h' : ((asL d).bind fun xs => (asBls xs).bind fun ns => some (Rv.pv (.bl (ns.any id)))) = some r := by cases d <;> exact h
      obtain ⟨xs, ns, e1, e2, e3⟩ := seqB h'
      cases e3
      obtain ⟨a, us, rfl, t, rr⟩ := hw.asL s e1
      have e4 := asBls_rs e2 rr
      subst e4
      exact ⟨a, ns, rfl, t, w.pvb s⟩
  | .list, ds, vs, r, hv, h, w => by
    match ds, h, hv with
    | [d], h, hv =>
      obtain ⟨v, rfl, hw⟩ := hv.one
      simp only [biD, Option.map_eq_some_iff] at h
      obtain ⟨xs, e1, e2⟩ := h
      subst e2
      obtain ⟨a, us, rfl, t, rr⟩ := hw.asQ s e1
      exact ⟨a, us, rfl, t, fun l hl => w.li s rr hl⟩
  | .tuple, ds, vs, r, hv, h, w => by
    match ds, h, hv with
    | [d], h, hv =>
      obtain ⟨v, rfl, hv'⟩ := hv.one
      simp only [biD, Option.map_eq_some_iff] at h
      obtain ⟨xs, e1, e2⟩ := h
      subst e2
      cases d with
      | tup ys =>
        cases e1
        obtain ⟨a, us, rfl, t, rr⟩ := hv'.tup s
        refine ⟨a, us, rfl, .inr ⟨t, ?_⟩⟩
        rcases hv' with hv' | ⟨_, _, _, z, _⟩
        · exact w.same s hv'
        · cases z
      | lst ys =>
        cases e1
        obtain ⟨a, us, rfl, t, rr⟩ := hv'.lst s
        exact ⟨a, us, rfl, .inl ⟨SqL.of t, fun l hl => w.tup s rr hl⟩⟩
      | flst ys =>
        cases e1
        obtain ⟨a, us, rfl, t, rr⟩ := hv'.flst s
        exact ⟨a, us, rfl, .inl ⟨t, fun l hl => w.tup s rr hl⟩⟩
      | _ => cases e1
  | .divmod, ds, vs, r, hv, h, w => by
    match ds, h, hv with
    | [.int i, .int j], h, hv =>
      obtain ⟨v, u, rfl, h1, h2⟩ := hv.two
      simp only [biD] at h
      split at h
      · rename_i hd
        cases h
        rw [h1.int, h2.int]
        have hd' : 0 < j ∧ j < 1073741824 := of_decide_eq_true hd
        exact ⟨_, _, rfl, hd', fun p hp => w.tup s (by simp only [Rs, R]; exact ⟨_, _, rfl, rfl, _, _, rfl, rfl, rfl⟩) hp⟩
      · cases h
  | .sorted, ds, vs, r, hv, h, w => by
    match ds, h, hv with
    | [d], h, hv =>
      obtain ⟨v, rfl, hw⟩ := hv.one
      simp only [biD] at h
      cases e1 : asL d with
      | none => rw [e1] at h; cases h
      | some xs =>
        rw [e1] at h
        simp only [Option.bind_some] at h
        cases e2 : asPrs xs with
        | none => rw [e2] at h; cases h
        | some ps =>
          rw [e2] at h
          cases h
          obtain ⟨a, us, rfl, t, rr⟩ := hw.asL s e1
          have e3 := asPrs_is e2
          subst e3
          have hl : us.length = ps.length := by rw [rr.length, List.length_map]
          refine ⟨a, us, ps, rfl, t, hl, fun i x p hx hp => ?_, fun ys qs p hlen hperm hpw hp => ?_⟩
          · obtain ⟨x', e4, e5⟩ := rr.get (i := i) (d := prD p) (by rw [List.getElem?_map, hp]; rfl)
            have : x' = x := by rw [hx] at e4; exact (Option.some.inj e4).symm
            subst this
            simp only [prD, R, Rs] at e5
            obtain ⟨t1, vs1, rfl, ht, _, _, rfl, rfl, _, _, rfl, rfl, rfl⟩ := e5
            exact ⟨t1, rfl, PL.Same.tup s ht⟩
          · have e6 : sortP ps = qs := by
              refine sortP_is ?_ hpw
              have h1 := hperm.map Prod.snd
              rw [List.map_snd_zip (by omega), List.map_snd_zip (by omega)] at h1
              exact h1
            have e7 : Rs K F ys ((sortP ps).map prD) := by
              rw [e6]
              exact rs_zip hlen fun u hu => zip_in rr u (hperm.mem_iff.mp hu)
            exact w.li s e7 hp
  | .int, ds, vs, r, hv, h, w => by
    match ds, h, hv with
    | [.int i], h, hv =>
      obtain ⟨v, rfl, hw⟩ := hv.one
      simp only [biD] at h
      cases h
      rw [hw.int]
      exact .inl ⟨_, rfl, w.pvi s⟩
    | [.bl i], h, hv =>
      obtain ⟨v, rfl, hw⟩ := hv.one
      simp only [biD] at h
      cases h
      rw [hw.bl]
      exact .inr ⟨_, rfl, w.pvi s⟩

/-! ### isinstance of a built-in class -/
theorem TyX.ofL {a : Addr} {vs : List V} (t : SqL K H a vs) : TyX K H (.ref a) (.type "list") := by
  rcases t with (t | ⟨o, t⟩) | ⟨o, its, n, e, c, _⟩
  · exact .base (.lst t)
  · exact .base (.frz t)
  · exact .kList e c
theorem TyX.ofT {a : Addr} {vs : List V} (t : SqT K H a vs) : TyX K H (.ref a) (.type "tuple") := by
  rcases t with (t | ⟨o, t⟩) | ⟨o, its, n, e, c, _⟩
  · exact .base (.tup t)
  · exact .fTuple t
  · exact .kTuple e c
theorem RV.ty (s : Same F H) {v : V} {d : D} (h : RV K F H v d) : TyX K H v (.type (tyN d)) := by
  cases d with
  | non => rw [h.non]; exact .base .non
  | bl b => rw [h.bl]; exact .base (.bl b)
  | int b => rw [h.int]; exact .base (.int b)
  | str b => rw [h.str]; exact .base (.str b)
  | tup xs => obtain ⟨a, vs, rfl, t, _⟩ := h.tup s; exact TyX.ofT t
  | lst xs => obtain ⟨a, vs, rfl, t, _⟩ := h.lst s; exact TyX.ofL (SqL.of t)
  | flst xs => obtain ⟨a, vs, rfl, t, _⟩ := h.flst s; exact TyX.ofL t
theorem kit_all (d : D) {T : String} (hT : tyOk T = true) : kitB (tyN d) T = some (isiD d T) := by
  unfold tyOk at hT
  simp only [Bool.or_eq_true, beq_iff_eq] at hT
  rcases hT with (((rfl | rfl) | rfl) | rfl) | rfl <;> (unfold isiD; cases d <;> (simp only [tyN]; decide +kernel))
theorem isiB (s : Same F H) {v : V} {d : D} {T : String} (hT : tyOk T = true) (h : RV K F H v d) (w : Q (.bl (isiD d T)) H) : rIsi K [v, .ty T] H Q :=
  ⟨v, .ty T, _, _, _, rfl, .ty T, h.ty s, kit_ty (kit_all d hT), w⟩
end
end PL

/-! P5 -/
namespace PL
open PySem PySem.Spec PyProof.Rows L2 RZ

/-! ### readings -/
def cV : D → V
  | .bl b => .bl b | .int i => .int i | .str s => .str s | _ => .non
def cOk : D → Bool
  | .non => true | .bl _ => true | .int _ => true | .str _ => true | _ => false
def mk (t : TE) : TE × TT := (t, tB t)
def gL : List Nat → TGs
  | [] => gNil
  | i :: is => gCons (gName i) (gL is)
/-- a tuple or a list taken apart -/
def gSeq (K : PySem.W.Frag) (n : Nat) (t : TGs) : TG := fun v σ H Q => gTup K n t v σ H Q ∨ gLst K n t v σ H Q
theorem pg_seq {X : Cx} {pos : Pos} {es : List Expr} {k : Nat} {t : TGs} {n : Nat} (hc : X.calm = true) (h : PGs X es t)
    (hn : (assignEach es X.env).length = n) (hst : (assignEach es X.env).findIdx? (·.1) = none) : PG X (.Tuple es k pos) (gSeq X.K n t) :=
  ⟨fun pins s σ H v u Q I r hw => hw.elim (fun q => (pg_tup hc h hn hst).run pins s σ H v u Q I r q) (fun q => (pg_lst hc h hn hst).run pins s σ H v u Q I r q)⟩
def rdG (K : PySem.W.Frag) : Tg → TG
  | .nm i => gName i
  | .tup is => gSeq K is.length (gL is)
def rSlK (K : PySem.W.Frag) : V → Option Int → Option Int → Hp → VK → Prop := fun x lo hi H Q => rSlL K x lo hi H Q ∨ rSlA K x lo hi H Q
def iSeq (K : PySem.W.Frag) (tl : TE) : TI := fun σ H R => tl σ H fun x H1 => ∃ a, x = .ref a ∧ (((∃ xs, SqL K H1 a xs) ∧ R (Itl K a) H1) ∨ ((∃ xs, SqT K H1 a xs) ∧ R (Itt K a) H1))
def tIfT (c a b : TT) : TT := fun σ H Q => c σ H fun k H1 => if k = true then a σ H1 Q else b σ H1 Q
/-- the errors' classes: where they stand; those that are raised; those that are asked for -/
structure Xt where
  θ : Str → Addr
  xcs : List Str
  xts : List Str
def tyW (θ : Str → Addr) (t : Str) : Value := if t = "ValueError" then .type "ValueError" else .ref (θ t)
def tyV (θ : Str → Addr) (t : Str) : V := if t = "ValueError" then .ty "ValueError" else .ref (θ t)
theorem tyV_cls (θ : Str → Addr) (t : Str) : ClsV (tyV θ t) (tyW θ t) := by
  unfold tyV tyW
  split
  · exact .ty _
  · exact .own _
structure XtOk (K : PySem.W.Frag) (Ξ : Xt) : Prop where
  exc : ∀ c ∈ Ξ.xcs, ∀ t ∈ Ξ.xts, ExcC K (Ξ.θ c)
  kit : ∀ c ∈ Ξ.xcs, ∀ t ∈ Ξ.xts, PySem.W.kitOne K (.ref (Ξ.θ c)) (tyW Ξ.θ t) = some (subX c t)
  exm : ∀ c ∈ Ξ.xcs, ∀ t ∈ Ξ.xts, t ≠ "ValueError" → PySem.W.exmOne K (.ref (Ξ.θ c)) (.ref (Ξ.θ t)) = some (subX c t)
/-- what is wished of an error of the class c -/
def WishX (Ξ : Xt) (F H : Hp) (E : XK) (c : Str) : Prop := c ∈ Ξ.xcs → ∀ F' H', Gr F H F' H' → E (.ref (Ξ.θ c)) none H'
/-- the promise: the evaluator's answer, or its error -/
def spF (K : PySem.W.Frag) (ρ : Str → List D → Option Rv) (ξ : Str → List D → Option Str) (Ξ : Xt) (f : Str) : Sp := fun vs H Q E => ∃ F ds, Same F H ∧ Rs K F vs ds ∧ ((∃ r, ρ f ds = some r ∧ Wish K F H Q r) ∨ ∃ c, ξ f ds = some c ∧ WishX Ξ F H E c)
def rdTs (θ : Str → Addr) : List Str → TA
  | [] => tNil
  | t :: ts => tCons (tC (tyV θ t)) (rdTs θ ts)
def rdIsx (K : PySem.W.Frag) (θ : Str → Addr) (i : Nat) : List Str → TE
  | [] => fun _ _ _ => False
  | [t] => tCB (rIsX1 K) (tCons (tVar i) (tCons (tC (tyV θ t)) tNil))
  | t :: u :: ts => tCB (rIsXT K) (tCons (tVar i) (tCons (tTup (rdTs θ (t :: u :: ts))) tNil))
def WX0 : WX := fun _ _ _ _ => False
section
variable (K : PySem.W.Frag) (ρ : Str → List D → Option Rv) (ξ : Str → List D → Option Str) (Ξ : Xt) (γ : Str → V)
mutual
def rd : WX → Ex → TE × TT
  | _, .slot i => mk (tVar i)
  | _, .cst d => mk (tC (cV d))
  | _, .glb x => mk (tC (γ x))
  | W, .bin o a b => mk (tOp (rBin K o) (rd W a).1 (rd W b).1)
  | W, .neg a => mk (tUn (rU fun i => .int (-i)) (rd W a).1)
  | W, .notE a => (tNotV (rd W a).1, tNot (rd W a).2)
  | W, .cmp o a b => mk (tOp (rCmp K o) (rd W a).1 (rd W b).1)
  | W, .chain o o' a b c => mk (tChain (rCmp K o) (rCmp K o') (rd W a).1 (rd W b).1 (rd W c).1)
  | W, .bool k es => rdB W k es
  | W, .chain3 o o2 o3 a b c d => (tChain3 (rCmp K o) (rCmp K o2) (rCmp K o3) (rd W a).1 (rd W b).1 (rd W c).1 (rd W d).1, tTest (tChain3 (rCmp K o) (rCmp K o2) (rCmp K o3) (rd W a).1 (rd W b).1 (rd W c).1 (rd W d).1))
  | W, .lidx i e => mk (tBM K "list" (rIndexD K) (tVar i) (tCons (rd W e).1 tNil))
  | W, .lens e => mk (tLenSetD K (rd W e).1)
  | W, .ife c a b => (tIf (rd W c).2 (rd W a).1 (rd W b).1, tIfT (rd W c).2 (rd W a).2 (rd W b).2)
  | W, .tup es => mk (tTup (rdA W es))
  | W, .lst es => mk (tLst (rdA W es))
  | W, .idx a b => mk (tOp (rIx K) (rd W a).1 (rd W b).1)
  | W, .sl a lo hi => mk (tSl (rSlK K) (rd W a).1 (rdO W lo) (rdO W hi))
  | W, .call f es => mk (tCallS (spF K ρ ξ Ξ f) (WE W) (rdA W es))
  | W, .bi f es => mk (tCB (rBi K f) (rdA W es))
  | W, .rev a => mk (tRevL K (rd W a).1)
  | _, .isx i ts => mk (rdIsx K Ξ.θ i ts)
  | W, .isi a T => mk (tCB (rIsi K) (tCons (rd W a).1 (tCons (tC (.ty T)) tNil)))
  | W, .comp own elt tg it c => mk (tLc (rdI W it) (rdG K tg) (rdC WX0 c) (rd WX0 elt).1 (own.map (·.2)))
def rdA : WX → Exs → TA
  | _, .nil => tNil
  | W, .cons e es => tCons (rd W e).1 (rdA W es)
def rdB : WX → Bool → Exs → TE × TT
  | _, _, .nil => (fun _ _ _ => False, fun _ _ _ => False)
  | W, k, .cons e .nil => rd W e
  | W, k, .cons e (.cons e2 es) => match k with
    | true => (tAndV (rd W e).1 (rdB W true (.cons e2 es)).1, tAnd (rd W e).2 (rdB W true (.cons e2 es)).2)
    | false => (tOrV (rd W e).1 (rdB W false (.cons e2 es)).1, tOr (rd W e).2 (rdB W false (.cons e2 es)).2)
def rdO : WX → Exo → TO
  | _, .no => tNoPart
  | W, .yes e => tPart (rd W e).1
def rdC : WX → Exo → TT
  | _, .no => tYes
  | W, .yes e => (rd W e).2
def rdI : WX → Itx → TI
  | W, .sql e => iSeq K (rd W e).1
  | W, .sqt e => iTup K (rd W e).1
  | W, .rng1 a => iRng1 (tCons (rd W a).1 tNil)
  | W, .rng2 a b => iRng2 (tCons (rd W a).1 (tCons (rd W b).1 tNil))
  | W, .zip a b => iZipG K (tCons (rd W a).1 (tCons (rd W b).1 tNil))
  | W, .enum a => iEnum K (tCons (rd W a).1 tNil)
  | W, .zip3 a b c => iZipG3 K (tCons (rd W a).1 (tCons (rd W b).1 (tCons (rd W c).1 tNil)))
end
end

/-! ### what the slots hold -/
structure Rn (K : PySem.W.Frag) (Ξ : Xt) (η : Nat → Option V) (H0 F H : Hp) (σ : L2.St) (env : Ev) : Prop where
  ex : ∀ (i : Nat) (c : Str), env[i]? = some (Sl.ex c) → c ∈ Ξ.xcs ∧ ∃ a, σ[i]? = some (some (V.ref a)) ∧ ExAt H a (Ξ.θ c)
  len : σ.length = env.length
  pv : ∀ (i : Nat) (d : D), env[i]? = some (Sl.pv d) → ∃ v, σ[i]? = some (some v) ∧ R K F v d
  li : ∀ (i : Nat) (xs : List D), env[i]? = some (Sl.li xs) → ∃ a vs, σ[i]? = some (some (V.ref a)) ∧ H a = some (.lst vs) ∧ Rs K F vs xs ∧ F a = none ∧ H0 a = none
  ap : ∀ (i j : Nat) (xs ys : List D) (a : Addr), i ≠ j → env[i]? = some (Sl.li xs) → env[j]? = some (Sl.li ys) → σ[i]? = some (some (V.ref a)) → σ[j]? ≠ some (some (V.ref a))
  hd : ∀ i : Nat, env[i]? = some Sl.hid → σ[i]? = some (η i)
section
variable {K : PySem.W.Frag} {Ξ : Xt} {η : Nat → Option V} {H0 F H F' H' : Hp} {σ : L2.St} {env : Ev}
theorem Rn.mono (g : Gr F H F' H') (r : Rn K Ξ η H0 F H σ env) : Rn K Ξ η H0 F' H' σ env where
  ex i c e := let ⟨h0, a, h1, h2⟩ := r.ex i c e; ⟨h0, a, h1, g.hh _ _ h2⟩
  len := r.len
  pv i d e := let ⟨v, h1, h2⟩ := r.pv i d e; ⟨v, h1, h2.mono g.ff⟩
  li i xs e := by
    obtain ⟨a, vs, h1, h2, h3, h4, h5⟩ := r.li i xs e
    exact ⟨a, vs, h1, g.hh _ _ h2, h3.mono g.ff, by rw [g.fr a (by rw [h2]; exact fun z => nomatch z)]; exact h4, h5⟩
  ap := r.ap
  hd := r.hd
theorem Rn.set (r : Rn K Ξ η H0 F H σ env) {i : Nat} {v : V} {d : D} (hi : i < env.length) (h : R K F v d) : Rn K Ξ η H0 F H (σ.set i (some v)) (env.set i (Sl.pv d)) where
  ex j c hj := by
    by_cases hij : i = j
    · subst hij
      rw [List.getElem?_set_self hi] at hj
      cases hj
    · rw [List.getElem?_set_ne hij] at hj ⊢
      exact r.ex j c hj
  len := by rw [List.length_set, List.length_set, r.len]
  pv j e hj := by
    by_cases hij : i = j
    · subst hij
      rw [List.getElem?_set_self hi] at hj
      rw [List.getElem?_set_self (by rw [r.len]; exact hi)]
      cases hj
      exact ⟨v, rfl, h⟩
    · rw [List.getElem?_set_ne hij] at hj ⊢
      exact r.pv j e hj
  li j xs hj := by
    by_cases hij : i = j
    · subst hij
      rw [List.getElem?_set_self hi] at hj
      cases hj
    · rw [List.getElem?_set_ne hij] at hj ⊢
      exact r.li j xs hj
  ap j k xs ys a hjk hj hk := by
    by_cases hij : i = j
    · subst hij
      rw [List.getElem?_set_self hi] at hj
      cases hj
    · by_cases hik : i = k
      · subst hik
        rw [List.getElem?_set_self hi] at hk
        cases hk
      · rw [List.getElem?_set_ne hij] at hj ⊢
        rw [List.getElem?_set_ne hik] at hk ⊢
        exact r.ap j k xs ys a hjk hj hk
  hd j hj := by
    by_cases hij : i = j
    · subst hij
      rw [List.getElem?_set_self hi] at hj
      cases hj
    · rw [List.getElem?_set_ne hij] at hj ⊢
      exact r.hd j hj
theorem Rn.unset (r : Rn K Ξ η H0 F H σ env) (i : Nat) : Rn K Ξ η H0 F H (σ.set i none) (env.set i Sl.un) where
  ex j c hj := by
    by_cases hij : i = j
    · subst hij
      by_cases hi : i < env.length
      · rw [List.getElem?_set_self hi] at hj; cases hj
      · rw [List.getElem?_eq_none (by rw [List.length_set]; omega)] at hj; cases hj
    · rw [List.getElem?_set_ne hij] at hj ⊢
      exact r.ex j c hj
  len := by rw [List.length_set, List.length_set, r.len]
  pv j e hj := by
    by_cases hij : i = j
    · subst hij
      by_cases hi : i < env.length
      · rw [List.getElem?_set_self hi] at hj; cases hj
      · rw [List.getElem?_eq_none (by rw [List.length_set]; omega)] at hj; cases hj
    · rw [List.getElem?_set_ne hij] at hj ⊢
      exact r.pv j e hj
  li j xs hj := by
    by_cases hij : i = j
    · subst hij
      by_cases hi : i < env.length
      · rw [List.getElem?_set_self hi] at hj; cases hj
      · rw [List.getElem?_eq_none (by rw [List.length_set]; omega)] at hj; cases hj
    · rw [List.getElem?_set_ne hij] at hj ⊢
      exact r.li j xs hj
  ap j k xs ys a hjk hj hk := by
    by_cases hij : i = j
    · subst hij
      by_cases hi : i < env.length
      · rw [List.getElem?_set_self hi] at hj; cases hj
      · rw [List.getElem?_eq_none (by rw [List.length_set]; omega)] at hj; cases hj
    · by_cases hik : i = k
      · subst hik
        by_cases hi : i < env.length
        · rw [List.getElem?_set_self hi] at hk; cases hk
        · rw [List.getElem?_eq_none (by rw [List.length_set]; omega)] at hk; cases hk
      · rw [List.getElem?_set_ne hij] at hj ⊢
        rw [List.getElem?_set_ne hik] at hk ⊢
        exact r.ap j k xs ys a hjk hj hk
  hd j hj := by
    by_cases hij : i = j
    · subst hij
      by_cases hi : i < env.length
      · rw [List.getElem?_set_self hi] at hj; cases hj
      · rw [List.getElem?_eq_none (by rw [List.length_set]; omega)] at hj; cases hj
    · rw [List.getElem?_set_ne hij] at hj ⊢
      exact r.hd j hj
theorem Rn.wipe (r : Rn K Ξ η H0 F H σ env) : ∀ vs : List Nat, Rn K Ξ η H0 F H (L2.wipe σ vs) (wipeS env vs)
  | [] => r
  | v :: vs => (Rn.wipe r vs).unset v
end
theorem wipe_get {σ : L2.St} {j : Nat} : ∀ {vs : List Nat}, j < σ.length → (L2.wipe σ vs)[j]? = if j ∈ vs then some none else σ[j]?
  | [], _ => by simp [L2.wipe]
  | v :: vs, h => by
    unfold L2.wipe
    by_cases hj : v = j
    · subst hj
      rw [List.getElem?_set_self (by rw [wipe_length]; exact h)]
      simp
    · rw [List.getElem?_set_ne hj, wipe_get h]
      simp only [List.mem_cons]
      by_cases hm : j ∈ vs
      · simp [hm]
      · simp [hm, Ne.symm hj]
theorem wipe_eq {σ τ : L2.St} {vs : List Nat} (hl : σ.length = τ.length) (h : ∀ j : Nat, j ∉ vs → σ[j]? = τ[j]?) : L2.wipe σ vs = L2.wipe τ vs := by
  refine List.ext_getElem? fun j => ?_
  by_cases hj : j < σ.length
  · rw [wipe_get hj, wipe_get (by omega)]
    split
    · rfl
    · rename_i hm
      exact h j hm
  · rw [List.getElem?_eq_none (by rw [wipe_length]; omega), List.getElem?_eq_none (by rw [wipe_length]; omega)]
theorem wipe_wipe {σ : L2.St} {vs : List Nat} : L2.wipe (L2.wipe σ vs) vs = L2.wipe σ vs :=
  wipe_eq (wipe_length σ vs) fun j hj => by
    by_cases h : j < σ.length
    · rw [wipe_get h, if_neg hj]
    · rw [List.getElem?_eq_none (by rw [wipe_length]; omega), List.getElem?_eq_none (by omega)]
/-- a target's slots -/
def Tg.ss : Tg → List Nat
  | .nm i => [i]
  | .tup is => is
section
variable {K : PySem.W.Frag} {Ξ : Xt} {η : Nat → Option V} {H0 F H : Hp}
theorem bindL_ok : ∀ {is : List Nat} {ds : List D} {env env2 : Ev} {vs : List V} {σ : L2.St} {Q : L2.St → Hp → Prop}, bindL is ds env = some env2 → Rs K F vs ds → Rn K Ξ η H0 F H σ env →
    (∀ σ2, Rn K Ξ η H0 F H σ2 env2 → σ2.length = σ.length → (∀ j : Nat, j ∉ is → σ2[j]? = σ[j]?) → Q σ2 H) → gL is vs σ H Q
  | [], [], env, env2, vs, σ, Q, h, r, n, q => by
    simp only [bindL, Option.some.injEq] at h
    subst h
    simp only [Rs] at r
    exact ⟨r, q σ n rfl fun _ _ => rfl⟩
  | i :: is, d :: ds, env, env2, vs, σ, Q, h, r, n, q => by
    simp only [bindL] at h
    split at h
    · rename_i hi
      simp only [Rs] at r
      obtain ⟨v, us, rfl, r1, r2⟩ := r
      refine ⟨v, us, rfl, ?_⟩
      refine bindL_ok h r2 (n.set hi r1) fun σ2 n2 hl hs => q σ2 n2 (by rw [hl, List.length_set]) fun j hj => ?_
      rw [hs j fun e => hj (List.mem_cons_of_mem _ e), List.getElem?_set_ne fun e => hj (by rw [e]; exact List.mem_cons_self ..)]
    · cases h
  | [], _ :: _, _, _, _, _, _, h, _, _, _ => by simp [bindL] at h
  | _ :: _, [], _, _, _, _, _, h, _, _, _ => by simp [bindL] at h
theorem bindL_len : ∀ {is : List Nat} {ds : List D} {env env2 : Ev}, bindL is ds env = some env2 → ds.length = is.length
  | [], [], _, _, _ => rfl
  | i :: is, d :: ds, env, env2, h => by
    simp only [bindL] at h
    split at h
    · rw [List.length_cons, List.length_cons, bindL_len h]
    · cases h
  | [], _ :: _, _, _, h => by simp [bindL] at h
  | _ :: _, [], _, _, h => by simp [bindL] at h
theorem bindT_ok (s : Same F H) {tg : Tg} {d : D} {env env2 : Ev} {v : V} {σ : L2.St} {Q : L2.St → Hp → Prop} (h : bindT tg d env = some env2) (r : R K F v d) (n : Rn K Ξ η H0 F H σ env)
    (q : ∀ σ2, Rn K Ξ η H0 F H σ2 env2 → σ2.length = σ.length → (∀ j : Nat, j ∉ tg.ss → σ2[j]? = σ[j]?) → Q σ2 H) : rdG K tg v σ H Q := by
  cases tg with
  | nm i =>
    simp only [bindT] at h
    split at h
    · rename_i hi
      cases h
      refine q _ (n.set hi r) List.length_set fun j hj => ?_
      rw [List.getElem?_set_ne fun e => hj (by rw [e]; exact List.mem_cons_self ..)]
    · cases h
  | tup is =>
    cases d <;> simp only [bindT, reduceCtorEq] at h
    all_goals
      simp only [R] at r
      obtain ⟨a, vs, rfl, t, r⟩ := r
    · exact .inl ⟨a, vs, rfl, PL.Same.tup s t, by rw [r.length, bindL_len h], bindL_ok h r n q⟩
    · exact .inr ⟨a, vs, rfl, s.seq (SqL.of t), by rw [r.length, bindL_len h], bindL_ok h r n q⟩
    · exact .inr ⟨a, vs, rfl, s.seq t, by rw [r.length, bindL_len h], bindL_ok h r n q⟩
end

/-! ### walking -/
/-- at (F, H) the turns of J give the things of ds -/
def Stp (K : PySem.W.Frag) (J : It) (F H : Hp) (ds : List D) : Prop :=
  (∀ (i : Nat) (d : D), ds[i]? = some d → J.go i H ∧ ∀ x H2, J.yld i H x H2 → ∃ F2, Gr F H F2 H2 ∧ R K F2 x d) ∧ J.stop ds.length H
section
variable {K : PySem.W.Frag} {F H : Hp}
theorem stp_list (s : Same F H) {a : Addr} {us : List V} {ds : List D} (t : SqL K H a us) (r : Rs K F us ds) : Stp K (Itl K a) F H ds := by
  refine ⟨fun i d e => ?_, ⟨us, t, by rw [r.length]; exact Nat.le_refl _⟩⟩
  obtain ⟨v, h1, h2⟩ := r.get e
  refine ⟨⟨us, v, t, h1⟩, fun x H2 hy => ?_⟩
  obtain ⟨rfl, hf⟩ := hy
  have := (hf us t).symm.trans h1
  cases this
  exact ⟨F, Gr.refl s, h2⟩
theorem stp_tup (s : Same F H) {a : Addr} {us : List V} {ds : List D} (t : SqT K H a us) (r : Rs K F us ds) : Stp K (Itt K a) F H ds := by
  refine ⟨fun i d e => ?_, ⟨us, t, by rw [r.length]; exact Nat.le_refl _⟩⟩
  obtain ⟨v, h1, h2⟩ := r.get e
  refine ⟨⟨us, v, t, h1⟩, fun x H2 hy => ?_⟩
  obtain ⟨rfl, hf⟩ := hy
  have := (hf us t).symm.trans h1
  cases this
  exact ⟨F, Gr.refl s, h2⟩
theorem rngD_get {lo : Int} {n i : Nat} {d : D} (h : (rngD lo n)[i]? = some d) : i < n ∧ d = .int (lo + i) := by
  unfold rngD at h
  rw [List.getElem?_map] at h
  by_cases hi : i < n
  · rw [List.getElem?_range hi] at h
    simp only [Option.map_some, Option.some.injEq] at h
    exact ⟨hi, h.symm⟩
  · rw [List.getElem?_eq_none (by rw [List.length_range]; omega)] at h
    cases h
theorem rngD_len (lo : Int) (n : Nat) : (rngD lo n).length = n := by unfold rngD; rw [List.length_map, List.length_range]
theorem stp_rng (s : Same F H) (lo : Int) (n : Nat) : Stp K (Itr lo n) F H (rngD lo n) := by
  refine ⟨fun i d e => ?_, by rw [rngD_len]; exact Nat.le_refl n⟩
  obtain ⟨hi, rfl⟩ := rngD_get e
  refine ⟨hi, fun x H2 hy => ?_⟩
  obtain ⟨rfl, rfl⟩ := hy
  exact ⟨F, Gr.refl s, by simp only [R]⟩
theorem zipD_get : ∀ {xs ys : List D} {i : Nat} {d : D}, (zipD xs ys)[i]? = some d → ∃ x y, xs[i]? = some x ∧ ys[i]? = some y ∧ d = .tup [x, y]
  | [], _, _, _, h => by simp [zipD] at h
  | _ :: _, [], _, _, h => by simp [zipD] at h
  | x :: xs, y :: ys, 0, d, h => by
    simp only [zipD, List.getElem?_cons_zero, Option.some.injEq] at h
    exact ⟨x, y, rfl, rfl, h.symm⟩
  | x :: xs, y :: ys, i + 1, d, h => by
    simp only [zipD, List.getElem?_cons_succ] at h ⊢
    exact zipD_get h
theorem zipD_len : ∀ xs ys : List D, (zipD xs ys).length = min xs.length ys.length
  | [], _ => by simp [zipD]
  | _ :: _, [] => by simp [zipD]
  | x :: xs, y :: ys => by simp only [zipD, List.length_cons, zipD_len xs ys]; omega
theorem pair_new (s : Same F H) {T : Addr} {x y : V} {d e : D} (hT : H T = none) (hx : R K F x d) (hy : R K F y e) : ∃ F2, Gr F H F2 (upd H T (.tup [x, y])) ∧ R K F2 (.ref T) (.tup [d, e]) := by
  have g := Gr.new (.tup [x, y]) s hT
  refine ⟨_, g, ?_⟩
  simp only [R]
  refine ⟨T, _, rfl, .inl (.inl upd_same), ?_⟩
  simp only [Rs]
  exact ⟨x, _, rfl, hx.mono g.ff, y, _, rfl, hy.mono g.ff, rfl⟩
theorem stp_zipG (s : Same F H) {fa fb : Bool} {a b : Addr} {us ws : List V} {ds es : List D} (t : SqB K fa H a us) (r : Rs K F us ds) (t' : SqB K fb H b ws) (r' : Rs K F ws es) : Stp K (ItzG K fa fb a b) F H (zipD ds es) := by
  refine ⟨fun i d e => ?_, ⟨us, ws, t, t', ?_⟩⟩
  · obtain ⟨x, y, e1, e2, rfl⟩ := zipD_get e
    obtain ⟨v, h1, h2⟩ := r.get e1
    obtain ⟨u, h3, h4⟩ := r'.get e2
    refine ⟨⟨us, ws, v, u, t, t', h1, h3⟩, fun z H2 hy => ?_⟩
    obtain ⟨T, p, q, rfl, hT, rfl, f1, f2⟩ := hy
    have z1 := (f1 us t).symm.trans h1
    have z2 := (f2 ws t').symm.trans h3
    cases z1
    cases z2
    exact pair_new s hT h2 h4
  · rw [zipD_len, r.length, r'.length]; omega
theorem zip3D_get : ∀ {xs ys zs : List D} {i : Nat} {d : D}, (zip3D xs ys zs)[i]? = some d → ∃ x y z, xs[i]? = some x ∧ ys[i]? = some y ∧ zs[i]? = some z ∧ d = .tup [x, y, z]
  | [], _, _, _, _, h => by simp [zip3D] at h
  | _ :: _, [], _, _, _, h => by simp [zip3D] at h
  | _ :: _, _ :: _, [], _, _, h => by simp [zip3D] at h
  | x :: xs, y :: ys, z :: zs, 0, d, h => by
    simp only [zip3D, List.getElem?_cons_zero, Option.some.injEq] at h
    exact ⟨x, y, z, rfl, rfl, rfl, h.symm⟩
  | x :: xs, y :: ys, z :: zs, i + 1, d, h => by
    simp only [zip3D, List.getElem?_cons_succ] at h ⊢
    exact zip3D_get h
theorem zip3D_len : ∀ xs ys zs : List D, (zip3D xs ys zs).length = min xs.length (min ys.length zs.length)
  | [], _, _ => by simp [zip3D]
  | _ :: _, [], _ => by simp [zip3D]
  | _ :: _, _ :: _, [] => by simp [zip3D]
  | x :: xs, y :: ys, z :: zs => by simp only [zip3D, List.length_cons, zip3D_len xs ys zs]; omega
theorem tri_new (s : Same F H) {T : Addr} {x y z : V} {d e f : D} (hT : H T = none) (hx : R K F x d) (hy : R K F y e) (hz : R K F z f) : ∃ F2, Gr F H F2 (upd H T (.tup [x, y, z])) ∧ R K F2 (.ref T) (.tup [d, e, f]) := by
  have g := Gr.new (.tup [x, y, z]) s hT
  refine ⟨_, g, ?_⟩
  simp only [R]
  refine ⟨T, _, rfl, .inl (.inl upd_same), ?_⟩
  simp only [Rs]
  exact ⟨x, _, rfl, hx.mono g.ff, y, _, rfl, hy.mono g.ff, z, _, rfl, hz.mono g.ff, rfl⟩
theorem stp_zipG3 (s : Same F H) {fa fb fc : Bool} {a b c : Addr} {us ws ts : List V} {ds es fs : List D} (t : SqB K fa H a us) (r : Rs K F us ds) (t' : SqB K fb H b ws) (r' : Rs K F ws es) (t2 : SqB K fc H c ts) (r2 : Rs K F ts fs) : Stp K (ItzG3 K fa fb fc a b c) F H (zip3D ds es fs) := by
  refine ⟨fun i d e => ?_, ⟨us, ws, ts, t, t', t2, ?_⟩⟩
  · obtain ⟨x, y, z, e1, e2, e3, rfl⟩ := zip3D_get e
    obtain ⟨v, h1, h2⟩ := r.get e1
    obtain ⟨u, h3, h4⟩ := r'.get e2
    obtain ⟨w, h5, h6⟩ := r2.get e3
    refine ⟨⟨us, ws, ts, v, u, w, t, t', t2, h1, h3, h5⟩, fun z H2 hy => ?_⟩
    obtain ⟨T, p, q, o, rfl, hT, rfl, f1, f2, f3⟩ := hy
    have z1 := (f1 us t).symm.trans h1
    have z2 := (f2 ws t').symm.trans h3
    have z3 := (f3 ts t2).symm.trans h5
    cases z1
    cases z2
    cases z3
    exact tri_new s hT h2 h4 h6
  · rw [zip3D_len, r.length, r'.length, r2.length]; omega
theorem rv_asQB (s : Same F H) {v : V} {d : D} {ds : List D} (h : RV K F H v d) (e : asQ d = some ds) : ∃ f a vs, v = .ref a ∧ SqB K f H a vs ∧ Rs K F vs ds := by
  obtain ⟨a, vs, ev, t, r⟩ := RV.asQ s h e
  rcases t with t | t
  · exact ⟨true, a, vs, ev, t, r⟩
  · exact ⟨false, a, vs, ev, t, r⟩
theorem r_asQB {v : V} {d : D} {ds : List D} (h : R K F v d) (e : asQ d = some ds) : ∃ f a vs, v = .ref a ∧ SqB K f F a vs ∧ Rs K F vs ds := rv_asQB (Same.refl _) (.inl h) e
theorem sqB_up {H H' : Hp} (s : Same H H') {f : Bool} {a : Addr} {us : List V} (t : SqB K f H a us) : SqB K f H' a us := by
  cases f with
  | true => exact s.seq t
  | false => exact PL.Same.tup s t
theorem enumD_get : ∀ {xs : List D} {k i : Nat} {d : D}, (enumD k xs)[i]? = some d → ∃ x, xs[i]? = some x ∧ d = .tup [.int ((k + i : Nat) : Int), x]
  | [], _, _, _, h => by simp [enumD] at h
  | x :: xs, k, 0, d, h => by
    simp only [enumD, List.getElem?_cons_zero, Option.some.injEq] at h
    exact ⟨x, rfl, h.symm⟩
  | x :: xs, k, i + 1, d, h => by
    simp only [enumD, List.getElem?_cons_succ] at h ⊢
    obtain ⟨y, e, e2⟩ := enumD_get h
    exact ⟨y, e, by rw [e2]; congr 3; omega⟩
theorem enumD_len : ∀ (xs : List D) (k : Nat), (enumD k xs).length = xs.length
  | [], _ => rfl
  | _ :: xs, k => by simp only [enumD, List.length_cons, enumD_len xs]
theorem stp_enum (s : Same F H) {a : Addr} {us : List V} {ds : List D} (t : SqL K H a us) (r : Rs K F us ds) : Stp K (Ite K a) F H (enumD 0 ds) := by
  refine ⟨fun i d e => ?_, ⟨us, t, by rw [enumD_len, r.length]; exact Nat.le_refl _⟩⟩
  obtain ⟨x, e1, rfl⟩ := enumD_get e
  obtain ⟨v, h1, h2⟩ := r.get e1
  refine ⟨⟨us, v, t, h1⟩, fun z H2 hy => ?_⟩
  obtain ⟨T, p, rfl, hT, rfl, f1⟩ := hy
  have z1 := (f1 us t).symm.trans h1
  cases z1
  rw [Nat.zero_add]
  exact pair_new s hT (by simp only [R]) h2
end
end PL

/-! P6 -/
namespace PL
open PySem PySem.Spec PyProof.Rows L2 RZ

section
variable {K : PySem.W.Frag} {ρ : Str → List D → Option Rv} {ξ : Str → List D → Option Str} {Ξ : Xt} {κ : Str → Option D} {γ : Str → V} {W : WX}
/-- the written things are what κ says -/
def KOk (K : PySem.W.Frag) (κ : Str → Option D) (γ : Str → V) : Prop := ∀ x d, κ x = some d → ∀ F, R K F (γ x) d
mutual
def okE (L : List Str) : Ex → Bool
  | .slot _ => true
  | .cst d => cOk d
  | .glb _ => true
  | .bin _ a b => okE L a && okE L b
  | .neg a => okE L a
  | .notE a => okE L a
  | .cmp _ a b => okE L a && okE L b
  | .chain _ _ a b c => okE L a && okE L b && okE L c
  | .bool _ es => okB L es
  | .chain3 _ _ _ a b c d => okE L a && okE L b && okE L c && okE L d
  | .lidx _ e => okE L e
  | .lens e => okE L e
  | .ife c a b => okE L c && okE L a && okE L b
  | .tup es => okA L es
  | .lst es => okA L es
  | .idx a b => okE L a && okE L b
  | .sl a lo hi => okE L a && okO L lo && okO L hi
  | .call _ es => okA L es
  | .bi _ es => okA L es
  | .isi a T => okE L a && tyOk T
  | .rev a => okE L a
  | .isx _ ts => ts.all (fun t => L.contains t) && !ts.isEmpty && decide (ts.length ≤ 100)
  | .comp own elt tg it c => okE L elt && okI L it && okO L c && tg.ss.all fun i => (own.map (·.2)).contains i
def okA (L : List Str) : Exs → Bool
  | .nil => true
  | .cons e es => okE L e && okA L es
def okB (L : List Str) : Exs → Bool
  | .nil => false
  | .cons e .nil => okE L e
  | .cons e (.cons e2 es) => okE L e && okB L (.cons e2 es)
def okO (L : List Str) : Exo → Bool
  | .no => true
  | .yes e => okE L e
def okI (L : List Str) : Itx → Bool
  | .sql e => okE L e
  | .sqt e => okE L e
  | .rng1 a => okE L a
  | .rng2 a b => okE L a && okE L b
  | .zip a b => okE L a && okE L b
  | .enum a => okE L a
  | .zip3 a b c => okE L a && okE L b && okE L c
end
abbrev WishB (F H : Hp) (Q : Bool → Hp → Prop) (b : Bool) : Prop := ∀ F' H', Gr F H F' H' → Q b H'
abbrev WishV (K : PySem.W.Frag) (F H : Hp) (Q : VK) (d : D) : Prop := ∀ F' H' v, Gr F H F' H' → RV K F' H' v d → Q v H'
abbrev WishD (K : PySem.W.Frag) (F H : Hp) (Q : VK) (d : D) : Prop := ∀ F' H' v, Gr F H F' H' → R K F' v d → Q v H'
/-- the reading follows from the evaluator's answer -/
def Good (K : PySem.W.Frag) (ρ : Str → List D → Option Rv) (ξ : Str → List D → Option Str) (Ξ : Xt) (κ : Str → Option D) (γ : Str → V) (W : WX) (x : Ex) : Prop :=
  (∀ {η : Nat → Option V} {H0 F H : Hp} {σ : L2.St} {env : Ev} {r : Rv} {Q : VK}, Same F H → Rn K Ξ η H0 F H σ env → evR ρ κ x env = some r → Wish K F H Q r → (rd K ρ ξ Ξ γ W x).1 σ H Q) ∧
  (∀ {η : Nat → Option V} {H0 F H : Hp} {σ : L2.St} {env : Ev} {b : Bool} {Q : Bool → Hp → Prop}, Same F H → Rn K Ξ η H0 F H σ env → toB (evR ρ κ x env) = some b → WishB F H Q b → (rd K ρ ξ Ξ γ W x).2 σ H Q)
theorem toB_is {r : Option Rv} {b : Bool} (h : toB r = some b) : r = some (.pv (.bl b)) := by
  unfold toB at h
  split at h
  · cases h; rfl
  · cases h
/-- a test that is a value's -/
theorem Good.mk {x : Ex} {t : TE} (e : rd K ρ ξ Ξ γ W x = mk t)
    (h : ∀ {η : Nat → Option V} {H0 F H : Hp} {σ : L2.St} {env : Ev} {r : Rv} {Q : VK}, Same F H → Rn K Ξ η H0 F H σ env → evR ρ κ x env = some r → Wish K F H Q r → t σ H Q) : Good K ρ ξ Ξ κ γ W x := by
  refine ⟨fun s n ev w => ?_, fun {_ _ _ _ _ _ b _} s n ev w => ?_⟩
  · rw [e]; exact h s n ev w
  · rw [e]
    refine h s n (toB_is ev) fun F' H' v g r => ?_
    have r' : v = .bl b := by simpa only [RR, R] using r
    exact ⟨_, r', w F' H' g⟩
theorem Good.val {x : Ex} (h : Good K ρ ξ Ξ κ γ W x) {η : Nat → Option V} {H0 F H : Hp} {σ : L2.St} {env : Ev} {d : D} {Q : VK} (s : Same F H) (n : Rn K Ξ η H0 F H σ env) (e : fzo (evR ρ κ x env) = some d) (w : WishD K F H Q d) : (rd K ρ ξ Ξ γ W x).1 σ H Q := by
  unfold fzo at e
  cases q : evR ρ κ x env with
  | none => rw [q] at e; cases e
  | some r =>
    rw [q] at e
    refine h.1 s n q fun F' H' v g rr => ?_
    cases r with
    | pv d' => cases e; exact w F' H' v g rr
    | li xs =>
      cases e
      obtain ⟨a, vs, rfl, h1, h2, h3, h4⟩ := rr
      have g2 := g.freeze h4 h3 h1
      refine w _ _ _ g2 ?_
      show R K _ _ (.lst xs)
      simp only [R]
      exact ⟨a, vs, rfl, upd_same, h2.mono (same_upd h3)⟩
theorem viewOr_of {x : Ex} {env : Ev} {r : Option Rv} (h : ∀ i, x ≠ .slot i) : viewOr x env r = fzo r := by
  unfold viewOr
  split
  · exact absurd rfl (h _)
  · rfl
theorem Good.view {x : Ex} (h : Good K ρ ξ Ξ κ γ W x) {η : Nat → Option V} {H0 F H : Hp} {σ : L2.St} {env : Ev} {d : D} {Q : VK} (s : Same F H) (n : Rn K Ξ η H0 F H σ env) (e : viewOr x env (evR ρ κ x env) = some d) (w : WishV K F H Q d) : (rd K ρ ξ Ξ γ W x).1 σ H Q := by
  have other : (∀ i, x ≠ .slot i) → (rd K ρ ξ Ξ γ W x).1 σ H Q := fun hx => by
    rw [viewOr_of hx] at e
    exact h.val s n e fun F' H' v g r => w F' H' v g (.inl r)
  cases x with
  | slot i =>
    simp only [viewOr, viewS] at e
    split at e
    · rename_i d' q
      cases e
      obtain ⟨v, h1, h2⟩ := n.pv i _ q
      exact ⟨v, h1, w F H v (Gr.refl s) (.inl h2)⟩
    · rename_i xs q
      cases e
      obtain ⟨a, vs, h1, h2, h3, _, _⟩ := n.li i _ q
      exact ⟨.ref a, h1, w F H _ (Gr.refl s) (.inr ⟨a, vs, xs, rfl, rfl, h2, h3⟩)⟩
    · cases e
  | _ => exact other fun i => by intro z; cases z
theorem bindE {α β : Type} {o : Option α} {f : α → Option β} {r : β} (h : o.bind f = some r) : ∃ a, o = some a ∧ f a = some r := by
  cases o with
  | none => cases h
  | some a => exact ⟨a, rfl, h⟩
theorem mapE {α β : Type} {o : Option α} {f : α → β} {r : β} (h : o.map f = some r) : ∃ a, o = some a ∧ f a = r := by
  cases o with
  | none => cases h
  | some a => exact ⟨a, rfl, by simpa using h⟩
def GoodA (K : PySem.W.Frag) (ρ : Str → List D → Option Rv) (ξ : Str → List D → Option Str) (Ξ : Xt) (κ : Str → Option D) (γ : Str → V) (W : WX) (es : Exs) : Prop :=
  (∀ {η : Nat → Option V} {H0 F H : Hp} {σ : L2.St} {env : Ev} {ds : List D} {Q : List V → Hp → Prop}, Same F H → Rn K Ξ η H0 F H σ env → evEs ρ κ es env = some ds → (∀ F' H' vs, Gr F H F' H' → Rs K F' vs ds → Q vs H') → rdA K ρ ξ Ξ γ W es σ H Q) ∧
  (∀ {η : Nat → Option V} {H0 F H : Hp} {σ : L2.St} {env : Ev} {ds : List D} {Q : List V → Hp → Prop}, Same F H → Rn K Ξ η H0 F H σ env → evVs ρ κ es env = some ds → (∀ F' H' vs, Gr F H F' H' → RVs K F' H' vs ds → Q vs H') → rdA K ρ ξ Ξ γ W es σ H Q)
def GoodB (K : PySem.W.Frag) (ρ : Str → List D → Option Rv) (ξ : Str → List D → Option Str) (Ξ : Xt) (κ : Str → Option D) (γ : Str → V) (W : WX) (es : Exs) : Prop := ∀ k : Bool,
  (∀ {η : Nat → Option V} {H0 F H : Hp} {σ : L2.St} {env : Ev} {b : Bool} {Q : VK}, Same F H → Rn K Ξ η H0 F H σ env → evB ρ κ k es env = some b → WishB F H (fun b H' => Q (.bl b) H') b → (rdB K ρ ξ Ξ γ W k es).1 σ H Q) ∧
  (∀ {η : Nat → Option V} {H0 F H : Hp} {σ : L2.St} {env : Ev} {b : Bool} {Q : Bool → Hp → Prop}, Same F H → Rn K Ξ η H0 F H σ env → evB ρ κ k es env = some b → WishB F H Q b → (rdB K ρ ξ Ξ γ W k es).2 σ H Q)
def GoodO (K : PySem.W.Frag) (ρ : Str → List D → Option Rv) (ξ : Str → List D → Option Str) (Ξ : Xt) (κ : Str → Option D) (γ : Str → V) (W : WX) (x : Exo) : Prop :=
  (∀ {η : Nat → Option V} {H0 F H : Hp} {σ : L2.St} {env : Ev} {o : Option Int} {Q : Option Int → Hp → Prop}, Same F H → Rn K Ξ η H0 F H σ env → evO ρ κ x env = some o → (∀ F' H', Gr F H F' H' → Q o H') → rdO K ρ ξ Ξ γ W x σ H Q) ∧
  (∀ {η : Nat → Option V} {H0 F H : Hp} {σ : L2.St} {env : Ev} {b : Bool} {Q : Bool → Hp → Prop}, Same F H → Rn K Ξ η H0 F H σ env → evC ρ κ x env = some b → WishB F H Q b → rdC K ρ ξ Ξ γ W x σ H Q)
/-- J gives ds as long as the heap but grows -/
def Iok (K : PySem.W.Frag) (J : It) (F H : Hp) (ds : List D) : Prop := ∀ F1 H1, Gr F H F1 H1 → Stp K J F1 H1 ds
def GoodI (K : PySem.W.Frag) (ρ : Str → List D → Option Rv) (ξ : Str → List D → Option Str) (Ξ : Xt) (κ : Str → Option D) (γ : Str → V) (W : WX) (x : Itx) : Prop :=
  ∀ {η : Nat → Option V} {H0 F H : Hp} {σ : L2.St} {env : Ev} {ds : List D} {Rw : It → Hp → Prop}, Same F H → Rn K Ξ η H0 F H σ env → evI ρ κ x env = some ds → (∀ J F' H', Gr F H F' H' → Iok K J F' H' ds → Rw J H') → rdI K ρ ξ Ξ γ W x σ H Rw

theorem atI_rs {F : Hp} {vs : List V} {ds : List D} {i : Int} {d : D} (r : Rs K F vs ds) (h : atI ds i = some d) : ∃ v, atI vs i = some v ∧ R K F v d := by
  unfold atI at h ⊢
  rw [r.length]
  obtain ⟨j, e, e2⟩ := bindE h
  rw [e]
  exact r.get e2
theorem idxB {F H : Hp} {Q : VK} (s : Same F H) {x y : V} {d e r : D} (hx : RV K F H x d) (hy : R K F y e) (h : idxD d e = some r) (w : Wish K F H Q (.pv r)) : rIx K x y H Q := by
  cases e <;> cases d <;> simp only [idxD, reduceCtorEq] at h
  all_goals (simp only [R] at hy; subst hy)
  · obtain ⟨a, vs, rfl, t, rr⟩ := hx.tup s
    obtain ⟨v, h1, h2⟩ := atI_rs rr h
    exact .inr (.inl ⟨a, vs, _, v, rfl, rfl, t, h1, w.same s h2⟩)
  · obtain ⟨a, vs, rfl, t, rr⟩ := hx.lst s
    obtain ⟨v, h1, h2⟩ := atI_rs rr h
    exact .inl ⟨a, vs, _, v, rfl, rfl, SqL.of t, h1, w.same s h2⟩
  · obtain ⟨a, vs, rfl, t, rr⟩ := hx.flst s
    obtain ⟨v, h1, h2⟩ := atI_rs rr h
    exact .inl ⟨a, vs, _, v, rfl, rfl, t, h1, w.same s h2⟩
theorem cut_rs {F : Hp} {vs : List V} {ds : List D} (r : Rs K F vs ds) (lo hi : Option Int) : Rs K F (cutV vs lo hi) (cutD ds lo hi) := by
  unfold cutV cutD
  rw [r.length]
  exact (r.drop _).take _
theorem slB {F H : Hp} {Q : VK} (s : Same F H) {x : V} {d : D} {lo hi : Option Int} {r : Rv} (hx : RV K F H x d) (h : slD d lo hi = some r) (w : Wish K F H Q r) : rSlK K x lo hi H Q := by
  cases d <;> simp only [slD, reduceCtorEq] at h
  · cases h
    obtain ⟨a, vs, rfl, t, rr⟩ := hx.tup s
    refine .inr ⟨a, vs, rfl, t, fun e => ?_, fun _ p hp => w.tup s (cut_rs rr lo hi) hp⟩
    have e3 : ∀ ds : List D, Rs K F vs ds → cutD ds lo hi = ds := fun ds q => by
      unfold cutD
      rw [← q.length, e.1, e.2, List.drop_zero, Nat.sub_zero, q.length]
      exact List.take_length
    rw [e3 _ rr] at w
    rcases hx with hx | ⟨_, _, _, z, _⟩
    · exact w.same s hx
    · cases z
  · cases h
    obtain ⟨a, vs, rfl, t, rr⟩ := hx.lst s
    exact .inl ⟨a, vs, rfl, SqL.of t, fun p hp => w.li s (cut_rs rr lo hi) hp⟩
  · cases h
    obtain ⟨a, vs, rfl, t, rr⟩ := hx.flst s
    exact .inl ⟨a, vs, rfl, t, fun p hp => w.li s (cut_rs rr lo hi) hp⟩
theorem Rs.rv {F H : Hp} : ∀ {ds : List D} {vs : List V}, Rs K F vs ds → RVs K F H vs ds
  | [], _, h => by simp only [Rs] at h; exact h
  | d :: ds, _, h => by
    simp only [Rs] at h
    obtain ⟨v, r, e, h1, h2⟩ := h
    exact ⟨v, r, e, .inl h1, Rs.rv h2⟩
theorem Wish.trans {F H F' H' : Hp} {Q : VK} {r : Rv} (g : Gr F H F' H') (w : Wish K F H Q r) : Wish K F' H' Q r := fun F2 H2 v g2 rr => by
  refine w F2 H2 v (g.trans g2) ?_
  cases r with
  | pv d => exact rr
  | li xs =>
    obtain ⟨a, vs, e, h1, h2, h3, h4⟩ := rr
    exact ⟨a, vs, e, h1, h2, h3, g.fresh h4⟩
theorem R.cst {F : Hp} {d : D} (h : cOk d = true) : R K F (cV d) d := by
  cases d <;> first | (simp only [cV, R]; done) | cases h

/-! ### a comprehension -/
theorem colB {J : It} {g : TG} {tt : TT} {te : TE} {own : List Nat} {σ : L2.St} {F H : Hp} {Q : VK} {ds : List D} {G : D → Option (Option D)} {res : List D} (s : Same F H) (hz : ds.length ≤ 16777216)
    (ij : Iok K J F H ds) (hG : colD G ds = some res)
    (turn : ∀ F1 H1 x d o (Qy : V → Hp → Prop) (Qn : Hp → Prop), Same F1 H1 → Gr F H F1 H1 → R K F1 x d → G d = some o →
      (∀ y, o = some y → ∀ F2 H2 v, Gr F1 H1 F2 H2 → R K F2 v y → Qy v H2) → (o = none → ∀ F2 H2, Gr F1 H1 F2 H2 → Qn H2) →
      g x (L2.wipe σ own) H1 fun σ2 H2 => L2.wipe σ2 own = L2.wipe σ own ∧ tt σ2 H2 fun b H3 => if b = true then te σ2 H3 Qy else Qn H3)
    (w : Wish K F H Q (.li res)) : ∀ Dl, H Dl = none → ∃ W : Nat → Nat → Hp → Prop, (∃ m, W 0 m (upd H Dl (.lst []))) ∧ ∀ i m H, W i m H →
      (J.stop i H ∧ Q (.ref Dl) H) ∨ (J.go i H ∧ ∃ Nx : Hp → Prop, (∀ H', Nx H' → ∃ m', m' < m ∧ W (i + 1) m' H') ∧ ∀ x H', J.yld i H x H' → g x (L2.wipe σ own) H' fun σ2 H2 => L2.wipe σ2 own = L2.wipe σ own ∧ tt σ2 H2 fun b H3 =>
        if b = true then te σ2 H3 fun y H4 => ∃ acc, H4 Dl = some (.lst acc) ∧ acc.length < sizeLine ∧ Nx (upd H4 Dl (.lst (acc ++ [y]))) else Nx H3) := by
  intro Dl hD
  have P : ∃ Pv : Nat → Hp → Prop, ∀ i H', Pv i H' ↔ i ≤ ds.length ∧ ∃ F' acc accD rest, Gr F H F' H' ∧ F' Dl = none ∧ H' Dl = some (.lst acc) ∧ Rs K F' acc accD ∧ acc.length ≤ i ∧ colD G (ds.drop i) = some rest ∧ accD ++ rest = res := ⟨_, fun _ _ => Iff.rfl⟩
  obtain ⟨Pv, hP⟩ := P
  refine ⟨fun i m H' => m = ds.length - i ∧ Pv i H', ⟨ds.length, by simp, (hP _ _).mpr ⟨Nat.zero_le _, F, [], [], res, Gr.newO _ s hD, none_of_same s hD, upd_same, by simp only [Rs], Nat.le_refl _, hG, rfl⟩⟩, fun i m H1 hW => ?_⟩
  obtain ⟨rfl, hW⟩ := hW
  obtain ⟨hi, F1, acc, accD, rest, g1, hn, hD1, ra, hl, hc, he⟩ := (hP _ _).mp hW
  have st := ij F1 H1 g1
  by_cases hlt : i < ds.length
  · refine .inr ?_
    have ei : ds[i]? = some ds[i] := List.getElem?_eq_getElem hlt
    obtain ⟨go, yl⟩ := st.1 i _ ei
    refine ⟨go, Pv (i + 1), fun H' p => ⟨_, by omega, rfl, p⟩, fun x H2 hy => ?_⟩
    obtain ⟨F2, g2, r2⟩ := yl x H2 hy
    rw [List.drop_eq_getElem_cons hlt] at hc
    simp only [colD] at hc
    obtain ⟨o, ho, hc⟩ := bindE hc
    obtain ⟨rest', hr, hc⟩ := mapE hc
    have keep : ∀ F3 H3, Gr F2 H2 F3 H3 → F3 Dl = none ∧ H3 Dl = some (.lst acc) := fun F3 H3 g3 => by
      have d2 : H2 Dl = some (.lst acc) := g2.hh _ _ hD1
      refine ⟨?_, g3.hh _ _ d2⟩
      rw [g3.fr Dl (by rw [d2]; exact fun z => nomatch z), g2.fr Dl (by rw [hD1]; exact fun z => nomatch z)]
      exact hn
    refine turn F2 H2 x ds[i] o _ _ g2.fh (g1.trans g2) r2 ho (fun y ey F3 H3 v g3 r3 => ?_) (fun ey F3 H3 g3 => ?_)
    · obtain ⟨k1, k2⟩ := keep F3 H3 g3
      refine ⟨acc, k2, by rw [sizeL]; omega, (hP _ _).mpr ⟨hlt, F3, acc ++ [v], accD ++ [y], rest', (g1.trans (g2.trans g3)).mut hD k1, k1, upd_same, (ra.mono (g2.trans g3).ff).append (Rs.one r3), by simp; omega, hr, ?_⟩⟩
      subst ey
      rw [← he, ← hc, List.append_assoc]
      rfl
    · obtain ⟨k1, k2⟩ := keep F3 H3 g3
      refine (hP _ _).mpr ⟨hlt, F3, acc, accD, rest', g1.trans (g2.trans g3), k1, k2, ra.mono (g2.trans g3).ff, by omega, hr, ?_⟩
      subst ey
      rw [← he, ← hc]
  · have ei : i = ds.length := by omega
    refine .inl ⟨by rw [ei]; exact st.2, ?_⟩
    rw [ei, List.drop_length] at hc
    simp only [colD, Option.some.injEq] at hc
    subst hc
    rw [List.append_nil] at he
    subst he
    exact w F1 H1 _ g1 ⟨Dl, acc, rfl, hD1, ra, hn, hD⟩
end
end PL

/-! P7 -/
namespace PL
open PySem PySem.Spec PyProof.Rows L2 RZ
section
variable {K : PySem.W.Frag} {ρ : Str → List D → Option Rv} {ξ : Str → List D → Option Str} {Ξ : Xt} {κ : Str → Option D} {γ : Str → V}
theorem and_l {a b : Bool} (h : (a && b) = true) : a = true := (Bool.and_eq_true_iff.mp h).1
theorem and_r {a b : Bool} (h : (a && b) = true) : b = true := (Bool.and_eq_true_iff.mp h).2
theorem rdTs_at {θ : Str → Addr} {σ : L2.St} {H : Hp} {Q : List V → Hp → Prop} : ∀ ts : List Str, Q (ts.map (tyV θ)) H → rdTs θ ts σ H Q
  | [], q => q
  | t :: ts, q => rdTs_at (Q := fun vs H => Q (tyV θ t :: vs) H) ts q
theorem tyV_all (θ : Str → Addr) : ∀ ts : List Str, Paired ClsV (ts.map (tyV θ)) (ts.map (tyW θ))
  | [] => .nil
  | t :: ts => .cons (tyV_cls θ t) (tyV_all θ ts)
theorem kitAny_all {θ : Str → Addr} {t0 : Value} {f : Str → Bool} : ∀ ts : List Str, (∀ t ∈ ts, PySem.W.kitOne K t0 (tyW θ t) = some (f t)) → PySem.W.kitAny K t0 (ts.map (tyW θ)) = some (ts.any f)
  | [], _ => kitAny_nil
  | t :: ts, h => by
    have ih := kitAny_all ts fun u hu => h u (List.mem_cons_of_mem _ hu)
    rw [List.map_cons, List.any_cons]
    refine kitAny_cons (h t (List.mem_cons_self ..)) (fun hf => ?_) fun hf => ?_
    · rw [hf, Bool.false_or]; exact ih
    · rw [hf, Bool.true_or]
theorem viewB {η : Nat → Option V} {H0 F H : Hp} {σ : L2.St} {env : Ev} {i : Nat} {d : D} (s : Same F H) (n : Rn K Ξ η H0 F H σ env) (e : viewS env i = some d) : ∃ v, σ[i]? = some (some v) ∧ RV K F H v d := by
  unfold viewS at e
  split at e
  · rename_i d' q
    cases e
    obtain ⟨v, h1, h2⟩ := n.pv i _ q
    exact ⟨v, h1, .inl h2⟩
  · rename_i xs q
    cases e
    obtain ⟨a, vs, h1, h2, h3, _, _⟩ := n.li i _ q
    exact ⟨.ref a, h1, .inr ⟨a, vs, xs, rfl, rfl, h2, h3⟩⟩
  · cases e
theorem toPys_get : ∀ {xs : List D} {j : Nat} {z : D}, xs[j]? = some z → (toPys xs)[j]? = some (toPy z)
  | [], _, _, h => by simp at h
  | x :: xs, 0, z, h => by simp at h; subst h; simp [toPys]
  | x :: xs, j + 1, z, h => by simp only [List.getElem?_cons_succ] at h; simp only [toPys, List.getElem?_cons_succ]; exact toPys_get h
theorem idxOf_is {y : D} : ∀ {xs : List D} {j : Nat}, idxOf y xs = some j → ∃ z, xs[j]? = some z ∧ PyData.eqv (toPy z) (toPy y) = true ∧ ∀ (m : Nat) (z' : PyData), m < j → (toPys xs)[m]? = some z' → PyData.eqv z' (toPy y) = false
  | [], _, h => by simp [idxOf] at h
  | x :: xs, j, h => by
    simp only [idxOf] at h
    split at h
    · rename_i e
      cases h
      exact ⟨x, rfl, e, fun m _ hm => absurd hm (Nat.not_lt_zero m)⟩
    · rename_i e
      obtain ⟨k, h1, h2⟩ := mapE h
      subst h2
      obtain ⟨z, e1, e2, e3⟩ := idxOf_is h1
      refine ⟨z, by simpa using e1, e2, fun m z' hm hz => ?_⟩
      cases m with
      | zero =>
        simp only [toPys, List.getElem?_cons_zero, Option.some.injEq] at hz
        subst hz
        exact Bool.eq_false_iff.mpr e
      | succ m =>
        simp only [toPys, List.getElem?_cons_succ] at hz
        exact e3 m z' (by omega) hz
mutual
theorem goodE (hκ : KOk K κ γ) (hX : XtOk K Ξ) : ∀ (W : WX) (x : Ex), okE Ξ.xts x = true → Good K ρ ξ Ξ κ γ W x
  | W, .slot i, _ => Good.mk (by simp only [rd]; rfl) fun s n ev w => by
    simp only [evR] at ev
    split at ev
    · rename_i d q
      cases ev
      obtain ⟨v, h1, h2⟩ := n.pv i _ q
      exact ⟨v, h1, w.same s h2⟩
    · cases ev
  | W, .cst d, hx => Good.mk (by simp only [rd]; rfl) fun s n ev w => by
    simp only [evR] at ev
    cases ev
    exact w.same s (R.cst (by simpa only [okE] using hx))
  | W, .glb x, _ => Good.mk (by simp only [rd]; rfl) fun s n ev w => by
    simp only [evR] at ev
    obtain ⟨d, h1, h2⟩ := mapE ev
    subst h2
    exact w.same s (hκ x d h1 _)
  | W, .bin o a b, hx => Good.mk (by simp only [rd]; rfl) fun s n ev w => by
    simp only [okE] at hx
    simp only [evR] at ev
    obtain ⟨d, h1, ev⟩ := bindE ev
    obtain ⟨e, h2, ev⟩ := bindE ev
    refine (goodE hκ hX W a (and_l hx)).view s n h1 fun F1 H1 x g1 r1 => ?_
    refine (goodE hκ hX W b (and_r hx)).view g1.fh (n.mono g1) h2 fun F2 H2 y g2 r2 => ?_
    exact binB g2.fh o (r1.mono g2) r2 ev (w.trans (g1.trans g2))
  | W, .neg a, hx => Good.mk (by simp only [rd]; rfl) fun s n ev w => by
    simp only [okE] at hx
    simp only [evR] at ev
    obtain ⟨d, h1, ev⟩ := bindE ev
    obtain ⟨i, h2, ev⟩ := mapE ev
    subst ev
    refine (goodE hκ hX W a hx).val s n h1 fun F1 H1 x g1 r1 => ?_
    cases d <;> simp only [asI, reduceCtorEq] at h2
    cases h2
    simp only [R] at r1
    exact ⟨_, r1, (w.trans g1).pvi g1.fh⟩
  | W, .notE a, hx => by
    simp only [okE] at hx
    refine ⟨fun s n ev w => ?_, fun s n ev w => ?_⟩
    · simp only [evR] at ev
      obtain ⟨b, h1, ev⟩ := mapE ev
      subst ev
      simp only [rd]
      refine (goodE hκ hX W a hx).1 s n (toB_is h1) fun F1 H1 v g1 r1 => ?_
      simp only [RR, R] at r1
      exact ⟨b, r1, (w.trans g1).pvb g1.fh⟩
    · simp only [evR] at ev
      obtain ⟨b, h1, ev⟩ := mapE (toB_is ev)
      cases ev
      simp only [rd]
      exact (goodE hκ hX W a hx).2 s n h1 fun F1 H1 g1 => w F1 H1 g1
  | W, .cmp o a b, hx => Good.mk (by simp only [rd]; rfl) fun s n ev w => by
    simp only [okE] at hx
    simp only [evR] at ev
    obtain ⟨d, h1, ev⟩ := bindE ev
    obtain ⟨e, h2, ev⟩ := bindE ev
    obtain ⟨k, h3, ev⟩ := mapE ev
    subst ev
    refine (goodE hκ hX W a (and_l hx)).view s n h1 fun F1 H1 x g1 r1 => ?_
    refine (goodE hκ hX W b (and_r hx)).view g1.fh (n.mono g1) h2 fun F2 H2 y g2 r2 => ?_
    exact cmpB g2.fh o (r1.mono g2) r2 h3 ((w.trans (g1.trans g2)).pvb g2.fh)
  | W, .chain o o' a b c, hx => Good.mk (by simp only [rd]; rfl) fun s n ev w => by
    simp only [okE] at hx
    simp only [evR] at ev
    obtain ⟨d, h1, ev⟩ := bindE ev
    obtain ⟨e, h2, ev⟩ := bindE ev
    obtain ⟨k, h3, ev⟩ := bindE ev
    refine (goodE hκ hX W a (and_l (and_l hx))).view s n h1 fun F1 H1 x g1 r1 => ?_
    refine (goodE hκ hX W b (and_r (and_l hx))).view g1.fh (n.mono g1) h2 fun F2 H2 y g2 r2 => ?_
    refine cmpB g2.fh o (r1.mono g2) r2 h3 ⟨k, rfl, ?_⟩
    cases k with
    | true =>
      simp only [if_true] at ev
      obtain ⟨z, h4, ev⟩ := bindE ev
      obtain ⟨k, h5, ev⟩ := mapE ev
      subst ev
      show (rd K ρ ξ Ξ γ W c).1 _ _ _
      refine (goodE hκ hX W c (and_r hx)).view g2.fh ((n.mono g1).mono g2) h4 fun F3 H3 u g3 r3 => ?_
      exact cmpB g3.fh o' (r2.mono g3) r3 h5 ((w.trans (g1.trans (g2.trans g3))).pvb g3.fh)
    | false =>
      have e0 : Rv.pv (.bl false) = _ := Option.some.inj ev
      subst e0
      exact (w.trans (g1.trans g2)).pvb g2.fh
  | W, .chain3 o o2 o3 a b c d, hx => by
    have main : ∀ {η : Nat → Option V} {H0 F H : Hp} {σ : L2.St} {env : Ev} {r : Rv} {Q : VK}, Same F H → Rn K Ξ η H0 F H σ env → evR ρ κ (.chain3 o o2 o3 a b c d) env = some r → Wish K F H Q r → tChain3 (rCmp K o) (rCmp K o2) (rCmp K o3) (rd K ρ ξ Ξ γ W a).1 (rd K ρ ξ Ξ γ W b).1 (rd K ρ ξ Ξ γ W c).1 (rd K ρ ξ Ξ γ W d).1 σ H Q := fun s n ev w => by
      simp only [okE] at hx
      simp only [evR] at ev
      obtain ⟨x, h1, ev⟩ := bindE ev
      obtain ⟨y, h2, ev⟩ := bindE ev
      obtain ⟨k, h3, ev⟩ := bindE ev
      refine (goodE hκ hX W a (and_l (and_l (and_l hx)))).view s n h1 fun F1 H1 x g1 r1 => ?_
      refine (goodE hκ hX W b (and_r (and_l (and_l hx)))).view g1.fh (n.mono g1) h2 fun F2 H2 y g2 r2 => ?_
      refine cmpB g2.fh o (r1.mono g2) r2 h3 ⟨k, rfl, ?_⟩
      cases k with
      | true =>
        simp only [if_true] at ev
        obtain ⟨z, h4, ev⟩ := bindE ev
        obtain ⟨k2, h5, ev⟩ := bindE ev
        show (rd K ρ ξ Ξ γ W c).1 _ _ _
        refine (goodE hκ hX W c (and_r (and_l hx))).view g2.fh ((n.mono g1).mono g2) h4 fun F3 H3 u g3 r3 => ?_
        refine cmpB g3.fh o2 (r2.mono g3) r3 h5 ⟨k2, rfl, ?_⟩
        cases k2 with
        | true =>
          simp only [if_true] at ev
          obtain ⟨z3, h6, ev⟩ := bindE ev
          obtain ⟨k3, h7, ev⟩ := mapE ev
          subst ev
          show (rd K ρ ξ Ξ γ W d).1 _ _ _
          refine (goodE hκ hX W d (and_r hx)).view g3.fh (((n.mono g1).mono g2).mono g3) h6 fun F4 H4 u4 g4 r4 => ?_
          exact cmpB g4.fh o3 (r3.mono g4) r4 h7 ((w.trans (g1.trans (g2.trans (g3.trans g4)))).pvb g4.fh)
        | false =>
          have e0 : Rv.pv (.bl false) = _ := Option.some.inj ev
          subst e0
          exact (w.trans (g1.trans (g2.trans g3))).pvb g3.fh
      | false =>
        have e0 : Rv.pv (.bl false) = _ := Option.some.inj ev
        subst e0
        exact (w.trans (g1.trans g2)).pvb g2.fh
    refine ⟨fun s n ev w => ?_, fun {_ _ _ _ _ _ b _} s n ev w => ?_⟩
    · simp only [rd]; exact main s n ev w
    · simp only [rd]
      refine main s n (toB_is ev) fun F' H' v g r => ?_
      have r' : v = .bl b := by simpa only [RR, R] using r
      exact ⟨_, r', w F' H' g⟩
  | W, .lidx i e, hx => Good.mk (by simp only [rd]; rfl) fun s n ev w => by
    simp only [okE] at hx
    simp only [evR] at ev
    obtain ⟨x, h1, ev⟩ := bindE ev
    obtain ⟨xs, h2, ev⟩ := bindE ev
    obtain ⟨y, h3, ev⟩ := bindE ev
    split at ev
    · rename_i hs
      obtain ⟨j, h4, ev⟩ := mapE ev
      subst ev
      have hv : ∃ v, _ ∧ RV K _ _ v x := viewB s n h1
      obtain ⟨v, q1, q2⟩ := hv
      obtain ⟨a, us, rfl, t, r⟩ := q2.asL s h2
      refine ⟨.ref a, q1, .inl ⟨rfl, us, t⟩, ?_⟩
      refine (goodE hκ hX W e hx).val s n h3 fun F1 H1 u g1 r1 => ?_
      have d1 : Dp K H1 (.ref a) (.list (toPys xs)) := by
        have := (q2.mono g1).dp g1.fh
        cases x <;> simp only [asL, Option.some.injEq, reduceCtorEq] at h2
        all_goals (subst h2; simpa only [toPy] using this)
      obtain ⟨z, e1, e2, e3⟩ := idxOf_is h4
      have sl : SeqAt.shaped (.list (toPys xs)) = true := shp_shaped (d := .lst xs) hs.2
      exact ⟨a, u, toPy y, toPys xs, j, toPy z, rfl, rfl, d1, R.dp g1.fh y r1, sl, shp_shaped hs.1, toPys_get e1, e2, e3, (w.trans g1).pvi g1.fh⟩
    · cases ev
  | W, .lens e, hx => Good.mk (by simp only [rd]; rfl) fun s n ev w => by
    simp only [okE] at hx
    simp only [evR] at ev
    obtain ⟨x, h1, ev⟩ := bindE ev
    obtain ⟨xs, h2, ev⟩ := bindE ev
    obtain ⟨ns, h3, ev⟩ := bindE ev
    split at ev
    · rename_i hs
      cases ev
      refine (goodE hκ hX W e hx).view s n h1 fun F1 H1 u g1 r1 => ?_
      obtain ⟨a, us, rfl, t, r⟩ := r1.asL g1.fh h2
      have e4 := asInts_rs h3 r
      subst e4
      exact ⟨a, ns, rfl, t, hs, (w.trans g1).pvi g1.fh⟩
    · cases ev
  | W, .bool k es, hx => by
    simp only [okE] at hx
    have h := goodB hκ hX W es hx k
    refine ⟨fun s n ev w => ?_, fun s n ev w => ?_⟩
    · simp only [evR] at ev
      obtain ⟨b, h1, ev⟩ := mapE ev
      subst ev
      simp only [rd]
      exact h.1 s n h1 fun F1 H1 g1 => (w.trans g1).pvb g1.fh
    · simp only [evR] at ev
      obtain ⟨b, h1, ev⟩ := mapE (toB_is ev)
      cases ev
      simp only [rd]
      exact h.2 s n h1 w
  | W, .ife c a b, hx => by
    simp only [okE] at hx
    refine ⟨fun s n ev w => ?_, fun s n ev w => ?_⟩
    · simp only [evR] at ev
      obtain ⟨k, h1, ev⟩ := bindE ev
      simp only [rd]
      refine (goodE hκ hX W c (and_l (and_l hx))).2 s n h1 fun F1 H1 g1 => ?_
      cases k with
      | true => exact (goodE hκ hX W a (and_r (and_l hx))).1 g1.fh (n.mono g1) ev (w.trans g1)
      | false => exact (goodE hκ hX W b (and_r hx)).1 g1.fh (n.mono g1) ev (w.trans g1)
    · have ev := toB_is ev
      simp only [evR] at ev
      obtain ⟨k, h1, ev⟩ := bindE ev
      simp only [rd]
      refine (goodE hκ hX W c (and_l (and_l hx))).2 s n h1 fun F1 H1 g1 => ?_
      cases k with
      | true =>
        have ev' : evR ρ κ a _ = _ := ev
        exact (goodE hκ hX W a (and_r (and_l hx))).2 g1.fh (n.mono g1) (by rw [ev']; rfl) fun F2 H2 g2 => w F2 H2 (g1.trans g2)
      | false =>
        have ev' : evR ρ κ b _ = _ := ev
        exact (goodE hκ hX W b (and_r hx)).2 g1.fh (n.mono g1) (by rw [ev']; rfl) fun F2 H2 g2 => w F2 H2 (g1.trans g2)
  | W, .tup es, hx => Good.mk (by simp only [rd]; rfl) fun s n ev w => by
    simp only [okE] at hx
    simp only [evR] at ev
    obtain ⟨ds, h1, ev⟩ := bindE ev
    split at ev
    · rename_i hl
      cases ev
      refine (goodA hκ hX W es hx).1 s n h1 fun F1 H1 vs g1 r1 => ⟨by rw [sizeL, r1.length]; exact hl, fun p hp => (w.trans g1).tup g1.fh r1 hp⟩
    · cases ev
  | W, .lst es, hx => Good.mk (by simp only [rd]; rfl) fun s n ev w => by
    simp only [okE] at hx
    simp only [evR] at ev
    obtain ⟨ds, h1, ev⟩ := bindE ev
    split at ev
    · rename_i hl
      cases ev
      refine (goodA hκ hX W es hx).1 s n h1 fun F1 H1 vs g1 r1 => ⟨by rw [sizeL, r1.length]; exact hl, fun p hp => (w.trans g1).li g1.fh r1 hp⟩
    · cases ev
  | W, .idx a b, hx => Good.mk (by simp only [rd]; rfl) fun s n ev w => by
    simp only [okE] at hx
    simp only [evR] at ev
    obtain ⟨d, h1, ev⟩ := bindE ev
    obtain ⟨e, h2, ev⟩ := bindE ev
    obtain ⟨r, h3, ev⟩ := mapE ev
    subst ev
    refine (goodE hκ hX W a (and_l hx)).view s n h1 fun F1 H1 x g1 r1 => ?_
    refine (goodE hκ hX W b (and_r hx)).val g1.fh (n.mono g1) h2 fun F2 H2 y g2 r2 => ?_
    exact idxB g2.fh (r1.mono g2) r2 h3 (w.trans (g1.trans g2))
  | W, .rev a, hx => Good.mk (by simp only [rd]; rfl) fun s n ev w => by
    simp only [okE] at hx
    simp only [evR] at ev
    obtain ⟨d, h1, ev⟩ := bindE ev
    obtain ⟨xs, h2, ev⟩ := mapE ev
    subst ev
    refine (goodE hκ hX W a hx).view s n h1 fun F1 H1 x g1 r1 => ?_
    obtain ⟨p, vs, rfl, t, r⟩ := r1.asL g1.fh h2
    exact ⟨p, vs, rfl, t, fun l hl => (w.trans g1).li g1.fh r.reverse hl⟩
  | W, .sl a lo hi, hx => Good.mk (by simp only [rd]; rfl) fun s n ev w => by
    simp only [okE] at hx
    simp only [evR] at ev
    obtain ⟨d, h1, ev⟩ := bindE ev
    obtain ⟨l, h2, ev⟩ := bindE ev
    obtain ⟨u, h3, ev⟩ := bindE ev
    refine (goodE hκ hX W a (and_l (and_l hx))).view s n h1 fun F1 H1 x g1 r1 => ?_
    refine (goodO hκ hX W lo (and_r (and_l hx))).1 g1.fh (n.mono g1) h2 fun F2 H2 g2 => ?_
    refine (goodO hκ hX W hi (and_r hx)).1 g2.fh ((n.mono g1).mono g2) h3 fun F3 H3 g3 => ?_
    exact slB g3.fh ((r1.mono g2).mono g3) ev (w.trans (g1.trans (g2.trans g3)))
  | W, .call f es, hx => Good.mk (by simp only [rd]; rfl) fun s n ev w => by
    simp only [okE] at hx
    simp only [evR] at ev
    obtain ⟨ds, h1, ev⟩ := bindE ev
    refine (goodA hκ hX W es hx).1 s n h1 fun F1 H1 vs g1 r1 => ?_
    exact ⟨F1, ds, g1.fh, r1, .inl ⟨_, ev, w.trans g1⟩⟩
  | W, .bi f es, hx => Good.mk (by simp only [rd]; rfl) fun s n ev w => by
    simp only [okE] at hx
    simp only [evR] at ev
    obtain ⟨ds, h1, ev⟩ := bindE ev
    refine (goodA hκ hX W es hx).2 s n h1 fun F1 H1 vs g1 r1 => ?_
    exact biB g1.fh f r1 ev (w.trans g1)
  | W, .isx i ts, hx => Good.mk (by simp only [rd]; rfl) fun s n ev w => by
    simp only [okE] at hx
    simp only [evR] at ev
    split at ev
    · rename_i c he
      cases ev
      obtain ⟨hc, a, h1, h2⟩ := n.ex i c he
      have hl : ts.length ≤ 100 := of_decide_eq_true (and_r hx)
      have hts : ∀ t ∈ ts, t ∈ Ξ.xts := fun t ht => by
        have := List.all_eq_true.mp (and_l (and_l hx)) t ht
        simpa using this
      match ts, hx, hts, hl with
      | [t], _, hts, _ =>
        refine ⟨.ref a, h1, a, Ξ.θ c, _, _, _, rfl, h2, hX.exc c hc t (hts t (by simp)), tyV_cls _ _, hX.kit c hc t (hts t (by simp)), ?_⟩
        simp only [List.any_cons, List.any_nil, Bool.or_false] at w
        exact w.pvb s
      | t :: u :: r, _, hts, hl =>
        refine ⟨.ref a, h1, ?_⟩
        refine rdTs_at (Q := fun vs H1 => vs.length ≤ sizeLine ∧ ∀ p, H1 p = none → rIsXT K [.ref a, .ref p] (upd H1 p (.tup vs)) _) (t :: u :: r) ⟨by rw [sizeL, List.length_map]; omega, fun p hp => ?_⟩
        have ne : a ≠ p := ne_of_none h2 hp
        exact ⟨a, Ξ.θ c, p, _, _, _, rfl, by unfold ExAt; rw [upd_ne ne]; exact h2, hX.exc c hc t (hts t (by simp)), upd_same, tyV_all _ _, kitAny_all (t :: u :: r) fun t ht => hX.kit c hc t (hts t ht), w _ _ (.bl _) (Gr.newO _ s hp) (by simp only [RR, R])⟩
    · cases ev
  | W, .isi a T, hx => Good.mk (by simp only [rd]; rfl) fun s n ev w => by
    simp only [okE] at hx
    simp only [evR] at ev
    obtain ⟨d, h1, ev⟩ := mapE ev
    subst ev
    refine (goodE hκ hX W a (and_l hx)).view s n h1 fun F1 H1 x g1 r1 => ?_
    exact isiB g1.fh (and_r hx) r1 ((w.trans g1).pvb g1.fh)
  | W, .comp own elt tg it c, hx => Good.mk (by simp only [rd]; rfl) fun s n ev w => by
    simp only [okE] at hx
    simp only [evR] at ev
    obtain ⟨ds, h1, ev⟩ := bindE ev
    split at ev
    · rename_i hz
      obtain ⟨res, h2, ev⟩ := mapE ev
      subst ev
      have hown : ∀ j, j ∈ tg.ss → j ∈ own.map (·.2) := fun j hj => by
        have := List.all_eq_true.mp (and_r hx) j hj
        simpa using this
      refine goodI hκ hX W it (and_r (and_l (and_l hx))) s n h1 fun J F1 H1 g1 ij => ?_
      refine colB g1.fh hz ij h2 (fun F2 H2 x d o Qy Qn s2 g2 r2 ho q1 q2 => ?_) (w.trans g1)
      obtain ⟨env2, hb, ho⟩ := bindE ho
      obtain ⟨k, hk, ho⟩ := bindE ho
      refine bindT_ok s2 hb r2 (((n.mono g1).mono g2).wipe _) fun σ2 n2 l2 hs => ⟨?_, ?_⟩
      · rw [wipe_eq l2 fun j hj => hs j fun e => hj (hown j e)]
        exact wipe_wipe
      · refine (goodO hκ hX WX0 c (and_r (and_l hx))).2 s2 n2 hk fun F3 H3 g3 => ?_
        cases k with
        | true =>
          simp only [if_true] at ho ⊢
          obtain ⟨y, hy, ho⟩ := mapE ho
          subst ho
          exact (goodE hκ hX WX0 elt (and_l (and_l (and_l hx)))).val g3.fh (n2.mono g3) hy fun F4 H4 v g4 r4 => q1 y rfl F4 H4 v (g3.trans g4) r4
        | false =>
          have e0 : none = o := Option.some.inj ho
          subst e0
          exact q2 rfl F3 H3 g3
    · cases ev
theorem goodA (hκ : KOk K κ γ) (hX : XtOk K Ξ) : ∀ (W : WX) (es : Exs), okA Ξ.xts es = true → GoodA K ρ ξ Ξ κ γ W es
  | W, .nil, _ => by
    refine ⟨fun s n ev w => ?_, fun s n ev w => ?_⟩
    · simp only [evEs, Option.some.injEq] at ev
      subst ev
      simp only [rdA]
      exact w _ _ _ (Gr.refl s) (by simp only [Rs])
    · simp only [evVs, Option.some.injEq] at ev
      subst ev
      simp only [rdA]
      exact w _ _ _ (Gr.refl s) rfl
  | W, .cons e es, hx => by
    simp only [okA] at hx
    refine ⟨fun s n ev w => ?_, fun s n ev w => ?_⟩
    · simp only [evEs] at ev
      obtain ⟨d, h1, ev⟩ := bindE ev
      obtain ⟨ds, h2, ev⟩ := mapE ev
      subst ev
      simp only [rdA]
      refine (goodE hκ hX W e (and_l hx)).val s n h1 fun F1 H1 v g1 r1 => ?_
      refine (goodA hκ hX W es (and_r hx)).1 g1.fh (n.mono g1) h2 fun F2 H2 vs g2 r2 => ?_
      refine w F2 H2 _ (g1.trans g2) ?_
      simp only [Rs]
      exact ⟨v, vs, rfl, r1.mono g2.ff, r2⟩
    · simp only [evVs] at ev
      obtain ⟨d, h1, ev⟩ := bindE ev
      obtain ⟨ds, h2, ev⟩ := mapE ev
      subst ev
      simp only [rdA]
      refine (goodE hκ hX W e (and_l hx)).view s n h1 fun F1 H1 v g1 r1 => ?_
      refine (goodA hκ hX W es (and_r hx)).2 g1.fh (n.mono g1) h2 fun F2 H2 vs g2 r2 => ?_
      exact w F2 H2 _ (g1.trans g2) ⟨v, vs, rfl, r1.mono g2, r2⟩
theorem goodB (hκ : KOk K κ γ) (hX : XtOk K Ξ) : ∀ (W : WX) (es : Exs), okB Ξ.xts es = true → GoodB K ρ ξ Ξ κ γ W es
  | W, .nil, hx => by simp [okB] at hx
  | W, .cons e .nil, hx => fun k => by
    simp only [okB] at hx
    have key : ∀ {env : Ev} {b : Bool}, evB ρ κ k (.cons e .nil) env = some b → toB (evR ρ κ e env) = some b := fun {env b} ev => by
      simp only [evB] at ev
      obtain ⟨b', h1, ev⟩ := bindE ev
      rw [h1]
      by_cases hb : b' = k
      · rw [if_pos hb] at ev
        cases ev
        rw [hb]
      · rw [if_neg hb] at ev
        exact ev
    refine ⟨fun {_ _ _ _ _ _ b _} s n ev w => ?_, fun s n ev w => ?_⟩
    · simp only [rdB]
      refine (goodE hκ hX W e hx).1 s n (toB_is (key ev)) fun F1 H1 v g1 r1 => ?_
      have r' : v = .bl b := by simpa only [RR, R] using r1
      rw [r']
      exact w F1 H1 g1
    · simp only [rdB]
      exact (goodE hκ hX W e hx).2 s n (key ev) w
  | W, .cons e (.cons e2 es), hx => fun k => by
    simp only [okB] at hx
    have ih := goodB hκ hX W (.cons e2 es) (and_r hx) k
    have h := goodE hκ hX W e (and_l hx)
    refine ⟨fun {_ _ _ _ _ _ b _} s n ev w => ?_, fun {_ _ _ _ _ _ b _} s n ev w => ?_⟩
    · rw [evB] at ev
      obtain ⟨b', h1, ev⟩ := bindE ev
      cases k with
      | true =>
        simp only [rdB]
        refine h.1 s n (toB_is h1) fun F1 H1 v g1 r1 => ?_
        have r' : v = .bl b' := by simpa only [RR, R] using r1
        refine ⟨b', r', ?_⟩
        cases b' with
        | true => exact ih.1 g1.fh (n.mono g1) ev fun F2 H2 g2 => w F2 H2 (g1.trans g2)
        | false =>
          have e0 : false = b := Option.some.inj ev
          subst e0
          exact w F1 H1 g1
      | false =>
        simp only [rdB]
        refine h.1 s n (toB_is h1) fun F1 H1 v g1 r1 => ?_
        have r' : v = .bl b' := by simpa only [RR, R] using r1
        refine ⟨b', r', ?_⟩
        cases b' with
        | false => exact ih.1 g1.fh (n.mono g1) ev fun F2 H2 g2 => w F2 H2 (g1.trans g2)
        | true =>
          have e0 : true = b := Option.some.inj ev
          subst e0
          exact w F1 H1 g1
    · rw [evB] at ev
      obtain ⟨b', h1, ev⟩ := bindE ev
      cases k with
      | true =>
        simp only [rdB]
        refine h.2 s n h1 fun F1 H1 g1 => ?_
        cases b' with
        | true => exact ih.2 g1.fh (n.mono g1) ev fun F2 H2 g2 => w F2 H2 (g1.trans g2)
        | false =>
          have e0 : false = b := Option.some.inj ev
          subst e0
          exact w F1 H1 g1
      | false =>
        simp only [rdB]
        refine h.2 s n h1 fun F1 H1 g1 => ?_
        cases b' with
        | false => exact ih.2 g1.fh (n.mono g1) ev fun F2 H2 g2 => w F2 H2 (g1.trans g2)
        | true =>
          have e0 : true = b := Option.some.inj ev
          subst e0
          exact w F1 H1 g1
theorem goodO (hκ : KOk K κ γ) (hX : XtOk K Ξ) : ∀ (W : WX) (x : Exo), okO Ξ.xts x = true → GoodO K ρ ξ Ξ κ γ W x
  | W, .no, _ => by
    refine ⟨fun s n ev w => ?_, fun s n ev w => ?_⟩
    · simp only [evO, Option.some.injEq] at ev
      subst ev
      simp only [rdO]
      exact w _ _ (Gr.refl s)
    · simp only [evC, Option.some.injEq] at ev
      subst ev
      simp only [rdC]
      exact w _ _ (Gr.refl s)
  | W, .yes e, hx => by
    simp only [okO] at hx
    refine ⟨fun s n ev w => ?_, fun s n ev w => ?_⟩
    · simp only [evO] at ev
      obtain ⟨d, h1, ev⟩ := bindE ev
      obtain ⟨i, h2, ev⟩ := mapE ev
      subst ev
      simp only [rdO]
      refine (goodE hκ hX W e hx).val s n h1 fun F1 H1 v g1 r1 => ?_
      cases d <;> simp only [asI, reduceCtorEq] at h2
      cases h2
      simp only [R] at r1
      exact ⟨_, r1, w F1 H1 g1⟩
    · simp only [evC] at ev
      simp only [rdC]
      exact (goodE hκ hX W e hx).2 s n ev w
theorem goodI (hκ : KOk K κ γ) (hX : XtOk K Ξ) : ∀ (W : WX) (x : Itx), okI Ξ.xts x = true → GoodI K ρ ξ Ξ κ γ W x
  | W, .sql e, hx => fun s n ev w => by
    simp only [okI] at hx
    simp only [evI] at ev
    obtain ⟨d, h1, ev⟩ := bindE ev
    simp only [rdI]
    refine (goodE hκ hX W e hx).view s n h1 fun F1 H1 v g1 r1 => ?_
    obtain ⟨a, us, rfl, t, r⟩ := r1.asQ g1.fh ev
    rcases t with t | t
    · exact ⟨a, rfl, .inl ⟨⟨us, t⟩, w _ F1 H1 g1 fun F2 H2 g2 => stp_list g2.fh (g2.hh.seq t) (r.mono g2.ff)⟩⟩
    · exact ⟨a, rfl, .inr ⟨⟨us, t⟩, w _ F1 H1 g1 fun F2 H2 g2 => stp_tup g2.fh (PL.Same.tup g2.hh t) (r.mono g2.ff)⟩⟩
  | W, .sqt e, hx => fun s n ev w => by
    simp only [okI] at hx
    simp only [evI] at ev
    obtain ⟨d, h1, ev⟩ := bindE ev
    simp only [rdI]
    refine (goodE hκ hX W e hx).val s n h1 fun F1 H1 v g1 r1 => ?_
    cases d <;> simp only [reduceCtorEq] at ev
    cases ev
    simp only [R] at r1
    obtain ⟨a, us, rfl, t, r⟩ := r1
    exact ⟨a, rfl, ⟨us, PL.Same.tup g1.fh t⟩, w _ F1 H1 g1 fun F2 H2 g2 => stp_tup g2.fh (PL.Same.tup (g1.fh.trans g2.hh) t) (r.mono g2.ff)⟩
  | W, .rng1 a, hx => fun s n ev w => by
    simp only [okI] at hx
    simp only [evI] at ev
    obtain ⟨d, h1, ev1⟩ := bindE ev
    obtain ⟨i, h2, ev2⟩ := bindE ev1
    clear ev ev1
    simp only [rdI]
    refine (goodE hκ hX W a hx).val s n h1 fun F1 H1 v g1 r1 => ?_
    cases d <;> simp only [asI, reduceCtorEq] at h2
    cases h2
    simp only [R] at r1
    subst r1
    split at ev2
    · rename_i hr
      cases ev2
      have hr' := of_decide_eq_true hr
      exact ⟨_, rfl, hr'.1, hr'.2, w _ F1 H1 g1 fun F2 H2 g2 => stp_rng g2.fh _ _⟩
    · cases ev2
  | W, .rng2 a b, hx => fun s n ev w => by
    simp only [okI] at hx
    simp only [evI] at ev
    obtain ⟨d, h1, ev1⟩ := bindE ev
    obtain ⟨i, h2, ev3⟩ := bindE ev1
    obtain ⟨e, h3, ev4⟩ := bindE ev3
    obtain ⟨j, h4, ev2⟩ := bindE ev4
    clear ev ev1 ev3 ev4
    simp only [rdI]
    refine (goodE hκ hX W a (and_l hx)).val s n h1 fun F1 H1 v g1 r1 => ?_
    refine (goodE hκ hX W b (and_r hx)).val g1.fh (n.mono g1) h3 fun F2 H2 u g2 r2 => ?_
    cases d <;> simp only [asI, reduceCtorEq] at h2
    cases h2
    cases e <;> simp only [asI, reduceCtorEq] at h4
    cases h4
    simp only [R] at r1 r2
    subst r1 r2
    split at ev2
    · rename_i hr
      cases ev2
      have ha := of_decide_eq_true hr.1
      have hb := of_decide_eq_true hr.2
      exact ⟨_, _, rfl, ⟨ha.1, ha.2, hb.1, hb.2⟩, w _ F2 H2 (g1.trans g2) fun F3 H3 g3 => stp_rng g3.fh _ _⟩
    · cases ev2
  | W, .zip a b, hx => fun s n ev w => by
    simp only [okI] at hx
    simp only [evI] at ev
    obtain ⟨d, h1, ev⟩ := bindE ev
    obtain ⟨e, h2, ev⟩ := bindE ev
    obtain ⟨xs, e1, ev⟩ := bindE ev
    obtain ⟨ys, e2, ev⟩ := mapE ev
    subst ev
    simp only [rdI]
    refine (goodE hκ hX W a (and_l hx)).view s n h1 fun F1 H1 v g1 r1 => ?_
    refine (goodE hκ hX W b (and_r hx)).view g1.fh (n.mono g1) h2 fun F2 H2 u g2 r2 => ?_
    obtain ⟨fa, a, us, rfl, t, r⟩ := rv_asQB g2.fh (r1.mono g2) e1
    obtain ⟨fb, b, ws, rfl, t', r'⟩ := rv_asQB g2.fh r2 e2
    exact ⟨fa, fb, a, b, us, ws, rfl, t, t', w _ F2 H2 (g1.trans g2) fun F3 H3 g3 => stp_zipG g3.fh (sqB_up g3.hh t) (r.mono g3.ff) (sqB_up g3.hh t') (r'.mono g3.ff)⟩
  | W, .enum a, hx => fun s n ev w => by
    simp only [okI] at hx
    simp only [evI] at ev
    obtain ⟨d, h1, ev⟩ := bindE ev
    obtain ⟨xs, h2, ev⟩ := mapE ev
    subst ev
    simp only [rdI]
    refine (goodE hκ hX W a hx).view s n h1 fun F1 H1 v g1 r1 => ?_
    obtain ⟨a, us, rfl, t, r⟩ := r1.asL g1.fh h2
    exact ⟨a, us, rfl, t, w _ F1 H1 g1 fun F2 H2 g2 => stp_enum g2.fh (g2.hh.seq t) (r.mono g2.ff)⟩
  | W, .zip3 a b c, hx => fun s n ev w => by
    simp only [okI] at hx
    simp only [evI] at ev
    obtain ⟨d, h1, ev⟩ := bindE ev
    obtain ⟨e, h2, ev⟩ := bindE ev
    obtain ⟨f, h3, ev⟩ := bindE ev
    obtain ⟨xs, e1, ev⟩ := bindE ev
    obtain ⟨ys, e2, ev⟩ := bindE ev
    obtain ⟨zs, e3, ev⟩ := mapE ev
    subst ev
    simp only [rdI]
    refine (goodE hκ hX W a (and_l (and_l hx))).view s n h1 fun F1 H1 v g1 r1 => ?_
    refine (goodE hκ hX W b (and_r (and_l hx))).view g1.fh (n.mono g1) h2 fun F2 H2 u g2 r2 => ?_
    refine (goodE hκ hX W c (and_r hx)).view g2.fh ((n.mono g1).mono g2) h3 fun F3 H3 o g3 r3 => ?_
    obtain ⟨fa, a, us, rfl, t, r⟩ := rv_asQB g3.fh ((r1.mono g2).mono g3) e1
    obtain ⟨fb, b, ws, rfl, t', r'⟩ := rv_asQB g3.fh (r2.mono g3) e2
    obtain ⟨fc, c, ts, rfl, t2, r2'⟩ := rv_asQB g3.fh r3 e3
    exact ⟨fa, fb, fc, a, b, c, us, ws, ts, rfl, t, t', t2, w _ F3 H3 ((g1.trans g2).trans g3) fun F4 H4 g4 => stp_zipG3 g4.fh (sqB_up g4.hh t) (r.mono g4.ff) (sqB_up g4.hh t') (r'.mono g4.ff) (sqB_up g4.hh t2) (r2'.mono g4.ff)⟩
end
end
end PL

/-! P7x -/
namespace PL
open PySem PySem.Spec PyProof.Rows L2 RZ
/-! ### what raises: the reading follows -/
section
variable {K : PySem.W.Frag} {ρ : Str → List D → Option Rv} {ξ : Str → List D → Option Str} {Ξ : Xt} {κ : Str → Option D} {γ : Str → V}
def GoodX (K : PySem.W.Frag) (ρ : Str → List D → Option Rv) (ξ : Str → List D → Option Str) (Ξ : Xt) (κ : Str → Option D) (γ : Str → V) (W : WX) (x : Ex) : Prop :=
  (∀ {η : Nat → Option V} {H0 F H : Hp} {σ : L2.St} {env : Ev} {c : Str} {Q : VK}, Same F H → Rn K Ξ η H0 F H σ env → xE ρ κ ξ x env = some c → WishX Ξ F H (WE W σ) c → (rd K ρ ξ Ξ γ W x).1 σ H Q) ∧
  (∀ {η : Nat → Option V} {H0 F H : Hp} {σ : L2.St} {env : Ev} {c : Str} {Q : Bool → Hp → Prop}, Same F H → Rn K Ξ η H0 F H σ env → xE ρ κ ξ x env = some c → WishX Ξ F H (WE W σ) c → (rd K ρ ξ Ξ γ W x).2 σ H Q)
def GoodXA (K : PySem.W.Frag) (ρ : Str → List D → Option Rv) (ξ : Str → List D → Option Str) (Ξ : Xt) (κ : Str → Option D) (γ : Str → V) (W : WX) (es : Exs) : Prop :=
  ∀ {η : Nat → Option V} {H0 F H : Hp} {σ : L2.St} {env : Ev} {c : Str} {Q : List V → Hp → Prop}, Same F H → Rn K Ξ η H0 F H σ env → xEs ρ κ ξ es env = some c → WishX Ξ F H (WE W σ) c → rdA K ρ ξ Ξ γ W es σ H Q
def GoodXB (K : PySem.W.Frag) (ρ : Str → List D → Option Rv) (ξ : Str → List D → Option Str) (Ξ : Xt) (κ : Str → Option D) (γ : Str → V) (W : WX) (es : Exs) : Prop := ∀ k : Bool,
  (∀ {η : Nat → Option V} {H0 F H : Hp} {σ : L2.St} {env : Ev} {c : Str} {Q : VK}, Same F H → Rn K Ξ η H0 F H σ env → xB ρ κ ξ k es env = some c → WishX Ξ F H (WE W σ) c → (rdB K ρ ξ Ξ γ W k es).1 σ H Q) ∧
  (∀ {η : Nat → Option V} {H0 F H : Hp} {σ : L2.St} {env : Ev} {c : Str} {Q : Bool → Hp → Prop}, Same F H → Rn K Ξ η H0 F H σ env → xB ρ κ ξ k es env = some c → WishX Ξ F H (WE W σ) c → (rdB K ρ ξ Ξ γ W k es).2 σ H Q)
theorem GoodX.mk {W : WX} {x : Ex} {t : TE} (e : rd K ρ ξ Ξ γ W x = PL.mk t)
    (h : ∀ {η : Nat → Option V} {H0 F H : Hp} {σ : L2.St} {env : Ev} {c : Str} {Q : VK}, Same F H → Rn K Ξ η H0 F H σ env → xE ρ κ ξ x env = some c → WishX Ξ F H (WE W σ) c → t σ H Q) : GoodX K ρ ξ Ξ κ γ W x := by
  refine ⟨fun s n q w => ?_, fun s n q w => ?_⟩
  · rw [e]; exact h s n q w
  · rw [e]; exact h s n q w
theorem WishX.mono {F H F' H' : Hp} {E : XK} {c : Str} (g : Gr F H F' H') (w : WishX Ξ F H E c) : WishX Ξ F' H' E c := fun hc F2 H2 g2 => w hc F2 H2 (g.trans g2)
theorem thE {α : Type} {x k : Option Str} {v : Option α} {c : Str} (h : thX x v k = some c) : x = some c ∨ ∃ a, v = some a ∧ k = some c := by
  unfold thX at h
  cases x with
  | some d => cases h; exact .inl rfl
  | none =>
    cases v with
    | none => cases h
    | some a => exact .inr ⟨a, rfl, h⟩
mutual
theorem goodXE (hκ : KOk K κ γ) (hX : XtOk K Ξ) : ∀ (W : WX) (x : Ex), okE Ξ.xts x = true → GoodX K ρ ξ Ξ κ γ W x
  | W, .bin o a b, hx => GoodX.mk (by simp only [rd]; rfl) fun s n h w => by
    simp only [okE] at hx
    simp only [xE] at h
    rcases thE h with h | ⟨d, h1, h⟩
    · exact (goodXE hκ hX W a (and_l hx)).1 s n h w
    · exact (goodE hκ hX W a (and_l hx)).view s n h1 fun F1 H1 x g1 r1 => (goodXE hκ hX W b (and_r hx)).1 g1.fh (n.mono g1) h (w.mono g1)
  | W, .cmp o a b, hx => GoodX.mk (by simp only [rd]; rfl) fun s n h w => by
    simp only [okE] at hx
    simp only [xE] at h
    rcases thE h with h | ⟨d, h1, h⟩
    · exact (goodXE hκ hX W a (and_l hx)).1 s n h w
    · exact (goodE hκ hX W a (and_l hx)).view s n h1 fun F1 H1 x g1 r1 => (goodXE hκ hX W b (and_r hx)).1 g1.fh (n.mono g1) h (w.mono g1)
  | W, .idx a b, hx => GoodX.mk (by simp only [rd]; rfl) fun s n h w => by
    simp only [okE] at hx
    simp only [xE] at h
    rcases thE h with h | ⟨d, h1, h⟩
    · exact (goodXE hκ hX W a (and_l hx)).1 s n h w
    · exact (goodE hκ hX W a (and_l hx)).view s n h1 fun F1 H1 x g1 r1 => (goodXE hκ hX W b (and_r hx)).1 g1.fh (n.mono g1) h (w.mono g1)
  | W, .notE a, hx => by
    simp only [okE] at hx
    refine ⟨fun s n h w => ?_, fun s n h w => ?_⟩
    · simp only [xE] at h
      simp only [rd]
      exact (goodXE hκ hX W a hx).1 s n h w
    · simp only [xE] at h
      simp only [rd]
      exact (goodXE hκ hX W a hx).2 s n h w
  | W, .bool k es, hx => by
    simp only [okE] at hx
    have ih := goodXB hκ hX W es hx k
    refine ⟨fun s n h w => ?_, fun s n h w => ?_⟩
    · simp only [xE] at h
      simp only [rd]
      exact ih.1 s n h w
    · simp only [xE] at h
      simp only [rd]
      exact ih.2 s n h w
  | W, .tup es, hx => GoodX.mk (by simp only [rd]; rfl) fun s n h w => by
    simp only [okE] at hx
    simp only [xE] at h
    exact goodXA hκ hX W es hx s n h w
  | W, .lst es, hx => GoodX.mk (by simp only [rd]; rfl) fun s n h w => by
    simp only [okE] at hx
    simp only [xE] at h
    exact goodXA hκ hX W es hx s n h w
  | W, .call f es, hx => GoodX.mk (by simp only [rd]; rfl) fun s n h w => by
    simp only [okE] at hx
    simp only [xE] at h
    rcases thE h with h | ⟨ds, h1, h⟩
    · exact goodXA hκ hX W es hx s n h w
    · rw [h1] at h
      exact (goodA hκ hX W es hx).1 s n h1 fun F1 H1 vs g1 r1 => ⟨F1, ds, g1.fh, r1, .inr ⟨_, h, w.mono g1⟩⟩
  | W, .slot _, _ => ⟨fun s n h w => by simp [xE] at h, fun s n h w => by simp [xE] at h⟩
  | W, .cst _, _ => ⟨fun s n h w => by simp [xE] at h, fun s n h w => by simp [xE] at h⟩
  | W, .glb _, _ => ⟨fun s n h w => by simp [xE] at h, fun s n h w => by simp [xE] at h⟩
  | W, .neg _, _ => ⟨fun s n h w => by simp [xE] at h, fun s n h w => by simp [xE] at h⟩
  | W, .chain _ _ _ _ _, _ => ⟨fun s n h w => by simp [xE] at h, fun s n h w => by simp [xE] at h⟩
  | W, .ife _ _ _, _ => ⟨fun s n h w => by simp [xE] at h, fun s n h w => by simp [xE] at h⟩
  | W, .sl _ _ _, _ => ⟨fun s n h w => by simp [xE] at h, fun s n h w => by simp [xE] at h⟩
  | W, .bi _ _, _ => ⟨fun s n h w => by simp [xE] at h, fun s n h w => by simp [xE] at h⟩
  | W, .isi _ _, _ => ⟨fun s n h w => by simp [xE] at h, fun s n h w => by simp [xE] at h⟩
  | W, .rev _, _ => ⟨fun s n h w => by simp [xE] at h, fun s n h w => by simp [xE] at h⟩
  | W, .chain3 _ _ _ _ _ _ _, _ => ⟨fun s n h w => by simp [xE] at h, fun s n h w => by simp [xE] at h⟩
  | W, .lens _, _ => ⟨fun s n h w => by simp [xE] at h, fun s n h w => by simp [xE] at h⟩
  | W, .lidx _ _, _ => ⟨fun s n h w => by simp [xE] at h, fun s n h w => by simp [xE] at h⟩
  | W, .isx _ _, _ => ⟨fun s n h w => by simp [xE] at h, fun s n h w => by simp [xE] at h⟩
  | W, .comp _ _ _ _ _, _ => ⟨fun s n h w => by simp [xE] at h, fun s n h w => by simp [xE] at h⟩
theorem goodXA (hκ : KOk K κ γ) (hX : XtOk K Ξ) : ∀ (W : WX) (es : Exs), okA Ξ.xts es = true → GoodXA K ρ ξ Ξ κ γ W es
  | W, .nil, _ => fun s n h w => by simp [xEs] at h
  | W, .cons e es, hx => fun s n h w => by
    simp only [okA] at hx
    simp only [xEs] at h
    simp only [rdA]
    rcases thE h with h | ⟨d, h1, h⟩
    · exact (goodXE hκ hX W e (and_l hx)).1 s n h w
    · exact (goodE hκ hX W e (and_l hx)).val s n h1 fun F1 H1 v g1 r1 => goodXA hκ hX W es (and_r hx) g1.fh (n.mono g1) h (w.mono g1)
theorem goodXB (hκ : KOk K κ γ) (hX : XtOk K Ξ) : ∀ (W : WX) (es : Exs), okB Ξ.xts es = true → GoodXB K ρ ξ Ξ κ γ W es
  | W, .nil, hx => by simp [okB] at hx
  | W, .cons e .nil, hx => fun k => by
    simp only [okB] at hx
    have key : ∀ {env : Ev} {c : Str}, xB ρ κ ξ k (.cons e .nil) env = some c → xE ρ κ ξ e env = some c := fun {env c} h => by
      simp only [xB] at h
      split at h
      · rename_i d q; cases h; exact q
      · split at h
        · split at h <;> cases h
        · cases h
    refine ⟨fun s n h w => ?_, fun s n h w => ?_⟩
    · simp only [rdB]
      exact (goodXE hκ hX W e hx).1 s n (key h) w
    · simp only [rdB]
      exact (goodXE hκ hX W e hx).2 s n (key h) w
  | W, .cons e (.cons e2 es), hx => fun k => by
    simp only [okB] at hx
    have ih := goodXB hκ hX W (.cons e2 es) (and_r hx) k
    have ie := goodXE hκ hX W e (and_l hx)
    have iv := goodE hκ hX W e (and_l hx) (ρ := ρ) (ξ := ξ)
    have key : ∀ {env : Ev} {c : Str}, xB ρ κ ξ k (.cons e (.cons e2 es)) env = some c → xE ρ κ ξ e env = some c ∨ (toB (evR ρ κ e env) = some k ∧ xB ρ κ ξ k (.cons e2 es) env = some c) := fun {env c} h => by
      rw [xB] at h
      split at h
      · rename_i d q; cases h; exact .inl q
      · split at h
        · rename_i b q
          split at h
          · rename_i hb; subst hb; exact .inr ⟨q, h⟩
          · cases h
        · cases h
    refine ⟨fun s n h w => ?_, fun s n h w => ?_⟩
    · rcases key h with h0 | ⟨h1, h⟩
      · cases k with
        | true => simp only [rdB]; exact ie.1 s n h0 w
        | false => simp only [rdB]; exact ie.1 s n h0 w
      · cases k with
        | true =>
          simp only [rdB]
          refine iv.1 s n (toB_is h1) fun F1 H1 v g1 r1 => ?_
          have r' : v = .bl true := by simpa only [RR, R] using r1
          exact ⟨true, r', ih.1 g1.fh (n.mono g1) h (w.mono g1)⟩
        | false =>
          simp only [rdB]
          refine iv.1 s n (toB_is h1) fun F1 H1 v g1 r1 => ?_
          have r' : v = .bl false := by simpa only [RR, R] using r1
          exact ⟨false, r', ih.1 g1.fh (n.mono g1) h (w.mono g1)⟩
    · rcases key h with h0 | ⟨h1, h⟩
      · cases k with
        | true => simp only [rdB]; exact ie.2 s n h0 w
        | false => simp only [rdB]; exact ie.2 s n h0 w
      · cases k with
        | true =>
          simp only [rdB]
          exact iv.2 s n h1 fun F1 H1 g1 => ih.2 g1.fh (n.mono g1) h (w.mono g1)
        | false =>
          simp only [rdB]
          exact iv.2 s n h1 fun F1 H1 g1 => ih.2 g1.fh (n.mono g1) h (w.mono g1)
end
end
end PL

/-! P8 -/
namespace PL
open PySem PySem.Spec PyProof.Rows L2 RZ

/-! ### the text is the small syntax -/
def notStar : Expr → Bool
  | .Starred _ _ => false
  | _ => true
def notSet : Expr → Bool
  | .Set _ _ _ => false
  | _ => true
def notSlice : Expr → Bool
  | .Slice _ _ _ _ => false
  | _ => true
def condOf : List Expr → Option Expr
  | [] => none
  | [x] => some x
  | _ => some (.Starred (.Name "" ⟨0, 0, 0, 0⟩) ⟨0, 0, 0, 0⟩)
theorem star_cons {e : Expr} (h : notStar e = true) (es : List Expr) (env : Env) : starEach (e :: es) env = (false, eval e env) :: starEach es env := by
  cases e <;> first | rfl | cases h
theorem unmarked {e : Expr} (h : notSet e = true) (op : CmpOp) : behindInMarks op e = false := by
  cases e <;> first | rfl | cases h
theorem unfolded {e : Expr} (h : notSet e = true) (env : Env) (x : Value) : foldedSetIterable e env x = pure x := by
  cases e <;> first | rfl | cases h
theorem plainIx {e : Expr} (h : notSlice e = true) : PlainIx e := by
  intro o i
  cases e <;> first | rfl | cases h
def glob (sc : Scope) (x : Str) : Bool := decide (sc.names.lookup x = some .globalImplicit)
def visB (sc : Scope) (x : Str) : Bool := decide (sc.names.lookup x = some .local) || decide (sc.names.lookup x = some .cell) || decide (sc.names.lookup x = some .free)
def locB (sc : Scope) (x : Str) : Bool := decide (sc.names.lookup x = some .local) || decide (sc.names.lookup x = some .cell)
def nameOk (x : Str) : Bool := decide (x ≠ "__debug__") && decide (x ≠ "__classdict__") && decide (x ≠ "__name__")
def chkC : D → Const → Bool
  | .non, .none => true
  | .bl a, .bool b => decide (a = b)
  | .int a, .int b => decide (a = b)
  | .str a, .str b => decide (a = b)
  | _, _ => false
/-- the defs with their parameters; the built-in names; the written things -/
structure Tab where
  fns : List (Str × List Str)
  bns : List Str
  gls : List Str
  xcs : List Str := []
  xts : List Str := []
section
variable (Γ : Tab) (N : List Str)
/-- a target; raw: the scope as written -/
def chkN (sc raw : Scope) (i : Nat) : Expr → Bool
  | .Name x _ => decide (N[i]? = some x) && (decide (sc.names.lookup x = some .local) || (decide (sc.names.lookup x = some .cell) && decide (raw.names.lookup x = some .cell)))
  | _ => false
def chkNs (sc raw : Scope) : List Nat → List Expr → Bool
  | [], [] => true
  | i :: is, e :: es => chkN N sc raw i e && chkNs sc raw is es
  | _, _ => false
def chkG (sc raw : Scope) : Tg → Expr → Bool
  | .nm i, e => chkN N sc raw i e
  | .tup is, .Tuple es _ _ => chkNs N sc raw is es
  | _, _ => false
def slotIs (sc : Scope) (i : Nat) : Expr → Bool
  | .Name x _ => decide (N[i]? = some x) && visB sc x && nameOk x
  | _ => false
def isTuple : Expr → Bool
  | .Tuple _ _ _ => true
  | _ => false
def callB (sc : Scope) (nm : Str) : Expr → Option (List Expr)
  | .Call (.Name x _) es [] _ => if x = nm ∧ glob sc x = true ∧ nameOk x = true ∧ Γ.bns.contains x = true then some es else none
  | _ => none
/-- the classes that isinstance is asked for -/
def nameIs (sc : Scope) (t : Str) : Expr → Bool
  | .Name y _ => decide (t = y) && glob sc y && nameOk y
  | _ => false
def namesAre (sc : Scope) : List Str → List Expr → Bool
  | [], [] => true
  | t :: ts, e :: es => nameIs sc t e && namesAre sc ts es
  | _, _ => false
def chkTs (sc : Scope) : List Str → Expr → Bool
  | [t], e => nameIs sc t e
  | t :: u :: ts, .Tuple es _ _ => namesAre sc (t :: u :: ts) es
  | _, _ => false
def revOf : Expr → Option Expr
  | .Subscript l (.Slice none none (some (.UnaryOp .USub (.Constant (.int 1) _ _) _)) _) _ => some l
  | _ => none
mutual
def chkE (sc raw : Scope) : Ex → Expr → Bool
  | .slot i, .Name x _ => decide (N[i]? = some x) && visB sc x && nameOk x
  | .cst d, .Constant c _ _ => chkC d c
  | .glb x, .Name y _ => decide (x = y) && glob sc y && nameOk y && Γ.gls.contains y
  | .bin o a b, .BinOp l op r _ => decide (op = bopP o) && chkE sc raw a l && chkE sc raw b r
  | .neg a, .UnaryOp op l _ => decide (op = .USub) && chkE sc raw a l
  | .notE a, .UnaryOp op l _ => decide (op = .Not) && chkE sc raw a l
  | .cmp o a b, .Compare l [op] [r] _ => decide (op = copP o) && chkE sc raw a l && chkE sc raw b r && notSet r
  | .chain o o' a b c, .Compare l [op, op'] [m, r] _ => decide (op = copP o) && decide (op' = copP o') && chkE sc raw a l && chkE sc raw b m && chkE sc raw c r && notSet r
  | .chain3 o o2 o3 a b c d, .Compare l [op, op2, op3] [m, r, q] _ => decide (op = copP o) && decide (op2 = copP o2) && decide (op3 = copP o3) && chkE sc raw a l && chkE sc raw b m && chkE sc raw c r && chkE sc raw d q && notSet q
  | .lidx i e, .Call (.Attribute (.Name x xp) m ap) [v] [] cp => decide (m = "index") && slotIs N sc i (.Name x xp) && chkE sc raw e v && notStar v && (ap.endLine == cp.line)
  | .lens x, .Call (.Name y _) [.Call (.Name z _) [v] [] _] [] _ => decide (y = "len") && decide (z = "set") && glob sc "len" && glob sc "set" && Γ.bns.contains "len" && Γ.bns.contains "set" && chkE sc raw x v && notStar v
  | .bool k es, .BoolOp op vs _ => decide (op = if k = true then .And else .Or) && chkB sc raw es vs
  | .ife c a b, .IfExp t x y _ => chkE sc raw c t && chkE sc raw a x && chkE sc raw b y
  | .tup es, .Tuple vs _ _ => chkA sc raw es vs
  | .lst es, .List vs _ => chkA sc raw es vs
  | .idx a b, .Subscript l r _ => chkE sc raw a l && chkE sc raw b r && notSlice r
  | .sl a lo hi, .Subscript l (.Slice x y none _) _ => chkE sc raw a l && chkO sc raw lo x && chkO sc raw hi y
  | .call f es, .Call (.Name x _) vs [] _ => decide (f = x) && glob sc x && nameOk x && (Γ.fns.map (·.1)).contains x && chkA sc raw es vs && !vs.isEmpty
  | .bi f es, .Call (.Name x _) vs [] _ => decide (biN f = x) && glob sc x && Γ.bns.contains x && chkA sc raw es vs && !vs.isEmpty
  | .rev a, e => (match revOf e with | some l => chkE sc raw a l | none => false)
  | .isx i ts, .Call (.Name x _) [l, t] [] _ => decide (x = "isinstance") && glob sc x && Γ.bns.contains x && slotIs N sc i l && chkTs sc ts t && ts.all (fun t => Γ.xts.contains t)
  | .isi a T, .Call (.Name x _) [l, .Name y _] [] _ => decide (x = "isinstance") && decide (y = Str.ofString T) && glob sc x && glob sc y && Γ.bns.contains x && Γ.bns.contains y && tyOk T && chkE sc raw a l && notStar l
  | .comp own elt tg it c, .ListComp e [⟨tgE, iter, ifs, as⟩] scope _ => decide (as = 0) && chkI sc raw it iter tgE && blkC N sc scope own && chkG N (relS scope sc) scope tg tgE && chkE (relS scope sc) scope elt e &&
      chkO (relS scope sc) scope c (condOf ifs) && notSet iter
  | _, _ => false
def chkA (sc raw : Scope) : Exs → List Expr → Bool
  | .nil, [] => true
  | .cons x xs, e :: es => notStar e && chkE sc raw x e && chkA sc raw xs es
  | _, _ => false
def chkB (sc raw : Scope) : Exs → List Expr → Bool
  | .cons x .nil, [e] => chkE sc raw x e
  | .cons x (.cons y ys), e :: e2 :: es => chkE sc raw x e && chkB sc raw (.cons y ys) (e2 :: es)
  | _, _ => false
def chkO (sc raw : Scope) : Exo → Option Expr → Bool
  | .no, none => true
  | .yes x, some e => chkE sc raw x e
  | _, _ => false
def chkI (sc raw : Scope) : Itx → Expr → Expr → Bool
  | .sql x, e, _ => chkE sc raw x e
  | .sqt x, e, _ => chkE sc raw x e
  | .rng1 a, e, _ => match callB Γ sc "range" e with | some [x] => notStar x && chkE sc raw a x | _ => false
  | .rng2 a b, e, _ => match callB Γ sc "range" e with | some [x, y] => notStar x && notStar y && chkE sc raw a x && chkE sc raw b y | _ => false
  | .zip a b, e, t => isTuple t && (match callB Γ sc "zip" e with | some [x, y] => notStar x && notStar y && chkE sc raw a x && chkE sc raw b y | _ => false)
  | .enum a, e, t => isTuple t && (match callB Γ sc "enumerate" e with | some [x] => notStar x && chkE sc raw a x | _ => false)
  | .zip3 a b c, e, t => isTuple t && (match callB Γ sc "zip" e with | some [x, y, z] => notStar x && notStar y && notStar z && chkE sc raw a x && chkE sc raw b y && chkE sc raw c z | _ => false)
end
end
end PL

/-! P9 -/
namespace PL
open PySem PySem.Spec PyProof.Rows L2 RZ

/-- what is known of the module -/
structure Gb (P : Program) (w : World) (K : PySem.W.Frag) (mg : Str → Option Value) (base : Heap) (Γ : Tab) (ρ : Str → List D → Option Rv) (ξ : Str → List D → Option Str) (Ξ : Xt) (γ : Str → V) (k : Nat) : Prop where
  fn : ∀ f ps, (f, ps) ∈ Γ.fns → ∃ a fd, mg f = some (.ref a) ∧ PySem.W.keepIn K (.ref a) = true ∧ Binds K fd ps [] ∧ FnOk P w K mg base (L2.CX P w) k a fd ps (spF K ρ ξ Ξ f)
  bn : ∀ x, x ∈ Γ.bns → mg x = none
  gl : ∀ x, x ∈ Γ.gls → ∃ u, mg x = some u ∧ RelV (γ x) u
  xr : ∀ c, c ∈ Γ.xcs → mg c = some (.ref (Ξ.θ c)) ∧ PySem.W.keepIn K (.ref (Ξ.θ c)) = true ∧ PySem.W.excIn K (Ξ.θ c) [.type "ValueError", .type "Exception", .type "BaseException", .type "object"] "ValueError.__new__" = true ∧
    PySem.W.subIn K (.ref (Ξ.θ c)) (.type "BaseException") = some true ∧ PySem.W.typeIn K (.ref (Ξ.θ c)) = some (.type "type")
  xn : ∀ t, t ∈ Γ.xts → (t = "ValueError" ∧ mg t = none) ∨ (t ≠ "ValueError" ∧ mg t = some (.ref (Ξ.θ t)))
  xo : XtOk K Ξ
  xe : Ξ.xcs = Γ.xcs ∧ Ξ.xts = Γ.xts
/-- what stands in every context, an except suite's too -/
structure XokH (Γ : Tab) (Ξ : Xt) (N : List Str) (sc raw : Scope) (X : Cx) : Prop where
  hN : X.N = N
  hsc : X.env.scope = sc
  nd : N.Nodup
  fnl : ∀ x, raw.names.lookup x = some .cell → X.fn x = true
  kind : sc.kind = .function
  bn : ∀ x, x ∈ Γ.bns → X.mg x = none
  xn : ∀ t, t ∈ Γ.xts → (t = "ValueError" ∧ X.mg t = none) ∨ (t ≠ "ValueError" ∧ X.mg t = some (.ref (Ξ.θ t)))
structure Xok (Γ : Tab) (ρ : Str → List D → Option Rv) (ξ : Str → List D → Option Str) (Ξ : Xt) (γ : Str → V) (W : WX) (k : Nat) (N : List Str) (sc raw : Scope) (X : Cx) : Prop where
  hN : X.N = N
  hsc : X.env.scope = sc
  calm : X.calm = true
  tk : Takes X W
  own : PassesOwn (model X.prog X.w) X.A X.env X.xe
  nd : N.Nodup
  fnl : ∀ x, raw.names.lookup x = some .cell → X.fn x = true
  room : Room k X.A
  kind : sc.kind = .function
  gb : Gb X.prog X.w X.K X.mg X.base Γ ρ ξ Ξ γ k
theorem kit_sub {K : PySem.W.Frag} {C T : Addr} {b : Bool} (hd : PySem.W.hasDictIn K T = true) (ht : PySem.W.typeIn K (.ref T) = some (.type "type")) (hs : PySem.W.subIn K (.ref C) (.ref C) = some true) (h : PySem.W.subIn K (.ref C) (.ref T) = some b) :
    PySem.W.kitOne K (.ref C) (.ref T) = some b := by
  obtain ⟨cd, hc, _⟩ := PySem.W.any_some hd
  unfold PySem.W.kitOne
  split
  · rename_i e
    have e := beq_iff_eq.mp e
    cases e
    rw [hs] at h
    exact h
  · show (if ((PySem.W.clsIn K T).isSome && PySem.W.typeIn K (.ref T) == some (.type "type")) = true then PySem.W.subIn K (.ref C) (.ref T) else none) = some b
    rw [hc, ht, h]
    rfl
theorem kit_ve {K : PySem.W.Frag} {C : Addr} (h : PySem.W.subIn K (.ref C) (.type "ValueError") = some true) : PySem.W.kitOne K (.ref C) (.type "ValueError") = some true := by
  unfold PySem.W.kitOne
  rw [if_neg (by intro e; cases (beq_iff_eq.mp e))]
  show (if PySem.W.kitMeta "ValueError" = true then PySem.W.subIn K (.ref C) (.type "ValueError") else none) = some true
  rw [if_pos (by decide +kernel), h]
section
variable {Γ : Tab} {ρ : Str → List D → Option Rv} {ξ : Str → List D → Option Str} {Ξ : Xt} {γ : Str → V} {W : WX} {k : Nat} {N : List Str} {sc raw : Scope} {X : Cx}
theorem Xok.hu (x : Xok Γ ρ ξ Ξ γ W k N sc raw X) : X.A.units + 65 < cLine := by have := x.room.un; omega
theorem Xok.toH (x : Xok Γ ρ ξ Ξ γ W k N sc raw X) : XokH Γ Ξ N sc raw X := ⟨x.hN, x.hsc, x.nd, x.fnl, x.kind, x.gb.bn, x.gb.xn⟩
theorem XokH.gl (x : XokH Γ Ξ N sc raw X) {n : Str} (h : glob sc n = true) : Gl X n := by
  unfold glob at h
  have h1 := of_decide_eq_true h
  rw [← x.hsc] at h1
  exact h1
theorem Xok.gl (x : Xok Γ ρ ξ Ξ γ W k N sc raw X) {n : Str} (h : glob sc n = true) : Gl X n := by
  unfold glob at h
  have h1 := of_decide_eq_true h
  rw [← x.hsc] at h1
  exact h1
theorem mem_of {l : List Str} {a : Str} (h : l.contains a = true) : a ∈ l := by simpa using h
theorem Xok.bn (x : Xok Γ ρ ξ Ξ γ W k N sc raw X) {n : Str} (h : Γ.bns.contains n = true) : X.mg n = none := x.gb.bn _ (mem_of h)
theorem nameOk_d {n : Str} (h : nameOk n = true) : (n == ("__debug__" : Str)) = false ∧ (n == ("__classdict__" : Str)) = false ∧ n ≠ "__name__" := by
  unfold nameOk at h
  simp only [Bool.and_eq_true, decide_eq_true_eq] at h
  exact ⟨beq_eq_false_iff_ne.mpr h.1.1, beq_eq_false_iff_ne.mpr h.1.2, h.2⟩
theorem Xok.blk (x : Xok Γ ρ ξ Ξ γ W k N sc raw X) (s : Shared) (H : Hp) (scope : Scope) (C : Addr) (cl : List (Str × Addr)) (fp : List Addr) (hk : scope.kind = .function) :
    Xok Γ ρ ξ Ξ γ WX0 k N (relS scope sc) scope (X.blk s H scope (compEnvC scope cl C X.env) fp) where
  hN := x.hN
  hsc := by rw [← x.hsc]; rfl
  calm := x.calm
  tk := takes0
  own := PassesOwn.never
  nd := x.nd
  fnl n h := by show (scope.names.lookup n == some NameKind.cell) = true; rw [h]; rfl
  room := x.room
  kind := hk
  gb := x.gb
theorem vis_of {n : Str} (h : visB sc n = true) : Vis sc n := by
  unfold visB at h
  simp only [Bool.or_eq_true, decide_eq_true_eq] at h
  rcases h with (h | h) | h
  · exact .inl h
  · exact .inr (.inl h)
  · exact .inr (.inr h)
theorem loc_of {n : Str} (h : locB sc n = true) : Loc sc n := by
  unfold locB at h
  simp only [Bool.or_eq_true, decide_eq_true_eq] at h
  exact h
theorem pgN (x : Xok Γ ρ ξ Ξ γ W k N sc raw X) {i : Nat} {e : Expr} (h : chkN N sc raw i e = true) : PG X e (gName i) := by
  cases e <;> simp only [chkN, Bool.and_eq_true, Bool.or_eq_true, decide_eq_true_eq, reduceCtorEq] at h
  obtain ⟨h1, h2⟩ := h
  have nd := x.nd
  rw [← x.hN] at h1 nd
  rw [← x.hsc] at h2
  rcases h2 with h2 | ⟨h2, h3⟩
  · exact pg_name nd h1 (.inl h2) (.inr h2)
  · exact pg_name nd h1 (.inr h2) (.inl (x.fnl _ h3))
theorem chkN_name {i : Nat} {e : Expr} (h : chkN N sc raw i e = true) : ∃ x p, e = .Name x p := by
  cases e <;> simp only [chkN, reduceCtorEq] at h
  exact ⟨_, _, rfl⟩
theorem pgNs (x : Xok Γ ρ ξ Ξ γ W k N sc raw X) : ∀ {is : List Nat} {es : List Expr}, chkNs N sc raw is es = true → PGs X es (gL is)
  | [], [], _ => pgs_nil
  | i :: is, e :: es, h => by
    simp only [chkNs] at h
    obtain ⟨y, p, rfl⟩ := chkN_name (and_l h)
    exact pgs_cons (pgN x (and_l h)) (pgNs x (and_r h))
  | [], _ :: _, h => by simp [chkNs] at h
  | _ :: _, [], h => by simp [chkNs] at h
theorem chkNs_each : ∀ {is : List Nat} {es : List Expr} {env : Env}, chkNs N sc raw is es = true → (assignEach es env).length = is.length ∧ (assignEach es env).findIdx? (·.1) = none
  | [], [], _, _ => ⟨rfl, rfl⟩
  | i :: is, e :: es, env, h => by
    simp only [chkNs] at h
    obtain ⟨y, p, rfl⟩ := chkN_name (and_l h)
    obtain ⟨h1, h2⟩ := chkNs_each (env := env) (and_r h)
    refine ⟨?_, ?_⟩
    · show (assignEach es env).length + 1 = is.length + 1
      rw [h1]
    · show ((false, assign (.Name y p) env) :: assignEach es env).findIdx? (·.1) = none
      rw [List.findIdx?_cons, h2]
      rfl
  | [], _ :: _, _, h => by simp [chkNs] at h
  | _ :: _, [], _, h => by simp [chkNs] at h
theorem pgG (x : Xok Γ ρ ξ Ξ γ W k N sc raw X) {tg : Tg} {e : Expr} (h : chkG N sc raw tg e = true) : PG X e (rdG X.K tg) := by
  cases tg with
  | nm i => exact pgN x h
  | tup is =>
    cases e <;> simp only [chkG, reduceCtorEq] at h
    obtain ⟨h1, h2⟩ := chkNs_each (env := X.env) h
    exact pg_seq x.calm (pgNs x h) h1 h2
theorem callB_is {nm : Str} {e : Expr} {es : List Expr} (h : callB Γ sc nm e = some es) : ∃ p q, e = .Call (.Name nm p) es [] q ∧ glob sc nm = true ∧ nameOk nm = true ∧ Γ.bns.contains nm = true := by
  unfold callB at h
  split at h
  · split at h
    · rename_i hh
      cases h
      obtain ⟨rfl, h1, h2, h3⟩ := hh
      exact ⟨_, _, rfl, h1, h2, h3⟩
    · cases h
  · cases h
theorem star_any : ∀ {es : List Expr} {pos : Pos} {env : Env}, (∀ e ∈ es, notStar e = true) → (backTo pos (starEach es env)).any (·.1) = false
  | [], _, _, _ => rfl
  | e :: es, pos, env, h => by
    rw [star_cons (h e (List.mem_cons_self ..))]
    have ih := star_any (pos := pos) (env := env) fun e he => h e (List.mem_cons_of_mem _ he)
    unfold backTo at ih ⊢
    rw [List.map_cons, List.any_cons, ih]
    rfl
theorem chkA_star : ∀ {xs : Exs} {es : List Expr}, chkA Γ N sc raw xs es = true → ∀ e ∈ es, notStar e = true
  | .nil, [], _ => fun e he => by cases he
  | .cons x xs, e :: es, h => fun e' he => by
    rw [chkA] at h
    rcases List.mem_cons.mp he with rfl | he
    · exact and_l (and_l h)
    · exact chkA_star (and_r h) e' he
  | .nil, _ :: _, h => by simp [chkA] at h
  | .cons _ _, [], h => by simp [chkA] at h
end
end PL

/-! P10 -/
namespace PL
open PySem PySem.Spec PyProof.Rows L2 RZ
section
variable {Γ : Tab} {ρ : Str → List D → Option Rv} {ξ : Str → List D → Option Str} {Ξ : Xt} {γ : Str → V} {k : Nat} {N : List Str}
theorem pt_ifExp {X : Cx} {c a b : Expr} {tc ta tb : TT} {pos : Pos} (hc : PT X c tc) (ha : PT X a ta) (hb : PT X b tb) : PT X (.IfExp c a b pos) (tIfT tc ta tb) := by
  refine ⟨fun pins s σ H Q I h => ?_⟩
  show wpAny (model X.prog X.w) X.A (do if ← isTrue c X.env (eval c X.env) then isTrue a X.env (eval a X.env) else isTrue b X.env (eval b X.env)) (TP X pins σ Q) X.xe s
  refine wpAny_bind (thn (hc.run pins s σ H _ I h) fun b s1 ⟨H1, I1, q⟩ => ?_)
  cases b with
  | true => exact ha.run pins s1 σ H1 _ I1 q
  | false => exact hb.run pins s1 σ H1 _ I1 q
theorem pt_mk {X : Cx} {e : Expr} {t : TE} (h : PE X e t) (he : ∀ whole, isTrue e X.env whole = (do let v ← whole; standAt e.pos; holding [v] (truthy v)) := by intro _; rfl) : PE X e (mk t).1 ∧ PT X e (mk t).2 := ⟨h, pt_val h he⟩
theorem pi_seq {X : Cx} {tg l : Expr} {tl : TE} (hl : PE X l tl) : PI X tg l (iSeq X.K tl) := by
  refine ⟨fun pins s σ H R I h => ?_⟩
  refine thn (hl.run pins s σ H _ I h) fun v s1 ⟨x, H1, I1, r1, q1⟩ => ?_
  obtain ⟨a, e, q1⟩ := q1
  subst e
  cases r1
  rcases q1 with ⟨⟨xs, hq⟩, q⟩ | ⟨⟨xs, hq⟩, q⟩
  · obtain ⟨its, rv, p, hz⟩ := I1.list hq
    refine wpAny_pyIter_list p.isList ?_
    refine ⟨s1.heap.objs.size, [s1.heap.objs.size], _, _, H1, rfl, I1.kept (t' := s1.toks) fun b o e => Heap.get?_push_of_some _ e, turn_list a _, ⟨_, Heap.get?_push_size _ rfl, rfl, rfl⟩, fun b hb => ?_, q⟩
    have e : b = s1.heap.objs.size := by simpa using hb
    subst e
    exact I1.fpOk (Nat.le_refl _) (I1.hok.fresh (Nat.le_refl _))
  · obtain ⟨its, rv, p, hz⟩ := I1.tuple hq
    refine wpAny_pyIter_tuple (show s1.heap.IsTuple a its.toArray from p) ?_
    refine ⟨s1.heap.objs.size, [s1.heap.objs.size], _, _, H1, rfl, I1.kept (t' := s1.toks) fun b o e => Heap.get?_push_of_some _ e, turn_tuple a _, ⟨_, Heap.get?_push_size _ rfl, rfl, rfl⟩, fun b hb => ?_, q⟩
    have e : b = s1.heap.objs.size := by simpa using hb
    subst e
    exact I1.fpOk (Nat.le_refl _) (I1.hok.fresh (Nat.le_refl _))
theorem revOf_is {e l : Expr} (h : revOf e = some l) : ∃ k p1 p2 p3 pos, e = .Subscript l (.Slice none none (some (.UnaryOp .USub (.Constant (.int 1) k p1) p2)) p3) pos := by
  unfold revOf at h
  split at h
  · cases h; exact ⟨_, _, _, _, _, rfl⟩
  · cases h
theorem peT {sc raw : Scope} {X : Cx} {t : Str} {e : Expr} (x : XokH Γ Ξ N sc raw X) (h : nameIs sc t e = true) (ht : t ∈ Γ.xts) : ∃ q, e = .Name t q ∧ PE X (.Name t q) (tC (tyV Ξ.θ t)) := by
  cases e <;> simp only [nameIs, reduceCtorEq] at h
  rename_i y q
  have e0 := of_decide_eq_true (and_l (and_l h))
  subst e0
  refine ⟨q, rfl, ?_⟩
  have hg := x.gl (and_r (and_l h))
  have hn := nameOk_d (and_r h)
  rcases x.xn _ ht with ⟨rfl, hm⟩ | ⟨ne, hm⟩
  · have e1 : tyV Ξ.θ "ValueError" = .ty "ValueError" := if_pos rfl
    rw [e1]
    exact pe_bltn (u := .type "ValueError") hg hm (by decide +kernel) rfl
  · have e1 : tyV Ξ.θ t = .ref (Ξ.θ t) := if_neg ne
    rw [e1]
    exact pe_glob hg hm rfl hn.1
theorem peTs {sc raw : Scope} {X : Cx} (x : XokH Γ Ξ N sc raw X) : ∀ (ts : List Str) {es : List Expr}, namesAre sc ts es = true → (∀ t ∈ ts, t ∈ Γ.xts) → PA X es (rdTs Ξ.θ ts) ∧ True
  | [], [], _, _ => ⟨pa_nil, trivial⟩
  | t :: ts, e :: es, h, ht => by
    simp only [namesAre] at h
    obtain ⟨q, rfl, pt⟩ := peT x (and_l h) (ht t (by simp))
    exact ⟨pa_cons pt (peTs x ts (and_r h) fun u hu => ht u (List.mem_cons_of_mem _ hu)).1, trivial⟩
  | [], _ :: _, h, _ => by simp [namesAre] at h
  | _ :: _, [], h, _ => by simp [namesAre] at h
theorem peIsx {sc raw : Scope} {X : Cx} {i : Nat} {ts : List Str} {l t : Expr} {p pos : Pos} (x : XokH Γ Ξ N sc raw X) (h3 : ("isinstance" : Str) ∈ Γ.bns) (h2 : glob sc "isinstance" = true) (h4 : slotIs N sc i l = true) (h5 : chkTs sc ts t = true) (h6 : ∀ t ∈ ts, t ∈ Γ.xts) :
    PE X (.Call (.Name "isinstance" p) [l, t] [] pos) (rdIsx X.K Ξ.θ i ts) := by
  cases l <;> simp only [slotIs, reduceCtorEq] at h4
  rename_i y yp
  have n := nameOk_d (and_r h4)
  have h1 := of_decide_eq_true (and_l (and_l h4))
  have v := vis_of (and_r (and_l h4))
  rw [← x.hN] at h1
  rw [← x.hsc] at v
  have pv : PE X (.Name y yp) (tVar i) := pe_var h1 v n.1 n.2.1
  match ts, h5, h6 with
  | [], h5, _ => simp [chkTs] at h5
  | [t1], h5, h6 =>
    simp only [chkTs] at h5
    obtain ⟨q, rfl, pt⟩ := peT x h5 (h6 t1 (by simp))
    exact pe_callB call_isX1 (x.gl h2) (x.bn _ h3) (by decide +kernel) (pa_cons pv (pa_cons pt pa_nil)) (by decide) (by decide)
  | t1 :: t2 :: r, h5, h6 =>
    cases t <;> simp only [chkTs, reduceCtorEq] at h5
    exact pe_callB call_isXT (x.gl h2) (x.bn _ h3) (by decide +kernel) (pa_cons pv (pa_cons (pe_tup (peTs x (t1 :: t2 :: r) h5 h6).1) pa_nil)) (by decide) (by decide)
mutual
theorem peE : ∀ (x : Ex) {W : WX} {sc raw : Scope} {X : Cx} {e : Expr}, Xok Γ ρ ξ Ξ γ W k N sc raw X → chkE Γ N sc raw x e = true → PE X e (rd X.K ρ ξ Ξ γ W x).1 ∧ PT X e (rd X.K ρ ξ Ξ γ W x).2
  | .slot i, W, sc, raw, X, e, x, h => by
    cases e <;> simp only [chkE, reduceCtorEq] at h
    rw [rd]
    have n := nameOk_d (and_r h)
    have h1 := of_decide_eq_true (and_l (and_l h))
    have v := vis_of (and_r (and_l h))
    rw [← x.hN] at h1
    rw [← x.hsc] at v
    exact pt_mk (pe_var h1 v n.1 n.2.1)
  | .cst d, W, sc, raw, X, e, x, h => by
    cases e <;> simp only [chkE, reduceCtorEq] at h
    rename_i c j pos
    rw [rd]
    cases d <;> cases c <;> simp only [chkC, reduceCtorEq] at h
    · exact pt_mk pe_non
    · have h := of_decide_eq_true h; subst h; exact pt_mk pe_bl
    · have h := of_decide_eq_true h; subst h; exact pt_mk pe_int
    · have h := of_decide_eq_true h; subst h; exact pt_mk pe_str
  | .glb y, W, sc, raw, X, e, x, h => by
    cases e <;> simp only [chkE, reduceCtorEq] at h
    rw [rd]
    have e0 := of_decide_eq_true (and_l (and_l (and_l h)))
    subst e0
    obtain ⟨u, hm, r⟩ := x.gb.gl _ (mem_of (and_r h))
    exact pt_mk (pe_glob (x.gl (and_r (and_l (and_l h)))) hm r (nameOk_d (and_r (and_l h))).1)
  | .bin o a b, W, sc, raw, X, e, x, h => by
    cases e <;> simp only [chkE, reduceCtorEq] at h
    rw [rd]
    have e0 := of_decide_eq_true (and_l (and_l h))
    subst e0
    exact pt_mk (pe_op (opBin o) (peE a x (and_r (and_l h))).1 (peE b x (and_r h)).1)
  | .neg a, W, sc, raw, X, e, x, h => by
    cases e <;> simp only [chkE, reduceCtorEq] at h
    rw [rd]
    have e0 := of_decide_eq_true (and_l h)
    subst e0
    exact pt_mk (pe_un un_neg (peE a x (and_r h)).1)
  | .notE a, W, sc, raw, X, e, x, h => by
    cases e <;> simp only [chkE, reduceCtorEq] at h
    rw [rd]
    have e0 := of_decide_eq_true (and_l h)
    subst e0
    have ih := peE a x (and_r h)
    exact ⟨pe_not ih.1, pt_not ih.2⟩
  | .cmp o a b, W, sc, raw, X, e, x, h => by
    cases e with
    | Compare l ops cs pos =>
      rcases ops with _ | ⟨op, _ | ⟨op2, ops⟩⟩ <;> rcases cs with _ | ⟨r, _ | ⟨r2, cs⟩⟩ <;> try (simp [chkE] at h; done)
      rw [chkE] at h
      rw [rd]
      have e0 := of_decide_eq_true (and_l (and_l (and_l h)))
      subst e0
      have iha := (peE a x (and_r (and_l (and_l h)))).1
      have ihb := (peE b x (and_r (and_l h))).1
      exact ⟨pe_cmpR (opCmp x.hu o) iha ihb (unmarked (and_r h) _), pt_cmpR (opCmp x.hu o) iha ihb (unmarked (and_r h) _)⟩
    | _ => simp [chkE] at h
  | .chain o o' a b c, W, sc, raw, X, e, x, h => by
    cases e with
    | Compare l ops cs pos =>
      rcases ops with _ | ⟨op, _ | ⟨op2, _ | ⟨op3, ops⟩⟩⟩ <;> rcases cs with _ | ⟨m, _ | ⟨r, _ | ⟨r2, cs⟩⟩⟩ <;> try (simp [chkE] at h; done)
      rw [chkE] at h
      rw [rd]
      have e0 := of_decide_eq_true (and_l (and_l (and_l (and_l (and_l h)))))
      have e1 := of_decide_eq_true (and_r (and_l (and_l (and_l (and_l h)))))
      subst e0 e1
      have iha := (peE a x (and_r (and_l (and_l (and_l h))))).1
      have ihb := (peE b x (and_r (and_l (and_l h)))).1
      have ihc := (peE c x (and_r (and_l h))).1
      exact ⟨pe_chain (opCmp x.hu o) (opCmp x.hu o') iha ihb ihc (unmarked (and_r h) _), pt_chain (opCmp x.hu o) (opCmp x.hu o') iha ihb ihc (unmarked (and_r h) _)⟩
    | _ => simp [chkE] at h
  | .chain3 o o2 o3 a b c d, W, sc, raw, X, e, x, h => by
    cases e with
    | Compare l ops cs pos =>
      rcases ops with _ | ⟨op, _ | ⟨op2, _ | ⟨op3, _ | ⟨op4, ops⟩⟩⟩⟩ <;> rcases cs with _ | ⟨m, _ | ⟨r, _ | ⟨q, _ | ⟨q2, cs⟩⟩⟩⟩ <;> try (simp [chkE] at h; done)
      rw [chkE] at h
      rw [rd]
      simp only [Bool.and_eq_true, decide_eq_true_eq] at h
      obtain ⟨⟨⟨⟨⟨⟨⟨h1, h2⟩, h3⟩, h4⟩, h5⟩, h6⟩, h7⟩, h8⟩ := h
      subst h1 h2 h3
      have iha := (peE a x h4).1
      have ihb := (peE b x h5).1
      have ihc := (peE c x h6).1
      have ihd := (peE d x h7).1
      exact ⟨pe_chain3 (opCmp x.hu o) (opCmp x.hu o2) (opCmp x.hu o3) iha ihb ihc ihd (unmarked h8 _), pt_chain3 (opCmp x.hu o) (opCmp x.hu o2) (opCmp x.hu o3) iha ihb ihc ihd (unmarked h8 _)⟩
    | _ => simp [chkE] at h
  | .lidx i e', W, sc, raw, X, e, x, h => by
    unfold chkE at h
    split at h <;> first
      | (rename_i q; cases q; done)
      | (rename_i q _; cases q; done)
      | skip
    · rename_i i' e2 y xp m ap v cp heq
      cases heq
      simp only [Bool.and_eq_true, decide_eq_true_eq] at h
      obtain ⟨⟨⟨⟨h1, h2⟩, h3⟩, h4⟩, h5⟩ := h
      subst h1
      rw [rd]
      simp only [slotIs] at h2
      have n := nameOk_d (and_r h2)
      have e1 := of_decide_eq_true (and_l (and_l h2))
      have vv := vis_of (and_r (and_l h2))
      rw [← x.hN] at e1
      rw [← x.hsc] at vv
      have st1 := star_cons h4
      refine pt_mk (pe_bm PySem.F.plainAttrs_list PySem.F.slot_list_index PySem.F.type_list_index (mt_indexD x.hu) (pe_var e1 vv n.1 n.2.1) (pa_cons (peE _ x h3).1 pa_nil (st1 _ _)) rfl ?_ h5 (st1 _ _) rfl)
      rw [st1]; rfl
    · cases h
  | .lens e', W, sc, raw, X, e, x, h => by
    unfold chkE at h
    split at h <;> first
      | (rename_i q; cases q; done)
      | (rename_i q _; cases q; done)
      | skip
    · rename_i x2 y yp z zp v q1 q2 heq
      cases heq
      simp only [Bool.and_eq_true, decide_eq_true_eq] at h
      obtain ⟨⟨⟨⟨⟨⟨⟨h1, h2⟩, h3⟩, h4⟩, h5⟩, h6⟩, h7⟩, h8⟩ := h
      subst h1 h2
      rw [rd]
      exact pt_mk (pe_lenSetD (x.gl h3) (x.bn h5) (x.gl h4) (x.bn h6) (peE _ x h7).1 x.calm (star_cons h8 _ _))
    · cases h
  | .bool q es, W, sc, raw, X, e, x, h => by
    cases e <;> simp only [chkE, reduceCtorEq] at h
    rw [rd]
    have e0 := of_decide_eq_true (and_l h)
    subst e0
    have ih := peB es x (and_r h) q
    exact ⟨(ih _).1, (ih _).2.pt⟩
  | .ife c a b, W, sc, raw, X, e, x, h => by
    cases e <;> simp only [chkE, reduceCtorEq] at h
    rw [rd]
    have ihc := peE c x (and_l (and_l h))
    have iha := peE a x (and_r (and_l h))
    have ihb := peE b x (and_r h)
    exact ⟨pe_ifExp ihc.2 iha.1 ihb.1, pt_ifExp ihc.2 iha.2 ihb.2⟩
  | .tup es, W, sc, raw, X, e, x, h => by
    cases e <;> simp only [chkE, reduceCtorEq] at h
    rw [rd]
    exact pt_mk (pe_tup (paA es x h))
  | .lst es, W, sc, raw, X, e, x, h => by
    cases e <;> simp only [chkE, reduceCtorEq] at h
    rw [rd]
    exact pt_mk (pe_lst (paA es x h))
  | .idx a b, W, sc, raw, X, e, x, h => by
    cases e <;> simp only [chkE, reduceCtorEq] at h
    rw [rd]
    exact pt_mk (pe_ix ix_seq (peE a x (and_l (and_l h))).1 (peE b x (and_r (and_l h))).1 (plainIx (and_r h)))
  | .sl a lo hi, W, sc, raw, X, e, x, h => by
    cases e with
    | Subscript l r pos =>
      cases r with
      | Slice lo' hi' st p2 =>
        cases st with
        | none =>
          rw [chkE] at h
          rw [rd]
          exact pt_mk (pe_slice (SlR.or sl_list sl_tupA) (peE a x (and_l (and_l h))).1 (poO lo x (and_r (and_l h))).1 (poO hi x (and_r h)).1)
        | some z => simp [chkE] at h
      | _ => simp [chkE] at h
    | _ => simp [chkE] at h
  | .rev a, W, sc, raw, X, e, x, h => by
    rw [chkE] at h
    split at h
    · rename_i l hm
      obtain ⟨k, p1, p2, p3, pos, rfl⟩ := revOf_is hm
      rw [rd]
      exact pt_mk (pe_revL (peE a x h).1)
    · cases h
  | .call f es, W, sc, raw, X, e, x, h => by
    cases e with
    | Call fn vs kws pos =>
      cases fn with
      | Name y p =>
        cases kws with
        | nil =>
          rw [chkE] at h
          rw [rd]
          have e0 := of_decide_eq_true (and_l (and_l (and_l (and_l (and_l h)))))
          subst e0
          have hf : ∃ ps, (f, ps) ∈ Γ.fns := by
            have := mem_of (and_r (and_l (and_l h)))
            rw [List.mem_map] at this
            obtain ⟨⟨g, ps⟩, h1, h2⟩ := this
            exact ⟨ps, by rw [← h2]; exact h1⟩
          obtain ⟨ps, hf⟩ := hf
          obtain ⟨a, fd, hm, hk, hb, F⟩ := x.gb.fn f ps hf
          have hne := and_r h
          replace h := and_l h
          cases es with
          | nil =>
            cases vs with
            | nil => simp at hne
            | cons v vs => simp [chkA] at h
          | cons e1 es =>
            cases vs with
            | nil => simp [chkA] at h
            | cons v vs =>
              have st := chkA_star (and_r h)
              exact pt_mk (pe_callS F x.room (x.gl (and_r (and_l (and_l (and_l h))))) hm hk hb (fun σ => passAt x.tk σ) (paA (.cons e1 es) x (and_r h)) (nameOk_d (and_r (and_l (and_l h)))).1 (star_cons (st v (List.mem_cons_self ..)) _ _) (star_any fun e he => st e (List.mem_cons_of_mem _ he)))
        | cons _ _ => simp [chkE] at h
      | _ => simp [chkE] at h
    | _ => simp [chkE] at h
  | .bi f es, W, sc, raw, X, e, x, h => by
    cases e with
    | Call fn vs kws pos =>
      cases fn with
      | Name y p =>
        cases kws with
        | nil =>
          rw [chkE] at h
          rw [rd]
          have e0 := of_decide_eq_true (and_l (and_l (and_l (and_l h))))
          subst e0
          cases vs with
          | nil => simp at h
          | cons v vs =>
            have ha := and_r (and_l h)
            have st := chkA_star ha
            have hg := x.gl (and_r (and_l (and_l (and_l h))))
            have hm := x.bn (and_r (and_l (and_l h)))
            have s1 := star_cons (st v (List.mem_cons_self ..)) vs X.env
            have s2 := star_any (pos := pos) (env := X.env) fun e he => st e (List.mem_cons_of_mem _ he)
            have pa := paA es x ha
            cases f
            · exact pt_mk (pe_callB (opBi x.calm .len) hg hm PySem.boot_len pa (by decide) (by decide) s1 s2)
            · exact pt_mk (pe_callB (opBi x.calm .abs) hg hm (by decide +kernel) pa (by decide) (by decide) s1 s2)
            · exact pt_mk (pe_callB (opBi x.calm .max) hg hm (by decide +kernel) pa (by decide) (by decide) s1 s2)
            · exact pt_mk (pe_callB (opBi x.calm .min) hg hm (by decide +kernel) pa (by decide) (by decide) s1 s2)
            · exact pt_mk (pe_callB (opBi x.calm .sum) hg hm (by decide +kernel) pa (by decide) (by decide) s1 s2)
            · exact pt_mk (pe_callB (opBi x.calm .all) hg hm (by decide +kernel) pa (by decide) (by decide) s1 s2)
            · exact pt_mk (pe_callB (opBi x.calm .any) hg hm (by decide +kernel) pa (by decide) (by decide) s1 s2)
            · exact pt_mk (pe_callTy (opBi x.calm .list) hg hm (by decide +kernel) pa (by decide) (by decide) s1 s2)
            · exact pt_mk (pe_callTy (opBi x.calm .tuple) hg hm (by decide +kernel) pa (by decide) (by decide) s1 s2)
            · exact pt_mk (pe_callTy (opBi x.calm .int) hg hm (by decide +kernel) pa (by decide) (by decide) s1 s2)
            · exact pt_mk (pe_callB (opBi x.calm .divmod) hg hm (by decide +kernel) pa (by decide) (by decide) s1 s2)
            · exact pt_mk (pe_callB (opBi x.calm .sorted) hg hm (by decide +kernel) pa (by decide) (by decide) s1 s2)
        | cons _ _ => simp [chkE] at h
      | _ => simp [chkE] at h
    | _ => simp [chkE] at h
  | .isx i ts, W, sc, raw, X, e, x, h => by
    have hh : ∃ p l t pos, e = .Call (.Name "isinstance" p) [l, t] [] pos ∧ glob sc "isinstance" = true ∧ Γ.bns.contains "isinstance" = true ∧ slotIs N sc i l = true ∧ chkTs sc ts t = true ∧ (∀ t ∈ ts, t ∈ Γ.xts) := by
      cases e with
      | Call fn vs kws pos =>
        cases fn with
        | Name xn p =>
          cases kws with
          | nil =>
            rcases vs with _ | ⟨l, _ | ⟨c, _ | ⟨c2, cs⟩⟩⟩
            · simp [chkE] at h
            · simp [chkE] at h
            · rw [chkE] at h
              simp only [Bool.and_eq_true, decide_eq_true_eq] at h
              obtain ⟨⟨⟨⟨⟨h1, h2⟩, h3⟩, h4⟩, h5⟩, h6⟩ := h
              subst h1
              exact ⟨_, _, _, _, rfl, h2, h3, h4, h5, fun t ht => by have := List.all_eq_true.mp h6 t ht; simpa using this⟩
            · simp [chkE] at h
          | cons _ _ => simp [chkE] at h
        | _ => simp [chkE] at h
      | _ => simp [chkE] at h
    obtain ⟨p, l, t, pos, rfl, h2, h3, h4, h5, h6⟩ := hh
    rw [rd]
    exact pt_mk (peIsx x.toH (p := p) (pos := pos) (mem_of h3) h2 h4 h5 h6)
  | .isi a T, W, sc, raw, X, e, x, h => by
    have hh : ∃ p l y q pos, e = .Call (.Name "isinstance" p) [l, .Name (Str.ofString T) q] [] pos ∧ glob sc "isinstance" = true ∧ glob sc (Str.ofString T) = true ∧ Γ.bns.contains "isinstance" = true ∧ Γ.bns.contains (Str.ofString T) = true ∧ tyOk T = true ∧ chkE Γ N sc raw a l = true ∧ notStar l = true ∧ y = () := by
      cases e with
      | Call fn vs kws pos =>
        cases fn with
        | Name xn p =>
          cases kws with
          | nil =>
            rcases vs with _ | ⟨l, _ | ⟨c, _ | ⟨c2, cs⟩⟩⟩
            · simp [chkE] at h
            · simp [chkE] at h
            · cases c with
              | Name yn q =>
                rw [chkE] at h
                simp only [Bool.and_eq_true, decide_eq_true_eq] at h
                obtain ⟨⟨⟨⟨⟨⟨⟨⟨h1, h2⟩, h3⟩, h4⟩, h5⟩, h6⟩, h7⟩, h8⟩, h9⟩ := h
                subst h1 h2
                exact ⟨_, _, (), _, _, rfl, h3, h4, h5, h6, h7, h8, h9, rfl⟩
              | _ => simp [chkE] at h
            · simp [chkE] at h
          | cons _ _ => simp [chkE] at h
        | _ => simp [chkE] at h
      | _ => simp [chkE] at h
    obtain ⟨p, l, y, q, pos, rfl, h3, h4, h5, h6, h7, h8, h9, _⟩ := hh
    rw [rd]
    have ih := (peE a x h8).1
    have hty : bootBuiltins (Str.ofString T) = some (.type T) ∧ Str.ofString T ≠ "__name__" ∧ (Str.ofString T == ("__debug__" : Str)) = false := by
      unfold tyOk at h7
      simp only [Bool.or_eq_true, beq_iff_eq] at h7
      rcases h7 with (((rfl | rfl) | rfl) | rfl) | rfl <;> exact ⟨by decide +kernel, by decide, by decide⟩
    have hn : PE X (.Name (Str.ofString T) q) (tC (.ty T)) := pe_bltn (x.gl h4) (x.bn h6) hty.1 rfl hty.2.1 hty.2.2
    exact pt_mk (pe_callB call_isi (x.gl h3) (x.bn h5) (by decide +kernel) (pa_cons ih (pa_cons hn pa_nil) (star_cons h9 _ _)) (by decide) (by decide) (star_cons h9 _ _) rfl)
  | .comp own elt tg it c, W, sc, raw, X, e, x, h => by
    have hh : ∃ e' tgE iter ifs scope pos, e = .ListComp e' [⟨tgE, iter, ifs, 0⟩] scope pos ∧ chkI Γ N sc raw it iter tgE = true ∧ blkC N sc scope own = true ∧ chkG N (relS scope sc) scope tg tgE = true ∧ chkE Γ N (relS scope sc) scope elt e' = true ∧
        chkO Γ N (relS scope sc) scope c (condOf ifs) = true ∧ notSet iter = true := by
      cases e with
      | ListComp e' gs scope pos =>
        rcases gs with _ | ⟨⟨tgE, iter, ifs, as⟩, _ | ⟨g2, gs⟩⟩
        · simp [chkE] at h
        · rw [chkE] at h
          simp only [Bool.and_eq_true, decide_eq_true_eq] at h
          obtain ⟨⟨⟨⟨⟨⟨h0, h1⟩, h2⟩, h3⟩, h4⟩, h5⟩, h6⟩ := h
          subst h0
          exact ⟨_, _, _, _, _, _, rfl, h1, h2, h3, h4, h5, h6⟩
        · simp [chkE] at h
      | _ => simp [chkE] at h
    obtain ⟨e', tgE, iter, ifs, scope, pos, rfl, h1, h2, h3, h4, h5, h6⟩ := hh
    rw [rd]
    have ok := blkOk_by h2
    have ok' : BlkOk X.N X.env.scope scope own := by rw [x.hN, x.hsc]; exact ok
    have nd := x.nd
    rw [← x.hN] at nd
    refine pt_mk (pe_lc x.calm nd (piI it x h1) ok' (fun s H C cl fp => ?_) (fun s H C cl fp => ?_) (fun s H C cl fp => ?_) (fun v => unfolded h6 _ v))
    · exact pgG (x.blk s H scope C cl fp ok.kind) h3
    · have xb := x.blk s H scope C cl fp ok.kind
      cases c with
      | no =>
        rcases ifs with _ | ⟨c1, _ | ⟨c2, cs⟩⟩
        · rw [rdC]; exact pts_nil
        · simp [condOf, chkO] at h5
        · simp [condOf, chkO] at h5
      | yes c =>
        rcases ifs with _ | ⟨c1, _ | ⟨c2, cs⟩⟩
        · simp [condOf, chkO] at h5
        · rw [rdC]
          rw [condOf, chkO] at h5
          exact pts_one (peE c xb h5).2
        · rw [condOf, chkO] at h5
          cases c <;> simp [chkE, revOf] at h5
          all_goals simp
    · exact (peE elt (x.blk s H scope C cl fp ok.kind) h4).1
theorem paA : ∀ (es : Exs) {W : WX} {sc raw : Scope} {X : Cx} {vs : List Expr}, Xok Γ ρ ξ Ξ γ W k N sc raw X → chkA Γ N sc raw es vs = true → PA X vs (rdA X.K ρ ξ Ξ γ W es)
  | .nil, W, sc, raw, X, vs, x, h => by
    cases vs with
    | nil => rw [rdA]; exact pa_nil
    | cons v vs => simp [chkA] at h
  | .cons e es, W, sc, raw, X, vs, x, h => by
    cases vs with
    | nil => simp [chkA] at h
    | cons v vs =>
      rw [chkA] at h
      rw [rdA]
      exact pa_cons (peE e x (and_r (and_l h))).1 (paA es x (and_r h)) (star_cons (and_l (and_l h)) _ _)
theorem peB : ∀ (es : Exs) {W : WX} {sc raw : Scope} {X : Cx} {vs : List Expr}, Xok Γ ρ ξ Ξ γ W k N sc raw X → chkB Γ N sc raw es vs = true → ∀ (q : Bool) (pos : Pos),
    PE X (.BoolOp (if q = true then .And else .Or) vs pos) (rdB X.K ρ ξ Ξ γ W q es).1 ∧ PW X (.BoolOp (if q = true then .And else .Or) vs pos) (rdB X.K ρ ξ Ξ γ W q es).2
  | .nil, W, sc, raw, X, vs, x, h => by simp [chkB] at h
  | .cons e .nil, W, sc, raw, X, vs, x, h => fun q pos => by
    rcases vs with _ | ⟨v, _ | ⟨v2, vs⟩⟩
    · simp [chkB] at h
    · rw [chkB] at h
      rw [rdB]
      have ih := peE e x h
      refine ⟨pe_one ih.1, ?_⟩
      cases q with
      | true => exact pw_and1 ih.2
      | false => exact pw_or1 ih.2
    · simp [chkB] at h
  | .cons e (.cons e2 es), W, sc, raw, X, vs, x, h => fun q pos => by
    rcases vs with _ | ⟨v, _ | ⟨v2, vs⟩⟩
    · simp [chkB] at h
    · simp [chkB] at h
    · rw [chkB] at h
      have ih := peE e x (and_l h)
      have ih2 := peB (.cons e2 es) x (and_r h) q pos
      cases q with
      | true =>
        rw [rdB]
        exact ⟨pe_and ih.1 ih2.1, pw_and ih.2 ih2.2⟩
      | false =>
        rw [rdB]
        exact ⟨pe_or ih.1 ih2.1, pw_or ih.2 ih2.2⟩
theorem poO : ∀ (o : Exo) {W : WX} {sc raw : Scope} {X : Cx} {e : Option Expr}, Xok Γ ρ ξ Ξ γ W k N sc raw X → chkO Γ N sc raw o e = true → PO X e (rdO X.K ρ ξ Ξ γ W o) ∧ True
  | .no, W, sc, raw, X, e, x, h => by
    cases e with
    | none => rw [rdO]; exact ⟨po_none, trivial⟩
    | some e => simp [chkO] at h
  | .yes y, W, sc, raw, X, e, x, h => by
    cases e with
    | none => simp [chkO] at h
    | some e =>
      rw [chkO] at h
      rw [rdO]
      exact ⟨po_some (peE y x h).1, trivial⟩
theorem piI : ∀ (it : Itx) {W : WX} {sc raw : Scope} {X : Cx} {e t : Expr}, Xok Γ ρ ξ Ξ γ W k N sc raw X → chkI Γ N sc raw it e t = true → PI X t e (rdI X.K ρ ξ Ξ γ W it)
  | .sql y, W, sc, raw, X, e, t, x, h => by
    rw [chkI] at h
    rw [rdI]
    exact pi_seq (peE y x h).1
  | .sqt y, W, sc, raw, X, e, t, x, h => by
    rw [chkI] at h
    rw [rdI]
    exact pi_tup (peE y x h).1
  | .rng1 a, W, sc, raw, X, e, t, x, h => by
    rw [chkI] at h
    rw [rdI]
    split at h
    · rename_i y hc
      obtain ⟨p, q, rfl, h1, h2, h3⟩ := callB_is hc
      have st := star_cons (and_l h)
      exact pi_range1 (x.gl h1) (x.bn h3) (pa_cons (peE a x (and_r h)).1 pa_nil (st _ _)) (st _ _)
    · cases h
  | .rng2 a b, W, sc, raw, X, e, t, x, h => by
    rw [chkI] at h
    rw [rdI]
    split at h
    · rename_i y z hc
      obtain ⟨p, q, rfl, h1, h2, h3⟩ := callB_is hc
      have st := star_cons (and_l (and_l (and_l h)))
      have st2 := star_cons (and_r (and_l (and_l h)))
      exact pi_range2 (x.gl h1) (x.bn h3) (pa_cons (peE a x (and_r (and_l h))).1 (pa_cons (peE b x (and_r h)).1 pa_nil (st2 _ _)) (st _ _)) (by rw [st, st2]; rfl) (by rw [st2]; rfl)
    · cases h
  | .zip a b, W, sc, raw, X, e, t, x, h => by
    rw [chkI] at h
    rw [rdI]
    have ht := and_l h
    have h' := and_r h
    clear h
    cases t <;> simp only [isTuple, reduceCtorEq] at ht
    split at h'
    · rename_i y z hc
      obtain ⟨p, q, rfl, h1, h2, h3⟩ := callB_is hc
      have st := star_cons (and_l (and_l (and_l h')))
      have st2 := star_cons (and_r (and_l (and_l h')))
      exact pi_zipG (x.gl h1) (x.bn h3) (pa_cons (peE a x (and_r (and_l h'))).1 (pa_cons (peE b x (and_r h')).1 pa_nil (st2 _ _)) (st _ _)) (st _ _) (star_any fun e he => by
        rcases List.mem_cons.mp he with rfl | he
        · exact and_r (and_l (and_l h'))
        · cases he)
    · cases h'
  | .enum a, W, sc, raw, X, e, t, x, h => by
    rw [chkI] at h
    rw [rdI]
    have ht := and_l h
    have h' := and_r h
    clear h
    cases t <;> simp only [isTuple, reduceCtorEq] at ht
    split at h'
    · rename_i y hc
      obtain ⟨p, q, rfl, h1, h2, h3⟩ := callB_is hc
      have st := star_cons (and_l h')
      exact pi_enum (x.gl h1) (x.bn h3) (pa_cons (peE a x (and_r h')).1 pa_nil (st _ _)) (st _ _)
    · cases h'
  | .zip3 a b c, W, sc, raw, X, e, t, x, h => by
    rw [chkI] at h
    rw [rdI]
    have ht := and_l h
    have h' := and_r h
    clear h
    cases t <;> simp only [isTuple, reduceCtorEq] at ht
    split at h'
    · rename_i y z u hc
      obtain ⟨p, q, rfl, h1, h2, h3⟩ := callB_is hc
      have st := star_cons (and_l (and_l (and_l (and_l (and_l h')))))
      have st2 := star_cons (and_r (and_l (and_l (and_l (and_l h')))))
      have st3 := star_cons (and_r (and_l (and_l (and_l h'))))
      exact pi_zipG3 (x.gl h1) (x.bn h3) (pa_cons (peE a x (and_r (and_l (and_l h')))).1 (pa_cons (peE b x (and_r (and_l h'))).1 (pa_cons (peE c x (and_r h')).1 pa_nil (st3 _ _)) (st2 _ _)) (st _ _)) (st _ _) (star_any fun e he => by
        rcases List.mem_cons.mp he with rfl | he
        · exact and_r (and_l (and_l (and_l (and_l h'))))
        · rcases List.mem_cons.mp he with rfl | he
          · exact and_r (and_l (and_l (and_l h')))
          · cases he)
    · cases h'
end
end
end PL

/-! P11 -/
namespace PL
open PySem PySem.Spec PyProof.Rows L2 RZ

/-! ### statements -/
/-- a statement of an except suite: x = e, x = the error -/
inductive Hs where
  | asg (j : Nat) (e : Ex) | cpe (j i : Nat)
mutual
inductive St where
  | pass | drop (e : Ex) | asg (t : Tg) (e : Ex) | own (i : Nat) (e : Ex) | par (i j : Nat) (a b : Ex)
  | frz (i : Nat) | app (i : Nat) (e : Ex) | ext (i : Nat) (e : Ex) | rem (i : Nat) (e : Ex) | sto (i : Nat) (ix e : Ex) | aug (i : Nat) (o : Bop) (e : Ex)
  | ret (e : Ex) | retN | ifs (c : Ex) (a b : Sts) | whl (c : Ex) (b : Sts) | for (t : Tg) (it : Itx) (b : Sts) | forL (t : Tg) (i : Nat) (b : Sts) | cont | brk | never
  | rais (c : Str) | tryO (b : Sts) (t : Str) (h : List Hs) | tryA (b : Sts) (i : Nat) (t : Str) (h : List Hs)
inductive Sts where
  | nil | cons (x : St) (r : Sts)
end
inductive Out where
  | nx (env : Ev) | rt (r : Rv) | bk (env : Ev) | ct (env : Ev)
/-- a step is done, what comes behind -/
def Out.seq (o : Out) (f : Ev → Option Out) : Option Out := match o with
  | .nx e => f e
  | o => some o
def whileO (c : Ev → Option Bool) (b : Ev → Option Out) (env : Ev) : Option Out := do
  let k ← c env
  if k = true then do
    let o ← b env
    match o with
    | .nx e => whileO c b e
    | .ct e => whileO c b e
    | .bk e => some (.nx e)
    | .rt r => some (.rt r)
  else some (.nx env)
partial_fixpoint
def forD (g : D → Ev → Option Ev) (b : Ev → Option Out) : List D → Ev → Option Out
  | [], env => some (.nx env)
  | d :: r, env => (g d env).bind fun e => (b e).bind fun o => match o with
    | .nx e => forD g b r e
    | .ct e => forD g b r e
    | .bk e => some (.nx e)
    | .rt r => some (.rt r)
/-- which turn of a for raises what, and where the slots are then -/
def forX (g : D → Ev → Option Ev) (b : Ev → Option Out) (x : Ev → Option (Str × Ev)) : List D → Ev → Option (Str × Ev)
  | [], _ => none
  | d :: r, env => (g d env).bind fun e => match x e with
    | some q => some q
    | none => (b e).bind fun o => match o with
      | .nx e => forX g b x r e
      | .ct e => forX g b x r e
      | _ => none
def augD : Bop → D → D → Option D
  | .add, .int i, .int j => some (.int (i + j))
  | .add, .str s, .str t => if s.length + t.length ≤ 16777216 then some (.str (s ++ t)) else none
  | .sub, .int i, .int j => some (.int (i - j))
  | .band, .int i, .int j => some (.int (Builtin.bitAnd i j))
  | .bor, .int i, .int j => some (.int (Builtin.bitOr i j))
  | _, _, _ => none
def setLi (env : Ev) (i : Nat) (xs : List D) : Option Ev := if i < env.length then some (env.set i (.li xs)) else none
def liAt (env : Ev) (i : Nat) : Option (List D) := match env[i]? with
  | some (.li xs) => some xs
  | _ => none
/-- a list walked, and its slot shut meanwhile: opened again -/
def isHid : Option Sl → Bool
  | some .hid => true
  | _ => false
def unhid (i : Nat) (xs : List D) : Out → Option Out
  | .nx e => if isHid e[i]? = true then some (.nx (e.set i (.li xs))) else none
  | .rt r => some (.rt r)
  | _ => none
def retOf (x : Ex) (env : Ev) (r : Option Rv) : Option Out := match x with
  | .slot i => match env[i]? with
    | some (.li xs) => some (.rt (.li xs))
    | some (.pv d) => some (.rt (.pv d))
    | _ => none
  | _ => r.map .rt
section
variable (ρ : Str → List D → Option Rv) (ξ : Str → List D → Option Str) (κ : Str → Option D)
/-- an except suite -/
def evHs : List Hs → Ev → Option Ev
  | [], env => some env
  | .asg j e :: r, env => (fzo (evR ρ κ e env)).bind fun d => if j < env.length then evHs r (env.set j (.pv d)) else none
  | .cpe j i :: r, env => match env[i]? with
    | some (.ex c) => if j < env.length ∧ j ≠ i then evHs r (env.set j (.ex c)) else none
    | _ => none
/-- what a for statement walks: no list that the frame may yet change -/
def evJ : Itx → Ev → Option (List D)
  | .sql e, env => (fzo (evR ρ κ e env)).bind asQ
  | .zip a b, env => (fzo (evR ρ κ a env)).bind fun x => (fzo (evR ρ κ b env)).bind fun y => (asQ x).bind fun xs => (asQ y).map fun ys => zipD xs ys
  | .enum a, env => (fzo (evR ρ κ a env)).bind fun x => (asL x).map fun xs => enumD 0 xs
  | .zip3 a b c, env => (fzo (evR ρ κ a env)).bind fun x => (fzo (evR ρ κ b env)).bind fun y => (fzo (evR ρ κ c env)).bind fun z => (asQ x).bind fun xs => (asQ y).bind fun ys => (asQ z).map fun zs => zip3D xs ys zs
  | it, env => evI ρ κ it env
mutual
def evS : St → Ev → Option Out
  | .pass, env => some (.nx env)
  | .drop e, env => (evR ρ κ e env).map fun _ => .nx env
  | .asg t e, env => (fzo (evR ρ κ e env)).bind fun d => (bindT t d env).map .nx
  | .own i e, env => (evR ρ κ e env).bind fun r => match r with
    | .li xs => (setLi env i xs).map .nx
    | .pv _ => none
  | .par i j a b, env => (fzo (evR ρ κ a env)).bind fun x => (fzo (evR ρ κ b env)).bind fun y => if i < env.length ∧ j < env.length then some (.nx ((env.set i (.pv x)).set j (.pv y))) else none
  | .frz i, env => (liAt env i).map fun xs => .nx (env.set i (.pv (.lst xs)))
  | .app i e, env => (fzo (evR ρ κ e env)).bind fun d => (liAt env i).bind fun xs => if xs.length < 16777216 then some (.nx (env.set i (.li (xs ++ [d])))) else none
  | .ext i e, env => (viewOr e env (evR ρ κ e env)).bind fun d => (liAt env i).bind fun xs => match d with
    | .lst ys => if xs.length + ys.length ≤ 16777216 then some (.nx (env.set i (.li (xs ++ ys)))) else none
    | _ => none
  | .rem i e, env => (fzo (evR ρ κ e env)).bind fun y => (liAt env i).bind fun xs => if shp 20 y = true ∧ shp 20 (.lst xs) = true then (idxOf y xs).map fun j => .nx (env.set i (.li (xs.eraseIdx j))) else none
  | .sto i ix e, env => (fzo (evR ρ κ e env)).bind fun d => (fzo (evR ρ κ ix env)).bind fun k => (asI k).bind fun k => (liAt env i).bind fun xs => (ixN xs.length k).map fun j => .nx (env.set i (.li (xs.set j d)))
  | .aug i o e, env => match env[i]? with
    | some (.pv x) => (fzo (evR ρ κ e env)).bind fun y => (augD o x y).map fun z => .nx (env.set i (.pv z))
    | _ => none
  | .ret e, env => retOf e env (evR ρ κ e env)
  | .retN, _ => some (.rt (.pv .non))
  | .ifs c a b, env => (toB (evR ρ κ c env)).bind fun k => if k = true then evSs a env else evSs b env
  | .whl c b, env => whileO (fun e => toB (evR ρ κ c e)) (fun e => evSs b e) env
  | .for t it b, env => (evJ ρ κ it env).bind fun ds => forD (fun d e => bindT t d e) (fun e => evSs b e) ds env
  | .forL t i b, env => (liAt env i).bind fun xs => (forD (fun d e => bindT t d e) (fun e => evSs b e) xs (env.set i .hid)).bind fun o => unhid i xs o
  | .cont, env => some (.ct env)
  | .brk, env => some (.bk env)
  | .never, _ => none
  | .rais _, _ => none
  | .tryO b t h, env => match evSs b env with
    | some o => some o
    | none => (xSs b env).bind fun q => if subX q.1 t = true then (evHs ρ κ h q.2).map .nx else none
  | .tryA b i t h, env => match evSs b env with
    | some o => some o
    | none => (xSs b env).bind fun q => if subX q.1 t = true ∧ i < q.2.length then (evHs ρ κ h (q.2.set i (.ex q.1))).map fun e => .nx (e.set i .un) else none
def evSs : Sts → Ev → Option Out
  | .nil, env => some (.nx env)
  | .cons x r, env => (evS x env).bind fun o => o.seq fun e => evSs r e
/-- the error that a statement raises, and the slots then -/
def xS : St → Ev → Option (Str × Ev)
  | .drop e, env => (xE ρ κ ξ e env).map fun c => (c, env)
  | .asg _ e, env => (xE ρ κ ξ e env).map fun c => (c, env)
  | .own _ e, env => (xE ρ κ ξ e env).map fun c => (c, env)
  | .app i e, env => match env[i]? with
    | some (.li _) => (xE ρ κ ξ e env).map fun c => (c, env)
    | _ => none
  | .aug i _ e, env => match env[i]? with
    | some (.pv _) => (xE ρ κ ξ e env).map fun c => (c, env)
    | _ => none
  | .ret e, env => (xE ρ κ ξ e env).map fun c => (c, env)
  | .ifs c a b, env => match xE ρ κ ξ c env with
    | some c => some (c, env)
    | none => (toB (evR ρ κ c env)).bind fun k => if k = true then xSs a env else xSs b env
  | .for t it b, env => (evJ ρ κ it env).bind fun ds => forX (fun d e => bindT t d e) (fun e => evSs b e) (fun e => xSs b e) ds env
  | .rais c, env => some (c, env)
  | _, _ => none
def xSs : Sts → Ev → Option (Str × Ev)
  | .nil, _ => none
  | .cons x r, env => match xS x env with
    | some q => some q
    | none => (evS x env).bind fun o => match o with
      | .nx e => xSs r e
      | _ => none
end
end

/-! ### their readings -/
def rAug : Bop → TIp
  | .add => fun x y H Q => rI0 (fun i j => .int (i + j)) x y H Q ∨ rAddS x y H Q
  | .sub => rI0 fun i j => .int (i - j)
  | .band => rI0 fun i j => .int (Builtin.bitAnd i j)
  | .bor => rI0 fun i j => .int (Builtin.bitOr i j)
  | _ => fun _ _ _ _ => False
section
variable (K : PySem.W.Frag) (ρ : Str → List D → Option Rv) (ξ : Str → List D → Option Str) (Ξ : Xt) (γ : Str → V)
def rdHs : List Hs → TS
  | [] => tNext
  | .asg j e :: r => tSeq (tAsg (rd K ρ ξ Ξ γ WX0 e).1 (gName j)) (rdHs r)
  | .cpe j i :: r => tSeq (tAsg (tVar i) (gName j)) (rdHs r)
mutual
def rdS : WX → St → TS
  | _, .pass => tNext
  | W, .drop e => tDrop (rd K ρ ξ Ξ γ W e).1
  | W, .asg t e => tAsg (rd K ρ ξ Ξ γ W e).1 (rdG K t)
  | W, .own i e => tAsg (rd K ρ ξ Ξ γ W e).1 (gName i)
  | W, .par i j a b => tPar i j (tCons (rd K ρ ξ Ξ γ W a).1 (tCons (rd K ρ ξ Ξ γ W b).1 tNil))
  | _, .frz _ => tNext
  | W, .app i e => tDrop (tBM K "list" rAppend (tVar i) (tCons (rd K ρ ξ Ξ γ W e).1 tNil))
  | W, .ext i e => tDrop (tBM K "list" rExtend (tVar i) (tCons (rd K ρ ξ Ξ γ W e).1 tNil))
  | W, .rem i e => tDrop (tBM K "list" (rRemD K) (tVar i) (tCons (rd K ρ ξ Ξ γ W e).1 tNil))
  | W, .sto i ix e => tAsg (rd K ρ ξ Ξ γ W e).1 (gSub (tVar i) (rd K ρ ξ Ξ γ W ix).1 rSetL)
  | W, .aug i o e => tAug i (rd K ρ ξ Ξ γ W e).1 (rAug o)
  | W, .ret e => tRet (rd K ρ ξ Ξ γ W e).1
  | _, .retN => tRetN
  | W, .ifs c a b => tIfS (rd K ρ ξ Ξ γ W c).2 (rdSs W a) (rdSs W b)
  | W, .whl c b => tWhile (rd K ρ ξ Ξ γ W c).2 (rdSs W b)
  | W, .for t it b => tFor (rdI K ρ ξ Ξ γ W it) (rdG K t) (rdSs W b)
  | W, .forL t i b => tFor (rdI K ρ ξ Ξ γ W (.sql (.slot i))) (rdG K t) (rdSs W b)
  | _, .cont => tCont
  | _, .brk => tBreak
  | _, .never => tNever
  | W, .rais c => fun _ σ H => W (.ref (Ξ.θ c)) none σ H
  | W, .tryO b t h => fun D σ H => rdSs (wOnly K (.ref (Ξ.θ t)) (fun _ _ _ => rdHs K ρ ξ Ξ γ h) W D) b D σ H
  | W, .tryA b i t h => fun D σ H => rdSs (wTrk K (.ref (Ξ.θ t)) i (rdHs K ρ ξ Ξ γ h) W D) b D σ H
def rdSs : WX → Sts → TS
  | _, .nil => tNext
  | W, .cons x r => match x with
    | .frz _ => rdSs W r
    | x => tSeq (rdS W x) (rdSs W r)
end
end
end PL

/-! P12 -/
namespace PL
open PySem PySem.Spec PyProof.Rows L2 RZ

section
variable {K : PySem.W.Frag} {ρ : Str → List D → Option Rv} {ξ : Str → List D → Option Str} {Ξ : Xt} {κ : Str → Option D} {γ : Str → V} {W : WX}
theorem Rn.setLi {η : Nat → Option V} {H0 F H : Hp} {σ : L2.St} {env : Ev} (r : Rn K Ξ η H0 F H σ env) {i : Nat} {a : Addr} {vs : List V} {xs : List D} (hi : i < env.length) (h1 : H a = some (.lst vs)) (h2 : Rs K F vs xs) (h3 : F a = none) (h4 : H0 a = none)
    (h5 : ∀ j ys, j ≠ i → env[j]? = some (Sl.li ys) → σ[j]? ≠ some (some (V.ref a))) : Rn K Ξ η H0 F H (σ.set i (some (.ref a))) (env.set i (Sl.li xs)) where
  ex j c hj := by
    by_cases hij : i = j
    · subst hij
      rw [List.getElem?_set_self hi] at hj
      cases hj
    · rw [List.getElem?_set_ne hij] at hj ⊢
      exact r.ex j c hj
  len := by rw [List.length_set, List.length_set, r.len]
  pv j e hj := by
    by_cases hij : i = j
    · subst hij
      rw [List.getElem?_set_self hi] at hj
      cases hj
    · rw [List.getElem?_set_ne hij] at hj ⊢
      exact r.pv j e hj
  li j ys hj := by
    by_cases hij : i = j
    · subst hij
      rw [List.getElem?_set_self hi] at hj
      rw [List.getElem?_set_self (by rw [r.len]; exact hi)]
      cases hj
      exact ⟨a, vs, rfl, h1, h2, h3, h4⟩
    · rw [List.getElem?_set_ne hij] at hj ⊢
      exact r.li j ys hj
  ap j k ys zs b hjk hj hk hb := by
    by_cases hij : i = j
    · subst hij
      rw [List.getElem?_set_self (by rw [r.len]; exact hi)] at hb
      cases hb
      rw [List.getElem?_set_ne hjk] at hk ⊢
      exact h5 k zs (Ne.symm hjk) hk
    · rw [List.getElem?_set_ne hij] at hj hb
      by_cases hik : i = k
      · subst hik
        rw [List.getElem?_set_self (by rw [r.len]; exact hi)]
        intro e
        have e' : a = b := by cases e; rfl
        subst e'
        exact h5 j ys (Ne.symm hij) hj hb
      · rw [List.getElem?_set_ne hik] at hk ⊢
        exact r.ap j k ys zs b hjk hj hk hb
  hd j hj := by
    by_cases hij : i = j
    · subst hij
      rw [List.getElem?_set_self hi] at hj
      cases hj
    · rw [List.getElem?_set_ne hij] at hj ⊢
      exact r.hd j hj
/-- the list of slot i has changed -/
theorem Rn.mut {η : Nat → Option V} {H0 F H : Hp} {σ : L2.St} {env : Ev} (r : Rn K Ξ η H0 F H σ env) {i : Nat} {a : Addr} {us : List V} {xs ys : List D} (hx : env[i]? = some (Sl.li xs)) (ha : σ[i]? = some (some (V.ref a))) (h2 : Rs K F us ys) :
    Rn K Ξ η H0 F (upd H a (.lst us)) σ (env.set i (Sl.li ys)) := by
  have hi : i < env.length := by
    rcases Nat.lt_or_ge i env.length with h | h
    · exact h
    · rw [List.getElem?_eq_none h] at hx; cases hx
  obtain ⟨b, vs, e1, e2, e3, e4, e5⟩ := r.li i xs hx
  have eb : b = a := by rw [ha] at e1; cases e1; rfl
  subst eb
  refine ⟨fun j c hj => ?_, by rw [List.length_set, r.len], fun j e hj => ?_, fun j zs hj => ?_, fun j k zs ws c hjk hj hk hc => ?_, fun j hj => ?_⟩
  · by_cases hij : i = j
    · subst hij
      rw [List.getElem?_set_self hi] at hj
      cases hj
    · rw [List.getElem?_set_ne hij] at hj
      obtain ⟨h0, d, f1, f2⟩ := r.ex j c hj
      have nd : d ≠ b := fun z => by
        subst z
        rw [f2] at e2
        cases e2
      exact ⟨h0, d, f1, by unfold ExAt; rw [upd_ne nd]; exact f2⟩
  · by_cases hij : i = j
    · subst hij
      rw [List.getElem?_set_self hi] at hj
      cases hj
    · rw [List.getElem?_set_ne hij] at hj
      exact r.pv j e hj
  · by_cases hij : i = j
    · subst hij
      rw [List.getElem?_set_self hi] at hj
      cases hj
      exact ⟨b, us, e1, upd_same, h2, e4, e5⟩
    · rw [List.getElem?_set_ne hij] at hj
      obtain ⟨c, ws, f1, f2, f3, f4, f5⟩ := r.li j zs hj
      have hcb : c ≠ b := fun e => by
        subst e
        exact r.ap i j xs zs c hij hx hj ha f1
      exact ⟨c, ws, f1, by rw [upd_ne hcb]; exact f2, f3, f4, f5⟩
  · have key : ∀ {j : Nat} {zs : List D}, (env.set i (Sl.li ys))[j]? = some (Sl.li zs) → ∃ zs', env[j]? = some (Sl.li zs') := fun {j zs} hj => by
      by_cases hij : i = j
      · subst hij; exact ⟨xs, hx⟩
      · rw [List.getElem?_set_ne hij] at hj; exact ⟨zs, hj⟩
    obtain ⟨z1, q1⟩ := key hj
    obtain ⟨z2, q2⟩ := key hk
    exact r.ap j k z1 z2 c hjk q1 q2 hc
  · by_cases hij : i = j
    · subst hij
      rw [List.getElem?_set_self hi] at hj
      cases hj
    · rw [List.getElem?_set_ne hij] at hj
      exact r.hd j hj
/-- what is wanted behind a statement -/
def WishS (K : PySem.W.Frag) (Ξ : Xt) (η : Nat → Option V) (F0 H0 : Hp) (D : Ends) : Out → Prop
  | .nx e => ∀ F' H' σ', Gr F0 H0 F' H' → Rn K Ξ η H0 F' H' σ' e → D.nx σ' H'
  | .bk e => ∀ F' H' σ', Gr F0 H0 F' H' → Rn K Ξ η H0 F' H' σ' e → D.bk σ' H'
  | .ct e => ∀ F' H' σ', Gr F0 H0 F' H' → Rn K Ξ η H0 F' H' σ' e → D.ct σ' H'
  | .rt r => ∀ F' H' v, Gr F0 H0 F' H' → RR K H0 F' H' v r → D.rt v H'
structure GoodS (K : PySem.W.Frag) (Ξ : Xt) (ev : Ev → Option Out) (t : TS) : Prop where
  run : ∀ {η : Nat → Option V} {F0 H0 F H : Hp} {σ : L2.St} {env : Ev} {o : Out} {D : Ends}, Gr F0 H0 F H → Rn K Ξ η H0 F H σ env → ev env = some o → WishS K Ξ η F0 H0 D o → t D σ H
def okHs (L : List Str) : List Hs → Bool
  | [] => true
  | .asg _ e :: r => okE L e && okHs L r
  | .cpe _ _ :: r => okHs L r
mutual
def okS (L R : List Str) : St → Bool
  | .pass => true
  | .drop e => okE L e
  | .asg _ e => okE L e
  | .own _ e => okE L e
  | .par _ _ a b => okE L a && okE L b
  | .frz _ => true
  | .app _ e => okE L e
  | .ext _ e => okE L e
  | .rem _ e => okE L e
  | .sto _ ix e => okE L ix && okE L e
  | .aug _ _ e => okE L e
  | .ret e => okE L e
  | .retN => true
  | .ifs c a b => okE L c && okSs L R a && okSs L R b
  | .whl c b => okE L c && okSs L R b
  | .for _ it b => okI L it && okSs L R b
  | .forL _ _ b => okSs L R b
  | .cont => true
  | .brk => true
  | .never => true
  | .rais c => R.contains c
  | .tryO b t h => okSs L R b && okHs L h && L.contains t && decide (t ≠ "ValueError")
  | .tryA b _ t h => okSs L R b && okHs L h && L.contains t && decide (t ≠ "ValueError")
def okSs (L R : List Str) : Sts → Bool
  | .nil => true
  | .cons x r => okS L R x && okSs L R r
end
theorem RR.back {F0 H0 F H F' H' : Hp} {v : V} {r : Rv} (g : Gr F0 H0 F H) (h : RR K H F' H' v r) : RR K H0 F' H' v r := by
  cases r with
  | pv d => exact h
  | li xs =>
    obtain ⟨a, vs, e, h1, h2, h3, h4⟩ := h
    exact ⟨a, vs, e, h1, h2, h3, g.fresh h4⟩
theorem liAtE {env : Ev} {i : Nat} {xs : List D} (h : liAt env i = some xs) : env[i]? = some (Sl.li xs) := by
  unfold liAt at h
  split at h
  · cases h; assumption
  · cases h
theorem augB {F H : Hp} {Q : VK} (s : Same F H) {x y : V} {d e z : D} (o : Bop) (hx : R K F x d) (hy : R K F y e) (h : augD o d e = some z) (w : ∀ v, R K F v z → Q v H) : rAug o x y H Q := by
  cases o <;> cases d <;> cases e <;> simp only [augD, reduceCtorEq] at h
  all_goals simp only [R] at hx hy; subst hx hy
  · cases h; exact .inl ⟨_, _, rfl, rfl, w _ (by simp only [R])⟩
  · split at h
    · rename_i hl
      cases h
      exact .inr ⟨_, _, rfl, rfl, by rw [sizeL]; exact hl, w _ (by simp only [R])⟩
    · cases h
  · cases h; exact ⟨_, _, rfl, rfl, w _ (by simp only [R])⟩
  · cases h; exact ⟨_, _, rfl, rfl, w _ (by simp only [R])⟩
  · cases h; exact ⟨_, _, rfl, rfl, w _ (by simp only [R])⟩
/-- J gives ds as long as what stands for ever stands -/
def IokS (K : PySem.W.Frag) (J : It) (F : Hp) (ds : List D) : Prop := ∀ F1 H1, Same F F1 → Same F1 H1 → Stp K J F1 H1 ds
theorem goodJ (hκ : KOk K κ γ) (hX : XtOk K Ξ) (it : Itx) (hx : okI Ξ.xts it = true) {η : Nat → Option V} {H0 F H : Hp} {σ : L2.St} {env : Ev} {ds : List D} {Rw : It → Hp → Prop} (s : Same F H) (n : Rn K Ξ η H0 F H σ env) (ev : evJ ρ κ it env = some ds)
    (w : ∀ J F' H', Gr F H F' H' → IokS K J F' ds → Rw J H') : rdI K ρ ξ Ξ γ W it σ H Rw := by
  have lst : ∀ {F : Hp} {v : V} {d : D} {xs : List D}, R K F v d → asL d = some xs → ∃ a us, v = .ref a ∧ SqL K F a us ∧ Rs K F us xs := fun {F v d xs} r e => by
    cases d with
    | lst ys => cases e; simp only [R] at r; obtain ⟨a, us, e, t, q⟩ := r; exact ⟨a, us, e, SqL.of t, q⟩
    | flst ys => cases e; simp only [R] at r; exact r
    | _ => cases e
  cases it with
  | sql e =>
    simp only [okI] at hx
    simp only [evJ] at ev
    obtain ⟨d, h1, ev⟩ := bindE ev
    simp only [rdI]
    refine (goodE hκ hX W e hx).val s n h1 fun F1 H1 v g1 r1 => ?_
    have q : (∃ a us, v = .ref a ∧ SqL K F1 a us ∧ Rs K F1 us ds) ∨ ∃ a us, v = .ref a ∧ SqT K F1 a us ∧ Rs K F1 us ds := by
      cases d with
      | lst ys => exact .inl (lst r1 ev)
      | flst ys => exact .inl (lst r1 ev)
      | tup ys => cases ev; simp only [R] at r1; exact .inr r1
      | _ => cases ev
    rcases q with ⟨a, us, rfl, t, r⟩ | ⟨a, us, rfl, t, r⟩
    · exact ⟨a, rfl, .inl ⟨⟨us, g1.fh.seq t⟩, w _ F1 H1 g1 fun F2 H2 s2 s3 => stp_list s3 ((s2.trans s3).seq t) (r.mono s2)⟩⟩
    · exact ⟨a, rfl, .inr ⟨⟨us, PL.Same.tup g1.fh t⟩, w _ F1 H1 g1 fun F2 H2 s2 s3 => stp_tup s3 (PL.Same.tup (s2.trans s3) t) (r.mono s2)⟩⟩
  | sqt e =>
    simp only [okI] at hx
    simp only [evJ, evI] at ev
    obtain ⟨d, h1, ev⟩ := bindE ev
    simp only [rdI]
    refine (goodE hκ hX W e hx).val s n h1 fun F1 H1 v g1 r1 => ?_
    cases d <;> simp only [reduceCtorEq] at ev
    cases ev
    simp only [R] at r1
    obtain ⟨a, us, rfl, t, r⟩ := r1
    exact ⟨a, rfl, ⟨us, PL.Same.tup g1.fh t⟩, w _ F1 H1 g1 fun F2 H2 s2 s3 => stp_tup s3 (PL.Same.tup (s2.trans s3) t) (r.mono s2)⟩
  | rng1 a =>
    simp only [okI] at hx
    simp only [evJ, evI] at ev
    obtain ⟨d, h1, ev1⟩ := bindE ev
    obtain ⟨i, h2, ev2⟩ := bindE ev1
    clear ev ev1
    simp only [rdI]
    refine (goodE hκ hX W a hx).val s n h1 fun F1 H1 v g1 r1 => ?_
    cases d <;> simp only [asI, reduceCtorEq] at h2
    cases h2
    simp only [R] at r1
    subst r1
    split at ev2
    · rename_i hr
      cases ev2
      have hr' := of_decide_eq_true hr
      exact ⟨_, rfl, hr'.1, hr'.2, w _ F1 H1 g1 fun F2 H2 s2 s3 => stp_rng s3 _ _⟩
    · cases ev2
  | rng2 a b =>
    simp only [okI] at hx
    simp only [evJ, evI] at ev
    obtain ⟨d, h1, ev1⟩ := bindE ev
    obtain ⟨i, h2, ev3⟩ := bindE ev1
    obtain ⟨e, h3, ev4⟩ := bindE ev3
    obtain ⟨j, h4, ev2⟩ := bindE ev4
    clear ev ev1 ev3 ev4
    simp only [rdI]
    refine (goodE hκ hX W a (and_l hx)).val s n h1 fun F1 H1 v g1 r1 => ?_
    refine (goodE hκ hX W b (and_r hx)).val g1.fh (n.mono g1) h3 fun F2 H2 u g2 r2 => ?_
    cases d <;> simp only [asI, reduceCtorEq] at h2
    cases h2
    cases e <;> simp only [asI, reduceCtorEq] at h4
    cases h4
    simp only [R] at r1 r2
    subst r1 r2
    split at ev2
    · rename_i hr
      cases ev2
      have ha := of_decide_eq_true hr.1
      have hb := of_decide_eq_true hr.2
      exact ⟨_, _, rfl, ⟨ha.1, ha.2, hb.1, hb.2⟩, w _ F2 H2 (g1.trans g2) fun F3 H3 s2 s3 => stp_rng s3 _ _⟩
    · cases ev2
  | zip a b =>
    simp only [okI] at hx
    simp only [evJ] at ev
    obtain ⟨d, h1, ev⟩ := bindE ev
    obtain ⟨e, h2, ev⟩ := bindE ev
    obtain ⟨xs, e1, ev⟩ := bindE ev
    obtain ⟨ys, e2, ev⟩ := mapE ev
    subst ev
    simp only [rdI]
    refine (goodE hκ hX W a (and_l hx)).val s n h1 fun F1 H1 v g1 r1 => ?_
    refine (goodE hκ hX W b (and_r hx)).val g1.fh (n.mono g1) h2 fun F2 H2 u g2 r2 => ?_
    obtain ⟨fa, a, us, rfl, t, r⟩ := r_asQB (r1.mono g2.ff) e1
    obtain ⟨fb, b, ws, rfl, t', r'⟩ := r_asQB r2 e2
    exact ⟨fa, fb, a, b, us, ws, rfl, sqB_up g2.fh t, sqB_up g2.fh t', w _ F2 H2 (g1.trans g2) fun F3 H3 s2 s3 => stp_zipG s3 (sqB_up (s2.trans s3) t) (r.mono s2) (sqB_up (s2.trans s3) t') (r'.mono s2)⟩
  | enum a =>
    simp only [okI] at hx
    simp only [evJ] at ev
    obtain ⟨d, h1, ev⟩ := bindE ev
    obtain ⟨xs, h2, ev⟩ := mapE ev
    subst ev
    simp only [rdI]
    refine (goodE hκ hX W a hx).val s n h1 fun F1 H1 v g1 r1 => ?_
    obtain ⟨a, us, rfl, t, r⟩ := lst r1 h2
    exact ⟨a, us, rfl, g1.fh.seq t, w _ F1 H1 g1 fun F2 H2 s2 s3 => stp_enum s3 ((s2.trans s3).seq t) (r.mono s2)⟩
  | zip3 a b c =>
    simp only [okI] at hx
    simp only [evJ] at ev
    obtain ⟨d, h1, ev⟩ := bindE ev
    obtain ⟨e, h2, ev⟩ := bindE ev
    obtain ⟨f, h3, ev⟩ := bindE ev
    obtain ⟨xs, e1, ev⟩ := bindE ev
    obtain ⟨ys, e2, ev⟩ := bindE ev
    obtain ⟨zs, e3, ev⟩ := mapE ev
    subst ev
    simp only [rdI]
    refine (goodE hκ hX W a (and_l (and_l hx))).val s n h1 fun F1 H1 v g1 r1 => ?_
    refine (goodE hκ hX W b (and_r (and_l hx))).val g1.fh (n.mono g1) h2 fun F2 H2 u g2 r2 => ?_
    refine (goodE hκ hX W c (and_r hx)).val g2.fh ((n.mono g1).mono g2) h3 fun F3 H3 o g3 r3 => ?_
    obtain ⟨fa, a, us, rfl, t, r⟩ := r_asQB ((r1.mono g2.ff).mono g3.ff) e1
    obtain ⟨fb, b, ws, rfl, t', r'⟩ := r_asQB (r2.mono g3.ff) e2
    obtain ⟨fc, c, ts, rfl, t2, r2'⟩ := r_asQB r3 e3
    exact ⟨fa, fb, fc, a, b, c, us, ws, ts, rfl, sqB_up g3.fh t, sqB_up g3.fh t', sqB_up g3.fh t2, w _ F3 H3 ((g1.trans g2).trans g3) fun F4 H4 s2 s3 => stp_zipG3 s3 (sqB_up (s2.trans s3) t) (r.mono s2) (sqB_up (s2.trans s3) t') (r'.mono s2) (sqB_up (s2.trans s3) t2) (r2'.mono s2)⟩

/-! ### loops -/
def whileN (c : Ev → Option Bool) (b : Ev → Option Out) : Nat → Ev → Option Out
  | 0, _ => none
  | n + 1, env => (c env).bind fun k => if k = true then (b env).bind fun o => match o with
    | .nx e => whileN c b n e
    | .ct e => whileN c b n e
    | .bk e => some (.nx e)
    | .rt r => some (.rt r) else some (.nx env)
theorem whileN_of {c : Ev → Option Bool} {b : Ev → Option Out} : ∀ (env : Ev) (r : Out), whileO c b env = some r → ∃ n, whileN c b n env = some r := by
  refine whileO.partial_correctness c b (fun env r => ∃ n, whileN c b n env = some r) fun f ih env r h => ?_
  obtain ⟨k, hk, h⟩ := bindE h
  cases k with
  | false =>
    refine ⟨1, ?_⟩
    simp only [whileN, hk, Option.bind_some]
    exact h
  | true =>
    obtain ⟨o, ho, h⟩ := bindE (show ((b env).bind _) = some r from h)
    cases o with
    | nx e =>
      obtain ⟨n, hn⟩ := ih e r h
      refine ⟨n + 1, ?_⟩
      simp only [whileN, hk, ho, Option.bind_some, if_true]
      exact hn
    | ct e =>
      obtain ⟨n, hn⟩ := ih e r h
      refine ⟨n + 1, ?_⟩
      simp only [whileN, hk, ho, Option.bind_some, if_true]
      exact hn
    | bk e =>
      refine ⟨1, ?_⟩
      simp only [whileN, hk, ho, Option.bind_some, if_true]
      exact h
    | rt r' =>
      refine ⟨1, ?_⟩
      simp only [whileN, hk, ho, Option.bind_some, if_true]
      exact h
theorem whileB {c : Ex} {b : Ev → Option Out} {tb : TS} (hc : Good K ρ ξ Ξ κ γ W c) (hb : GoodS K Ξ b tb) : GoodS K Ξ (whileO (fun e => toB (evR ρ κ c e)) b) (tWhile (rd K ρ ξ Ξ γ W c).2 tb) := by
  refine ⟨fun {η F0 H0 F H σ env o D} g n ev w => ?_⟩
  obtain ⟨m, hm⟩ := whileN_of env o ev
  refine ⟨fun m σ H => ∃ F env, Gr F0 H0 F H ∧ Rn K Ξ η H0 F H σ env ∧ whileN (fun e => toB (evR ρ κ c e)) b m env = some o, ⟨m, F, env, g, n, hm⟩, fun m σ H hW => ?_⟩
  obtain ⟨F, env, g, n, hm⟩ := hW
  cases m with
  | zero => simp only [whileN, reduceCtorEq] at hm
  | succ m =>
    simp only [whileN] at hm
    obtain ⟨k, hk, hm⟩ := bindE hm
    refine hc.2 g.fh n hk fun F1 H1 g1 => ?_
    have gg := g.trans g1
    have nn := n.mono g1
    cases k with
    | false =>
      have e0 : Out.nx env = o := Option.some.inj hm
      subst e0
      exact w F1 H1 σ gg nn
    | true =>
      simp only [if_true] at hm ⊢
      obtain ⟨o', ho, hm⟩ := bindE hm
      refine ⟨fun σ' H' => ∃ F env, Gr F0 H0 F H' ∧ Rn K Ξ η H0 F H' σ' env ∧ whileN (fun e => toB (evR ρ κ c e)) b m env = some o, fun σ' H' hN => ⟨m, Nat.lt_succ_self m, hN⟩, ?_⟩
      refine hb.run gg nn ho ?_
      cases o' with
      | nx e => exact fun F' H' σ' g' n' => ⟨F', e, g', n', hm⟩
      | ct e => exact fun F' H' σ' g' n' => ⟨F', e, g', n', hm⟩
      | bk e =>
        have e0 : Out.nx e = o := Option.some.inj hm
        subst e0
        exact w
      | rt r =>
        have e0 : Out.rt r = o := Option.some.inj hm
        subst e0
        exact w
theorem forB {it : Itx} {tg : Tg} {b : Ev → Option Out} {tb : TS} (hκ : KOk K κ γ) (hX : XtOk K Ξ) (hi : okI Ξ.xts it = true) (hb : GoodS K Ξ b tb) :
    GoodS K Ξ (fun env => (evJ ρ κ it env).bind fun ds => forD (fun d e => bindT tg d e) b ds env) (tFor (rdI K ρ ξ Ξ γ W it) (rdG K tg) tb) := by
  refine ⟨fun {η F0 H0 F H σ env o D} g n ev w => ?_⟩
  obtain ⟨ds, h1, ev⟩ := bindE ev
  refine goodJ hκ hX it hi g.fh n h1 fun J F1 H1 g1 ij => ?_
  refine ⟨fun i m σ H => m = ds.length - i ∧ i ≤ ds.length ∧ ∃ F env, Same F1 F ∧ Gr F0 H0 F H ∧ Rn K Ξ η H0 F H σ env ∧ forD (fun d e => bindT tg d e) b (ds.drop i) env = some o, ⟨ds.length, by simp, Nat.zero_le _, F1, env, Same.refl _, g.trans g1, n.mono g1, ev⟩, fun i m σ H hW => ?_⟩
  obtain ⟨rfl, hi, F, env, s1, g, n, hf⟩ := hW
  have st := ij F H s1 g.fh
  by_cases hlt : i < ds.length
  · refine .inr ?_
    have ei : ds[i]? = some ds[i] := List.getElem?_eq_getElem hlt
    obtain ⟨go, yl⟩ := st.1 i _ ei
    refine ⟨go, fun σ' H' => ∃ F env, Same F1 F ∧ Gr F0 H0 F H' ∧ Rn K Ξ η H0 F H' σ' env ∧ forD (fun d e => bindT tg d e) b (ds.drop (i + 1)) env = some o, fun σ' H' hN => ⟨ds.length - (i + 1), by omega, rfl, hlt, hN⟩, fun x H2 hy => ?_⟩
    obtain ⟨F2, g2, r2⟩ := yl x H2 hy
    rw [List.drop_eq_getElem_cons hlt] at hf
    simp only [forD] at hf
    obtain ⟨e2, hb2, hf⟩ := bindE hf
    obtain ⟨o', ho, hf⟩ := bindE hf
    have gg := g.trans g2
    refine bindT_ok g2.fh hb2 r2 (n.mono g2) fun σ2 n2 _ _ => ?_
    have key : GoodS K Ξ b tb := hb
    -- the heap of things for ever grows on: carry it through the body
    refine (show ∀ {D : Ends}, WishS K Ξ η F2 H0 D o' → tb D σ2 H2 from fun w' => hb.run (F0 := F2) ⟨Same.refl _, fun a u e => gg.hh a u e, g2.fh, fun a ha => rfl⟩ n2 ho w') ?_
    have up : ∀ F' H', Gr F2 H0 F' H' → Gr F0 H0 F' H' ∧ Same F1 F' := fun F' H' q => ⟨⟨gg.ff.trans q.ff, q.hh, q.fh, fun a ha => by rw [q.fr a ha, gg.fr a ha]⟩, (s1.trans g2.ff).trans q.ff⟩
    cases o' with
    | nx e => exact fun F' H' σ' g' n' => ⟨F', e, (up _ _ g').2, (up _ _ g').1, n', hf⟩
    | ct e => exact fun F' H' σ' g' n' => ⟨F', e, (up _ _ g').2, (up _ _ g').1, n', hf⟩
    | bk e =>
      have e0 : Out.nx e = o := Option.some.inj hf
      subst e0
      exact fun F' H' σ' g' n' => w F' H' σ' (up _ _ g').1 n'
    | rt r =>
      have e0 : Out.rt r = o := Option.some.inj hf
      subst e0
      exact fun F' H' v g' r' => w F' H' v (up _ _ g').1 r'
  · have ei : i = ds.length := by omega
    refine .inl ⟨by rw [ei]; exact st.2, ?_⟩
    rw [ei, List.drop_length] at hf
    have e0 : Out.nx env = o := Option.some.inj hf
    subst e0
    exact w F H σ g n
theorem lt_of_get {env : Ev} {i : Nat} {s : Sl} (h : env[i]? = some s) : i < env.length := by
  rcases Nat.lt_or_ge i env.length with q | q
  · exact q
  · rw [List.getElem?_eq_none q] at h; cases h
def hidE (η : Nat → Option V) (i : Nat) (a : Addr) : Nat → Option V := fun j => if j = i then some (.ref a) else η j
/-- the list of slot i is shut: it is of what was there -/
theorem Rn.shut {η : Nat → Option V} {H0 F H : Hp} {σ : L2.St} {env : Ev} (n : Rn K Ξ η H0 F H σ env) {i : Nat} {a : Addr} {xs : List D} {vs : List V} (h3 : env[i]? = some (Sl.li xs)) (q1 : σ[i]? = some (some (V.ref a))) : Rn K Ξ (hidE η i a) (upd H0 a (.lst vs)) F H σ (env.set i .hid) := by
  have hi := lt_of_get h3
  refine ⟨fun j c hj => ?_, by rw [List.length_set, n.len], fun j e hj => ?_, fun j ys hj => ?_, fun j k ys zs b hjk hj hk => ?_, fun j hj => ?_⟩
  · by_cases hij : i = j
    · subst hij
      rw [List.getElem?_set_self hi] at hj
      cases hj
    · rw [List.getElem?_set_ne hij] at hj
      exact n.ex j c hj
  · by_cases hij : i = j
    · subst hij
      rw [List.getElem?_set_self hi] at hj
      cases hj
    · rw [List.getElem?_set_ne hij] at hj
      exact n.pv j e hj
  · by_cases hij : i = j
    · subst hij
      rw [List.getElem?_set_self hi] at hj
      cases hj
    · rw [List.getElem?_set_ne hij] at hj
      obtain ⟨b, us, p1, p2, p3, p4, p5⟩ := n.li j ys hj
      have hba : b ≠ a := fun e => by
        subst e
        exact n.ap i j xs ys b hij h3 hj q1 p1
      exact ⟨b, us, p1, p2, p3, p4, by rw [upd_ne hba]; exact p5⟩
  · by_cases hij : i = j
    · subst hij
      rw [List.getElem?_set_self hi] at hj
      cases hj
    · by_cases hik : i = k
      · subst hik
        rw [List.getElem?_set_self hi] at hk
        cases hk
      · rw [List.getElem?_set_ne hij] at hj
        rw [List.getElem?_set_ne hik] at hk
        exact n.ap j k ys zs b hjk hj hk
  · unfold hidE
    by_cases hij : i = j
    · subst hij
      rw [if_pos rfl]; exact q1
    · rw [List.getElem?_set_ne hij] at hj
      rw [if_neg (Ne.symm hij)]
      exact n.hd j hj
theorem Rn.open {η : Nat → Option V} {H0 F H : Hp} {σ : L2.St} {env : Ev} {i : Nat} {a : Addr} {xs : List D} {vs : List V} (n : Rn K Ξ (hidE η i a) (upd H0 a (.lst vs)) F H σ env) (he : env[i]? = some .hid) (h2 : H a = some (.lst vs)) (r : Rs K F vs xs) (h3 : F a = none) (h4 : H0 a = none) : Rn K Ξ η H0 F H σ (env.set i (.li xs)) := by
  have hi := lt_of_get he
  have q1 : σ[i]? = some (some (V.ref a)) := by
    have := n.hd i he
    unfold hidE at this
    rwa [if_pos rfl] at this
  have hne : ∀ {b : Addr}, (upd H0 a (.lst vs)) b = none → b ≠ a ∧ H0 b = none := fun {b} hb => by
    have hba : b ≠ a := fun e => by subst e; rw [upd_same] at hb; cases hb
    exact ⟨hba, by rwa [upd_ne hba] at hb⟩
  refine ⟨fun j c hj => ?_, by rw [List.length_set, n.len], fun j e hj => ?_, fun j ys hj => ?_, fun j k ys zs b hjk hj hk hb => ?_, fun j hj => ?_⟩
  · by_cases hij : i = j
    · subst hij
      rw [List.getElem?_set_self hi] at hj
      cases hj
    · rw [List.getElem?_set_ne hij] at hj
      exact n.ex j c hj
  · by_cases hij : i = j
    · subst hij
      rw [List.getElem?_set_self hi] at hj
      cases hj
    · rw [List.getElem?_set_ne hij] at hj
      exact n.pv j e hj
  · by_cases hij : i = j
    · subst hij
      rw [List.getElem?_set_self hi] at hj
      cases hj
      exact ⟨a, vs, q1, h2, r, h3, h4⟩
    · rw [List.getElem?_set_ne hij] at hj
      obtain ⟨b, us, p1, p2, p3, p4, p5⟩ := n.li j ys hj
      exact ⟨b, us, p1, p2, p3, p4, (hne p5).2⟩
  · by_cases hij : i = j
    · subst hij
      rw [q1] at hb
      cases hb
      rw [List.getElem?_set_ne hjk] at hk
      intro e
      obtain ⟨b, us, p1, _, _, _, p5⟩ := n.li k zs hk
      rw [e] at p1
      cases p1
      exact (hne p5).1 rfl
    · rw [List.getElem?_set_ne hij] at hj
      by_cases hik : i = k
      · subst hik
        rw [q1]
        intro e
        cases e
        obtain ⟨b', us, p1, _, _, _, p5⟩ := n.li j ys hj
        rw [hb] at p1
        cases p1
        exact (hne p5).1 rfl
      · rw [List.getElem?_set_ne hik] at hk
        exact n.ap j k ys zs b hjk hj hk hb
  · by_cases hij : i = j
    · subst hij
      rw [List.getElem?_set_self hi] at hj
      cases hj
    · rw [List.getElem?_set_ne hij] at hj
      have := n.hd j hj
      unfold hidE at this
      rwa [if_neg (Ne.symm hij)] at this
theorem forLB {i : Nat} {tg : Tg} {b : Ev → Option Out} {tb : TS} (hb : GoodS K Ξ b tb) :
    GoodS K Ξ (fun env => (liAt env i).bind fun xs => (forD (fun d e => bindT tg d e) b xs (env.set i .hid)).bind fun o => unhid i xs o) (tFor (rdI K ρ ξ Ξ γ W (.sql (.slot i))) (rdG K tg) tb) := by
  refine ⟨fun {η F0 H0 F H σ env o D} g n ev w => ?_⟩
  obtain ⟨ds, h1, ev⟩ := bindE ev
  obtain ⟨o1, h2, ev⟩ := bindE ev
  have h3 : env[i]? = some (.li ds) := by
    unfold liAt at h1
    split at h1
    · rename_i xs e; cases h1; exact e
    · cases h1
  obtain ⟨a, vs, q1, q2, q3, q4, q5⟩ := n.li i ds h3
  have nS := n.shut (vs := vs) h3 q1
  have hp0 : ∀ b, H0 b ≠ none → b ≠ a := fun b hb e => hb (by rw [e]; exact q5)
  have gS : Gr F (upd H0 a (.lst vs)) F H := by
    refine ⟨Same.refl _, fun b o e => ?_, g.fh, fun _ _ => rfl⟩
    by_cases hba : b = a
    · subst hba; rw [upd_same] at e; cases e; exact q2
    · rw [upd_ne hba] at e; exact g.hh b o e
  have dn : ∀ {F' H'}, Gr F (upd H0 a (.lst vs)) F' H' → Gr F0 H0 F' H' ∧ F' a = none ∧ H' a = some (.lst vs) := fun {F' H'} q => by
    refine ⟨⟨g.ff.trans q.ff, fun b o e => q.hh b o ?_, q.fh, fun b hb => ?_⟩, ?_, q.hh a _ upd_same⟩
    · rw [upd_ne (hp0 b (by rw [e]; exact fun z => nomatch z))]; exact e
    · rw [q.fr b (by rw [upd_ne (hp0 b hb)]; exact hb), g.fr b hb]
    · rw [q.fr a (by rw [upd_same]; exact fun z => nomatch z)]; exact q4
  have w1 : WishS K Ξ (hidE η i a) F (upd H0 a (.lst vs)) D o1 := by
    cases o1 with
    | nx e =>
      have ev' : (if isHid e[i]? = true then some (Out.nx (e.set i (.li ds))) else none) = some o := ev
      by_cases hh : isHid e[i]? = true
      · rw [if_pos hh] at ev'
        have e0 := Option.some.inj ev'
        subst e0
        have he : e[i]? = some .hid := by
          unfold isHid at hh
          split at hh
          · rename_i q; exact q
          · cases hh
        intro F' H' σ' g' n'
        obtain ⟨d1, d2, d3⟩ := dn g'
        exact w F' H' σ' d1 (n'.open he d3 (q3.mono g'.ff) d2 q5)
      · rw [if_neg hh] at ev'; cases ev'
    | rt r =>
      have e0 : Out.rt r = o := Option.some.inj ev
      subst e0
      intro F' H' v g' r'
      refine w F' H' v (dn g').1 ?_
      cases r with
      | pv d => exact r'
      | li xs =>
        obtain ⟨b, us, e1, e2, e3, e4, e5⟩ := r'
        have hba : b ≠ a := fun z => by subst z; rw [upd_same] at e5; cases e5
        exact ⟨b, us, e1, e2, e3, e4, by rwa [upd_ne hba] at e5⟩
    | bk e => exact nomatch (show none = some o from ev)
    | ct e => exact nomatch (show none = some o from ev)
  simp only [rdI, rd]
  refine ⟨.ref a, q1, a, rfl, .inl ⟨⟨vs, SqL.of q2⟩, ?_⟩⟩
  refine ⟨fun k m σ H => m = ds.length - k ∧ k ≤ ds.length ∧ ∃ F' env, Gr F (upd H0 a (.lst vs)) F' H ∧ Rn K Ξ (hidE η i a) (upd H0 a (.lst vs)) F' H σ env ∧ forD (fun d e => bindT tg d e) b (ds.drop k) env = some o1, ⟨ds.length, by simp, Nat.zero_le _, F, _, gS, nS, h2⟩, fun k m σ H hW => ?_⟩
  obtain ⟨rfl, hi, F1, env, g, n, hf⟩ := hW
  have st := stp_list g.fh (SqL.of (g.hh a _ upd_same)) (q3.mono g.ff)
  by_cases hlt : k < ds.length
  · refine .inr ?_
    have ei : ds[k]? = some ds[k] := List.getElem?_eq_getElem hlt
    obtain ⟨go, yl⟩ := st.1 k _ ei
    refine ⟨go, fun σ' H' => ∃ F' env, Gr F (upd H0 a (.lst vs)) F' H' ∧ Rn K Ξ (hidE η i a) (upd H0 a (.lst vs)) F' H' σ' env ∧ forD (fun d e => bindT tg d e) b (ds.drop (k + 1)) env = some o1, fun σ' H' hN => ⟨ds.length - (k + 1), by omega, rfl, hlt, hN⟩, fun x H2 hy => ?_⟩
    obtain ⟨F2, g2, r2⟩ := yl x H2 hy
    rw [List.drop_eq_getElem_cons hlt] at hf
    simp only [forD] at hf
    obtain ⟨e2, hb2, hf⟩ := bindE hf
    obtain ⟨o', ho, hf⟩ := bindE hf
    have gg := g.trans g2
    refine bindT_ok g2.fh hb2 r2 (n.mono g2) fun σ2 n2 _ _ => ?_
    refine (show ∀ {D : Ends}, WishS K Ξ (hidE η i a) F2 (upd H0 a (.lst vs)) D o' → tb D σ2 H2 from fun w' => hb.run (F0 := F2) ⟨Same.refl _, fun a u e => gg.hh a u e, g2.fh, fun a ha => rfl⟩ n2 ho w') ?_
    have up : ∀ F' H', Gr F2 (upd H0 a (.lst vs)) F' H' → Gr F (upd H0 a (.lst vs)) F' H' := fun F' H' q => ⟨gg.ff.trans q.ff, q.hh, q.fh, fun a ha => by rw [q.fr a ha, gg.fr a ha]⟩
    cases o' with
    | nx e => exact fun F' H' σ' g' n' => ⟨F', e, up _ _ g', n', hf⟩
    | ct e => exact fun F' H' σ' g' n' => ⟨F', e, up _ _ g', n', hf⟩
    | bk e =>
      have e0 : Out.nx e = o1 := Option.some.inj hf
      subst e0
      exact fun F' H' σ' g' n' => w1 F' H' σ' (up _ _ g') n'
    | rt r =>
      have e0 : Out.rt r = o1 := Option.some.inj hf
      subst e0
      exact fun F' H' v g' r' => w1 F' H' v (up _ _ g') r'
  · have ei : k = ds.length := by omega
    refine .inl ⟨by rw [ei]; exact st.2, ?_⟩
    rw [ei, List.drop_length] at hf
    have e0 : Out.nx env = o1 := Option.some.inj hf
    subst e0
    exact w1 F1 H σ g n
theorem seqSB {x r : Ev → Option Out} {t u : TS} (hx : GoodS K Ξ x t) (hr : GoodS K Ξ r u) : GoodS K Ξ (fun env => (x env).bind fun o => o.seq r) (tSeq t u) := by
  refine ⟨fun {η F0 H0 F H σ env o D} g n ev w => ?_⟩
  obtain ⟨o', ho, ev⟩ := bindE ev
  refine hx.run (D := { D with nx := u D }) g n ho ?_
  cases o' with
  | nx e => exact fun F' H' σ' g' n' => hr.run g' n' ev w
  | bk e =>
    have e0 : Out.bk e = o := Option.some.inj ev
    subst e0
    exact w
  | ct e =>
    have e0 : Out.ct e = o := Option.some.inj ev
    subst e0
    exact w
  | rt r =>
    have e0 : Out.rt r = o := Option.some.inj ev
    subst e0
    exact w
end
end PL

/-! P12x -/
namespace PL
open PySem PySem.Spec PyProof.Rows L2 RZ
section
variable {K : PySem.W.Frag} {ρ : Str → List D → Option Rv} {ξ : Str → List D → Option Str} {Ξ : Xt} {κ : Str → Option D} {γ : Str → V} {W : WX}
/-- what is wished of a statement's error -/
def WishSX (K : PySem.W.Frag) (Ξ : Xt) (η : Nat → Option V) (W : WX) (F0 H0 : Hp) (c : Str) (e : Ev) : Prop := c ∈ Ξ.xcs → ∀ F' H' σ', Gr F0 H0 F' H' → Rn K Ξ η H0 F' H' σ' e → W (.ref (Ξ.θ c)) none σ' H'
structure GoodSX (K : PySem.W.Frag) (Ξ : Xt) (W : WX) (xv : Ev → Option (Str × Ev)) (t : TS) : Prop where
  run : ∀ {η : Nat → Option V} {F0 H0 F H : Hp} {σ : L2.St} {env e : Ev} {c : Str} {D : Ends}, Gr F0 H0 F H → Rn K Ξ η H0 F H σ env → xv env = some (c, e) → WishSX K Ξ η W F0 H0 c e → t D σ H
theorem WishSX.at {η : Nat → Option V} {F0 H0 F H : Hp} {σ : L2.St} {env : Ev} {c : Str} (w : WishSX K Ξ η W F0 H0 c env) (g : Gr F0 H0 F H) (n : Rn K Ξ η H0 F H σ env) : WishX Ξ F H (WE W σ) c := fun hc F' H' g' => w hc F' H' σ (g.trans g') (n.mono g')
theorem Rn.setEx {η : Nat → Option V} {H0 F H : Hp} {σ : L2.St} {env : Ev} (r : Rn K Ξ η H0 F H σ env) {i : Nat} {a : Addr} {c : Str} (hi : i < env.length) (hc : c ∈ Ξ.xcs) (h : ExAt H a (Ξ.θ c)) : Rn K Ξ η H0 F H (σ.set i (some (.ref a))) (env.set i (Sl.ex c)) where
  ex j d hj := by
    by_cases hij : i = j
    · subst hij
      rw [List.getElem?_set_self hi] at hj
      cases hj
      exact ⟨hc, a, by rw [List.getElem?_set_self (by rw [r.len]; exact hi)], h⟩
    · rw [List.getElem?_set_ne hij] at hj ⊢
      exact r.ex j d hj
  len := by rw [List.length_set, List.length_set, r.len]
  pv j e hj := by
    by_cases hij : i = j
    · subst hij
      rw [List.getElem?_set_self hi] at hj
      cases hj
    · rw [List.getElem?_set_ne hij] at hj ⊢
      exact r.pv j e hj
  li j xs hj := by
    by_cases hij : i = j
    · subst hij
      rw [List.getElem?_set_self hi] at hj
      cases hj
    · rw [List.getElem?_set_ne hij] at hj ⊢
      exact r.li j xs hj
  ap j k xs ys b hjk hj hk := by
    by_cases hij : i = j
    · subst hij
      rw [List.getElem?_set_self hi] at hj
      cases hj
    · by_cases hik : i = k
      · subst hik
        rw [List.getElem?_set_self hi] at hk
        cases hk
      · rw [List.getElem?_set_ne hij] at hj ⊢
        rw [List.getElem?_set_ne hik] at hk ⊢
        exact r.ap j k xs ys b hjk hj hk
  hd j hj := by
    by_cases hij : i = j
    · subst hij
      rw [List.getElem?_set_self hi] at hj
      cases hj
    · rw [List.getElem?_set_ne hij] at hj ⊢
      exact r.hd j hj
/-- an except suite -/
theorem goodHs (hκ : KOk K κ γ) (hX : XtOk K Ξ) : ∀ (h : List Hs), okHs Ξ.xts h = true → ∀ {η : Nat → Option V} {F0 H0 F H : Hp} {σ : L2.St} {env e : Ev} {D : Ends}, Gr F0 H0 F H → Rn K Ξ η H0 F H σ env → evHs ρ κ h env = some e → WishS K Ξ η F0 H0 D (.nx e) → rdHs K ρ ξ Ξ γ h D σ H
  | [], _, η, F0, H0, F, H, σ, env, e, D, g, n, ev, w => by
    simp only [evHs, Option.some.injEq] at ev
    subst ev
    rw [rdHs]
    exact w F H σ g n
  | .asg j x :: r, hx, η, F0, H0, F, H, σ, env, e, D, g, n, ev, w => by
    simp only [okHs] at hx
    simp only [evHs] at ev
    obtain ⟨d, h1, ev⟩ := bindE ev
    split at ev
    · rename_i hj
      rw [rdHs]
      exact (goodE hκ hX WX0 x (and_l hx)).val g.fh n h1 fun F1 H1 v g1 r1 => goodHs hκ hX r (and_r hx) (g.trans g1) ((n.mono g1).set hj r1) ev w
    · cases ev
  | .cpe j i :: r, hx, η, F0, H0, F, H, σ, env, e, D, g, n, ev, w => by
    simp only [okHs] at hx
    simp only [evHs] at ev
    split at ev
    · rename_i c hi
      split at ev
      · rename_i hj
        rw [rdHs]
        obtain ⟨hc, a, h1, h2⟩ := n.ex i c hi
        exact ⟨.ref a, h1, goodHs hκ hX r hx g (n.setEx hj.1 hc h2) ev w⟩
      · cases ev
    · cases ev
theorem forXB {it : Itx} {tg : Tg} {b : Ev → Option Out} {xb : Ev → Option (Str × Ev)} {tb : TS} (hκ : KOk K κ γ) (hX : XtOk K Ξ) (hi : okI Ξ.xts it = true) (hb : GoodS K Ξ b tb) (hxb : GoodSX K Ξ W xb tb) :
    GoodSX K Ξ W (fun env => (evJ ρ κ it env).bind fun ds => forX (fun d e => bindT tg d e) b xb ds env) (tFor (rdI K ρ ξ Ξ γ W it) (rdG K tg) tb) := by
  refine ⟨fun {η F0 H0 F H σ env e c D} g n ev w => ?_⟩
  obtain ⟨ds, h1, ev⟩ := bindE ev
  refine goodJ hκ hX it hi g.fh n h1 fun J F1 H1 g1 ij => ?_
  refine ⟨fun i m σ H => m = ds.length - i ∧ i ≤ ds.length ∧ ∃ F env, Same F1 F ∧ Gr F0 H0 F H ∧ Rn K Ξ η H0 F H σ env ∧ forX (fun d e => bindT tg d e) b xb (ds.drop i) env = some (c, e), ⟨ds.length, by simp, Nat.zero_le _, F1, env, Same.refl _, g.trans g1, n.mono g1, ev⟩, fun i m σ H hW => ?_⟩
  obtain ⟨rfl, hi, F, env, s1, g, n, hf⟩ := hW
  have st := ij F H s1 g.fh
  by_cases hlt : i < ds.length
  · refine .inr ?_
    have ei : ds[i]? = some ds[i] := List.getElem?_eq_getElem hlt
    obtain ⟨go, yl⟩ := st.1 i _ ei
    refine ⟨go, fun σ' H' => ∃ F env, Same F1 F ∧ Gr F0 H0 F H' ∧ Rn K Ξ η H0 F H' σ' env ∧ forX (fun d e => bindT tg d e) b xb (ds.drop (i + 1)) env = some (c, e), fun σ' H' hN => ⟨ds.length - (i + 1), by omega, rfl, hlt, hN⟩, fun x H2 hy => ?_⟩
    obtain ⟨F2, g2, r2⟩ := yl x H2 hy
    rw [List.drop_eq_getElem_cons hlt] at hf
    simp only [forX] at hf
    obtain ⟨e2, hb2, hf⟩ := bindE hf
    have gg := g.trans g2
    refine bindT_ok g2.fh hb2 r2 (n.mono g2) fun σ2 n2 _ _ => ?_
    have base : Gr F2 H0 F2 H2 := ⟨Same.refl _, fun a u e => gg.hh a u e, g2.fh, fun a ha => rfl⟩
    have up : ∀ F' H', Gr F2 H0 F' H' → Gr F0 H0 F' H' ∧ Same F1 F' := fun F' H' q => ⟨⟨gg.ff.trans q.ff, q.hh, q.fh, fun a ha => by rw [q.fr a ha, gg.fr a ha]⟩, (s1.trans g2.ff).trans q.ff⟩
    split at hf
    · rename_i q hq
      cases hf
      exact hxb.run base n2 hq fun hc F' H' σ' g' n' => w hc F' H' σ' (up _ _ g').1 n'
    · obtain ⟨o', ho, hf⟩ := bindE hf
      refine (show ∀ {D : Ends}, WishS K Ξ η F2 H0 D o' → tb D σ2 H2 from fun w' => hb.run base n2 ho w') ?_
      cases o' with
      | nx e => exact fun F' H' σ' g' n' => ⟨F', e, (up _ _ g').2, (up _ _ g').1, n', hf⟩
      | ct e => exact fun F' H' σ' g' n' => ⟨F', e, (up _ _ g').2, (up _ _ g').1, n', hf⟩
      | bk e => cases hf
      | rt r => cases hf
  · have ei : i = ds.length := by omega
    rw [ei, List.drop_length] at hf
    cases hf
end
end PL

/-! P13 -/
namespace PL
open PySem PySem.Spec PyProof.Rows L2 RZ
section
variable {K : PySem.W.Frag} {ρ : Str → List D → Option Rv} {ξ : Str → List D → Option Str} {Ξ : Xt} {κ : Str → Option D} {γ : Str → V}
/-- the list of slot i is held for ever from now on -/
theorem frzB {η : Nat → Option V} {F0 H0 F H : Hp} {σ : L2.St} {env : Ev} {i : Nat} {xs : List D} (g : Gr F0 H0 F H) (n : Rn K Ξ η H0 F H σ env) (h3 : env[i]? = some (Sl.li xs)) : ∃ F', Gr F0 H0 F' H ∧ Rn K Ξ η H0 F' H σ (env.set i (.pv (.lst xs))) := by
  have hi := lt_of_get h3
  obtain ⟨a, vs, q1, q2, q3, q4, q5⟩ := n.li i xs h3
  refine ⟨_, g.freeze q5 q4 q2, ?_⟩
  refine ⟨fun j c hj => ?_, by rw [List.length_set, n.len], fun j e hj => ?_, fun j ys hj => ?_, fun j k ys zs b hjk hj hk => ?_, fun j hj => ?_⟩
  · by_cases hij : i = j
    · subst hij
      rw [List.getElem?_set_self hi] at hj
      cases hj
    · rw [List.getElem?_set_ne hij] at hj
      exact n.ex j c hj
  · by_cases hij : i = j
    · subst hij
      rw [List.getElem?_set_self hi] at hj
      cases hj
      refine ⟨_, q1, ?_⟩
      simp only [R]
      exact ⟨a, vs, rfl, upd_same, q3.mono (same_upd q4)⟩
    · rw [List.getElem?_set_ne hij] at hj
      obtain ⟨v, p1, p2⟩ := n.pv j e hj
      exact ⟨v, p1, p2.mono (same_upd q4)⟩
  · by_cases hij : i = j
    · subst hij
      rw [List.getElem?_set_self hi] at hj
      cases hj
    · rw [List.getElem?_set_ne hij] at hj
      obtain ⟨b, us, p1, p2, p3, p4, p5⟩ := n.li j ys hj
      have hba : b ≠ a := fun e => by
        subst e
        exact n.ap i j xs ys b hij h3 hj q1 p1
      exact ⟨b, us, p1, p2, p3.mono (same_upd q4), by rw [upd_ne hba]; exact p4, p5⟩
  · by_cases hij : i = j
    · subst hij
      rw [List.getElem?_set_self hi] at hj
      cases hj
    · by_cases hik : i = k
      · subst hik
        rw [List.getElem?_set_self hi] at hk
        cases hk
      · rw [List.getElem?_set_ne hij] at hj
        rw [List.getElem?_set_ne hik] at hk
        exact n.ap j k ys zs b hjk hj hk
  · by_cases hij : i = j
    · subst hij
      rw [List.getElem?_set_self hi] at hj
      cases hj
    · rw [List.getElem?_set_ne hij] at hj
      exact n.hd j hj
mutual
theorem goodS (hκ : KOk K κ γ) (hX : XtOk K Ξ) : ∀ (W : WX) (x : St), okS Ξ.xts Ξ.xcs x = true → (∀ i, x ≠ .frz i) → GoodS K Ξ (evS ρ ξ κ x) (rdS K ρ ξ Ξ γ W x)
  | W, .pass, _, _ => by
    refine ⟨fun {η F0 H0 F H σ env o D} g n ev w => ?_⟩
    simp only [evS, Option.some.injEq] at ev
    subst ev
    rw [rdS]
    exact w F H σ g n
  | W, .drop e, hx, _ => by
    refine ⟨fun {η F0 H0 F H σ env o D} g n ev w => ?_⟩
    simp only [okS] at hx
    simp only [evS] at ev
    obtain ⟨r, h1, ev⟩ := mapE ev
    subst ev
    rw [rdS]
    exact (goodE hκ hX W e hx).1 g.fh n h1 fun F1 H1 v g1 _ => w F1 H1 σ (g.trans g1) (n.mono g1)
  | W, .asg t e, hx, _ => by
    refine ⟨fun {η F0 H0 F H σ env o D} g n ev w => ?_⟩
    simp only [okS] at hx
    simp only [evS] at ev
    obtain ⟨d, h1, ev⟩ := bindE ev
    obtain ⟨env2, h2, ev⟩ := mapE ev
    subst ev
    rw [rdS]
    refine (goodE hκ hX W e hx).val g.fh n h1 fun F1 H1 v g1 r1 => ?_
    exact bindT_ok g1.fh h2 r1 (n.mono g1) fun σ2 n2 _ _ => w F1 H1 σ2 (g.trans g1) n2
  | W, .own i e, hx, _ => by
    refine ⟨fun {η F0 H0 F H σ env o D} g n ev w => ?_⟩
    simp only [okS] at hx
    simp only [evS] at ev
    obtain ⟨r, h1, ev⟩ := bindE ev
    rw [rdS]
    refine (goodE hκ hX W e hx).1 g.fh n h1 fun F1 H1 v g1 r1 => ?_
    cases r with
    | pv d => cases ev
    | li xs =>
      obtain ⟨env2, h2, ev⟩ := mapE ev
      subst ev
      unfold setLi at h2
      split at h2
      · rename_i hi
        cases h2
        obtain ⟨a, vs, rfl, q1, q2, q3, q4⟩ := r1
        refine w F1 H1 _ (g.trans g1) ((n.mono g1).setLi hi q1 q2 q3 (g.fresh q4) fun j ys hj hy hs => ?_)
        obtain ⟨b, us, e1, e2, _⟩ := n.li j ys hy
        rw [hs] at e1
        cases e1
        rw [e2] at q4
        cases q4
      · cases h2
  | W, .par i j a b, hx, _ => by
    refine ⟨fun {η F0 H0 F H σ env o D} g n ev w => ?_⟩
    simp only [okS] at hx
    simp only [evS] at ev
    obtain ⟨x, h1, ev⟩ := bindE ev
    obtain ⟨y, h2, ev⟩ := bindE ev
    split at ev
    · rename_i hij
      have e0 := Option.some.inj ev
      subst e0
      rw [rdS]
      refine (goodE hκ hX W a (and_l hx)).val g.fh n h1 fun F1 H1 v g1 r1 => ?_
      refine (goodE hκ hX W b (and_r hx)).val g1.fh (n.mono g1) h2 fun F2 H2 u g2 r2 => ?_
      refine ⟨v, u, rfl, w F2 H2 _ (g.trans (g1.trans g2)) ?_⟩
      exact (((n.mono g1).mono g2).set hij.1 (r1.mono g2.ff)).set (by rw [List.length_set]; exact hij.2) r2
    · cases ev
  | W, .frz i, _, hf => absurd rfl (hf i)
  | W, .app i e, hx, _ => by
    refine ⟨fun {η F0 H0 F H σ env o D} g n ev w => ?_⟩
    simp only [okS] at hx
    simp only [evS] at ev
    obtain ⟨d, h1, ev⟩ := bindE ev
    obtain ⟨xs, h2, ev⟩ := bindE ev
    have h3 := liAtE h2
    split at ev
    · rename_i hl
      have e0 := Option.some.inj ev
      subst e0
      rw [rdS]
      obtain ⟨a, vs, q1, q2, q3, q4, q5⟩ := n.li i xs h3
      refine ⟨.ref a, q1, .inl ⟨rfl, vs, SqL.of q2⟩, ?_⟩
      refine (goodE hκ hX W e hx).val g.fh n h1 fun F1 H1 v g1 r1 => ?_
      have n1 := n.mono g1
      obtain ⟨a', vs', p1, p2, p3, p4, p5⟩ := n1.li i xs h3
      have ea : a' = a := by rw [q1] at p1; cases p1; rfl
      subst ea
      refine ⟨a', vs', v, rfl, rfl, p2, by rw [sizeL, p3.length]; exact hl, ?_⟩
      exact w F1 _ σ ((g.trans g1).mut p5 p4) (n1.mut h3 p1 (p3.append (Rs.one r1)))
    · cases ev
  | W, .ext i e, hx, _ => by
    refine ⟨fun {η F0 H0 F H σ env o D} g n ev w => ?_⟩
    simp only [okS] at hx
    simp only [evS] at ev
    obtain ⟨d, h1, ev⟩ := bindE ev
    obtain ⟨xs, h2, ev⟩ := bindE ev
    have h3 := liAtE h2
    cases d <;> simp only [reduceCtorEq] at ev
    rename_i ys
    split at ev
    · rename_i hl
      have e0 := Option.some.inj ev
      subst e0
      rw [rdS]
      obtain ⟨a, vs, q1, q2, q3, q4, q5⟩ := n.li i xs h3
      refine ⟨.ref a, q1, .inl ⟨rfl, vs, SqL.of q2⟩, ?_⟩
      refine (goodE hκ hX W e hx).view g.fh n h1 fun F1 H1 v g1 r1 => ?_
      have n1 := n.mono g1
      obtain ⟨a', vs', p1, p2, p3, p4, p5⟩ := n1.li i xs h3
      have ea : a' = a := by rw [q1] at p1; cases p1; rfl
      subst ea
      obtain ⟨b, us, rfl, t, r⟩ := r1.lst g1.fh
      refine ⟨a', b, vs', us, rfl, rfl, p2, t, by rw [sizeL, p3.length, r.length]; exact hl, ?_⟩
      exact w F1 _ σ ((g.trans g1).mut p5 p4) (n1.mut h3 p1 (p3.append r))
    · cases ev
  | W, .rem i e, hx, _ => by
    refine ⟨fun {η F0 H0 F H σ env o D} g n ev w => ?_⟩
    simp only [okS] at hx
    simp only [evS] at ev
    obtain ⟨d, h1, ev⟩ := bindE ev
    obtain ⟨xs, h2, ev⟩ := bindE ev
    have h3 := liAtE h2
    split at ev
    · rename_i hs
      obtain ⟨j, h4, ev⟩ := mapE ev
      subst ev
      rw [rdS]
      obtain ⟨a, vs, q1, q2, q3, q4, q5⟩ := n.li i xs h3
      refine ⟨.ref a, q1, .inl ⟨rfl, vs, SqL.of q2⟩, ?_⟩
      refine (goodE hκ hX W e hx).val g.fh n h1 fun F1 H1 v g1 r1 => ?_
      have n1 := n.mono g1
      obtain ⟨a', vs', p1, p2, p3, p4, p5⟩ := n1.li i xs h3
      have ea : a' = a := by rw [q1] at p1; cases p1; rfl
      subst ea
      obtain ⟨z, e1, e2, e3⟩ := idxOf_is h4
      have sl : SeqAt.shaped (.list (toPys xs)) = true := shp_shaped (d := .lst xs) hs.2
      refine ⟨a', v, vs', toPy d, toPys xs, j, toPy z, rfl, rfl, p2, Rs.dp g1.fh xs p3, R.dp g1.fh d r1, sl, shp_shaped hs.1, toPys_get e1, e2, e3, ?_⟩
      exact w F1 _ σ ((g.trans g1).mut p5 p4) (n1.mut h3 p1 (p3.eraseIdx j))
    · cases ev
  | W, .sto i ix e, hx, _ => by
    refine ⟨fun {η F0 H0 F H σ env o D} g n ev w => ?_⟩
    simp only [okS] at hx
    simp only [evS] at ev
    obtain ⟨d, h1, ev⟩ := bindE ev
    obtain ⟨kd, h2, ev⟩ := bindE ev
    obtain ⟨k, h4, ev⟩ := bindE ev
    obtain ⟨xs, h5, ev⟩ := bindE ev
    obtain ⟨j, h6, ev⟩ := mapE ev
    subst ev
    have h3 := liAtE h5
    rw [rdS]
    refine (goodE hκ hX W e (and_r hx)).val g.fh n h1 fun F1 H1 v g1 r1 => ?_
    have n1 := n.mono g1
    obtain ⟨a, vs, q1, q2, q3, q4, q5⟩ := n1.li i xs h3
    refine ⟨.ref a, q1, ?_⟩
    refine (goodE hκ hX W ix (and_l hx)).val g1.fh n1 h2 fun F2 H2 u g2 r2 => ?_
    have n2 := n1.mono g2
    obtain ⟨a', vs', p1, p2, p3, p4, p5⟩ := n2.li i xs h3
    have ea : a' = a := by rw [q1] at p1; cases p1; rfl
    subst ea
    cases kd <;> simp only [asI, reduceCtorEq] at h4
    cases h4
    simp only [R] at r2
    subst r2
    refine ⟨a', vs', _, j, rfl, rfl, p2, by rw [p3.length]; exact h6, ?_⟩
    exact w F2 _ σ ((g.trans (g1.trans g2)).mut p5 p4) (n2.mut h3 p1 (p3.set j (r1.mono g2.ff)))
  | W, .aug i o e, hx, _ => by
    refine ⟨fun {η F0 H0 F H σ env oo D} g n ev w => ?_⟩
    simp only [okS] at hx
    simp only [evS] at ev
    split at ev
    · rename_i x hi
      obtain ⟨y, h1, ev⟩ := bindE ev
      obtain ⟨z, h2, ev⟩ := mapE ev
      subst ev
      rw [rdS]
      obtain ⟨v, q1, q2⟩ := n.pv i x hi
      refine ⟨v, q1, ?_⟩
      refine (goodE hκ hX W e hx).val g.fh n h1 fun F1 H1 u g1 r1 => ?_
      exact augB g1.fh o (q2.mono g1.ff) r1 h2 fun u' r' => w F1 H1 _ (g.trans g1) ((n.mono g1).set (lt_of_get hi) r')
    · cases ev
  | W, .ret e, hx, _ => by
    refine ⟨fun {η F0 H0 F H σ env o D} g n ev w => ?_⟩
    simp only [okS] at hx
    simp only [evS] at ev
    rw [rdS]
    have other : (evR ρ κ e env).map Out.rt = some o → tRet (rd K ρ ξ Ξ γ W e).1 D σ H := fun ev => by
      obtain ⟨r, h1, ev⟩ := mapE ev
      subst ev
      exact (goodE hκ hX W e hx).1 g.fh n h1 fun F1 H1 v g1 r1 => w F1 H1 v (g.trans g1) (r1.back g)
    cases e with
    | slot i =>
      simp only [retOf] at ev
      split at ev
      · rename_i xs hi
        cases ev
        obtain ⟨a, vs, q1, q2, q3, q4, q5⟩ := n.li i xs hi
        refine ⟨.ref a, q1, w F H _ g ⟨a, vs, rfl, q2, q3, q4, q5⟩⟩
      · rename_i d hi
        cases ev
        obtain ⟨v, q1, q2⟩ := n.pv i d hi
        exact ⟨v, q1, w F H v g q2⟩
      · cases ev
    | _ => exact other ev
  | W, .retN, _, _ => by
    refine ⟨fun {η F0 H0 F H σ env o D} g n ev w => ?_⟩
    simp only [evS, Option.some.injEq] at ev
    subst ev
    rw [rdS]
    exact w F H .non g (by simp only [RR, R])
  | W, .ifs c a b, hx, _ => by
    refine ⟨fun {η F0 H0 F H σ env o D} g n ev w => ?_⟩
    simp only [okS] at hx
    simp only [evS] at ev
    obtain ⟨k, h1, ev⟩ := bindE ev
    rw [rdS]
    refine (goodE hκ hX W c (and_l (and_l hx))).2 g.fh n h1 fun F1 H1 g1 => ?_
    cases k with
    | true => exact (goodSs hκ hX W a (and_r (and_l hx))).run (g.trans g1) (n.mono g1) ev w
    | false => exact (goodSs hκ hX W b (and_r hx)).run (g.trans g1) (n.mono g1) ev w
  | W, .whl c b, hx, _ => by
    simp only [okS] at hx
    rw [rdS]
    have h := whileB (ρ := ρ) (ξ := ξ) (W := W) (goodE hκ hX W c (and_l hx)) (goodSs hκ hX W b (and_r hx))
    refine ⟨fun {η F0 H0 F H σ env o D} g n ev w => ?_⟩
    simp only [evS] at ev
    exact h.run g n ev w
  | W, .for t it b, hx, _ => by
    simp only [okS] at hx
    rw [rdS]
    have h := forB (ρ := ρ) (ξ := ξ) (W := W) (tg := t) hκ hX (and_l hx) (goodSs hκ hX W b (and_r hx))
    refine ⟨fun {η F0 H0 F H σ env o D} g n ev w => ?_⟩
    simp only [evS] at ev
    exact h.run g n ev w
  | W, .forL t i b, hx, _ => by
    simp only [okS] at hx
    rw [rdS]
    have h := forLB (ρ := ρ) (ξ := ξ) (γ := γ) (W := W) (i := i) (tg := t) (goodSs hκ hX W b hx)
    refine ⟨fun {η F0 H0 F H σ env o D} g n ev w => ?_⟩
    simp only [evS] at ev
    exact h.run g n ev w
  | W, .cont, _, _ => by
    refine ⟨fun {η F0 H0 F H σ env o D} g n ev w => ?_⟩
    simp only [evS, Option.some.injEq] at ev
    subst ev
    rw [rdS]
    exact w F H σ g n
  | W, .brk, _, _ => by
    refine ⟨fun {η F0 H0 F H σ env o D} g n ev w => ?_⟩
    simp only [evS, Option.some.injEq] at ev
    subst ev
    rw [rdS]
    exact w F H σ g n
  | W, .never, _, _ => by
    refine ⟨fun {η F0 H0 F H σ env o D} g n ev w => ?_⟩
    simp only [evS, reduceCtorEq] at ev
  | W, .rais c, hx, _ => by
    refine ⟨fun {η F0 H0 F H σ env o D} g n ev w => ?_⟩
    simp only [evS, reduceCtorEq] at ev
  | W, .tryO b t h, hx, _ => by
    refine ⟨fun {η F0 H0 F H σ env o D} g n ev w => ?_⟩
    simp only [okS] at hx
    rw [rdS]
    have hb := and_l (and_l (and_l hx))
    have ht : t ∈ Ξ.xts := by simpa using and_r (and_l hx)
    have hv := of_decide_eq_true (and_r hx)
    rw [evS] at ev
    split at ev
    · rename_i o' h1
      cases ev
      exact (goodSs hκ hX _ b hb).run g n h1 w
    · obtain ⟨q, h1, ev⟩ := bindE ev
      obtain ⟨c, e⟩ := q
      split at ev
      · rename_i hs
        obtain ⟨e2, h2, ev⟩ := mapE ev
        subst ev
        refine (goodXSs hκ hX _ b hb).run g n h1 fun hc F' H' σ' g' n' => ⟨true, by rw [hX.exm c hc t ht hv, hs], fun _ a ha => ?_, fun z => nomatch z⟩
        exact goodHs hκ hX h (and_r (and_l (and_l hx))) g' n' h2 w
      · cases ev
  | W, .tryA b i t h, hx, _ => by
    refine ⟨fun {η F0 H0 F H σ env o D} g n ev w => ?_⟩
    simp only [okS] at hx
    rw [rdS]
    have hb := and_l (and_l (and_l hx))
    have ht : t ∈ Ξ.xts := by simpa using and_r (and_l hx)
    have hv := of_decide_eq_true (and_r hx)
    rw [evS] at ev
    split at ev
    · rename_i o' h1
      cases ev
      exact (goodSs hκ hX _ b hb).run g n h1 w
    · obtain ⟨q, h1, ev⟩ := bindE ev
      obtain ⟨c, e⟩ := q
      split at ev
      · rename_i hs
        obtain ⟨e2, h2, ev⟩ := mapE ev
        subst ev
        refine (goodXSs hκ hX _ b hb).run g n h1 fun hc F' H' σ' g' n' => ⟨true, by rw [hX.exm c hc t ht hv, hs.1], fun _ => ⟨Ξ.θ c, rfl, rfl, fun a ha => ?_⟩, fun z => nomatch z⟩
        have g2 : Gr F' H' F' (upd H' a (ExF (Ξ.θ c) a)) := Gr.newO _ g'.fh ha
        refine goodHs hκ hX h (and_r (and_l (and_l hx))) (g'.trans g2) ((n'.mono g2).setEx hs.2 hc upd_same) h2 fun F3 H3 σ3 g3 n3 => ?_
        exact w F3 H3 _ g3 (n3.unset i)
      · cases ev
theorem goodSs (hκ : KOk K κ γ) (hX : XtOk K Ξ) : ∀ (W : WX) (x : Sts), okSs Ξ.xts Ξ.xcs x = true → GoodS K Ξ (evSs ρ ξ κ x) (rdSs K ρ ξ Ξ γ W x)
  | W, .nil, _ => by
    refine ⟨fun {η F0 H0 F H σ env o D} g n ev w => ?_⟩
    simp only [evSs, Option.some.injEq] at ev
    subst ev
    rw [rdSs]
    exact w F H σ g n
  | W, .cons x r, hx => by
    simp only [okSs] at hx
    have ih := goodSs hκ hX W r (and_r hx)
    have other : (∀ i, x ≠ .frz i) → GoodS K Ξ (evSs ρ ξ κ (.cons x r)) (tSeq (rdS K ρ ξ Ξ γ W x) (rdSs K ρ ξ Ξ γ W r)) := fun hf => by
      have h := seqSB (goodS hκ hX W x (and_l hx) hf) ih
      refine ⟨fun {η F0 H0 F H σ env o D} g n ev w => ?_⟩
      simp only [evSs] at ev
      exact h.run g n ev w
    cases x with
    | frz i =>
      rw [rdSs]
      refine ⟨fun {η F0 H0 F H σ env o D} g n ev w => ?_⟩
      simp only [evSs, evS] at ev
      obtain ⟨o', h1, ev⟩ := bindE ev
      obtain ⟨xs, h2, h1⟩ := mapE h1
      subst h1
      obtain ⟨F2, g2, n2⟩ := frzB g n (liAtE h2)
      exact ih.run g2 n2 ev w
    | _ => exact other fun i => by intro z; cases z
theorem goodXS (hκ : KOk K κ γ) (hX : XtOk K Ξ) : ∀ (W : WX) (x : St), okS Ξ.xts Ξ.xcs x = true → GoodSX K Ξ W (xS ρ ξ κ x) (rdS K ρ ξ Ξ γ W x)
  | W, .drop e, hx => ⟨fun {η F0 H0 F H σ env e' c D} g n ev w => by
    simp only [okS] at hx
    simp only [xS] at ev
    obtain ⟨c', h1, ev⟩ := mapE ev
    cases ev
    rw [rdS]
    exact (goodXE hκ hX W e hx).1 g.fh n h1 (w.at g n)⟩
  | W, .asg t e, hx => ⟨fun {η F0 H0 F H σ env e' c D} g n ev w => by
    simp only [okS] at hx
    simp only [xS] at ev
    obtain ⟨c', h1, ev⟩ := mapE ev
    cases ev
    rw [rdS]
    exact (goodXE hκ hX W e hx).1 g.fh n h1 (w.at g n)⟩
  | W, .own i e, hx => ⟨fun {η F0 H0 F H σ env e' c D} g n ev w => by
    simp only [okS] at hx
    simp only [xS] at ev
    obtain ⟨c', h1, ev⟩ := mapE ev
    cases ev
    rw [rdS]
    exact (goodXE hκ hX W e hx).1 g.fh n h1 (w.at g n)⟩
  | W, .app i e, hx => ⟨fun {η F0 H0 F H σ env e' c D} g n ev w => by
    simp only [okS] at hx
    simp only [xS] at ev
    split at ev
    · rename_i xs h3
      obtain ⟨c', h1, ev⟩ := mapE ev
      cases ev
      rw [rdS]
      obtain ⟨a, vs, q1, q2, q3, q4, q5⟩ := n.li i xs h3
      exact ⟨.ref a, q1, .inl ⟨rfl, vs, SqL.of q2⟩, (goodXE hκ hX W e hx).1 g.fh n h1 (w.at g n)⟩
    · cases ev⟩
  | W, .aug i o e, hx => ⟨fun {η F0 H0 F H σ env e' c D} g n ev w => by
    simp only [okS] at hx
    simp only [xS] at ev
    split at ev
    · rename_i d h3
      obtain ⟨c', h1, ev⟩ := mapE ev
      cases ev
      rw [rdS]
      obtain ⟨v, q1, q2⟩ := n.pv i d h3
      exact ⟨v, q1, (goodXE hκ hX W e hx).1 g.fh n h1 (w.at g n)⟩
    · cases ev⟩
  | W, .ret e, hx => ⟨fun {η F0 H0 F H σ env e' c D} g n ev w => by
    simp only [okS] at hx
    simp only [xS] at ev
    obtain ⟨c', h1, ev⟩ := mapE ev
    cases ev
    rw [rdS]
    exact (goodXE hκ hX W e hx).1 g.fh n h1 (w.at g n)⟩
  | W, .ifs x a b, hx => ⟨fun {η F0 H0 F H σ env e' c D} g n ev w => by
    simp only [okS] at hx
    rw [xS] at ev
    rw [rdS]
    split at ev
    · rename_i c' h1
      cases ev
      exact (goodXE hκ hX W x (and_l (and_l hx))).2 g.fh n h1 (w.at g n)
    · obtain ⟨k, h1, ev⟩ := bindE ev
      refine (goodE hκ hX W x (and_l (and_l hx))).2 g.fh n h1 fun F1 H1 g1 => ?_
      cases k with
      | true => exact (goodXSs hκ hX W a (and_r (and_l hx))).run (g.trans g1) (n.mono g1) ev w
      | false => exact (goodXSs hκ hX W b (and_r hx)).run (g.trans g1) (n.mono g1) ev w⟩
  | W, .for t it b, hx => by
    simp only [okS] at hx
    rw [rdS]
    have h := forXB (ρ := ρ) (ξ := ξ) (tg := t) (W := W) hκ hX (and_l hx) (goodSs hκ hX W b (and_r hx)) (goodXSs hκ hX W b (and_r hx))
    refine ⟨fun {η F0 H0 F H σ env e' c D} g n ev w => ?_⟩
    rw [xS] at ev
    exact h.run g n ev w
  | W, .rais c', hx => ⟨fun {η F0 H0 F H σ env e' c D} g n ev w => by
    simp only [okS] at hx
    simp only [xS] at ev
    cases ev
    rw [rdS]
    exact w (by simpa using hx) F H σ g n⟩
  | W, .pass, _ => ⟨fun g n ev w => by simp [xS] at ev⟩
  | W, .par _ _ _ _, _ => ⟨fun g n ev w => by simp [xS] at ev⟩
  | W, .frz _, _ => ⟨fun g n ev w => by simp [xS] at ev⟩
  | W, .ext _ _, _ => ⟨fun g n ev w => by simp [xS] at ev⟩
  | W, .forL _ _ _, _ => ⟨fun g n ev w => by simp [xS] at ev⟩
  | W, .rem _ _, _ => ⟨fun g n ev w => by simp [xS] at ev⟩
  | W, .sto _ _ _, _ => ⟨fun g n ev w => by simp [xS] at ev⟩
  | W, .retN, _ => ⟨fun g n ev w => by simp [xS] at ev⟩
  | W, .whl _ _, _ => ⟨fun g n ev w => by simp [xS] at ev⟩
  | W, .cont, _ => ⟨fun g n ev w => by simp [xS] at ev⟩
  | W, .brk, _ => ⟨fun g n ev w => by simp [xS] at ev⟩
  | W, .never, _ => ⟨fun g n ev w => by simp [xS] at ev⟩
  | W, .tryO _ _ _, _ => ⟨fun g n ev w => by simp [xS] at ev⟩
  | W, .tryA _ _ _ _, _ => ⟨fun g n ev w => by simp [xS] at ev⟩
theorem goodXSs (hκ : KOk K κ γ) (hX : XtOk K Ξ) : ∀ (W : WX) (x : Sts), okSs Ξ.xts Ξ.xcs x = true → GoodSX K Ξ W (xSs ρ ξ κ x) (rdSs K ρ ξ Ξ γ W x)
  | W, .nil, _ => ⟨fun g n ev w => by simp [xSs] at ev⟩
  | W, .cons x r, hx => by
    simp only [okSs] at hx
    have ix : GoodSX K Ξ W (xS ρ ξ κ x) (rdS K ρ ξ Ξ γ W x) := goodXS hκ hX W x (and_l hx)
    have ir : GoodSX K Ξ W (xSs ρ ξ κ r) (rdSs K ρ ξ Ξ γ W r) := goodXSs hκ hX W r (and_r hx)
    have other : (∀ i, x ≠ .frz i) → GoodSX K Ξ W (xSs ρ ξ κ (.cons x r)) (tSeq (rdS K ρ ξ Ξ γ W x) (rdSs K ρ ξ Ξ γ W r)) := fun hf => by
      have iv : GoodS K Ξ (evS ρ ξ κ x) (rdS K ρ ξ Ξ γ W x) := goodS hκ hX W x (and_l hx) hf
      refine ⟨fun {η F0 H0 F H σ env e' c D} g n ev w => ?_⟩
      rw [xSs] at ev
      split at ev
      · rename_i q h1
        cases ev
        exact ix.run g n h1 w
      · obtain ⟨o, h1, ev⟩ := bindE ev
        cases o with
        | nx e => exact iv.run (D := { D with nx := rdSs K ρ ξ Ξ γ W r D }) g n h1 fun F' H' σ' g' n' => ir.run g' n' ev w
        | _ => cases ev
    cases x with
    | frz i =>
      rw [rdSs]
      refine ⟨fun {η F0 H0 F H σ env e' c D} g n ev w => ?_⟩
      simp only [xSs, xS, evS] at ev
      obtain ⟨o', h1, ev⟩ := bindE ev
      obtain ⟨xs, h2, h1⟩ := mapE h1
      subst h1
      obtain ⟨F2, g2, n2⟩ := frzB g n (liAtE h2)
      exact ir.run g2 n2 ev w
    | _ => exact other fun i => by intro z; cases z
end
end
end PL

/-! P14 -/
namespace PL
open PySem PySem.Spec PyProof.Rows L2 RZ

def notComp : Expr → Bool
  | .ListComp _ _ _ _ => false
  | .SetComp _ _ _ _ => false
  | .DictComp _ _ _ _ _ => false
  | _ => true
def notTup : Expr → Bool
  | .Tuple _ _ _ => false
  | _ => true
/-- whether name = [..] swaps -/
def swB (sc : Scope) (x : Str) (p : Pos) (v : Expr) : Bool := match v with
  | .ListComp _ _ scope vp => decide (sc.names.lookup x = some .local) && (p.line == vp.line) && !(scope.names.any fun (n, k) => n == x && (k == .local || k == .cell))
  | _ => false
theorem swaps_no {v : Expr} {t : Option Expr} {l : Nat} {env : Env} (h : notComp v = true) : swapsWith v t l env = pure false := by
  cases v <;> first | rfl | cases h
theorem swapsSole_no {v t : Expr} {l : Nat} {env : Env} (h : notComp v = true) : swapsWithSole [t] v l env = pure false := swaps_no (t := some t) h
def anyE : Expr → Bool := fun _ => true
theorem swapsSole_tup {v : Expr} {es : List Expr} {k : Nat} {p : Pos} {l : Nat} {env : Env} : swapsWithSole [.Tuple es k p] v l env = pure false := by cases v <;> rfl
theorem swapsSole_sub {v o i : Expr} {p : Pos} {l : Nat} {env : Env} : swapsWithSole [.Subscript o i p] v l env = pure false := by cases v <;> rfl
/-- a name among the targets is seen from within -/
def celT (sc : Scope) (es : List Expr) : Bool := es.any fun e => match e with
  | .Name x _ => decide (sc.names.lookup x = some .cell)
  | _ => false
theorem fm_lt {α β : Type} (f : α → Option β) : ∀ {l : List α}, (∃ x ∈ l, f x = none) → (l.filterMap f).length < l.length
  | [], h => by simp at h
  | a :: l, h => by
    obtain ⟨x, hx, hf⟩ := h
    have le := List.length_filterMap_le f l
    rcases List.mem_cons.mp hx with rfl | hx
    · rw [List.filterMap_cons, hf]
      simp only [List.length_cons]
      omega
    · have := fm_lt f (l := l) ⟨x, hx, hf⟩
      rw [List.filterMap_cons]
      cases f a with
      | none => simp only [List.length_cons]; omega
      | some b => simp only [List.length_cons]; omega
theorem swapped_cel {es : List Expr} {k : Nat} {p : Pos} {v : Expr} {env : Env} (h : celT env.scope es = true) : swappedStores [.Tuple es k p] v env = pure none := by
  have key : ∀ vs k2 p2, swappedStores [.Tuple es k p] (.Tuple vs k2 p2) env = pure none := by
    intro vs k2 p2
    unfold celT at h
    obtain ⟨x, hx, hf⟩ := List.any_eq_true.mp h
    unfold swappedStores
    by_cases c1 : (!(es.length == 2 || es.length == 3) || vs.length != es.length || env.blockKind != .function) = true
    · exact if_pos c1
    refine (if_neg c1).trans ?_
    by_cases c2 : (vs.any fun | .Starred .. => true | _ => false) = true
    · exact if_pos c2
    refine (if_neg c2).trans ?_
    refine if_pos ?_
    rw [Bool.or_eq_true]
    left
    rw [bne_iff_ne]
    refine Nat.ne_of_lt (fm_lt _ ⟨x, hx, ?_⟩)
    cases x with
    | Name id pos =>
      have hc : env.kindOf id = some .cell := of_decide_eq_true hf
      show (if (env.kindOf id == some .local && _) = true then some id else none) = none
      rw [hc]
      rfl
    | _ => cases hf
  cases v <;> first | exact key _ _ _ | rfl
/-- x.m(v) -/
def methOf : Stmt → Option (Expr × Str × Pos × Expr × Pos)
  | .Expr (.Call (.Attribute (.Name x p) m ap) [v] [] cp) _ => some (.Name x p, m, ap, v, cp)
  | _ => none
theorem methOf_is {st : Stmt} {o v : Expr} {m : Str} {ap cp : Pos} (h : methOf st = some (o, m, ap, v, cp)) : ∃ x p pos, o = .Name x p ∧ st = .Expr (.Call (.Attribute (.Name x p) m ap) [v] [] cp) pos := by
  unfold methOf at h
  split at h
  · cases h
    exact ⟨_, _, _, rfl, rfl⟩
  · cases h
/-- x[k] = v -/
def stoOf : Stmt → Option (Expr × Expr × Expr)
  | .Assign [.Subscript (.Name x p) k _] v _ => some (.Name x p, k, v)
  | _ => none
theorem stoOf_is {st : Stmt} {o k v : Expr} (h : stoOf st = some (o, k, v)) : ∃ x p sp pos, o = .Name x p ∧ st = .Assign [.Subscript (.Name x p) k sp] v pos := by
  unfold stoOf at h
  split at h
  · cases h
    exact ⟨_, _, _, _, rfl, rfl⟩
  · cases h
/-- x, y = a, b -/
def parOf : Stmt → Option (Str × Pos × Str × Pos × Expr × Expr)
  | .Assign [.Tuple [.Name x px, .Name y py] _ _] (.Tuple [va, vb] _ _) _ => some (x, px, y, py, va, vb)
  | _ => none
theorem parOf_is {st : Stmt} {x y : Str} {px py : Pos} {va vb : Expr} (h : parOf st = some (x, px, y, py, va, vb)) : ∃ kt pt k2 p2 pos, st = .Assign [.Tuple [.Name x px, .Name y py] kt pt] (.Tuple [va, vb] k2 p2) pos := by
  unfold parOf at h
  split at h
  · cases h
    exact ⟨_, _, _, _, _, rfl⟩
  · cases h
theorem sw_false {sc : Scope} {x : Str} {p : Pos} {v : Expr} {l : Nat} {env : Env} (hk : env.scope.kind = .function) (hs : env.scope = sc) (h : swB sc x p v = false) (h2 : notComp v = true ∨ ∃ e gs s q, v = .ListComp e gs s q) : swapsWith v (some (.Name x p)) l env = pure false := by
  rcases h2 with h2 | ⟨e, gs, s, q, rfl⟩
  · exact swaps_no h2
  · have hb : env.blockKind = .function := by unfold Env.blockKind; rw [hk]; rfl
    unfold swapsWith
    simp only [swB] at h
    subst hs
    have hh : (decide (env.scope.names.lookup x = some .local) && (p.line == q.line) && !(s.names.any fun (n, k) => n == x && (k == .local || k == .cell))) = false := h
    show (pure (env.blockKind == .function && env.kindOf x == some .local && p.line == q.line && !(s.names.any fun (n, k) => n == x && (k == .local || k == .cell))) : Sem Bool) = pure false
    congr 1
    rw [hb]
    have hd : (env.kindOf x == some NameKind.local) = decide (env.scope.names.lookup x = some .local) := Bool.eq_iff_iff.mpr (by rw [beq_iff_eq, decide_eq_true_iff]; exact Iff.rfl)
    rw [hd]
    exact hh
def foldB (va vb : Expr) : Bool := [va, vb].all (foldedForSure 8) || [va, vb].all (constantsAlone 8)
theorem swap2 {x y : Str} {px py pt p2 : Pos} {kt k2 : Nat} {va vb : Expr} {env : Env} (hk : env.scope.kind = .function) (hx : env.scope.names.lookup x = some .local) (hy : env.scope.names.lookup y = some .local) (hl : py.line = px.line) (hxy : x ≠ y)
    (hf : foldB va vb = false) (h1 : notStar va = true) (h2 : notStar vb = true) :
    swappedStores [.Tuple [.Name x px, .Name y py] kt pt] (.Tuple [va, vb] k2 p2) env = pure (some [x, y]) := by
  have hb : env.blockKind = .function := by unfold Env.blockKind; rw [hk]; rfl
  have kx : env.kindOf x = some .local := hx
  have ky : env.kindOf y = some .local := hy
  unfold foldB at hf
  have hf1 : ([va, vb].all (foldedForSure 8)) = false := (Bool.or_eq_false_iff.mp hf).1
  have hf2 : ([va, vb].all (constantsAlone 8)) = false := (Bool.or_eq_false_iff.mp hf).2
  have ed : ([x, y] : List Str).eraseDups.length = 2 := by
    rw [List.eraseDups_cons]
    have : (List.filter (fun b => !b == x) [y]) = [y] := by
      rw [List.filter_cons]
      rw [if_pos (by simp [Ne.symm hxy])]
      rfl
    rw [this]
    rfl
  unfold swappedStores
  simp only [hb, kx, ky, hl, hf1, hf2, ed, List.filterMap_cons, List.filterMap_nil, List.length_cons, List.length_nil, List.head?_cons, Option.map_some, Option.getD_some, Expr.pos, beq_self_eq_true, Bool.and_self, if_true, ite_true, bne_self_eq_false, Bool.or_self, Bool.not_true, Bool.false_eq_true, if_false]
  refine (if_neg (by decide)).trans (if_neg ?_)
  cases va <;> first
    | (cases h1; done)
    | (cases vb <;> first | (cases h2; done) | (intro z; cases z))
/-! the forms of an except suite -/
mutual
def hOk : Ex → Bool
  | .slot _ => true
  | .cst _ => true
  | .isx _ _ => true
  | .notE a => hOk a
  | .bool _ es => hOkB es
  | .lst es => hOkA es
  | _ => false
def hOkA : Exs → Bool
  | .nil => true
  | .cons e es => hOk e && hOkA es
def hOkB : Exs → Bool
  | .nil => true
  | .cons e es => hOk e && hOkB es
end
section
variable (Γ : Tab) (N : List Str)
def chkHs (sc raw : Scope) : List Hs → List Stmt → Bool
  | [], [] => true
  | .asg j e :: r, .Assign [.Name x p] v _ :: l => chkN N sc raw j (.Name x p) && hOk e && chkE Γ N sc raw e v && notComp v && chkHs sc raw r l
  | .cpe j i :: r, .Assign [.Name x p] v _ :: l => chkN N sc raw j (.Name x p) && slotIs N sc i v && chkHs sc raw r l
  | _, _ => false
mutual
def chkS (sc raw : Scope) : St → Stmt → Bool
  | .pass, .Pass _ => true
  | .pass, .Expr (.Constant (.str _) _ _) _ => true
  | .drop e, .Expr v _ => chkE Γ N sc raw e v && notComp v
  | .asg (.nm i) e, .Assign [.Name x p] v _ => chkN N sc raw i (.Name x p) && chkE Γ N sc raw e v
  | .asg (.tup is) e, .Assign [.Tuple es _ _] v _ => chkNs N sc raw is es && chkE Γ N sc raw e v && anyE v && (notTup v || celT sc es)
  | .par i j a b, st => match parOf st with
    | some (x, px, y, py, va, vb) => decide (i ≠ j) && decide (N[i]? = some x) && decide (N[j]? = some y) && decide (sc.names.lookup x = some .local) && decide (sc.names.lookup y = some .local) &&
      decide (py.line = px.line) && decide (x ≠ y) && !foldB va vb && notStar va && notStar vb && chkE Γ N sc raw a va && chkE Γ N sc raw b vb
    | none => false
  | .own i e, .Assign [.Name x p] v _ => chkN N sc raw i (.Name x p) && chkE Γ N sc raw e v
  | .app i e, st => match methOf st with
    | some (o, m, ap, v, cp) => decide (m = "append") && chkE Γ N sc raw (.slot i) o && chkE Γ N sc raw e v && notStar v && (ap.endLine == cp.line)
    | none => false
  | .ext i e, st => match methOf st with
    | some (o, m, ap, v, cp) => decide (m = "extend") && chkE Γ N sc raw (.slot i) o && chkE Γ N sc raw e v && notStar v && (ap.endLine == cp.line)
    | none => false
  | .rem i e, st => match methOf st with
    | some (o, m, ap, v, cp) => decide (m = "remove") && chkE Γ N sc raw (.slot i) o && chkE Γ N sc raw e v && notStar v && (ap.endLine == cp.line)
    | none => false
  | .sto i ix e, st => match stoOf st with
    | some (o, k, v) => chkE Γ N sc raw (.slot i) o && chkE Γ N sc raw ix k && chkE Γ N sc raw e v && anyE v && notSlice k
    | none => false
  | .aug i o e, .AugAssign (.Name x p) op v _ => chkN N sc raw i (.Name x p) && decide (op = bopP o) && chkE Γ N sc raw e v
  | .ret e, .Return (some v) _ => chkE Γ N sc raw e v
  | .retN, .Return none _ => true
  | .ifs c a b, .If t x y _ => chkE Γ N sc raw c t && chkSs sc raw a x && chkSs sc raw b y
  | .whl c b, .While t x [] _ => chkE Γ N sc raw c t && chkSs sc raw b x
  | .forL t i b, .For tg iter x [] _ => chkG N sc raw t tg && chkI Γ N sc raw (.sql (.slot i)) iter tg && chkSs sc raw b x && notSet iter
  | .for t it b, .For tg iter x [] _ => chkG N sc raw t tg && chkI Γ N sc raw it iter tg && chkSs sc raw b x && notSet iter
  | .cont, .Continue _ => true
  | .brk, .Break _ => true
  | .never, _ => true
  | .rais c, .Raise (some (.Call (.Name x _) [.Constant (.str _) _ _] [] _)) none _ => decide (c = x) && glob sc x && nameOk x && Γ.xcs.contains x
  | .tryO b t h, .Try body [.ExceptHandler (some (.Name x _)) none suite _] [] [] _ => decide (t = x) && glob sc x && nameOk x && Γ.xts.contains x && decide (x ≠ "ValueError") && chkSs sc raw b body && chkHs Γ N sc raw h suite && !suite.isEmpty
  | .tryA b i t h, .Try body [.ExceptHandler (some (.Name x _)) (some n) suite _] [] [] _ => decide (t = x) && glob sc x && nameOk x && Γ.xts.contains x && decide (x ≠ "ValueError") && chkSs sc raw b body && chkHs Γ N sc raw h suite && !suite.isEmpty &&
      decide (N[i]? = some n) && decide (sc.names.lookup n = some .local)
  | _, _ => false
def chkSs (sc raw : Scope) : Sts → List Stmt → Bool
  | .nil, [] => true
  | .cons x r, l => match x with
    | .frz _ => chkSs sc raw r l
    | x => match l with
      | [] => false
      | st :: l => chkS sc raw x st && chkSs sc raw r l
  | .nil, _ :: _ => false
end
end
section
variable {Γ : Tab} {ρ : Str → List D → Option Rv} {ξ : Str → List D → Option Str} {Ξ : Xt} {γ : Str → V} {k : Nat} {N : List Str}
theorem iopAug {X : Cx} : ∀ o : Bop, PIp X (bopP o) (rAug o)
  | .add => fun pins s σ H x y v u Q I rx ry q => by
    rcases q with q | q
    · exact augR iop_add I rx ry q
    · exact augR iop_add_str I rx ry q
  | .sub => fun pins s σ H x y v u Q I rx ry q => augR iop_sub I rx ry q
  | .band => fun pins s σ H x y v u Q I rx ry q => augR iop_and I rx ry q
  | .bor => fun pins s σ H x y v u Q I rx ry q => augR iop_or I rx ry q
  | .mul => fun _ _ _ _ _ _ _ _ _ _ _ _ q => q.elim
  | .fdiv => fun _ _ _ _ _ _ _ _ _ _ _ _ q => q.elim
  | .mod => fun _ _ _ _ _ _ _ _ _ _ _ _ q => q.elim
  | .pow => fun _ _ _ _ _ _ _ _ _ _ _ _ q => q.elim
  | .shl => fun _ _ _ _ _ _ _ _ _ _ _ _ q => q.elim
  | .shr => fun _ _ _ _ _ _ _ _ _ _ _ _ q => q.elim
theorem isComp {x : Ex} {sc raw : Scope} {e : Expr} (h : chkE Γ N sc raw x e = true) : notComp e = true ∨ ∃ e' gs s q, e = .ListComp e' gs s q := by
  cases e <;> first | exact .inl rfl | exact .inr ⟨_, _, _, _, rfl⟩ | (cases x <;> simp [chkE, revOf] at h; done)
/-- name = value -/
theorem psSet {W : WX} {sc raw : Scope} {X : Cx} {i : Nat} {x : Str} {p pos : Pos} {e : Ex} {v : Expr} (xo : Xok Γ ρ ξ Ξ γ W k N sc raw X) (h1 : chkN N sc raw i (.Name x p) = true) (h2 : chkE Γ N sc raw e v = true) :
    PS X (.Assign [.Name x p] v pos) (tAsg (rd X.K ρ ξ Ξ γ W e).1 (gName i)) := by
  have nd := xo.nd
  have h1' := h1
  simp only [chkN, Bool.and_eq_true, Bool.or_eq_true, decide_eq_true_eq] at h1
  obtain ⟨q1, q2⟩ := h1
  rw [← xo.hN] at q1 nd
  rw [← xo.hsc] at q2
  have hl : Loc X.env.scope x := by
    rcases q2 with q2 | q2
    · exact .inl q2
    · exact .inr q2.1
  have hf : X.fn x = true ∨ X.env.scope.names.lookup x = some .local := by
    rcases q2 with q2 | q2
    · exact .inr q2
    · exact .inl (xo.fnl _ q2.2)
  have hk : X.env.scope.kind = .function := by rw [xo.hsc]; exact xo.kind
  cases hsw : swB sc x p v with
  | false => exact ps_set nd q1 hl (peE e xo h2).1 (sw_false hk xo.hsc hsw (isComp h2)) hf
  | true =>
    cases v with
    | ListComp e' gs scope vp =>
      cases e with
      | comp own elt tg it c =>
        rcases gs with _ | ⟨⟨tgE, iter, ifs, as⟩, _ | ⟨g2, gs⟩⟩
        · simp [chkE] at h2
        · rw [chkE] at h2
          simp only [Bool.and_eq_true, decide_eq_true_eq] at h2
          obtain ⟨⟨⟨⟨⟨⟨h0, r1⟩, r2⟩, r3⟩, r4⟩, r5⟩, r6⟩ := h2
          subst h0
          simp only [swB, Bool.and_eq_true, decide_eq_true_eq, Bool.not_eq_true'] at hsw
          obtain ⟨⟨s1, s2⟩, s3⟩ := hsw
          rw [← xo.hsc] at s1
          have ok := blkOk_by r2
          have ok' : BlkOk X.N X.env.scope scope own := by rw [xo.hN, xo.hsc]; exact ok
          rw [rd]
          refine ps_setLc xo.calm nd q1 s1 (sw_true hk s1 s2 s3) (piI it xo r1) ok' (fun s H C cl fp => ?_) (fun s H C cl fp => ?_) (fun s H C cl fp => ?_) (fun v => unfolded r6 _ v)
          · exact pgG (xo.blk s H scope C cl fp ok.kind) r3
          · have xb := xo.blk s H scope C cl fp ok.kind
            cases c with
            | no =>
              rcases ifs with _ | ⟨c1, _ | ⟨c2, cs⟩⟩
              · rw [rdC]; exact pts_nil
              · simp [condOf, chkO] at r5
              · simp [condOf, chkO] at r5
            | yes c =>
              rcases ifs with _ | ⟨c1, _ | ⟨c2, cs⟩⟩
              · simp [condOf, chkO] at r5
              · rw [rdC]
                rw [condOf, chkO] at r5
                exact pts_one (peE c xb r5).2
              · rw [condOf, chkO] at r5
                cases c <;> simp [chkE, revOf] at r5
                all_goals simp
          · exact (peE elt (xo.blk s H scope C cl fp ok.kind) r4).1
        · simp [chkE] at h2
      | _ => simp [chkE, revOf] at h2
    | _ => simp [swB] at hsw
/-- a def's own frame runs -/
structure StX (X : Cx) : Prop where
  stk : X.stack = X.env :: X.outer
  frm : X.env.frame = some X.env.locals
  exn : X.ex = []
mutual
theorem peH : ∀ (x : Ex) {sc raw : Scope} {X : Cx} {e : Expr}, XokH Γ Ξ N sc raw X → hOk x = true → chkE Γ N sc raw x e = true → PE X e (rd X.K ρ ξ Ξ γ WX0 x).1 ∧ PT X e (rd X.K ρ ξ Ξ γ WX0 x).2
  | .slot i, sc, raw, X, e, x, ho, h => by
    cases e <;> simp only [chkE, reduceCtorEq] at h
    rw [rd]
    have n := nameOk_d (and_r h)
    have h1 := of_decide_eq_true (and_l (and_l h))
    have v := vis_of (and_r (and_l h))
    rw [← x.hN] at h1
    rw [← x.hsc] at v
    exact pt_mk (pe_var h1 v n.1 n.2.1)
  | .cst d, sc, raw, X, e, x, ho, h => by
    cases e <;> simp only [chkE, reduceCtorEq] at h
    rename_i c j pos
    rw [rd]
    cases d <;> cases c <;> simp only [chkC, reduceCtorEq] at h
    · exact pt_mk pe_non
    · have h := of_decide_eq_true h; subst h; exact pt_mk pe_bl
    · have h := of_decide_eq_true h; subst h; exact pt_mk pe_int
    · have h := of_decide_eq_true h; subst h; exact pt_mk pe_str
  | .isx i ts, sc, raw, X, e, x, ho, h => by
    cases e with
    | Call fn vs kws pos =>
      cases fn with
      | Name xn p =>
        cases kws with
        | nil =>
          rcases vs with _ | ⟨l, _ | ⟨c, _ | ⟨c2, cs⟩⟩⟩
          · simp [chkE] at h
          · simp [chkE] at h
          · rw [chkE] at h
            simp only [Bool.and_eq_true, decide_eq_true_eq] at h
            obtain ⟨⟨⟨⟨⟨h1, h2⟩, h3⟩, h4⟩, h5⟩, h6⟩ := h
            subst h1
            rw [rd]
            exact pt_mk (peIsx x (mem_of h3) h2 h4 h5 fun t ht => by have := List.all_eq_true.mp h6 t ht; simpa using this)
          · simp [chkE] at h
        | cons _ _ => simp [chkE] at h
      | _ => simp [chkE] at h
    | _ => simp [chkE] at h
  | .notE a, sc, raw, X, e, x, ho, h => by
    cases e <;> simp only [chkE, reduceCtorEq] at h
    rw [rd]
    have e0 := of_decide_eq_true (and_l h)
    subst e0
    have ih := peH a x (by simpa only [hOk] using ho) (and_r h)
    exact ⟨pe_not ih.1, pt_not ih.2⟩
  | .lst es, sc, raw, X, e, x, ho, h => by
    cases e <;> simp only [chkE, reduceCtorEq] at h
    rw [rd]
    exact pt_mk (pe_lst (paH es x (by simpa only [hOk] using ho) h))
  | .bool q es, sc, raw, X, e, x, ho, h => by
    cases e <;> simp only [chkE, reduceCtorEq] at h
    rw [rd]
    have e0 := of_decide_eq_true (and_l h)
    subst e0
    have ih := pbH es x (by simpa only [hOk] using ho) (and_r h) q
    exact ⟨(ih _).1, (ih _).2.pt⟩
  | .glb _, _, _, _, _, _, ho, _ => by simp [hOk] at ho
  | .bin _ _ _, _, _, _, _, _, ho, _ => by simp [hOk] at ho
  | .neg _, _, _, _, _, _, ho, _ => by simp [hOk] at ho
  | .cmp _ _ _, _, _, _, _, _, ho, _ => by simp [hOk] at ho
  | .chain _ _ _ _ _, _, _, _, _, _, ho, _ => by simp [hOk] at ho
  | .chain3 _ _ _ _ _ _ _, _, _, _, _, _, ho, _ => by simp [hOk] at ho
  | .lidx _ _, _, _, _, _, _, ho, _ => by simp [hOk] at ho
  | .lens _, _, _, _, _, _, ho, _ => by simp [hOk] at ho
  | .ife _ _ _, _, _, _, _, _, ho, _ => by simp [hOk] at ho
  | .tup _, _, _, _, _, _, ho, _ => by simp [hOk] at ho
  | .idx _ _, _, _, _, _, _, ho, _ => by simp [hOk] at ho
  | .sl _ _ _, _, _, _, _, _, ho, _ => by simp [hOk] at ho
  | .call _ _, _, _, _, _, _, ho, _ => by simp [hOk] at ho
  | .bi _ _, _, _, _, _, _, ho, _ => by simp [hOk] at ho
  | .isi _ _, _, _, _, _, _, ho, _ => by simp [hOk] at ho
  | .rev _, _, _, _, _, _, ho, _ => by simp [hOk] at ho
  | .comp _ _ _ _ _, _, _, _, _, _, ho, _ => by simp [hOk] at ho
theorem paH : ∀ (es : Exs) {sc raw : Scope} {X : Cx} {vs : List Expr}, XokH Γ Ξ N sc raw X → hOkA es = true → chkA Γ N sc raw es vs = true → PA X vs (rdA X.K ρ ξ Ξ γ WX0 es)
  | .nil, sc, raw, X, vs, x, ho, h => by
    cases vs with
    | nil => rw [rdA]; exact pa_nil
    | cons v vs => simp [chkA] at h
  | .cons e es, sc, raw, X, vs, x, ho, h => by
    cases vs with
    | nil => simp [chkA] at h
    | cons v vs =>
      rw [chkA] at h
      rw [rdA]
      simp only [hOkA] at ho
      exact pa_cons (peH e x (and_l ho) (and_r (and_l h))).1 (paH es x (and_r ho) (and_r h)) (star_cons (and_l (and_l h)) _ _)
theorem pbH : ∀ (es : Exs) {sc raw : Scope} {X : Cx} {vs : List Expr}, XokH Γ Ξ N sc raw X → hOkB es = true → chkB Γ N sc raw es vs = true → ∀ (q : Bool) (pos : Pos),
    PE X (.BoolOp (if q = true then .And else .Or) vs pos) (rdB X.K ρ ξ Ξ γ WX0 q es).1 ∧ PW X (.BoolOp (if q = true then .And else .Or) vs pos) (rdB X.K ρ ξ Ξ γ WX0 q es).2
  | .nil, sc, raw, X, vs, x, ho, h => by simp [chkB] at h
  | .cons e .nil, sc, raw, X, vs, x, ho, h => fun q pos => by
    simp only [hOkB] at ho
    rcases vs with _ | ⟨v, _ | ⟨v2, vs⟩⟩
    · simp [chkB] at h
    · rw [chkB] at h
      rw [rdB]
      have ih := peH e x (and_l ho) h
      refine ⟨pe_one ih.1, ?_⟩
      cases q with
      | true => exact pw_and1 ih.2
      | false => exact pw_or1 ih.2
    · simp [chkB] at h
  | .cons e (.cons e2 es), sc, raw, X, vs, x, ho, h => fun q pos => by
    have ho1 : hOk e = true ∧ hOkB (.cons e2 es) = true := by
      rw [hOkB] at ho
      exact ⟨and_l ho, and_r ho⟩
    rcases vs with _ | ⟨v, _ | ⟨v2, vs⟩⟩
    · simp [chkB] at h
    · simp [chkB] at h
    · rw [chkB] at h
      have ih := peH e x ho1.1 (and_l h)
      have ih2 := pbH (.cons e2 es) x ho1.2 (and_r h) q pos
      cases q with
      | true =>
        rw [rdB]
        exact ⟨pe_and ih.1 ih2.1, pw_and ih.2 ih2.2⟩
      | false =>
        rw [rdB]
        exact ⟨pe_or ih.1 ih2.1, pw_or ih.2 ih2.2⟩
end
theorem psSetH {sc raw : Scope} {X : Cx} {i : Nat} {x : Str} {p pos : Pos} {v : Expr} {te : TE} (xo : XokH Γ Ξ N sc raw X) (h1 : chkN N sc raw i (.Name x p) = true) (h2 : PE X v te) (h3 : notComp v = true) : PS X (.Assign [.Name x p] v pos) (tAsg te (gName i)) := by
  have nd := xo.nd
  simp only [chkN, Bool.and_eq_true, Bool.or_eq_true, decide_eq_true_eq] at h1
  obtain ⟨q1, q2⟩ := h1
  rw [← xo.hN] at q1 nd
  rw [← xo.hsc] at q2
  have hl : Loc X.env.scope x := by
    rcases q2 with q2 | q2
    · exact .inl q2
    · exact .inr q2.1
  have hf : X.fn x = true ∨ X.env.scope.names.lookup x = some .local := by
    rcases q2 with q2 | q2
    · exact .inr q2
    · exact .inl (xo.fnl _ q2.2)
  exact ps_set nd q1 hl h2 (swaps_no h3) hf
theorem psHs : ∀ (h : List Hs) {sc raw : Scope} {X : Cx} {l : List Stmt}, XokH Γ Ξ N sc raw X → chkHs Γ N sc raw h l = true → PSs X l (rdHs X.K ρ ξ Ξ γ h)
  | [], sc, raw, X, l, xo, q => by
    cases l with
    | nil => rw [rdHs]; exact pss_nil
    | cons _ _ => simp [chkHs] at q
  | .asg j e :: r, sc, raw, X, l, xo, q => by
    unfold chkHs at q
    split at q
    · rename_i h; cases h
    · rename_i h
      cases h
      rw [rdHs]
      exact pss_cons (psSetH xo (and_l (and_l (and_l (and_l q)))) (peH _ xo (and_r (and_l (and_l (and_l q)))) (and_r (and_l (and_l q)))).1 (and_r (and_l q))) (psHs _ xo (and_r q))
    · rename_i h; cases h
    · cases q
  | .cpe j i :: r, sc, raw, X, l, xo, q => by
    unfold chkHs at q
    split at q
    · rename_i h; cases h
    · rename_i h; cases h
    · rename_i x p v pos l' h
      cases h
      rw [rdHs]
      have hs := and_r (and_l q)
      have h1 := and_l (and_l q)
      have h2 := and_r q
      cases v <;> simp only [slotIs, reduceCtorEq] at hs
      have n := nameOk_d (and_r hs)
      have e1 := of_decide_eq_true (and_l (and_l hs))
      have e2 := vis_of (and_r (and_l hs))
      rw [← xo.hN] at e1
      rw [← xo.hsc] at e2
      exact pss_cons (psSetH xo h1 (pe_var e1 e2 n.1 n.2.1) rfl) (psHs _ xo h2)
    · cases q
theorem names_of {sc raw : Scope} {X : Cx} {t : Str} (x : XokH Γ Ξ N sc raw X) (h1 : glob sc t = true) (h2 : nameOk t = true) (h3 : t ∈ Γ.xts) (h4 : t ≠ "ValueError") : Names X t (.ref (Ξ.θ t)) := by
  refine ⟨x.gl h1, (nameOk_d h2).1, .inl ?_⟩
  rcases x.xn t h3 with ⟨e, _⟩ | ⟨_, e⟩
  · exact absurd e h4
  · exact e
mutual
theorem psS : ∀ (x : St) {W : WX} {sc raw : Scope} {X : Cx} {st : Stmt}, Xok Γ ρ ξ Ξ γ W k N sc raw X → StX X → (∀ i, x ≠ .frz i) → chkS Γ N sc raw x st = true → PS X st (rdS X.K ρ ξ Ξ γ W x)
  | .pass, W, sc, raw, X, st, xo, sx, _, h => by
    rw [rdS]
    cases st with
    | Pass p => exact ps_pass
    | Expr v p =>
      cases v with
      | Constant c j q =>
        cases c <;> first | exact ps_doc | exact Bool.noConfusion (show false = true from h)
      | _ => exact Bool.noConfusion (show false = true from h)
    | _ => exact Bool.noConfusion (show false = true from h)
  | .drop e, W, sc, raw, X, st, xo, sx, _, h => by
    cases st <;> simp only [chkS, reduceCtorEq] at h
    rw [rdS]
    exact ps_expr (peE e xo (and_l h)).1 (swaps_no (and_r h))
  | .asg t e, W, sc, raw, X, st, xo, sx, _, h => by
    cases st with
    | Assign tgs v pos =>
      rcases tgs with _ | ⟨t1, _ | ⟨t2, ts⟩⟩
      · cases t <;> exact Bool.noConfusion (show false = true from h)
      · cases t with
        | nm i =>
          cases t1 <;> simp only [chkS, reduceCtorEq] at h
          rw [rdS]
          exact psSet xo (and_l h) (and_r h)
        | tup is =>
          cases t1 <;> simp only [chkS, reduceCtorEq] at h
          rename_i es kk tp
          rw [rdS]
          have hv := and_r (and_l (and_l h))
          refine ps_asg (peE e xo hv).1 (pgG (tg := .tup is) xo (and_l (and_l (and_l h)))) swapsSole_tup ?_
          have nt := and_r h
          rcases Bool.or_eq_true_iff.mp nt with nt | nt
          · cases v <;> first | rfl | cases nt
          · rw [← xo.hsc] at nt
            exact swapped_cel nt
      · cases t <;> cases t1 <;> exact Bool.noConfusion (show false = true from h)
    | _ => cases t <;> exact Bool.noConfusion (show false = true from h)
  | .own i e, W, sc, raw, X, st, xo, sx, _, h => by
    cases st with
    | Assign tgs v pos =>
      rcases tgs with _ | ⟨t1, _ | ⟨t2, ts⟩⟩
      · exact Bool.noConfusion (show false = true from h)
      · cases t1 <;> simp only [chkS, reduceCtorEq] at h
        rw [rdS]
        exact psSet xo (and_l h) (and_r h)
      · cases t1 <;> exact Bool.noConfusion (show false = true from h)
    | _ => exact Bool.noConfusion (show false = true from h)
  | .par i j a b, W, sc, raw, X, st, xo, sx, _, h => by
    simp only [chkS] at h
    split at h
    rotate_left
    · cases h
    rename_i x px y py va vb hm
    obtain ⟨kt, pt, k2, p2, pos, rfl⟩ := parOf_is hm
    simp only [Bool.and_eq_true, decide_eq_true_eq, Bool.not_eq_true'] at h
    obtain ⟨⟨⟨⟨⟨⟨⟨⟨⟨⟨⟨h1, h2⟩, h3⟩, h4⟩, h5⟩, h6⟩, h7⟩, h8⟩, h9⟩, h10⟩, h11⟩, h12⟩ := h
    have nd := xo.nd
    rw [← xo.hN] at h2 h3 nd
    rw [← xo.hsc] at h4 h5
    have hk : X.env.scope.kind = .function := by rw [xo.hsc]; exact xo.kind
    rw [rdS]
    exact ps_par xo.calm nd h2 h3 h1 h4 h5 (pa_cons (peE a xo h11).1 (pa_cons (peE b xo h12).1 pa_nil (star_cons h10 _ _)) (star_cons h9 _ _)) (swap2 hk h4 h5 h6 h7 h8 h9 h10)
  | .frz i, W, sc, raw, X, st, xo, sx, hf, h => absurd rfl (hf i)
  | .app i e, W, sc, raw, X, st, xo, sx, _, h => by
    simp only [chkS] at h
    split at h
    rotate_left
    · cases h
    rename_i o m ap v cp hm
    obtain ⟨x, p, pos, rfl, rfl⟩ := methOf_is hm
    have e0 := of_decide_eq_true (and_l (and_l (and_l (and_l h))))
    subst e0
    rw [rdS]
    have hs := peE (.slot i) xo (and_r (and_l (and_l (and_l h))))
    rw [rd] at hs
    have st1 := star_cons (and_r (and_l h))
    refine ps_expr (pe_bm PySem.F.plainAttrs_list PySem.F.slot_list_append PySem.F.type_list_append mt_append hs.1 (pa_cons (peE e xo (and_r (and_l (and_l h)))).1 pa_nil (st1 _ _)) rfl ?_ (and_r h) (st1 _ _) rfl)
    rw [st1]; rfl
  | .ext i e, W, sc, raw, X, st, xo, sx, _, h => by
    simp only [chkS] at h
    split at h
    rotate_left
    · cases h
    rename_i o m ap v cp hm
    obtain ⟨x, p, pos, rfl, rfl⟩ := methOf_is hm
    have e0 := of_decide_eq_true (and_l (and_l (and_l (and_l h))))
    subst e0
    rw [rdS]
    have hs := peE (.slot i) xo (and_r (and_l (and_l (and_l h))))
    rw [rd] at hs
    have st1 := star_cons (and_r (and_l h))
    refine ps_expr (pe_bm PySem.F.plainAttrs_list PySem.F.slot_list_extend PySem.F.type_list_extend mt_extend hs.1 (pa_cons (peE e xo (and_r (and_l (and_l h)))).1 pa_nil (st1 _ _)) rfl ?_ (and_r h) (st1 _ _) rfl)
    rw [st1]; rfl
  | .rem i e, W, sc, raw, X, st, xo, sx, _, h => by
    simp only [chkS] at h
    split at h
    rotate_left
    · cases h
    rename_i o m ap v cp hm
    obtain ⟨x, p, pos, rfl, rfl⟩ := methOf_is hm
    have e0 := of_decide_eq_true (and_l (and_l (and_l (and_l h))))
    subst e0
    rw [rdS]
    have hs := peE (.slot i) xo (and_r (and_l (and_l (and_l h))))
    rw [rd] at hs
    have st1 := star_cons (and_r (and_l h))
    refine ps_expr (pe_bm PySem.F.plainAttrs_list PySem.F.slot_list_remove PySem.F.type_list_remove (mt_removeD xo.hu) hs.1 (pa_cons (peE e xo (and_r (and_l (and_l h)))).1 pa_nil (st1 _ _)) rfl ?_ (and_r h) (st1 _ _) rfl)
    rw [st1]; rfl
  | .sto i ix e, W, sc, raw, X, st, xo, sx, _, h => by
    simp only [chkS] at h
    split at h
    rotate_left
    · cases h
    rename_i o kk v hm
    obtain ⟨x, p, sp, pos, rfl, rfl⟩ := stoOf_is hm
    rw [rdS]
    have hs := peE (.slot i) xo (and_l (and_l (and_l (and_l h))))
    rw [rd] at hs
    have nk := and_r h
    refine ps_asg (peE e xo (and_r (and_l (and_l h)))).1 (pg_sub hs.1 (peE ix xo (and_r (and_l (and_l (and_l h))))).1 set_list ?_) swapsSole_sub rfl rfl
    cases kk <;> first | (intro v; rfl) | cases nk
  | .aug i o e, W, sc, raw, X, st, xo, sx, _, h => by
    cases st with
    | AugAssign t op v pos =>
      cases t <;> simp only [chkS, reduceCtorEq] at h
      rename_i x p
      rw [rdS]
      have e0 := of_decide_eq_true (and_r (and_l h))
      subst e0
      have h1 := and_l (and_l h)
      simp only [chkN, Bool.and_eq_true, Bool.or_eq_true, decide_eq_true_eq] at h1
      obtain ⟨q1, q2⟩ := h1
      have nd := xo.nd
      rw [← xo.hN] at q1 nd
      rw [← xo.hsc] at q2
      refine ps_aug nd q1 ?_ (peE e xo (and_r h)).1 (iopAug o) ?_
      · rcases q2 with q2 | q2
        · exact .inl q2
        · exact .inr q2.1
      · rcases q2 with q2 | q2
        · exact .inr q2
        · exact .inl (xo.fnl _ q2.2)
    | _ => exact Bool.noConfusion (show false = true from h)
  | .ret e, W, sc, raw, X, st, xo, sx, _, h => by
    cases st with
    | Return v pos =>
      cases v with
      | none => exact Bool.noConfusion (show false = true from h)
      | some v =>
        simp only [chkS] at h
        rw [rdS]
        exact ps_ret (peE e xo h).1
    | _ => exact Bool.noConfusion (show false = true from h)
  | .retN, W, sc, raw, X, st, xo, sx, _, h => by
    cases st with
    | Return v pos =>
      cases v with
      | none => rw [rdS]; exact ps_retN
      | some v => exact Bool.noConfusion (show false = true from h)
    | _ => exact Bool.noConfusion (show false = true from h)
  | .ifs c a b, W, sc, raw, X, st, xo, sx, _, h => by
    cases st <;> simp only [chkS, reduceCtorEq] at h
    rw [rdS]
    exact ps_if (peE c xo (and_l (and_l h))).2 (psSs a xo sx (and_r (and_l h))) (psSs b xo sx (and_r h))
  | .whl c b, W, sc, raw, X, st, xo, sx, _, h => by
    cases st with
    | While t x y pos =>
      cases y with
      | nil =>
        simp only [chkS] at h
        rw [rdS]
        exact ps_while xo.own (peE c xo (and_l h)).2 (psSs b xo sx (and_r h))
      | cons _ _ => exact Bool.noConfusion (show false = true from h)
    | _ => exact Bool.noConfusion (show false = true from h)
  | .for t it b, W, sc, raw, X, st, xo, sx, _, h => by
    cases st with
    | For tg iter x y pos =>
      cases y with
      | nil =>
        simp only [chkS] at h
        rw [rdS]
        exact ps_for xo.own xo.calm (piI it xo (and_r (and_l (and_l h)))) (pgG xo (and_l (and_l (and_l h)))) (psSs b xo sx (and_r (and_l h))) (fun v => unfolded (and_r h) _ v)
      | cons _ _ => exact Bool.noConfusion (show false = true from h)
    | _ => exact Bool.noConfusion (show false = true from h)
  | .forL t i b, W, sc, raw, X, st, xo, sx, _, h => by
    cases st with
    | For tg iter x y pos =>
      cases y with
      | nil =>
        simp only [chkS] at h
        rw [rdS]
        exact ps_for xo.own xo.calm (piI (.sql (.slot i)) xo (and_r (and_l (and_l h)))) (pgG xo (and_l (and_l (and_l h)))) (psSs b xo sx (and_r (and_l h))) (fun v => unfolded (and_r h) _ v)
      | cons _ _ => exact Bool.noConfusion (show false = true from h)
    | _ => exact Bool.noConfusion (show false = true from h)
  | .cont, W, sc, raw, X, st, xo, sx, _, h => by
    cases st <;> simp only [chkS, reduceCtorEq] at h
    rw [rdS]
    exact ps_continue
  | .brk, W, sc, raw, X, st, xo, sx, _, h => by
    cases st <;> simp only [chkS, reduceCtorEq] at h
    rw [rdS]
    exact ps_break
  | .never, W, sc, raw, X, st, xo, sx, _, h => by
    rw [rdS]
    exact ps_never
  | .rais c, W, sc, raw, X, st, xo, sx, _, h => by
    unfold chkS at h
    split at h <;> first
      | (rename_i e; cases e; done)
      | (rename_i e _ ; cases e; done)
      | skip
    · rename_i c' x p m j p2 pos pos2 heq
      cases heq
      have e0 := of_decide_eq_true (and_l (and_l (and_l h)))
      subst e0
      obtain ⟨m1, m2, m3, m4, m5⟩ := xo.gb.xr _ (mem_of (and_r h))
      rw [rdS]
      exact ps_raise xo.calm xo.tk (pmk_own PySem.F.excBase_ValueError m3 m1 m2 (raises_own m4 m5) (xo.gl (and_r (and_l (and_l h)))) (nameOk_d (and_r (and_l h))).1)
    · cases h
  | .tryO b t hs, W, sc, raw, X, st, xo, sx, _, h => by
    unfold chkS at h
    split at h <;> first
      | (rename_i e; cases e; done)
      | (rename_i e _ ; cases e; done)
      | skip
    · rename_i b' t' hs' body x np suite pos' pos heq
      cases heq
      simp only [Bool.and_eq_true, decide_eq_true_eq, Bool.not_eq_true'] at h
      obtain ⟨⟨⟨⟨⟨⟨⟨h1, h2⟩, h3⟩, h4⟩, h5⟩, h6⟩, h7⟩, h8⟩ := h
      subst h1
      cases suite with
      | nil => simp at h8
      | cons b0 suite =>
        rw [rdS]
        exact ps_try_only (tb := fun W' => rdSs X.K ρ ξ Ξ γ W' b) (ts := fun _ _ _ => rdHs X.K ρ ξ Ξ γ hs) sx.stk sx.frm (names_of xo.toH h2 h3 (mem_of h4) h5) xo.tk
          (fun W' pn xe tk own => psSs b (X := X.tr pn xe) ⟨xo.hN, xo.hsc, xo.calm, tk, own, xo.nd, xo.fnl, xo.room, xo.kind, xo.gb⟩ ⟨sx.stk, sx.frm, sx.exn⟩ h6)
          (fun a oe cls d pn _ _ => psHs hs (X := X.suite a ((a, oe) :: pn)) ⟨xo.hN, xo.hsc, xo.nd, xo.fnl, xo.kind, xo.gb.bn, xo.gb.xn⟩ h7)
    · cases h
  | .tryA b i t hs, W, sc, raw, X, st, xo, sx, _, h => by
    unfold chkS at h
    split at h <;> first
      | (rename_i e; cases e; done)
      | (rename_i e _ ; cases e; done)
      | skip
    · rename_i b' i' t' hs' body x np n suite pos' pos heq
      cases heq
      simp only [Bool.and_eq_true, decide_eq_true_eq, Bool.not_eq_true'] at h
      obtain ⟨⟨⟨⟨⟨⟨⟨⟨⟨h1, h2⟩, h3⟩, h4⟩, h5⟩, h6⟩, h7⟩, h8⟩, h9⟩, h10⟩ := h
      subst h1
      have nd := xo.nd
      rw [← xo.hN] at h9 nd
      rw [← xo.hsc] at h10
      cases suite with
      | nil => simp at h8
      | cons b0 suite =>
        rw [rdS]
        exact ps_tryA (tb := fun W' => rdSs X.K ρ ξ Ξ γ W' b) (ts := rdHs X.K ρ ξ Ξ γ hs) sx.stk sx.frm sx.exn nd h9 h10 (names_of xo.toH h2 h3 (mem_of h4) h5) xo.tk
          (fun W' pn xe tk own => psSs b (X := X.tr pn xe) ⟨xo.hN, xo.hsc, xo.calm, tk, own, xo.nd, xo.fnl, xo.room, xo.kind, xo.gb⟩ ⟨sx.stk, sx.frm, sx.exn⟩ h6)
          (fun a pn => psHs hs (X := X.suite a pn) ⟨xo.hN, xo.hsc, xo.nd, xo.fnl, xo.kind, xo.gb.bn, xo.gb.xn⟩ h7)
    · cases h
theorem psSs : ∀ (x : Sts) {W : WX} {sc raw : Scope} {X : Cx} {l : List Stmt}, Xok Γ ρ ξ Ξ γ W k N sc raw X → StX X → chkSs Γ N sc raw x l = true → PSs X l (rdSs X.K ρ ξ Ξ γ W x)
  | .nil, W, sc, raw, X, l, xo, sx, h => by
    cases l with
    | nil => rw [rdSs]; exact pss_nil
    | cons _ _ => simp [chkSs] at h
  | .cons x r, W, sc, raw, X, l, xo, sx, h => by
    have other : (∀ i, x ≠ .frz i) → ∀ st l', chkS Γ N sc raw x st = true → chkSs Γ N sc raw r l' = true → PSs X (st :: l') (tSeq (rdS X.K ρ ξ Ξ γ W x) (rdSs X.K ρ ξ Ξ γ W r)) := fun hf st l' h1 h2 => pss_cons (psS x xo sx hf h1) (psSs r xo sx h2)
    have fz := fun l' (h2 : chkSs Γ N sc raw r l' = true) => psSs r xo sx h2
    cases x with
    | frz i =>
      simp only [chkSs] at h
      rw [rdSs]
      exact fz l h
    | _ =>
      cases l with
      | nil => simp [chkSs] at h
      | cons st l =>
        simp only [chkSs] at h
        exact other (fun i => by intro z; cases z) st l (and_l h) (and_r h)
end
end
end PL

/-! P15 -/
namespace PL
open PySem PySem.Spec PyProof.Rows L2 RZ

/-- a def: its name, its parameters, its slots (parameters first), its body -/
structure De where
  nm : Str
  ps : List Str
  N : List Str
  body : Sts
def env0 (n : Nat) (args : List D) : Ev := args.map Sl.pv ++ List.replicate (n - args.length) .un
def outR : Option Out → Option Rv
  | some (.rt r) => some r
  | some (.nx _) => some (.pv .non)
  | _ => none
mutual
def callF (tb : List De) (κ : Str → Option D) : Nat → Str → List D → Option Rv
  | 0, _, _ => none
  | d + 1, f, args => (tb.find? fun e => decide (e.nm = f)).bind fun e => if args.length = e.ps.length then outR (evSs (callF tb κ d) (callX tb κ d) κ e.body (env0 e.N.length args)) else none
def callX (tb : List De) (κ : Str → Option D) : Nat → Str → List D → Option Str
  | 0, _, _ => none
  | d + 1, f, args => (tb.find? fun e => decide (e.nm = f)).bind fun e => if args.length = e.ps.length then (xSs (callF tb κ d) (callX tb κ d) κ e.body (env0 e.N.length args)).map (·.1) else none
end
def fsB (N ps : List Str) (sc : Scope) : Bool :=
  decide (sc.kind = .function) && !sc.isCoroutine && !sc.isGenerator && decide N.Nodup && decide (N.take ps.length = ps) && (ps.all fun x => locB sc x) && (sc.names.all fun y => decide (y.2 ≠ .free))
theorem fnScope_of {N ps : List Str} {sc : Scope} (h : fsB N ps sc = true) : FnScope N ps sc := by
  unfold fsB at h
  simp only [Bool.and_eq_true, decide_eq_true_eq, Bool.not_eq_true', List.all_eq_true] at h
  obtain ⟨⟨⟨⟨⟨⟨h1, h2⟩, h3⟩, h4⟩, h5⟩, h6⟩, h7⟩ := h
  exact ⟨h1, h2, h3, h4, h5, fun x hx => loc_of (h6 x hx), fun y hy => by have := h7 y hy; exact this⟩
def okDe (Γ : Tab) (e : De) (st : Stmt) : Bool := fsB e.N e.ps (defScope st) && okSs Γ.xts Γ.xcs e.body && chkSs Γ e.N (defScope st) (defScope st) e.body (defBody st)
theorem rn_start {K : PySem.W.Frag} {Ξ : Xt} {η : Nat → Option V} {H0 F H : Hp} {N : List Str} {vs : List V} {ds : List D} (r : Rs K F vs ds) (hl : ds.length ≤ N.length) : Rn K Ξ η H0 F H (L2.start N vs) (env0 N.length ds) := by
  have e := r.length
  have noX : ∀ {i : Nat} {c : Str}, (env0 N.length ds)[i]? ≠ some (Sl.ex c) := fun {i c} h => by
    unfold env0 at h
    by_cases hi : i < ds.length
    · rw [List.getElem?_append_left (by rw [List.length_map]; exact hi), List.getElem?_map] at h
      cases q : ds[i]? with
      | none => rw [q] at h; cases h
      | some d => rw [q] at h; cases h
    · rw [List.getElem?_append_right (by rw [List.length_map]; omega), List.getElem?_replicate] at h
      split at h <;> cases h
  refine ⟨fun i c h => absurd h noX, ?_, fun i d h => ?_, fun i xs h => ?_, fun i j xs ys a hij h => ?_, fun i h => ?_⟩
  · unfold L2.start env0
    simp only [List.length_append, List.length_map, List.length_replicate]
    omega
  · unfold env0 at h
    by_cases hi : i < ds.length
    · rw [List.getElem?_append_left (by rw [List.length_map]; exact hi), List.getElem?_map] at h
      cases q : ds[i]? with
      | none => rw [q] at h; cases h
      | some d' =>
        rw [q] at h
        have ed : d' = d := by cases h; rfl
        subst ed
        obtain ⟨v, h1, h2⟩ := r.get q
        refine ⟨v, ?_, h2⟩
        unfold L2.start
        rw [List.getElem?_append_left (by rw [List.length_map, e]; exact hi), List.getElem?_map, h1]
        rfl
    · rw [List.getElem?_append_right (by rw [List.length_map]; omega), List.getElem?_replicate] at h
      split at h <;> cases h
  all_goals
    exfalso
    unfold env0 at h
    by_cases hi : i < ds.length
    · rw [List.getElem?_append_left (by rw [List.length_map]; exact hi), List.getElem?_map] at h
      cases q : ds[i]? with
      | none => rw [q] at h; cases h
      | some d' => rw [q] at h; cases h
    · rw [List.getElem?_append_right (by rw [List.length_map]; omega), List.getElem?_replicate] at h
      split at h <;> cases h
/-- the law's promise -/
def spL (K : PySem.W.Frag) (ρ : Str → List D → Option Rv) (f : Str) : Sp := fun vs H Q _ => ∃ F ds r, Same F H ∧ Rs K F vs ds ∧ ρ f ds = some r ∧ Wish K F H Q r
section
variable {P : Program} {w : World} {K : PySem.W.Frag} {mg : Str → Option Value} {base : Heap} {Γ : Tab} {Ξ : Xt} {κ : Str → Option D} {γ : Str → V} {tb : List De}
theorem decF {d : Nat} {e : De} (hf : (tb.find? fun x => decide (x.nm = e.nm)) = some e) {ds : List D} {r : Rv} (h : callF tb κ (d + 1) e.nm ds = some r) : ds.length = e.ps.length ∧ outR (evSs (callF tb κ d) (callX tb κ d) κ e.body (env0 e.N.length ds)) = some r := by
  simp only [callF, hf, Option.bind_some] at h
  split at h
  · rename_i hl
    exact ⟨hl, h⟩
  · cases h
theorem decX {d : Nat} {e : De} (hf : (tb.find? fun x => decide (x.nm = e.nm)) = some e) {ds : List D} {c : Str} (h : callX tb κ (d + 1) e.nm ds = some c) : ds.length = e.ps.length ∧ ∃ q, xSs (callF tb κ d) (callX tb κ d) κ e.body (env0 e.N.length ds) = some (c, q) := by
  simp only [callX, hf, Option.bind_some] at h
  split at h
  · rename_i hl
    obtain ⟨q, h1, h2⟩ := mapE h
    refine ⟨hl, q.2, ?_⟩
    rw [h1, ← h2]
  · cases h
theorem fn_ok0 {d : Nat} {e : De} {st : Stmt} {a : Addr} {fd : FuncData} (hκ : KOk K κ γ) (F : Fun K e.nm e.nm st a fd) (hs : okDe Γ e st = true) (G : Gb P w K mg base Γ (callF tb κ d) (callX tb κ d) Ξ γ d) (hf : (tb.find? fun x => decide (x.nm = e.nm)) = some e) :
    FnOk P w K mg base CX0 (d + 1) a fd e.ps (spL K (callF tb κ (d + 1)) e.nm) := by
  unfold okDe at hs
  have S := fnScope_of (and_l (and_l hs))
  have hb := and_r (and_l hs)
  rw [← G.xe.1, ← G.xe.2] at hb
  refine F.ok S (fun vs H Q E h => ?_) (fun cdv A outer s H vs Q E hr h => ?_)
  · obtain ⟨F', ds, r, _, h2, h3, _⟩ := h
    rw [h2.length, (decF hf h3).1]
  · obtain ⟨F', ds, r, h1, h2, h3, wq⟩ := h
    obtain ⟨hl, ho⟩ := decF hf h3
    have xo : Xok Γ (callF tb κ d) (callX tb κ d) Ξ γ WX0 d e.N (defScope st) (defScope st) (cxOf CX0 P w K mg base e.N e.nm (defScope st) a cdv A outer s H E).nox :=
      ⟨rfl, rfl, rfl, takes0, PassesOwn.never, S.nd, fun _ _ => rfl, hr, S.kind, G⟩
    refine ⟨_, psSs e.body xo ⟨rfl, rfl, rfl⟩ (and_r hs), ?_⟩
    have hN : ds.length ≤ e.N.length := by
      have := congrArg List.length S.pre
      rw [List.length_take] at this
      omega
    have n := rn_start (Ξ := Ξ) (η := fun _ => none) (H0 := H) (H := H) h2 hN
    have gs := goodSs (ρ := callF tb κ d) (ξ := callX tb κ d) hκ G.xo WX0 e.body hb
    unfold outR at ho
    split at ho
    · rename_i r' ev
      cases ho
      exact gs.run (Gr.refl h1) n ev fun F2 H2 v g2 r2 => wq F2 H2 v g2 r2
    · rename_i env' ev
      cases ho
      exact gs.run (Gr.refl h1) n ev fun F2 H2 σ2 g2 _ => wq F2 H2 .non g2 (by simp only [RR, R])
    · cases ho
theorem fn_okX {d : Nat} {e : De} {st : Stmt} {a : Addr} {fd : FuncData} (hκ : KOk K κ γ) (F : Fun K e.nm e.nm st a fd) (hs : okDe Γ e st = true) (G : Gb P w K mg base Γ (callF tb κ d) (callX tb κ d) Ξ γ d) (hf : (tb.find? fun x => decide (x.nm = e.nm)) = some e) :
    FnOk P w K mg base (L2.CX P w) (d + 1) a fd e.ps (spF K (callF tb κ (d + 1)) (callX tb κ (d + 1)) Ξ e.nm) := by
  unfold okDe at hs
  have S := fnScope_of (and_l (and_l hs))
  have hb := and_r (and_l hs)
  rw [← G.xe.1, ← G.xe.2] at hb
  refine F.okX S (fun vs H Q E h => ?_) (fun cdv A outer s H vs Q E hr h => ?_)
  · obtain ⟨F', ds, _, h2, h3⟩ := h
    rcases h3 with ⟨r, h3, _⟩ | ⟨c, h3, _⟩
    · rw [h2.length, (decF hf h3).1]
    · rw [h2.length, (decX hf h3).1]
  · obtain ⟨F', ds, h1, h2, h3⟩ := h
    have xo : Xok Γ (callF tb κ d) (callX tb κ d) Ξ γ (fun cls dd _ H => E cls dd H) d e.N (defScope st) (defScope st) (cxOf (L2.CX P w) P w K mg base e.N e.nm (defScope st) a cdv A outer s H E) :=
      ⟨rfl, rfl, rfl, takes_of rfl rfl rfl rfl, passes_of rfl, S.nd, fun _ _ => rfl, hr, S.kind, G⟩
    refine ⟨_, psSs e.body xo ⟨rfl, rfl, rfl⟩ (and_r hs), ?_⟩
    have pre : ds.length = e.ps.length → ds.length ≤ e.N.length := fun hl => by
      have := congrArg List.length S.pre
      rw [List.length_take] at this
      omega
    rcases h3 with ⟨r, h3, wq⟩ | ⟨c, h3, wx⟩
    · obtain ⟨hl, ho⟩ := decF hf h3
      have n := rn_start (Ξ := Ξ) (η := fun _ => none) (H0 := H) (H := H) h2 (pre hl)
      have gs := goodSs (ρ := callF tb κ d) (ξ := callX tb κ d) hκ G.xo (fun cls dd _ H => E cls dd H) e.body hb
      unfold outR at ho
      split at ho
      · rename_i r' ev
        cases ho
        exact gs.run (Gr.refl h1) n ev fun F2 H2 v g2 r2 => wq F2 H2 v g2 r2
      · rename_i env' ev
        cases ho
        exact gs.run (Gr.refl h1) n ev fun F2 H2 σ2 g2 _ => wq F2 H2 .non g2 (by simp only [RR, R])
      · cases ho
    · obtain ⟨hl, q, ho⟩ := decX hf h3
      have n := rn_start (Ξ := Ξ) (η := fun _ => none) (H0 := H) (H := H) h2 (pre hl)
      have gs := goodXSs (ρ := callF tb κ d) (ξ := callX tb κ d) hκ G.xo (fun cls dd _ H => E cls dd H) e.body hb
      exact gs.run (Gr.refl h1) n ho fun hc F2 H2 σ2 g2 _ => wx hc F2 H2 g2
theorem gb_all (hκ : KOk K κ γ) (hΓ : Γ.fns = tb.map fun e => (e.nm, e.ps)) (hn : (tb.map (·.nm)).Nodup)
    (hw : ∀ e, e ∈ tb → ∃ st a fd, Fun K e.nm e.nm st a fd ∧ mg e.nm = some (.ref a) ∧ Binds K fd e.ps [] ∧ okDe Γ e st = true)
    (hb : ∀ x, x ∈ Γ.bns → mg x = none) (hg : ∀ x, x ∈ Γ.gls → ∃ u, mg x = some u ∧ RelV (γ x) u)
    (hxr : ∀ c, c ∈ Γ.xcs → mg c = some (.ref (Ξ.θ c)) ∧ PySem.W.keepIn K (.ref (Ξ.θ c)) = true ∧ PySem.W.excIn K (Ξ.θ c) [.type "ValueError", .type "Exception", .type "BaseException", .type "object"] "ValueError.__new__" = true ∧ PySem.W.subIn K (.ref (Ξ.θ c)) (.type "BaseException") = some true ∧ PySem.W.typeIn K (.ref (Ξ.θ c)) = some (.type "type"))
    (hxn : ∀ t, t ∈ Γ.xts → (t = "ValueError" ∧ mg t = none) ∨ (t ≠ "ValueError" ∧ mg t = some (.ref (Ξ.θ t)))) (hxo : XtOk K Ξ) (hxe : Ξ.xcs = Γ.xcs ∧ Ξ.xts = Γ.xts) : ∀ d, Gb P w K mg base Γ (callF tb κ d) (callX tb κ d) Ξ γ d
  | 0 => ⟨fun f ps hf => by
      rw [hΓ, List.mem_map] at hf
      obtain ⟨e, he, e2⟩ := hf
      cases e2
      obtain ⟨st, a, fd, F, m, b, _⟩ := hw e he
      refine ⟨a, fd, m, F.kp, b, ⟨fun vs H Q E h => ?_, fun A outer s H args us vs Q E _ _ _ _ h => ?_⟩⟩
      · obtain ⟨_, _, _, _, ⟨_, h3, _⟩ | ⟨_, h3, _⟩⟩ := h
        · simp only [callF, reduceCtorEq] at h3
        · simp only [callX, reduceCtorEq] at h3
      · obtain ⟨_, _, _, _, ⟨_, h3, _⟩ | ⟨_, h3, _⟩⟩ := h
        · simp only [callF, reduceCtorEq] at h3
        · simp only [callX, reduceCtorEq] at h3, hb, hg, hxr, hxn, hxo, hxe⟩
  | d + 1 => ⟨fun f ps hf => by
      rw [hΓ, List.mem_map] at hf
      obtain ⟨e, he, e2⟩ := hf
      cases e2
      obtain ⟨st, a, fd, F, m, b, hs⟩ := hw e he
      refine ⟨a, fd, m, F.kp, b, fn_okX hκ F hs (gb_all hκ hΓ hn hw hb hg hxr hxn hxo hxe d) ?_⟩
      have fnd : ∀ {l : List De}, (l.map (·.nm)).Nodup → e ∈ l → (l.find? fun x => decide (x.nm = e.nm)) = some e := fun {l} => by
        induction l with
        | nil => intro _ h; cases h
        | cons x l ih =>
          intro h1 h2
          rw [List.map_cons, List.nodup_cons] at h1
          rw [List.find?_cons]
          by_cases hx : x.nm = e.nm
          · rw [decide_eq_true hx]
            rcases List.mem_cons.mp h2 with h2 | h2
            · rw [h2]
            · exact absurd (List.mem_map.mpr ⟨e, h2, hx.symm⟩) h1.1
          · rw [decide_eq_false hx]
            rcases List.mem_cons.mp h2 with h2 | h2
            · rw [h2] at hx; exact absurd rfl hx
            · exact ih h1.2 h2
      exact fnd hn he, hb, hg, hxr, hxn, hxo, hxe⟩
/-- the law's own promise: it hands back True for every script -/
theorem law_sp {d : Nat} (h : ∀ ns : List Int, ns.length ≤ 63 → callF tb κ d "law" [.flst (ns.map D.int)] = some (.pv (.bl true))) (K : PySem.W.Frag) (H : Hp) (a : Addr) (ns : List Int) (hl : ns.length ≤ 63) (hS : SqL K H a (ns.map V.int)) :
    spL K (callF tb κ d) "law" [.ref a] H (fun v _ => v = .bl true) fun _ _ _ => False := by
  refine ⟨H, [.flst (ns.map D.int)], .pv (.bl true), Same.refl _, ?_, h ns hl, fun F' H' v g r => by simpa only [RR, R] using r⟩
  simp only [Rs, R]
  refine ⟨.ref a, [], rfl, ⟨a, ns.map V.int, rfl, hS, ?_⟩, rfl⟩
  clear hl hS h
  induction ns with
  | nil => simp only [List.map_nil, Rs]
  | cons n r ih =>
    simp only [List.map_cons, Rs]
    exact ⟨.int n, r.map V.int, rfl, by simp only [R], ih⟩
end
end PL

/-! P16 -/
namespace PL
open PySem PySem.Spec L2
/-! ### the evaluator's equations -/
def pvAt (env : Ev) (i : Nat) : Option D := match env[i]? with | some (.pv d) => some d | _ => none
def rtAt (env : Ev) (i : Nat) : Option Out := match env[i]? with | some (.li xs) => some (.rt (.li xs)) | some (.pv d) => some (.rt (.pv d)) | _ => none
@[simp] theorem pvAt_zero (d : D) (env : Ev) : pvAt (.pv d :: env) 0 = some d := id rfl
@[simp] theorem pvAt_succ (s : Sl) (env : Ev) (i : Nat) : pvAt (s :: env) (i + 1) = pvAt env i := id rfl
@[simp] theorem rtAt_zero (d : D) (env : Ev) : rtAt (.pv d :: env) 0 = some (.rt (.pv d)) := id rfl
@[simp] theorem rtAt_zero' (d : List D) (env : Ev) : rtAt (.li d :: env) 0 = some (.rt (.li d)) := id rfl
@[simp] theorem rtAt_succ (s : Sl) (env : Ev) (i : Nat) : rtAt (s :: env) (i + 1) = rtAt env i := id rfl
def compD (ρ : Str → List D → Option Rv) (κ : Str → Option D) (own : List (Str × Nat)) (elt : Ex) (tg : Tg) (c : Exo) (env : Ev) (vs : List D) : Option (List D) :=
  colD (fun v => (bindT tg v (wipeS env (own.map (·.2)))).bind fun env2 => (evC ρ κ c env2).bind fun k => if k = true then (fzo (evR ρ κ elt env2)).map some else some none) vs
def loopD (ρ : Str → List D → Option Rv) (ξ : Str → List D → Option Str) (κ : Str → Option D) (t : Tg) (b : Sts) (ds : List D) (env : Ev) : Option Out := forD (fun d e => bindT t d e) (fun e => evSs ρ ξ κ b e) ds env
def whlD (ρ : Str → List D → Option Rv) (ξ : Str → List D → Option Str) (κ : Str → Option D) (c : Ex) (b : Sts) (env : Ev) : Option Out := whileO (fun e => toB (evR ρ κ c e)) (fun e => evSs ρ ξ κ b e) env
section
variable (ρ : Str → List D → Option Rv) (ξ : Str → List D → Option Str) (κ : Str → Option D) (env : Ev)
@[simp] theorem evR_slot (i : Nat) : evR ρ κ (.slot i) env = (pvAt env i).map .pv := by
  simp only [evR, pvAt]
  cases env[i]? with
  | none => rfl
  | some s => cases s <;> rfl
@[simp] theorem evR_cst (d : D) : evR ρ κ (.cst d) env = some (.pv d) := id (by first | (simp only [evR]; done) | (simp only [evR]; rfl))
@[simp] theorem evR_glb (x : Str) : evR ρ κ (.glb x) env = (κ x).map .pv := id (by first | (simp only [evR]; done) | (simp only [evR]; rfl))
@[simp] theorem evR_bin (o : Bop) (a b : Ex) : evR ρ κ (.bin o a b) env = (viewOr a env (evR ρ κ a env)).bind fun x => (viewOr b env (evR ρ κ b env)).bind fun y => binD o x y := id (by first | (simp only [evR]; done) | (simp only [evR]; rfl))
@[simp] theorem evR_neg (a : Ex) : evR ρ κ (.neg a) env = (fzo (evR ρ κ a env)).bind fun x => (asI x).map fun i => .pv (.int (-i)) := id (by first | (simp only [evR]; done) | (simp only [evR]; rfl))
@[simp] theorem evR_notE (a : Ex) : evR ρ κ (.notE a) env = (toB (evR ρ κ a env)).map fun b => .pv (.bl (!b)) := id (by first | (simp only [evR]; done) | (simp only [evR]; rfl))
@[simp] theorem evR_cmp (o : Cop) (a b : Ex) : evR ρ κ (.cmp o a b) env = (viewOr a env (evR ρ κ a env)).bind fun x => (viewOr b env (evR ρ κ b env)).bind fun y => (cmpD o x y).map fun k => .pv (.bl k) := id (by first | (simp only [evR]; done) | (simp only [evR]; rfl))
@[simp] theorem evR_chain (o o' : Cop) (a b c : Ex) : evR ρ κ (.chain o o' a b c) env = (viewOr a env (evR ρ κ a env)).bind fun x => (viewOr b env (evR ρ κ b env)).bind fun y => (cmpD o x y).bind fun k =>
      if k = true then (viewOr c env (evR ρ κ c env)).bind fun z => (cmpD o' y z).map fun k => .pv (.bl k) else some (.pv (.bl false)) := id (by first | (simp only [evR]; done) | (simp only [evR]; rfl))
@[simp] theorem evR_chain3 (o o2 o3 : Cop) (a b c d : Ex) : evR ρ κ (.chain3 o o2 o3 a b c d) env = (viewOr a env (evR ρ κ a env)).bind fun x => (viewOr b env (evR ρ κ b env)).bind fun y => (cmpD o x y).bind fun k =>
      if k = true then (viewOr c env (evR ρ κ c env)).bind fun z => (cmpD o2 y z).bind fun k => if k = true then (viewOr d env (evR ρ κ d env)).bind fun u => (cmpD o3 z u).map fun k => .pv (.bl k) else some (.pv (.bl false)) else some (.pv (.bl false)) := id (by first | (simp only [evR]; done) | (simp only [evR]; rfl))
@[simp] theorem evR_lens (e : Ex) : evR ρ κ (.lens e) env = (viewOr e env (evR ρ κ e env)).bind fun x => (asL x).bind fun xs => (asInts xs).bind fun ns => if ns.length ≤ 4000 then some (.pv (.int ((ddI ns).length : Nat))) else none := id (by first | (simp only [evR]; done) | (simp only [evR]; rfl))
@[simp] theorem evR_lidx (i : Nat) (e : Ex) : evR ρ κ (.lidx i e) env = (viewS env i).bind fun x => (asL x).bind fun xs => (fzo (evR ρ κ e env)).bind fun y => if shp 20 y = true ∧ shp 20 (.lst xs) = true then (idxOf y xs).map fun j => .pv (.int (j : Nat)) else none := id (by first | (simp only [evR]; done) | (simp only [evR]; rfl))
@[simp] theorem evR_bool (k : Bool) (es : Exs) : evR ρ κ (.bool k es) env = (evB ρ κ k es env).map fun b => .pv (.bl b) := id (by first | (simp only [evR]; done) | (simp only [evR]; rfl))
@[simp] theorem evR_ife (c a b : Ex) : evR ρ κ (.ife c a b) env = (toB (evR ρ κ c env)).bind fun k => if k = true then evR ρ κ a env else evR ρ κ b env := id (by first | (simp only [evR]; done) | (simp only [evR]; rfl))
@[simp] theorem evR_tup (es : Exs) : evR ρ κ (.tup es) env = (evEs ρ κ es env).bind fun ds => if ds.length ≤ 16777216 then some (.pv (.tup ds)) else none := id (by first | (simp only [evR]; done) | (simp only [evR]; rfl))
@[simp] theorem evR_lst (es : Exs) : evR ρ κ (.lst es) env = (evEs ρ κ es env).bind fun ds => if ds.length ≤ 16777216 then some (.li ds) else none := id (by first | (simp only [evR]; done) | (simp only [evR]; rfl))
@[simp] theorem evR_idx (a b : Ex) : evR ρ κ (.idx a b) env = (viewOr a env (evR ρ κ a env)).bind fun x => (fzo (evR ρ κ b env)).bind fun y => (idxD x y).map .pv := id (by first | (simp only [evR]; done) | (simp only [evR]; rfl))
@[simp] theorem evR_sl (a : Ex) (lo hi : Exo) : evR ρ κ (.sl a lo hi) env = (viewOr a env (evR ρ κ a env)).bind fun x => (evO ρ κ lo env).bind fun l => (evO ρ κ hi env).bind fun u => slD x l u := id (by first | (simp only [evR]; done) | (simp only [evR]; rfl))
@[simp] theorem evR_call (f : Str) (es : Exs) : evR ρ κ (.call f es) env = (evEs ρ κ es env).bind fun ds => ρ f ds := id (by first | (simp only [evR]; done) | (simp only [evR]; rfl))
@[simp] theorem evR_bi (f : Bi) (es : Exs) : evR ρ κ (.bi f es) env = (evVs ρ κ es env).bind fun ds => biD f ds := id (by first | (simp only [evR]; done) | (simp only [evR]; rfl))
@[simp] theorem evR_isi (a : Ex) (T : String) : evR ρ κ (.isi a T) env = (viewOr a env (evR ρ κ a env)).map fun d => .pv (.bl (isiD d T)) := id (by first | (simp only [evR]; done) | (simp only [evR]; rfl))
@[simp] theorem evR_rev (a : Ex) : evR ρ κ (.rev a) env = (viewOr a env (evR ρ κ a env)).bind fun x => (asL x).map fun xs => .li xs.reverse := id (by first | (simp only [evR]; done) | (simp only [evR]; rfl))
@[simp] theorem evR_comp (own : List (Str × Nat)) (elt : Ex) (tg : Tg) (it : Itx) (c : Exo) : evR ρ κ (.comp own elt tg it c) env = (evI ρ κ it env).bind fun vs => if vs.length ≤ 16777216 then (compD ρ κ own elt tg c env vs).map .li else none := id (by first | (simp only [evR, compD]; done) | (simp only [evR, compD]; rfl))
@[simp] theorem evEs_nil : evEs ρ κ .nil env = some [] := id (by first | (simp only [evEs]; done) | (simp only [evEs]; rfl))
@[simp] theorem evEs_cons (e : Ex) (es : Exs) : evEs ρ κ (.cons e es) env = (fzo (evR ρ κ e env)).bind fun d => (evEs ρ κ es env).map fun ds => d :: ds := id (by first | (simp only [evEs]; done) | (simp only [evEs]; rfl))
@[simp] theorem evVs_nil : evVs ρ κ .nil env = some [] := id (by first | (simp only [evVs]; done) | (simp only [evVs]; rfl))
@[simp] theorem evVs_cons (e : Ex) (es : Exs) : evVs ρ κ (.cons e es) env = (viewOr e env (evR ρ κ e env)).bind fun d => (evVs ρ κ es env).map fun ds => d :: ds := id (by first | (simp only [evVs]; done) | (simp only [evVs]; rfl))
@[simp] theorem evB_nil (k : Bool) : evB ρ κ k .nil env = some k := id (by first | (simp only [evB]; done) | (simp only [evB]; rfl))
@[simp] theorem evB_cons (k : Bool) (e : Ex) (es : Exs) : evB ρ κ k (.cons e es) env = (toB (evR ρ κ e env)).bind fun b => if b = k then evB ρ κ k es env else some b := id (by first | (simp only [evB]; done) | (simp only [evB]; rfl))
@[simp] theorem evO_no : evO ρ κ .no env = some none := id (by first | (simp only [evO]; done) | (simp only [evO]; rfl))
@[simp] theorem evO_yes (e : Ex) : evO ρ κ (.yes e) env = (fzo (evR ρ κ e env)).bind fun d => (asI d).map some := id (by first | (simp only [evO]; done) | (simp only [evO]; rfl))
@[simp] theorem evC_no : evC ρ κ .no env = some true := id (by first | (simp only [evC]; done) | (simp only [evC]; rfl))
@[simp] theorem evC_yes (e : Ex) : evC ρ κ (.yes e) env = toB (evR ρ κ e env) := id (by first | (simp only [evC]; done) | (simp only [evC]; rfl))
@[simp] theorem evI_sql (e : Ex) : evI ρ κ (.sql e) env = (viewOr e env (evR ρ κ e env)).bind asQ := id (by first | (simp only [evI]; done) | (simp only [evI]; rfl))
@[simp] theorem evI_sqt (e : Ex) : evI ρ κ (.sqt e) env = (fzo (evR ρ κ e env)).bind fun d => match d with | .tup xs => some xs | _ => none := id (by first | (simp only [evI]; done) | (simp only [evI]; rfl))
@[simp] theorem evI_rng1 (a : Ex) : evI ρ κ (.rng1 a) env = (fzo (evR ρ κ a env)).bind fun d => (asI d).bind fun i => if inRg i = true then some (rngD 0 i.toNat) else none := id (by first | (simp only [evI]; done) | (simp only [evI]; rfl))
@[simp] theorem evI_rng2 (a b : Ex) : evI ρ κ (.rng2 a b) env = (fzo (evR ρ κ a env)).bind fun d => (asI d).bind fun i => (fzo (evR ρ κ b env)).bind fun d => (asI d).bind fun j => if inRg i = true ∧ inRg j = true then some (rngD i (j - i).toNat) else none := id (by first | (simp only [evI]; done) | (simp only [evI]; rfl))
@[simp] theorem evI_zip (a b : Ex) : evI ρ κ (.zip a b) env = (viewOr a env (evR ρ κ a env)).bind fun x => (viewOr b env (evR ρ κ b env)).bind fun y => (asQ x).bind fun xs => (asQ y).map fun ys => zipD xs ys := id (by first | (simp only [evI]; done) | (simp only [evI]; rfl))
@[simp] theorem evI_zip3 (a b c : Ex) : evI ρ κ (.zip3 a b c) env = (viewOr a env (evR ρ κ a env)).bind fun x => (viewOr b env (evR ρ κ b env)).bind fun y => (viewOr c env (evR ρ κ c env)).bind fun z => (asQ x).bind fun xs => (asQ y).bind fun ys => (asQ z).map fun zs => zip3D xs ys zs := id (by first | (simp only [evI]; done) | (simp only [evI]; rfl))
@[simp] theorem evI_enum (a : Ex) : evI ρ κ (.enum a) env = (viewOr a env (evR ρ κ a env)).bind fun x => (asL x).map fun xs => enumD 0 xs := id (by first | (simp only [evI]; done) | (simp only [evI]; rfl))
@[simp] theorem evJ_sql (e : Ex) : evJ ρ κ (.sql e) env = (fzo (evR ρ κ e env)).bind asQ := id (by first | (simp only [evJ]; done) | (simp only [evJ]; rfl))
@[simp] theorem evJ_sqt (e : Ex) : evJ ρ κ (.sqt e) env = evI ρ κ (.sqt e) env := id (by first | (simp only [evJ]; done) | (simp only [evJ]; rfl))
@[simp] theorem evJ_rng1 (e : Ex) : evJ ρ κ (.rng1 e) env = evI ρ κ (.rng1 e) env := id (by first | (simp only [evJ]; done) | (simp only [evJ]; rfl))
@[simp] theorem evJ_rng2 (a b : Ex) : evJ ρ κ (.rng2 a b) env = evI ρ κ (.rng2 a b) env := id (by first | (simp only [evJ]; done) | (simp only [evJ]; rfl))
@[simp] theorem evJ_zip (a b : Ex) : evJ ρ κ (.zip a b) env = (fzo (evR ρ κ a env)).bind fun x => (fzo (evR ρ κ b env)).bind fun y => (asQ x).bind fun xs => (asQ y).map fun ys => zipD xs ys := id (by first | (simp only [evJ]; done) | (simp only [evJ]; rfl))
@[simp] theorem evJ_zip3 (a b c : Ex) : evJ ρ κ (.zip3 a b c) env = (fzo (evR ρ κ a env)).bind fun x => (fzo (evR ρ κ b env)).bind fun y => (fzo (evR ρ κ c env)).bind fun z => (asQ x).bind fun xs => (asQ y).bind fun ys => (asQ z).map fun zs => zip3D xs ys zs := id (by first | (simp only [evJ]; done) | (simp only [evJ]; rfl))
@[simp] theorem evJ_enum (a : Ex) : evJ ρ κ (.enum a) env = (fzo (evR ρ κ a env)).bind fun x => (asL x).map fun xs => enumD 0 xs := id (by first | (simp only [evJ]; done) | (simp only [evJ]; rfl))
@[simp] theorem evS_pass : evS ρ ξ κ .pass env = some (.nx env) := id (by first | (simp only [evS]; done) | (simp only [evS]; rfl))
@[simp] theorem evS_drop (e : Ex) : evS ρ ξ κ (.drop e) env = (evR ρ κ e env).map fun _ => .nx env := id (by first | (simp only [evS]; done) | (simp only [evS]; rfl))
@[simp] theorem evS_asg (t : Tg) (e : Ex) : evS ρ ξ κ (.asg t e) env = (fzo (evR ρ κ e env)).bind fun d => (bindT t d env).map .nx := id (by first | (simp only [evS]; done) | (simp only [evS]; rfl))
@[simp] theorem evS_own (i : Nat) (e : Ex) : evS ρ ξ κ (.own i e) env = (evR ρ κ e env).bind fun r => match r with | .li xs => (setLi env i xs).map .nx | .pv _ => none := id (by first | (simp only [evS]; done) | (simp only [evS]; rfl))
@[simp] theorem evS_par (i j : Nat) (a b : Ex) : evS ρ ξ κ (.par i j a b) env = (fzo (evR ρ κ a env)).bind fun x => (fzo (evR ρ κ b env)).bind fun y => if i < env.length ∧ j < env.length then some (.nx ((env.set i (.pv x)).set j (.pv y))) else none := id (by first | (simp only [evS]; done) | (simp only [evS]; rfl))
@[simp] theorem evS_frz (i : Nat) : evS ρ ξ κ (.frz i) env = (liAt env i).map fun xs => .nx (env.set i (.pv (.lst xs))) := id (by first | (simp only [evS]; done) | (simp only [evS]; rfl))
@[simp] theorem evS_app (i : Nat) (e : Ex) : evS ρ ξ κ (.app i e) env = (fzo (evR ρ κ e env)).bind fun d => (liAt env i).bind fun xs => if xs.length < 16777216 then some (.nx (env.set i (.li (xs ++ [d])))) else none := id (by first | (simp only [evS]; done) | (simp only [evS]; rfl))
@[simp] theorem evS_ext (i : Nat) (e : Ex) : evS ρ ξ κ (.ext i e) env = (viewOr e env (evR ρ κ e env)).bind fun d => (liAt env i).bind fun xs => match d with
    | .lst ys => if xs.length + ys.length ≤ 16777216 then some (.nx (env.set i (.li (xs ++ ys)))) else none
    | _ => none := id (by first | (simp only [evS]; done) | (simp only [evS]; rfl))
@[simp] theorem evS_rem (i : Nat) (e : Ex) : evS ρ ξ κ (.rem i e) env = (fzo (evR ρ κ e env)).bind fun y => (liAt env i).bind fun xs => if shp 20 y = true ∧ shp 20 (.lst xs) = true then (idxOf y xs).map fun j => .nx (env.set i (.li (xs.eraseIdx j))) else none := id (by first | (simp only [evS]; done) | (simp only [evS]; rfl))
@[simp] theorem evS_sto (i : Nat) (ix e : Ex) : evS ρ ξ κ (.sto i ix e) env = (fzo (evR ρ κ e env)).bind fun d => (fzo (evR ρ κ ix env)).bind fun k => (asI k).bind fun k => (liAt env i).bind fun xs => (ixN xs.length k).map fun j => .nx (env.set i (.li (xs.set j d))) := id (by first | (simp only [evS]; done) | (simp only [evS]; rfl))
@[simp] theorem evS_aug (i : Nat) (o : Bop) (e : Ex) : evS ρ ξ κ (.aug i o e) env = (pvAt env i).bind fun x => (fzo (evR ρ κ e env)).bind fun y => (augD o x y).map fun z => .nx (env.set i (.pv z)) := by
  simp only [evS, pvAt]
  cases env[i]? with
  | none => rfl
  | some s => cases s <;> rfl
@[simp] theorem evS_ret (e : Ex) : evS ρ ξ κ (.ret e) env = retOf e env (evR ρ κ e env) := id (by first | (simp only [evS]; done) | (simp only [evS]; rfl))
@[simp] theorem evS_retN : evS ρ ξ κ .retN env = some (.rt (.pv .non)) := id (by first | (simp only [evS]; done) | (simp only [evS]; rfl))
@[simp] theorem evS_ifs (c : Ex) (a b : Sts) : evS ρ ξ κ (.ifs c a b) env = (toB (evR ρ κ c env)).bind fun k => if k = true then evSs ρ ξ κ a env else evSs ρ ξ κ b env := id (by first | (simp only [evS]; done) | (simp only [evS]; rfl))
@[simp] theorem evS_whl (c : Ex) (b : Sts) : evS ρ ξ κ (.whl c b) env = whlD ρ ξ κ c b env := id (by first | (simp only [evS, whlD]; done) | (simp only [evS, whlD]; rfl))
@[simp] theorem evS_forL (t : Tg) (i : Nat) (b : Sts) : evS ρ ξ κ (.forL t i b) env = (liAt env i).bind fun xs => (loopD ρ ξ κ t b xs (env.set i .hid)).bind fun o => unhid i xs o := id (by first | (simp only [evS, loopD]; done) | (simp only [evS, loopD]; rfl))
@[simp] theorem evS_for (t : Tg) (it : Itx) (b : Sts) : evS ρ ξ κ (.for t it b) env = (evJ ρ κ it env).bind fun ds => loopD ρ ξ κ t b ds env := id (by first | (simp only [evS, loopD]; done) | (simp only [evS, loopD]; rfl))
@[simp] theorem evS_cont : evS ρ ξ κ .cont env = some (.ct env) := id (by first | (simp only [evS]; done) | (simp only [evS]; rfl))
@[simp] theorem evS_brk : evS ρ ξ κ .brk env = some (.bk env) := id (by first | (simp only [evS]; done) | (simp only [evS]; rfl))
@[simp] theorem evSs_nil : evSs ρ ξ κ .nil env = some (.nx env) := id (by first | (simp only [evSs]; done) | (simp only [evSs]; rfl))
@[simp] theorem evSs_cons (x : St) (r : Sts) : evSs ρ ξ κ (.cons x r) env = (evS ρ ξ κ x env).bind fun o => o.seq fun e => evSs ρ ξ κ r e := id (by first | (simp only [evSs]; done) | (simp only [evSs]; rfl))
end
@[simp] theorem fz_pv (d : D) : Rv.fz (.pv d) = d := id rfl
@[simp] theorem fz_li (xs : List D) : Rv.fz (.li xs) = .lst xs := id rfl
@[simp] theorem fzo_some (r : Rv) : fzo (some r) = some r.fz := id rfl
@[simp] theorem fzo_none : fzo none = none := id rfl
@[simp] theorem toB_bl (b : Bool) : toB (some (.pv (.bl b))) = some b := id rfl
@[simp] theorem toB_ite {c : Prop} [Decidable c] (a b : Option Rv) : toB (if c then a else b) = if c then toB a else toB b := by split <;> rfl
@[simp] theorem fzo_ite {c : Prop} [Decidable c] (a b : Option Rv) : fzo (if c then a else b) = if c then fzo a else fzo b := by split <;> rfl
@[simp] theorem viewOr_slot (i : Nat) (env : Ev) (r : Option Rv) : viewOr (.slot i) env r = viewS env i := id rfl
@[simp] theorem viewOr_cst (d : D) (env : Ev) (r : Option Rv) : viewOr (.cst d) env r = fzo r := id rfl
@[simp] theorem viewOr_glb (x : Str) (env : Ev) (r : Option Rv) : viewOr (.glb x) env r = fzo r := id rfl
@[simp] theorem viewOr_bin (o : Bop) (a b : Ex) (env : Ev) (r : Option Rv) : viewOr (.bin o a b) env r = fzo r := id rfl
@[simp] theorem viewOr_neg (a : Ex) (env : Ev) (r : Option Rv) : viewOr (.neg a) env r = fzo r := id rfl
@[simp] theorem viewOr_notE (a : Ex) (env : Ev) (r : Option Rv) : viewOr (.notE a) env r = fzo r := id rfl
@[simp] theorem viewOr_cmp (o : Cop) (a b : Ex) (env : Ev) (r : Option Rv) : viewOr (.cmp o a b) env r = fzo r := id rfl
@[simp] theorem viewOr_chain (o p : Cop) (a b c : Ex) (env : Ev) (r : Option Rv) : viewOr (.chain o p a b c) env r = fzo r := id rfl
@[simp] theorem viewOr_chain3 (o p q : Cop) (a b c d : Ex) (env : Ev) (r : Option Rv) : viewOr (.chain3 o p q a b c d) env r = fzo r := id rfl
@[simp] theorem viewOr_lens (e : Ex) (env : Ev) (r : Option Rv) : viewOr (.lens e) env r = fzo r := id rfl
@[simp] theorem viewOr_lidx (i : Nat) (e : Ex) (env : Ev) (r : Option Rv) : viewOr (.lidx i e) env r = fzo r := id rfl
@[simp] theorem viewOr_isx (i : Nat) (ts : List Str) (env : Ev) (r : Option Rv) : viewOr (.isx i ts) env r = fzo r := id rfl
@[simp] theorem viewOr_bool (k : Bool) (a : Exs) (env : Ev) (r : Option Rv) : viewOr (.bool k a) env r = fzo r := id rfl
@[simp] theorem viewOr_ife (a b c : Ex) (env : Ev) (r : Option Rv) : viewOr (.ife a b c) env r = fzo r := id rfl
@[simp] theorem viewOr_tup (a : Exs) (env : Ev) (r : Option Rv) : viewOr (.tup a) env r = fzo r := id rfl
@[simp] theorem viewOr_lst (a : Exs) (env : Ev) (r : Option Rv) : viewOr (.lst a) env r = fzo r := id rfl
@[simp] theorem viewOr_idx (a b : Ex) (env : Ev) (r : Option Rv) : viewOr (.idx a b) env r = fzo r := id rfl
@[simp] theorem viewOr_sl (a : Ex) (l u : Exo) (env : Ev) (r : Option Rv) : viewOr (.sl a l u) env r = fzo r := id rfl
@[simp] theorem viewOr_call (f : Str) (a : Exs) (env : Ev) (r : Option Rv) : viewOr (.call f a) env r = fzo r := id rfl
@[simp] theorem viewOr_bi (f : Bi) (a : Exs) (env : Ev) (r : Option Rv) : viewOr (.bi f a) env r = fzo r := id rfl
@[simp] theorem viewOr_rev (a : Ex) (env : Ev) (r : Option Rv) : viewOr (.rev a) env r = fzo r := id rfl
@[simp] theorem viewOr_isi (a : Ex) (T : String) (env : Ev) (r : Option Rv) : viewOr (.isi a T) env r = fzo r := id rfl
@[simp] theorem viewOr_comp (own : List (Str × Nat)) (e : Ex) (t : Tg) (it : Itx) (c : Exo) (env : Ev) (r : Option Rv) : viewOr (.comp own e t it c) env r = fzo r := id rfl
@[simp] theorem viewS_zero (d : D) (env : Ev) : viewS (.pv d :: env) 0 = some d := id rfl
@[simp] theorem viewS_zero' (d : List D) (env : Ev) : viewS (.li d :: env) 0 = some (.lst d) := id rfl
@[simp] theorem viewS_succ (s : Sl) (env : Ev) (i : Nat) : viewS (s :: env) (i + 1) = viewS env i := id rfl
@[simp] theorem liAt_zero (d : List D) (env : Ev) : liAt (.li d :: env) 0 = some d := id rfl
@[simp] theorem liAt_succ (s : Sl) (env : Ev) (i : Nat) : liAt (s :: env) (i + 1) = liAt env i := id rfl
@[simp] theorem asI_int (i : Int) : asI (.int i) = some i := id rfl
@[simp] theorem asL_lst (i : List D) : asL (.lst i) = some i := id rfl
@[simp] theorem asL_flst (i : List D) : asL (.flst i) = some i := id rfl
@[simp] theorem asQ_lst (i : List D) : asQ (.lst i) = some i := id rfl
@[simp] theorem asQ_flst (i : List D) : asQ (.flst i) = some i := id rfl
@[simp] theorem asQ_tup (i : List D) : asQ (.tup i) = some i := id rfl
@[simp] theorem bin_add (i j : Int) : binD .add (.int i) (.int j) = some (.pv (.int (i + j))) := id rfl
@[simp] theorem bin_addT (i j : List D) : binD .add (.tup i) (.tup j) = if i.length + j.length ≤ 16777216 then some (.pv (.tup (i ++ j))) else none := id rfl
@[simp] theorem bin_addL (i j : List D) : binD .add (.lst i) (.lst j) = if i.length + j.length ≤ 16777216 then some (.li (i ++ j)) else none := id rfl
@[simp] theorem bin_addS (i j : Str) : binD .add (.str i) (.str j) = if i.length + j.length ≤ 16777216 then some (.pv (.str (i ++ j))) else none := id rfl
@[simp] theorem bin_sub (i j : Int) : binD .sub (.int i) (.int j) = some (.pv (.int (i - j))) := id rfl
@[simp] theorem bin_mulL (xs : List D) (n : Int) : binD .mul (.lst xs) (.int n) = if decide (-(2 ^ 62) ≤ n ∧ n < 2 ^ 62) = true ∧ xs.length * n.toNat ≤ 16777216 then some (.li (List.replicate n.toNat xs).flatten) else none := id rfl
@[simp] theorem bin_mul (i j : Int) : binD .mul (.int i) (.int j) = if mulOk i j = true then some (.pv (.int (i * j))) else none := id rfl
@[simp] theorem bin_fdiv (i j : Int) : binD .fdiv (.int i) (.int j) = if divOk j = true then some (.pv (.int (i.fdiv j))) else none := id rfl
@[simp] theorem bin_mod (i j : Int) : binD .mod (.int i) (.int j) = if j ≠ 0 then some (.pv (.int (i.fmod j))) else none := id rfl
@[simp] theorem bin_pow (i j : Int) : binD .pow (.int i) (.int j) = if powOk i j = true then some (.pv (.int (i ^ j.toNat))) else none := id rfl
@[simp] theorem bin_shl (i j : Int) : binD .shl (.int i) (.int j) = if powOk i j = true then some (.pv (.int (i * 2 ^ j.toNat))) else none := id rfl
@[simp] theorem bin_shr (i j : Int) : binD .shr (.int i) (.int j) = if 0 ≤ j then some (.pv (.int (i / 2 ^ j.toNat))) else none := id rfl
@[simp] theorem bin_band (i j : Int) : binD .band (.int i) (.int j) = some (.pv (.int (Builtin.bitAnd i j))) := id rfl
@[simp] theorem bin_bor (i j : Int) : binD .bor (.int i) (.int j) = some (.pv (.int (Builtin.bitOr i j))) := id rfl
@[simp] theorem cmp_lt (i j : Int) : cmpD .lt (.int i) (.int j) = some (decide (i < j)) := id rfl
@[simp] theorem cmp_le (i j : Int) : cmpD .le (.int i) (.int j) = some (decide (i ≤ j)) := id rfl
@[simp] theorem cmp_gt (i j : Int) : cmpD .gt (.int i) (.int j) = some (decide (j < i)) := id rfl
@[simp] theorem cmp_ge (i j : Int) : cmpD .ge (.int i) (.int j) = some (decide (j ≤ i)) := id rfl
theorem cmp_eq (i j : D) : cmpD .eq i j = if shp 20 i = true ∧ shp 20 j = true then some (eqD i j) else none := by cases i <;> cases j <;> rfl
theorem cmp_ne (i j : D) : cmpD .ne i j = if shp 20 i = true ∧ shp 20 j = true then some (!eqD i j) else none := by cases i <;> cases j <;> rfl
@[simp] theorem cmp_eqI (i j : Int) : cmpD .eq (.int i) (.int j) = some (decide (i = j)) := by
  rw [cmp_eq]
  simp [shp, eqD, toPy, PyData.eqv]
  by_cases h : i = j <;> simp [h]
@[simp] theorem cmp_neI (i j : Int) : cmpD .ne (.int i) (.int j) = some (!decide (i = j)) := by
  rw [cmp_ne]
  simp [shp, eqD, toPy, PyData.eqv]
  by_cases h : i = j <;> simp [h]
@[simp] theorem cmp_isB (i j : Bool) : cmpD .is (.bl i) (.bl j) = some (decide (i = j)) := id rfl
@[simp] theorem cmp_isnB (i j : Bool) : cmpD .isn (.bl i) (.bl j) = some (!decide (i = j)) := id rfl
@[simp] theorem idx_tup (xs : List D) (i : Int) : idxD (.tup xs) (.int i) = atI xs i := id rfl
@[simp] theorem idx_lst (xs : List D) (i : Int) : idxD (.lst xs) (.int i) = atI xs i := id rfl
@[simp] theorem idx_flst (xs : List D) (i : Int) : idxD (.flst xs) (.int i) = atI xs i := id rfl
@[simp] theorem sl_tup' (xs : List D) (a b : Option Int) : slD (.tup xs) a b = some (.pv (.tup (cutD xs a b))) := id rfl
@[simp] theorem sl_lst' (xs : List D) (a b : Option Int) : slD (.lst xs) a b = some (.li (cutD xs a b)) := id rfl
@[simp] theorem sl_flst' (xs : List D) (a b : Option Int) : slD (.flst xs) a b = some (.li (cutD xs a b)) := id rfl
@[simp] theorem bi_abs (i : Int) : biD .abs [.int i] = some (.pv (.int (if i < 0 then -i else i))) := id rfl
@[simp] theorem bi_lenT (i : List D) : biD .len [.tup i] = some (.pv (.int (i.length : Nat))) := id rfl
@[simp] theorem bi_lenL (i : List D) : biD .len [.lst i] = some (.pv (.int (i.length : Nat))) := id rfl
@[simp] theorem bi_lenF (i : List D) : biD .len [.flst i] = some (.pv (.int (i.length : Nat))) := id rfl
@[simp] theorem bi_divmod (i j : Int) : biD .divmod [.int i, .int j] = if divPos j = true then some (.pv (.tup [.int (i / j), .int (i % j)])) else none := id rfl
@[simp] theorem bi_sortL (xs : List D) : biD .sorted [.lst xs] = (asPrs xs).map fun ps => .li ((sortP ps).map prD) := id rfl
@[simp] theorem bi_sortF (xs : List D) : biD .sorted [.flst xs] = (asPrs xs).map fun ps => .li ((sortP ps).map prD) := id rfl
@[simp] theorem bi_int1 (i : Int) : biD .int [.int i] = some (.pv (.int i)) := id rfl
@[simp] theorem bi_intb (i : Bool) : biD .int [.bl i] = some (.pv (.int (if i = true then 1 else 0))) := id rfl
@[simp] theorem bi_max2 (i j : Int) : biD .max [.int i, .int j] = some (.pv (.int (if j > i then j else i))) := id rfl
@[simp] theorem bi_max3 (i j k : Int) : biD .max [.int i, .int j, .int k] = some (.pv (.int (if k > (if j > i then j else i) then k else (if j > i then j else i)))) := id rfl
@[simp] theorem bi_min2 (i j : Int) : biD .min [.int i, .int j] = some (.pv (.int (if j < i then j else i))) := id rfl
@[simp] theorem bi_tupleL (i : List D) : biD .tuple [.lst i] = some (.pv (.tup i)) := id rfl
@[simp] theorem bi_tupleT (i : List D) : biD .tuple [.tup i] = some (.pv (.tup i)) := id rfl
@[simp] theorem bi_listL (i : List D) : biD .list [.lst i] = some (.li i) := id rfl
@[simp] theorem bi_listT (i : List D) : biD .list [.tup i] = some (.li i) := id rfl
@[simp] theorem bi_listF (i : List D) : biD .list [.flst i] = some (.li i) := id rfl
@[simp] theorem seq_nx (e : Ev) (f : Ev → Option Out) : (Out.nx e).seq f = f e := id rfl
@[simp] theorem seq_rt (r : Rv) (f : Ev → Option Out) : (Out.rt r).seq f = some (.rt r) := id rfl
@[simp] theorem seq_bk (e : Ev) (f : Ev → Option Out) : (Out.bk e).seq f = some (.bk e) := id rfl
@[simp] theorem seq_ct (e : Ev) (f : Ev → Option Out) : (Out.ct e).seq f = some (.ct e) := id rfl
@[simp] theorem bindT_nm (i : Nat) (d : D) (env : Ev) : bindT (.nm i) d env = if i < env.length then some (env.set i (.pv d)) else none := id (by first | (simp only [bindT]; done) | (simp only [bindT]; rfl))
@[simp] theorem bindT_lst (is : List Nat) (ds : List D) (env : Ev) : bindT (.tup is) (.lst ds) env = bindL is ds env := id (by first | (simp only [bindT]; done) | (simp only [bindT]; rfl))
@[simp] theorem bindT_flst (is : List Nat) (ds : List D) (env : Ev) : bindT (.tup is) (.flst ds) env = bindL is ds env := id (by first | (simp only [bindT]; done) | (simp only [bindT]; rfl))
@[simp] theorem bindT_tup (is : List Nat) (ds : List D) (env : Ev) : bindT (.tup is) (.tup ds) env = bindL is ds env := id (by first | (simp only [bindT]; done) | (simp only [bindT]; rfl))
@[simp] theorem bindL_nil (env : Ev) : bindL [] [] env = some env := id (by first | (simp only [bindL]; done) | (simp only [bindL]; rfl))
@[simp] theorem bindL_cons (i : Nat) (is : List Nat) (d : D) (ds : List D) (env : Ev) : bindL (i :: is) (d :: ds) env = if i < env.length then bindL is ds (env.set i (.pv d)) else none := id (by first | (simp only [bindL]; done) | (simp only [bindL]; rfl))
@[simp] theorem retOf_slot (i : Nat) (env : Ev) (r : Option Rv) : retOf (.slot i) env r = rtAt env i := id rfl
@[simp] theorem retOf_cst (d : D) (env : Ev) (r : Option Rv) : retOf (.cst d) env r = r.map .rt := id rfl
@[simp] theorem retOf_glb (x : Str) (env : Ev) (r : Option Rv) : retOf (.glb x) env r = r.map .rt := id rfl
@[simp] theorem retOf_bin (o : Bop) (a b : Ex) (env : Ev) (r : Option Rv) : retOf (.bin o a b) env r = r.map .rt := id rfl
@[simp] theorem retOf_neg (a : Ex) (env : Ev) (r : Option Rv) : retOf (.neg a) env r = r.map .rt := id rfl
@[simp] theorem retOf_notE (a : Ex) (env : Ev) (r : Option Rv) : retOf (.notE a) env r = r.map .rt := id rfl
@[simp] theorem retOf_cmp (o : Cop) (a b : Ex) (env : Ev) (r : Option Rv) : retOf (.cmp o a b) env r = r.map .rt := id rfl
@[simp] theorem retOf_chain (o p : Cop) (a b c : Ex) (env : Ev) (r : Option Rv) : retOf (.chain o p a b c) env r = r.map .rt := id rfl
@[simp] theorem retOf_chain3 (o p q : Cop) (a b c d : Ex) (env : Ev) (r : Option Rv) : retOf (.chain3 o p q a b c d) env r = r.map .rt := id rfl
@[simp] theorem retOf_lens (e : Ex) (env : Ev) (r : Option Rv) : retOf (.lens e) env r = r.map .rt := id rfl
@[simp] theorem retOf_lidx (i : Nat) (e : Ex) (env : Ev) (r : Option Rv) : retOf (.lidx i e) env r = r.map .rt := id rfl
@[simp] theorem retOf_isx (i : Nat) (ts : List Str) (env : Ev) (r : Option Rv) : retOf (.isx i ts) env r = r.map .rt := id rfl
@[simp] theorem retOf_bool (k : Bool) (a : Exs) (env : Ev) (r : Option Rv) : retOf (.bool k a) env r = r.map .rt := id rfl
@[simp] theorem retOf_ife (a b c : Ex) (env : Ev) (r : Option Rv) : retOf (.ife a b c) env r = r.map .rt := id rfl
@[simp] theorem retOf_tup (a : Exs) (env : Ev) (r : Option Rv) : retOf (.tup a) env r = r.map .rt := id rfl
@[simp] theorem retOf_lst (a : Exs) (env : Ev) (r : Option Rv) : retOf (.lst a) env r = r.map .rt := id rfl
@[simp] theorem retOf_idx (a b : Ex) (env : Ev) (r : Option Rv) : retOf (.idx a b) env r = r.map .rt := id rfl
@[simp] theorem retOf_sl (a : Ex) (l u : Exo) (env : Ev) (r : Option Rv) : retOf (.sl a l u) env r = r.map .rt := id rfl
@[simp] theorem retOf_call (f : Str) (a : Exs) (env : Ev) (r : Option Rv) : retOf (.call f a) env r = r.map .rt := id rfl
@[simp] theorem retOf_bi (f : Bi) (a : Exs) (env : Ev) (r : Option Rv) : retOf (.bi f a) env r = r.map .rt := id rfl
@[simp] theorem retOf_rev (a : Ex) (env : Ev) (r : Option Rv) : retOf (.rev a) env r = r.map .rt := id rfl
@[simp] theorem retOf_isi (a : Ex) (T : String) (env : Ev) (r : Option Rv) : retOf (.isi a T) env r = r.map .rt := id rfl
@[simp] theorem retOf_comp (own : List (Str × Nat)) (e : Ex) (t : Tg) (it : Itx) (c : Exo) (env : Ev) (r : Option Rv) : retOf (.comp own e t it c) env r = r.map .rt := id rfl
@[simp] theorem outR_rt (r : Rv) : outR (some (.rt r)) = some r := id rfl
@[simp] theorem outR_nx (e : Ev) : outR (some (.nx e)) = some (.pv .non) := id rfl
@[simp] theorem outR_none : outR none = none := id rfl
@[simp] theorem outR_ite {c : Prop} [Decidable c] (a b : Option Out) : outR (if c then a else b) = if c then outR a else outR b := by split <;> rfl
@[simp] theorem bind_ite {α β : Type} {c : Prop} [Decidable c] (a b : Option α) (f : α → Option β) : (if c then a else b).bind f = if c then a.bind f else b.bind f := by split <;> rfl
@[simp] theorem map_ite {α β : Type} {c : Prop} [Decidable c] (a b : Option α) (f : α → β) : (if c then a else b).map f = if c then a.map f else b.map f := by split <;> rfl
@[simp] theorem setLi_def (env : Ev) (i : Nat) (xs : List D) : setLi env i xs = if i < env.length then some (env.set i (.li xs)) else none := id rfl
@[simp] theorem isi_non_int  : isiD (.non) "int" = false := by unfold isiD; simp only [tyN]; decide
@[simp] theorem isi_non_bool  : isiD (.non) "bool" = false := by unfold isiD; simp only [tyN]; decide
@[simp] theorem isi_non_str  : isiD (.non) "str" = false := by unfold isiD; simp only [tyN]; decide
@[simp] theorem isi_non_tuple  : isiD (.non) "tuple" = false := by unfold isiD; simp only [tyN]; decide
@[simp] theorem isi_non_list  : isiD (.non) "list" = false := by unfold isiD; simp only [tyN]; decide
@[simp] theorem isi_bl_int (b : Bool) : isiD (.bl b) "int" = true := by unfold isiD; simp only [tyN]; decide
@[simp] theorem isi_bl_bool (b : Bool) : isiD (.bl b) "bool" = true := by unfold isiD; simp only [tyN]; decide
@[simp] theorem isi_bl_str (b : Bool) : isiD (.bl b) "str" = false := by unfold isiD; simp only [tyN]; decide
@[simp] theorem isi_bl_tuple (b : Bool) : isiD (.bl b) "tuple" = false := by unfold isiD; simp only [tyN]; decide
@[simp] theorem isi_bl_list (b : Bool) : isiD (.bl b) "list" = false := by unfold isiD; simp only [tyN]; decide
@[simp] theorem isi_int_int (b : Int) : isiD (.int b) "int" = true := by unfold isiD; simp only [tyN]; decide
@[simp] theorem isi_int_bool (b : Int) : isiD (.int b) "bool" = false := by unfold isiD; simp only [tyN]; decide
@[simp] theorem isi_int_str (b : Int) : isiD (.int b) "str" = false := by unfold isiD; simp only [tyN]; decide
@[simp] theorem isi_int_tuple (b : Int) : isiD (.int b) "tuple" = false := by unfold isiD; simp only [tyN]; decide
@[simp] theorem isi_int_list (b : Int) : isiD (.int b) "list" = false := by unfold isiD; simp only [tyN]; decide
@[simp] theorem isi_str_int (b : Str) : isiD (.str b) "int" = false := by unfold isiD; simp only [tyN]; decide
@[simp] theorem isi_str_bool (b : Str) : isiD (.str b) "bool" = false := by unfold isiD; simp only [tyN]; decide
@[simp] theorem isi_str_str (b : Str) : isiD (.str b) "str" = true := by unfold isiD; simp only [tyN]; decide
@[simp] theorem isi_str_tuple (b : Str) : isiD (.str b) "tuple" = false := by unfold isiD; simp only [tyN]; decide
@[simp] theorem isi_str_list (b : Str) : isiD (.str b) "list" = false := by unfold isiD; simp only [tyN]; decide
@[simp] theorem isi_tup_int (b : List D) : isiD (.tup b) "int" = false := by unfold isiD; simp only [tyN]; decide
@[simp] theorem isi_tup_bool (b : List D) : isiD (.tup b) "bool" = false := by unfold isiD; simp only [tyN]; decide
@[simp] theorem isi_tup_str (b : List D) : isiD (.tup b) "str" = false := by unfold isiD; simp only [tyN]; decide
@[simp] theorem isi_tup_tuple (b : List D) : isiD (.tup b) "tuple" = true := by unfold isiD; simp only [tyN]; decide
@[simp] theorem isi_tup_list (b : List D) : isiD (.tup b) "list" = false := by unfold isiD; simp only [tyN]; decide
@[simp] theorem isi_lst_int (b : List D) : isiD (.lst b) "int" = false := by unfold isiD; simp only [tyN]; decide
@[simp] theorem isi_lst_bool (b : List D) : isiD (.lst b) "bool" = false := by unfold isiD; simp only [tyN]; decide
@[simp] theorem isi_lst_str (b : List D) : isiD (.lst b) "str" = false := by unfold isiD; simp only [tyN]; decide
@[simp] theorem isi_lst_tuple (b : List D) : isiD (.lst b) "tuple" = false := by unfold isiD; simp only [tyN]; decide
@[simp] theorem isi_lst_list (b : List D) : isiD (.lst b) "list" = true := by unfold isiD; simp only [tyN]; decide
@[simp] theorem isi_flst_int (b : List D) : isiD (.flst b) "int" = false := by unfold isiD; simp only [tyN]; decide
@[simp] theorem isi_flst_bool (b : List D) : isiD (.flst b) "bool" = false := by unfold isiD; simp only [tyN]; decide
@[simp] theorem isi_flst_str (b : List D) : isiD (.flst b) "str" = false := by unfold isiD; simp only [tyN]; decide
@[simp] theorem isi_flst_tuple (b : List D) : isiD (.flst b) "tuple" = false := by unfold isiD; simp only [tyN]; decide
@[simp] theorem isi_flst_list (b : List D) : isiD (.flst b) "list" = true := by unfold isiD; simp only [tyN]; decide
theorem isi_n (d : D) (T : String) : isiD d T = isiN (tyN d) T := rfl
@[simp] theorem forD_nil (g : D → Ev → Option Ev) (b : Ev → Option Out) (env : Ev) : forD g b [] env = some (.nx env) := id rfl
@[simp] theorem forD_cons (g : D → Ev → Option Ev) (b : Ev → Option Out) (d : D) (r : List D) (env : Ev) : forD g b (d :: r) env = (g d env).bind fun e => (b e).bind fun o => match o with
    | .nx e => forD g b r e
    | .ct e => forD g b r e
    | .bk e => some (.nx e)
    | .rt r => some (.rt r) := id rfl
@[simp] theorem augI_add (i j : Int) : augD .add (.int i) (.int j) = some (.int (i + j)) := id rfl
@[simp] theorem augI_sub (i j : Int) : augD .sub (.int i) (.int j) = some (.int (i - j)) := id rfl
@[simp] theorem augI_bor (i j : Int) : augD .bor (.int i) (.int j) = some (.int (Builtin.bitOr i j)) := id rfl
@[simp] theorem augI_band (i j : Int) : augD .band (.int i) (.int j) = some (.int (Builtin.bitAnd i j)) := id rfl
@[simp] theorem wipeS_nil (env : Ev) : wipeS env [] = env := id rfl
@[simp] theorem wipeS_cons (env : Ev) (v : Nat) (vs : List Nat) : wipeS env (v :: vs) = (wipeS env vs).set v .un := id rfl
/-! ### errors -/
section
variable (ρ : Str → List D → Option Rv) (ξ : Str → List D → Option Str) (κ : Str → Option D) (env : Ev)
@[simp] theorem thX_some {α : Type} (c : Str) (v : Option α) (k : Option Str) : thX (some c) v k = some c := id rfl
@[simp] theorem thX_none {α : Type} (a : α) (k : Option Str) : thX none (some a) k = k := id rfl
@[simp] theorem thX_nn {α : Type} (k : Option Str) : thX none (none : Option α) k = none := id rfl
@[simp] theorem xE_slot (i : Nat) : xE ρ κ ξ (.slot i) env = none := id (by simp only [xE])
@[simp] theorem xE_cst (d : D) : xE ρ κ ξ (.cst d) env = none := id (by simp only [xE])
@[simp] theorem xE_glb (x : Str) : xE ρ κ ξ (.glb x) env = none := id (by simp only [xE])
@[simp] theorem xE_bin (o : Bop) (a b : Ex) : xE ρ κ ξ (.bin o a b) env = thX (xE ρ κ ξ a env) (viewOr a env (evR ρ κ a env)) (xE ρ κ ξ b env) := id (by simp only [xE])
@[simp] theorem xE_neg (a : Ex) : xE ρ κ ξ (.neg a) env = none := id (by simp only [xE])
@[simp] theorem xE_notE (a : Ex) : xE ρ κ ξ (.notE a) env = xE ρ κ ξ a env := id (by simp only [xE])
@[simp] theorem xE_cmp (o : Cop) (a b : Ex) : xE ρ κ ξ (.cmp o a b) env = thX (xE ρ κ ξ a env) (viewOr a env (evR ρ κ a env)) (xE ρ κ ξ b env) := id (by simp only [xE])
@[simp] theorem xE_chain (o p : Cop) (a b c : Ex) : xE ρ κ ξ (.chain o p a b c) env = none := id (by simp only [xE])
@[simp] theorem xE_bool (k : Bool) (es : Exs) : xE ρ κ ξ (.bool k es) env = xB ρ κ ξ k es env := id (by simp only [xE])
@[simp] theorem xE_ife (a b c : Ex) : xE ρ κ ξ (.ife a b c) env = none := id (by simp only [xE])
@[simp] theorem xE_tup (es : Exs) : xE ρ κ ξ (.tup es) env = xEs ρ κ ξ es env := id (by simp only [xE])
@[simp] theorem xE_lst (es : Exs) : xE ρ κ ξ (.lst es) env = xEs ρ κ ξ es env := id (by simp only [xE])
@[simp] theorem xE_idx (a b : Ex) : xE ρ κ ξ (.idx a b) env = thX (xE ρ κ ξ a env) (viewOr a env (evR ρ κ a env)) (xE ρ κ ξ b env) := id (by simp only [xE])
@[simp] theorem xE_sl (a : Ex) (l u : Exo) : xE ρ κ ξ (.sl a l u) env = none := id (by simp only [xE])
@[simp] theorem xE_call (f : Str) (es : Exs) : xE ρ κ ξ (.call f es) env = thX (xEs ρ κ ξ es env) (evEs ρ κ es env) ((evEs ρ κ es env).bind (ξ f)) := id (by simp only [xE])
@[simp] theorem xE_bi (f : Bi) (es : Exs) : xE ρ κ ξ (.bi f es) env = none := id (by simp only [xE])
@[simp] theorem xE_isi (a : Ex) (T : String) : xE ρ κ ξ (.isi a T) env = none := id (by simp only [xE])
@[simp] theorem xE_chain3 (o p q : Cop) (a b c d : Ex) : xE ρ κ ξ (.chain3 o p q a b c d) env = none := id (by simp only [xE])
@[simp] theorem xE_lens (e : Ex) : xE ρ κ ξ (.lens e) env = none := id (by simp only [xE])
@[simp] theorem xE_lidx (i : Nat) (e : Ex) : xE ρ κ ξ (.lidx i e) env = none := id (by simp only [xE])
@[simp] theorem xE_isx (i : Nat) (ts : List Str) : xE ρ κ ξ (.isx i ts) env = none := id (by simp only [xE])
@[simp] theorem xE_rev (a : Ex) : xE ρ κ ξ (.rev a) env = none := id (by simp only [xE])
@[simp] theorem xE_comp (own : List (Str × Nat)) (e : Ex) (t : Tg) (it : Itx) (c : Exo) : xE ρ κ ξ (.comp own e t it c) env = none := id (by simp only [xE])
@[simp] theorem xEs_nil : xEs ρ κ ξ .nil env = none := id (by simp only [xEs])
@[simp] theorem xEs_cons (e : Ex) (es : Exs) : xEs ρ κ ξ (.cons e es) env = thX (xE ρ κ ξ e env) (fzo (evR ρ κ e env)) (xEs ρ κ ξ es env) := id (by simp only [xEs])
def xsel (x : Option Str) (v : Option Bool) (k : Bool) (r : Option Str) : Option Str := match x with
  | some c => some c
  | none => match v with
    | some b => if b = k then r else none
    | none => none
@[simp] theorem xsel_some (c : Str) (v : Option Bool) (k : Bool) (r : Option Str) : xsel (some c) v k r = some c := id rfl
@[simp] theorem xsel_none (b k : Bool) (r : Option Str) : xsel none (some b) k r = if b = k then r else none := id rfl
@[simp] theorem xsel_nn (k : Bool) (r : Option Str) : xsel none none k r = none := id rfl
@[simp] theorem xB_nil (k : Bool) : xB ρ κ ξ k .nil env = none := id (by simp only [xB])
@[simp] theorem xB_cons (k : Bool) (e : Ex) (es : Exs) : xB ρ κ ξ k (.cons e es) env = xsel (xE ρ κ ξ e env) (toB (evR ρ κ e env)) k (xB ρ κ ξ k es env) := id (by rw [xB]; unfold xsel; rfl)
def exAt (env : Ev) (i : Nat) : Option Str := match env[i]? with | some (.ex c) => some c | _ => none
@[simp] theorem exAt_zero (c : Str) (env : Ev) : exAt (.ex c :: env) 0 = some c := id rfl
@[simp] theorem exAt_succ (s : Sl) (env : Ev) (i : Nat) : exAt (s :: env) (i + 1) = exAt env i := id rfl
@[simp] theorem evR_isx (i : Nat) (ts : List Str) : evR ρ κ (.isx i ts) env = (exAt env i).map fun c => .pv (.bl (ts.any (subX c))) := by
  rw [evR]
  unfold exAt
  cases env[i]? with
  | none => rfl
  | some s => cases s <;> rfl
/-- the first that raises, else on -/
def xseq (x : Option (Str × Ev)) (o : Option Out) (r : Ev → Option (Str × Ev)) : Option (Str × Ev) := match x with
  | some q => some q
  | none => o.bind fun o => match o with
    | .nx e => r e
    | _ => none
@[simp] theorem xseq_some (q : Str × Ev) (o : Option Out) (r : Ev → Option (Str × Ev)) : xseq (some q) o r = some q := id rfl
@[simp] theorem xseq_nx (e : Ev) (r : Ev → Option (Str × Ev)) : xseq none (some (.nx e)) r = r e := id rfl
@[simp] theorem xseq_rt (v : Rv) (r : Ev → Option (Str × Ev)) : xseq none (some (.rt v)) r = none := id rfl
@[simp] theorem xseq_no (r : Ev → Option (Str × Ev)) : xseq none none r = none := id rfl
def xifs (x : Option Str) (env : Ev) (v : Option Bool) (a b : Option (Str × Ev)) : Option (Str × Ev) := match x with
  | some c => some (c, env)
  | none => v.bind fun k => if k = true then a else b
@[simp] theorem xifs_some (c : Str) (env : Ev) (v : Option Bool) (a b : Option (Str × Ev)) : xifs (some c) env v a b = some (c, env) := id rfl
@[simp] theorem xifs_none (env : Ev) (k : Bool) (a b : Option (Str × Ev)) : xifs none env (some k) a b = if k = true then a else b := id rfl
@[simp] theorem xSs_nil : xSs ρ ξ κ .nil env = none := id (by simp only [xSs])
@[simp] theorem xSs_cons (x : St) (r : Sts) : xSs ρ ξ κ (.cons x r) env = xseq (xS ρ ξ κ x env) (evS ρ ξ κ x env) fun e => xSs ρ ξ κ r e := id (by rw [xSs]; unfold xseq; rfl)
@[simp] theorem xS_pass : xS ρ ξ κ .pass env = none := id (by simp only [xS])
@[simp] theorem xS_drop (e : Ex) : xS ρ ξ κ (.drop e) env = (xE ρ κ ξ e env).map fun c => (c, env) := id (by simp only [xS])
@[simp] theorem xS_asg (t : Tg) (e : Ex) : xS ρ ξ κ (.asg t e) env = (xE ρ κ ξ e env).map fun c => (c, env) := id (by simp only [xS])
@[simp] theorem xS_own (i : Nat) (e : Ex) : xS ρ ξ κ (.own i e) env = (xE ρ κ ξ e env).map fun c => (c, env) := id (by simp only [xS])
@[simp] theorem xS_ret (e : Ex) : xS ρ ξ κ (.ret e) env = (xE ρ κ ξ e env).map fun c => (c, env) := id (by simp only [xS])
@[simp] theorem xS_frz (i : Nat) : xS ρ ξ κ (.frz i) env = none := id (by simp only [xS])
@[simp] theorem xS_rais (c : Str) : xS ρ ξ κ (.rais c) env = some (c, env) := id (by simp only [xS])
@[simp] theorem xS_ifs (c : Ex) (a b : Sts) : xS ρ ξ κ (.ifs c a b) env = xifs (xE ρ κ ξ c env) env (toB (evR ρ κ c env)) (xSs ρ ξ κ a env) (xSs ρ ξ κ b env) := id (by rw [xS]; unfold xifs; rfl)
def xaug (s : Option Sl) (x : Option Str) (env : Ev) : Option (Str × Ev) := match s with
  | some (.pv _) => x.map fun c => (c, env)
  | _ => none
@[simp] theorem xaug_pv (d : D) (x : Option Str) (env : Ev) : xaug (some (.pv d)) x env = x.map fun c => (c, env) := id rfl
@[simp] theorem xS_aug (i : Nat) (o : Bop) (e : Ex) : xS ρ ξ κ (.aug i o e) env = xaug env[i]? (xE ρ κ ξ e env) env := id (by rw [xS]; unfold xaug; rfl)
def loopX (t : Tg) (b : Sts) (ds : List D) (env : Ev) : Option (Str × Ev) := forX (fun d e => bindT t d e) (fun e => evSs ρ ξ κ b e) (fun e => xSs ρ ξ κ b e) ds env
@[simp] theorem xS_for (t : Tg) (it : Itx) (b : Sts) : xS ρ ξ κ (.for t it b) env = (evJ ρ κ it env).bind fun ds => loopX ρ ξ κ t b ds env := id (by rw [xS]; rfl)
@[simp] theorem evS_rais (c : Str) : evS ρ ξ κ (.rais c) env = none := id (by simp only [evS])
/-- the answer, or what the suite makes of the error -/
def trySel (o : Option Out) (x : Option (Str × Ev)) (f : Str × Ev → Option Out) : Option Out := match o with
  | some o => some o
  | none => x.bind f
@[simp] theorem trySel_some (o : Out) (x : Option (Str × Ev)) (f : Str × Ev → Option Out) : trySel (some o) x f = some o := id rfl
@[simp] theorem trySel_none (x : Option (Str × Ev)) (f : Str × Ev → Option Out) : trySel none x f = x.bind f := id rfl
@[simp] theorem evS_tryO (b : Sts) (t : Str) (h : List Hs) : evS ρ ξ κ (.tryO b t h) env = trySel (evSs ρ ξ κ b env) (xSs ρ ξ κ b env) fun q => if subX q.1 t = true then (evHs ρ κ h q.2).map .nx else none := id (by rw [evS]; unfold trySel; rfl)
@[simp] theorem evS_tryA (b : Sts) (i : Nat) (t : Str) (h : List Hs) : evS ρ ξ κ (.tryA b i t h) env = trySel (evSs ρ ξ κ b env) (xSs ρ ξ κ b env) fun q => if subX q.1 t = true ∧ i < q.2.length then (evHs ρ κ h (q.2.set i (.ex q.1))).map fun e => .nx (e.set i .un) else none := id (by rw [evS]; unfold trySel; rfl)
@[simp] theorem evHs_nil : evHs ρ κ [] env = some env := id (by simp only [evHs])
@[simp] theorem evHs_asg (j : Nat) (e : Ex) (r : List Hs) : evHs ρ κ (.asg j e :: r) env = (fzo (evR ρ κ e env)).bind fun d => if j < env.length then evHs ρ κ r (env.set j (.pv d)) else none := id (by simp only [evHs])
@[simp] theorem evHs_cpe (j i : Nat) (r : List Hs) : evHs ρ κ (.cpe j i :: r) env = (exAt env i).bind fun c => if j < env.length ∧ j ≠ i then evHs ρ κ r (env.set j (.ex c)) else none := by
  rw [evHs]
  unfold exAt
  cases env[i]? with
  | none => rfl
  | some s => cases s <;> rfl
end
end PL

/-! PS -/
namespace PS
open PySem PL
def e_divisor_c1 : Ex := (.cmp .ne (.slot 1) (.cst (.int 0)))
def e_divisor_b1 : Sts := (.cons (.par 0 1 (.slot 1) (.bin .mod (.slot 0) (.slot 1))) .nil)
def e_divisor : De where
  nm := "divisor"
  ps := ["one", "other"]
  N := ["one", "other"]
  body := (.cons (.whl e_divisor_c1 e_divisor_b1) (.cons (.ret (.bi .abs (.cons (.slot 0) .nil))) .nil))
def e_ratio : De where
  nm := "ratio"
  ps := ["top", "bottom"]
  N := ["top", "bottom", "part"]
  body := (.cons (.asg (.nm 2) (.call "divisor" (.cons (.slot 0) (.cons (.slot 1) .nil)))) (.cons (.ifs (.cmp .lt (.slot 1) (.cst (.int 0))) (.cons (.asg (.nm 2) (.bin .sub (.cst (.int 0)) (.slot 2))) .nil) .nil) (.cons (.ret (.tup (.cons (.bin .fdiv (.slot 0) (.slot 2)) (.cons (.bin .fdiv (.slot 1) (.slot 2)) .nil)))) .nil)))
def e_plus : De where
  nm := "plus"
  ps := ["one", "other"]
  N := ["one", "other"]
  body := (.cons (.ret (.call "ratio" (.cons (.bin .add (.bin .mul (.idx (.slot 0) (.cst (.int 0))) (.idx (.slot 1) (.cst (.int 1)))) (.bin .mul (.idx (.slot 1) (.cst (.int 0))) (.idx (.slot 0) (.cst (.int 1))))) (.cons (.bin .mul (.idx (.slot 0) (.cst (.int 1))) (.idx (.slot 1) (.cst (.int 1)))) .nil)))) .nil)
def e_minus : De where
  nm := "minus"
  ps := ["one", "other"]
  N := ["one", "other"]
  body := (.cons (.ret (.call "ratio" (.cons (.bin .sub (.bin .mul (.idx (.slot 0) (.cst (.int 0))) (.idx (.slot 1) (.cst (.int 1)))) (.bin .mul (.idx (.slot 1) (.cst (.int 0))) (.idx (.slot 0) (.cst (.int 1))))) (.cons (.bin .mul (.idx (.slot 0) (.cst (.int 1))) (.idx (.slot 1) (.cst (.int 1)))) .nil)))) .nil)
def e_product : De where
  nm := "product"
  ps := ["one", "other"]
  N := ["one", "other"]
  body := (.cons (.ret (.call "ratio" (.cons (.bin .mul (.idx (.slot 0) (.cst (.int 0))) (.idx (.slot 1) (.cst (.int 0)))) (.cons (.bin .mul (.idx (.slot 0) (.cst (.int 1))) (.idx (.slot 1) (.cst (.int 1)))) .nil)))) .nil)
def e_under : De where
  nm := "under"
  ps := ["one", "other"]
  N := ["one", "other"]
  body := (.cons (.ret (.cmp .lt (.bin .mul (.idx (.slot 0) (.cst (.int 0))) (.idx (.slot 1) (.cst (.int 1)))) (.bin .mul (.idx (.slot 1) (.cst (.int 0))) (.idx (.slot 0) (.cst (.int 1)))))) .nil)
def e_law_whole : De where
  nm := "_law_whole"
  ps := ["_law_found"]
  N := ["_law_found"]
  body := (.cons (.ret (.bool true (.cons (.isi (.slot 0) "int") (.cons (.notE (.isi (.slot 0) "bool")) .nil)))) .nil)
def e_law_divisor_c1 : Ex := (.cmp .ne (.slot 1) (.cst (.int 0)))
def e_law_divisor_b1 : Sts := (.cons (.par 0 1 (.slot 1) (.bin .mod (.slot 0) (.slot 1))) .nil)
def e_law_divisor : De where
  nm := "_law_divisor"
  ps := ["_law_one", "_law_other"]
  N := ["_law_one", "_law_other"]
  body := (.cons (.whl e_law_divisor_c1 e_law_divisor_b1) (.cons (.ret (.bi .abs (.cons (.slot 0) .nil))) .nil))
def e_law_mixed : De where
  nm := "_law_mixed"
  ps := ["_law_cell", "_law_k"]
  N := ["_law_cell", "_law_k", "_law_number"]
  body := (.cons (.ifs (.bool true (.cons (.cmp .ge (.slot 0) (.bin .shl (.cst (.int 1)) (.cst (.int 90)))) (.cons (.cmp .eq (.bin .mod (.slot 0) (.cst (.int 2))) (.cst (.int 1))) (.cons (.cmp .gt (.bin .shr (.slot 0) (.bin .add (.cst (.int 1)) (.bin .mul (.cst (.int 31)) (.slot 1)))) (.cst (.int 0))) .nil)))) (.cons (.ret (.bin .mod (.bin .shr (.slot 0) (.bin .add (.cst (.int 1)) (.bin .mul (.cst (.int 31)) (.slot 1)))) (.cst (.int 2147483648)))) .nil) .nil) (.cons (.asg (.nm 2) (.bin .mod (.bin .mul (.bin .add (.bin .add (.slot 0) (.bin .mul (.cst (.int 7919)) (.slot 1))) (.cst (.int 1))) (.cst (.int 48271))) (.cst (.int 2147483647)))) (.cons (.asg (.nm 2) (.bin .mod (.bin .mul (.slot 2) (.bin .add (.bin .fdiv (.slot 2) (.cst (.int 1009))) (.cst (.int 69621)))) (.cst (.int 2147483647)))) (.cons (.ret (.bin .mod (.bin .mul (.slot 2) (.bin .add (.bin .add (.bin .fdiv (.slot 2) (.cst (.int 2003))) (.cst (.int 39373))) (.slot 1))) (.cst (.int 2147483629)))) .nil))))
def e_law_mixed_v2 : De where
  nm := "_law_mixed"
  ps := ["_law_cell", "_law_k"]
  N := ["_law_cell", "_law_k", "_law_number_here"]
  body := (.cons (.ifs (.bool true (.cons (.cmp .ge (.slot 0) (.bin .shl (.cst (.int 1)) (.cst (.int 90)))) (.cons (.cmp .eq (.bin .mod (.slot 0) (.cst (.int 2))) (.cst (.int 1))) (.cons (.cmp .gt (.bin .shr (.slot 0) (.bin .add (.cst (.int 1)) (.bin .mul (.cst (.int 31)) (.slot 1)))) (.cst (.int 0))) .nil)))) (.cons (.ret (.bin .mod (.bin .shr (.slot 0) (.bin .add (.cst (.int 1)) (.bin .mul (.cst (.int 31)) (.slot 1)))) (.cst (.int 2147483648)))) .nil) .nil) (.cons (.asg (.nm 2) (.bin .mod (.bin .mul (.bin .add (.bin .add (.slot 0) (.bin .mul (.cst (.int 7919)) (.slot 1))) (.cst (.int 1))) (.cst (.int 48271))) (.cst (.int 2147483647)))) (.cons (.asg (.nm 2) (.bin .mod (.bin .mul (.slot 2) (.bin .add (.bin .fdiv (.slot 2) (.cst (.int 1009))) (.cst (.int 69621)))) (.cst (.int 2147483647)))) (.cons (.ret (.bin .mod (.bin .mul (.slot 2) (.bin .add (.bin .add (.bin .fdiv (.slot 2) (.cst (.int 2003))) (.cst (.int 39373))) (.slot 1))) (.cst (.int 2147483629)))) .nil))))
def e_law_far : De where
  nm := "_law_far"
  ps := ["_law_cell", "_law_k", "_law_bound"]
  N := ["_law_cell", "_law_k", "_law_bound", "_law_number"]
  body := (.cons (.asg (.nm 3) (.bin .add (.call "_law_mixed" (.cons (.slot 0) (.cons (.slot 1) .nil))) (.bin .shl (.call "_law_mixed" (.cons (.slot 0) (.cons (.bin .add (.slot 1) (.cst (.int 1))) .nil))) (.cst (.int 31))))) (.cons (.ret (.bin .mod (.bin .add (.bin .add (.slot 3) (.bin .shl (.call "_law_mixed" (.cons (.slot 0) (.cons (.bin .add (.slot 1) (.cst (.int 2))) .nil))) (.cst (.int 62)))) (.bin .shl (.call "_law_mixed" (.cons (.slot 0) (.cons (.bin .add (.slot 1) (.cst (.int 3))) .nil))) (.cst (.int 93)))) (.slot 2))) .nil))
def e_down : De where
  nm := "down"
  ps := ["one"]
  N := ["one"]
  body := (.cons (.ret (.bin .fdiv (.idx (.slot 0) (.cst (.int 0))) (.idx (.slot 0) (.cst (.int 1))))) .nil)
def e_mean_of_b1 : Sts := (.cons (.asg (.nm 1) (.call "plus" (.cons (.slot 1) (.cons (.slot 2) .nil)))) .nil)
def e_mean_of : De where
  nm := "mean_of"
  ps := ["some"]
  N := ["some", "whole", "one"]
  body := (.cons (.asg (.nm 1) (.tup (.cons (.cst (.int 0)) (.cons (.cst (.int 1)) .nil)))) (.cons (.for (.nm 2) (.sql (.slot 0)) e_mean_of_b1) (.cons (.ret (.call "ratio" (.cons (.idx (.slot 1) (.cst (.int 0))) (.cons (.bin .mul (.idx (.slot 1) (.cst (.int 1))) (.bi .len (.cons (.slot 0) .nil))) .nil)))) .nil)))
def e_is_whole : De where
  nm := "is_whole"
  ps := ["thing"]
  N := ["thing"]
  body := (.cons (.ret (.bool true (.cons (.isi (.slot 0) "int") (.cons (.notE (.isi (.slot 0) "bool")) .nil)))) .nil)
def e_is_corner_x1 : Ex := (.call "is_whole" (.cons (.slot 2) .nil))
def e_is_corner_x2 : Ex := (.call "is_whole" (.cons (.slot 2) .nil))
def e_is_corner : De where
  nm := "is_corner"
  ps := ["thing"]
  N := ["thing", "values", "one"]
  body := (.cons (.ifs (.bool false (.cons (.notE (.isi (.slot 0) "tuple")) (.cons (.cmp .ne (.bi .len (.cons (.slot 0) .nil)) (.cst (.int 5))) (.cons (.notE (.bi .all (.cons (.comp [("one", 2)] e_is_corner_x1 (.nm 2) (.sql (.sl (.slot 0) .no (.yes (.cst (.int 4))))) .no) .nil))) .nil)))) (.cons (.ret (.cst (.bl false))) .nil) .nil) (.cons (.asg (.nm 1) (.idx (.slot 0) (.cst (.int 4)))) (.cons (.ifs (.bool false (.cons (.notE (.isi (.slot 1) "tuple")) (.cons (.cmp .gt (.bi .len (.cons (.slot 1) .nil)) (.glb "MOST_VALUES")) .nil))) (.cons (.ret (.cst (.bl false))) .nil) .nil) (.cons (.ret (.bool true (.cons (.cmp .ge (.idx (.slot 0) (.cst (.int 3))) (.cst (.int 1))) (.cons (.bi .all (.cons (.comp [("one", 2)] e_is_corner_x2 (.nm 2) (.sql (.slot 1)) .no) .nil)) .nil)))) .nil))))
def e_law_corner_x1 : Ex := (.bin .sub (.bin .mod (.call "_law_mixed" (.cons (.slot 0) (.cons (.bin .add (.bin .add (.bin .mul (.cst (.int 20)) (.slot 1)) (.cst (.int 5))) (.slot 14)) .nil))) (.cst (.int 2000001))) (.bin .pow (.cst (.int 10)) (.cst (.int 6))))
def e_law_corner_x2 : Ex := (.bin .sub (.bin .mod (.slot 15) (.cst (.int 301))) (.cst (.int 100)))
def e_law_corner : De where
  nm := "_law_corner"
  ps := ["_law_cell", "_law_k", "_law_many"]
  N := ["_law_cell", "_law_k", "_law_many", "_law_number", "_law_other", "_law_third", "_law_values", "_law_times", "_law_near", "_law_free", "_law_h", "_law_x", "_law_y", "_law_w", "_law_j", "_law_value"]
  body := (.cons (.asg (.nm 3) (.call "_law_mixed" (.cons (.slot 0) (.cons (.bin .add (.bin .mul (.cst (.int 20)) (.slot 1)) (.cst (.int 1))) .nil)))) (.cons (.asg (.nm 4) (.call "_law_mixed" (.cons (.slot 0) (.cons (.bin .add (.bin .mul (.cst (.int 20)) (.slot 1)) (.cst (.int 2))) .nil)))) (.cons (.asg (.nm 5) (.call "_law_mixed" (.cons (.slot 0) (.cons (.bin .add (.bin .mul (.cst (.int 20)) (.slot 1)) (.cst (.int 3))) .nil)))) (.cons (.asg (.nm 6) (.bi .tuple (.cons (.comp [("_law_j", 14)] e_law_corner_x1 (.nm 14) (.rng1 (.slot 2)) .no) .nil))) (.cons (.ifs (.cmp .gt (.bin .mod (.slot 3) (.cst (.int 16))) (.cst (.int 13))) (.cons (.asg (.nm 10) (.bin .add (.cst (.int 1)) (.bin .mod (.call "_law_mixed" (.cons (.slot 0) (.cons (.bin .add (.bin .mul (.cst (.int 20)) (.slot 1)) (.cst (.int 4))) .nil))) (.bin .pow (.cst (.int 10)) (.cst (.int 6)))))) (.cons (.ret (.tup (.cons (.bin .sub (.bin .mod (.slot 4) (.cst (.int 2000001))) (.bin .pow (.cst (.int 10)) (.cst (.int 6)))) (.cons (.bin .sub (.bin .mod (.slot 5) (.cst (.int 2000001))) (.bin .pow (.cst (.int 10)) (.cst (.int 6)))) (.cons (.bin .add (.cst (.int 1)) (.bin .mod (.bin .fdiv (.slot 3) (.cst (.int 16))) (.bin .pow (.cst (.int 10)) (.cst (.int 6))))) (.cons (.slot 10) (.cons (.slot 6) .nil))))))) .nil)) .nil) (.cons (.ifs (.cmp .gt (.bin .mod (.slot 3) (.cst (.int 16))) (.cst (.int 1))) (.cons (.asg (.nm 6) (.bi .tuple (.cons (.comp [("_law_value", 15)] e_law_corner_x2 (.nm 15) (.sql (.slot 6)) .no) .nil))) .nil) .nil) (.cons (.asg (.nm 7) (.bin .add (.cst (.int 1)) (.bin .mod (.bin .fdiv (.slot 3) (.cst (.int 16))) (.cst (.int 6))))) (.cons (.asg (.nm 8) (.tup (.cons (.bin .mul (.bin .sub (.bin .mod (.slot 4) (.cst (.int 16))) (.cst (.int 2))) (.slot 7)) (.cons (.bin .mul (.bin .sub (.bin .mod (.bin .fdiv (.slot 4) (.cst (.int 16))) (.cst (.int 16))) (.cst (.int 2))) (.slot 7)) (.cons (.bin .mul (.cst (.int 2)) (.slot 7)) .nil))))) (.cons (.asg (.nm 9) (.tup (.cons (.bin .sub (.bin .mod (.slot 4) (.cst (.int 81))) (.cst (.int 20))) (.cons (.bin .sub (.bin .mod (.bin .fdiv (.slot 4) (.cst (.int 81))) (.cst (.int 81))) (.cst (.int 20))) (.cons (.bin .add (.cst (.int 1)) (.bin .mod (.bin .fdiv (.slot 3) (.cst (.int 16))) (.cst (.int 9)))) .nil))))) (.cons (.asg (.tup [11, 12, 13]) (.idx (.lst (.cons (.slot 8) (.cons (.slot 8) (.cons (.slot 8) (.cons (.slot 9) .nil))))) (.bin .mod (.bin .fdiv (.slot 3) (.cst (.int 128))) (.cst (.int 4))))) (.cons (.ret (.tup (.cons (.slot 11) (.cons (.slot 12) (.cons (.slot 13) (.cons (.cst (.int 1)) (.cons (.slot 6) .nil))))))) .nil)))))))))))
def e_law_corner_v2_x1 : Ex := (.bin .sub (.bin .mod (.idx (.slot 0) (.bin .add (.cst (.int 6)) (.slot 11))) (.cst (.int 41))) (.cst (.int 10)))
def e_law_corner_v2_x2 : Ex := (.bin .sub (.bin .mod (.idx (.slot 0) (.bin .add (.cst (.int 6)) (.slot 11))) (.cst (.int 2000001))) (.bin .pow (.cst (.int 10)) (.cst (.int 6))))
def e_law_corner_v2 : De where
  nm := "_law_corner"
  ps := ["_law_draws_here", "_law_many"]
  N := ["_law_draws_here", "_law_many", "_law_scale", "_law_times", "_law_x", "_law_y", "_law_w", "_law_h", "_law_values", "_law_number", "_law_more", "_law_j"]
  body := (.cons (.asg (.tup [9, 10]) (.sl (.slot 0) .no (.yes (.cst (.int 2))))) (.cons (.asg (.nm 2) (.idx (.lst (.cons (.cst (.int 2)) (.cons (.cst (.int 8)) (.cons (.cst (.int 1)) (.cons (.cst (.int 2)) .nil))))) (.bin .mod (.bin .fdiv (.slot 9) (.cst (.int 4))) (.cst (.int 4))))) (.cons (.asg (.nm 3) (.bin .add (.cst (.int 1)) (.bin .mod (.bin .fdiv (.slot 9) (.cst (.int 16))) (.cst (.int 3))))) (.cons (.asg (.nm 4) (.bin .mul (.slot 3) (.bin .sub (.bin .mod (.bin .fdiv (.slot 9) (.cst (.int 64))) (.bin .add (.bin .mul (.slot 2) (.cst (.int 8))) (.cst (.int 1)))) (.slot 2)))) (.cons (.asg (.nm 5) (.bin .mul (.slot 3) (.bin .sub (.bin .mod (.slot 10) (.bin .add (.bin .mul (.slot 2) (.cst (.int 8))) (.cst (.int 1)))) (.slot 2)))) (.cons (.asg (.nm 6) (.bin .mul (.slot 2) (.slot 3))) (.cons (.asg (.nm 7) (.idx (.lst (.cons (.cst (.int 1)) (.cons (.slot 6) (.cons (.bin .add (.cst (.int 1)) (.bin .mod (.bin .fdiv (.slot 10) (.cst (.int 512))) (.cst (.int 9)))) (.cons (.slot 6) .nil))))) (.bin .mod (.bin .fdiv (.slot 10) (.cst (.int 32))) (.cst (.int 4))))) (.cons (.asg (.nm 8) (.bi .tuple (.cons (.comp [("_law_j", 11)] e_law_corner_v2_x1 (.nm 11) (.rng1 (.slot 1)) .no) .nil))) (.cons (.ifs (.cmp .eq (.bin .mod (.slot 9) (.cst (.int 4))) (.cst (.int 3))) (.cons (.asg (.nm 4) (.bin .sub (.bin .mod (.idx (.slot 0) (.cst (.int 2))) (.cst (.int 2000001))) (.bin .pow (.cst (.int 10)) (.cst (.int 6))))) (.cons (.asg (.nm 5) (.bin .sub (.bin .mod (.idx (.slot 0) (.cst (.int 3))) (.cst (.int 2000001))) (.bin .pow (.cst (.int 10)) (.cst (.int 6))))) (.cons (.asg (.nm 6) (.bin .add (.cst (.int 1)) (.bin .mod (.idx (.slot 0) (.cst (.int 4))) (.bin .pow (.cst (.int 10)) (.cst (.int 6)))))) (.cons (.asg (.nm 7) (.bin .add (.cst (.int 1)) (.bin .mod (.idx (.slot 0) (.cst (.int 5))) (.bin .pow (.cst (.int 10)) (.cst (.int 6)))))) (.cons (.asg (.nm 8) (.bi .tuple (.cons (.comp [("_law_j", 11)] e_law_corner_v2_x2 (.nm 11) (.rng1 (.slot 1)) .no) .nil))) .nil))))) .nil) (.cons (.ifs (.cmp .eq (.bin .mod (.slot 9) (.cst (.int 4))) (.cst (.int 2))) (.cons (.asg (.nm 6) (.bin .add (.cst (.int 1)) (.bin .mod (.bin .fdiv (.slot 10) (.cst (.int 4096))) (.cst (.int 300))))) (.cons (.asg (.nm 4) (.bin .sub (.bin .mod (.idx (.slot 0) (.cst (.int 2))) (.cst (.int 2001))) (.cst (.int 1000)))) .nil)) .nil) (.cons (.ret (.tup (.cons (.slot 4) (.cons (.slot 5) (.cons (.slot 6) (.cons (.slot 7) (.cons (.slot 8) .nil))))))) .nil)))))))))))
def e_thrown : De where
  nm := "thrown"
  ps := ["corner"]
  N := ["corner"]
  body := (.cons (.ifs (.cmp .le (.idx (.slot 0) (.cst (.int 2))) (.cst (.int 0))) (.cons (.rais "BadTriangle") .nil) .nil) (.cons (.ret (.tup (.cons (.call "ratio" (.cons (.idx (.slot 0) (.cst (.int 0))) (.cons (.idx (.slot 0) (.cst (.int 2))) .nil))) (.cons (.call "ratio" (.cons (.idx (.slot 0) (.cst (.int 1))) (.cons (.idx (.slot 0) (.cst (.int 2))) .nil))) .nil)))) .nil))
def e_numbers_of : De where
  nm := "numbers_of"
  ps := ["corner"]
  N := ["corner"]
  body := (.cons (.ret (.bin .add (.bi .list (.cons (.sl (.slot 0) .no (.yes (.cst (.int 4)))) .nil)) (.bi .list (.cons (.idx (.slot 0) (.cst (.int 4))) .nil)))) .nil)
def e_mixed_x1 : Ex := (.bin .add (.bin .mul (.slot 2) (.slot 8)) (.bin .mul (.slot 3) (.slot 9)))
def e_mixed_b1 : Sts := (.cons (.asg (.nm 5) (.call "divisor" (.cons (.slot 5) (.cons (.slot 6) .nil)))) .nil)
def e_mixed_x2 : Ex := (.bin .fdiv (.slot 6) (.slot 5))
def e_mixed : De where
  nm := "mixed"
  ps := ["one", "other", "first", "second"]
  N := ["one", "other", "first", "second", "found", "part", "number", "values", "here", "there"]
  body := (.cons (.asg (.nm 4) (.comp [("here", 8), ("there", 9)] e_mixed_x1 (.tup [8, 9]) (.zip (.call "numbers_of" (.cons (.slot 0) .nil)) (.call "numbers_of" (.cons (.slot 1) .nil))) .no)) (.cons (.asg (.nm 5) (.cst (.int 0))) (.cons (.for (.nm 6) (.sql (.slot 4)) e_mixed_b1) (.cons (.asg (.nm 4) (.comp [("number", 6)] e_mixed_x2 (.nm 6) (.sql (.slot 4)) .no)) (.cons (.asg (.nm 7) (.bi .tuple (.cons (.sl (.slot 4) (.yes (.cst (.int 4))) .no) .nil))) (.cons (.ret (.tup (.cons (.idx (.slot 4) (.cst (.int 0))) (.cons (.idx (.slot 4) (.cst (.int 1))) (.cons (.idx (.slot 4) (.cst (.int 2))) (.cons (.idx (.slot 4) (.cst (.int 3))) (.cons (.slot 7) .nil))))))) .nil))))))
def e_normal : De where
  nm := "normal"
  ps := ["one", "other"]
  N := ["one", "other", "left", "up"]
  body := (.cons (.asg (.nm 2) (.bin .sub (.bin .mul (.idx (.slot 0) (.cst (.int 1))) (.idx (.slot 1) (.cst (.int 2)))) (.bin .mul (.idx (.slot 0) (.cst (.int 2))) (.idx (.slot 1) (.cst (.int 1)))))) (.cons (.asg (.nm 3) (.bin .sub (.bin .mul (.idx (.slot 0) (.cst (.int 2))) (.idx (.slot 1) (.cst (.int 0)))) (.bin .mul (.idx (.slot 0) (.cst (.int 0))) (.idx (.slot 1) (.cst (.int 2)))))) (.cons (.ret (.tup (.cons (.slot 2) (.cons (.slot 3) (.cons (.bin .sub (.bin .mul (.idx (.slot 0) (.cst (.int 0))) (.idx (.slot 1) (.cst (.int 1)))) (.bin .mul (.idx (.slot 0) (.cst (.int 1))) (.idx (.slot 1) (.cst (.int 0))))) .nil))))) .nil)))
def e_along : De where
  nm := "along"
  ps := ["sums", "ray"]
  N := ["sums", "ray"]
  body := (.cons (.ret (.bin .add (.bin .add (.bin .mul (.idx (.slot 0) (.cst (.int 0))) (.idx (.slot 1) (.cst (.int 0)))) (.bin .mul (.idx (.slot 0) (.cst (.int 1))) (.idx (.slot 1) (.cst (.int 1))))) (.bin .mul (.idx (.slot 0) (.cst (.int 2))) (.idx (.slot 1) (.cst (.int 2)))))) .nil)
def e_side_b1 : Sts := (.cons (.ifs (.cmp .gt (.slot 4) (.cst (.int 0))) (.cons (.ret (.cst (.int 1))) .nil) .nil) (.cons (.ifs (.cmp .lt (.slot 4) (.cst (.int 0))) (.cons (.ret (.neg (.cst (.int 1)))) .nil) .nil) .nil))
def e_side : De where
  nm := "side"
  ps := ["one", "other", "point"]
  N := ["one", "other", "point", "sums", "number"]
  body := (.cons (.asg (.nm 3) (.call "normal" (.cons (.slot 0) (.cons (.slot 1) .nil)))) (.cons (.for (.nm 4) (.sql (.tup (.cons (.call "along" (.cons (.slot 3) (.cons (.slot 2) .nil))) (.cons (.idx (.slot 3) (.cst (.int 0))) (.cons (.idx (.slot 3) (.cst (.int 1))) .nil))))) e_side_b1) (.cons (.ret (.cst (.int 0))) .nil)))
def e_law_cell_at : De where
  nm := "_law_cell_at"
  ps := ["_law_script", "_law_k"]
  N := ["_law_script", "_law_k"]
  body := (.cons (.ifs (.cmp .lt (.slot 1) (.bi .len (.cons (.slot 0) .nil))) (.cons (.ret (.idx (.slot 0) (.slot 1))) .nil) .nil) (.cons (.ret (.cst (.int 0))) .nil))
def e_law_point : De where
  nm := "_law_point"
  ps := ["_law_number"]
  N := ["_law_number"]
  body := (.cons (.ifs (.cmp .eq (.bin .mod (.slot 0) (.cst (.int 3))) (.cst (.int 0))) (.cons (.ret (.tup (.cons (.bin .sub (.bin .mod (.bin .fdiv (.slot 0) (.cst (.int 3))) (.cst (.int 90))) (.cst (.int 8))) (.cons (.bin .sub (.bin .mod (.bin .fdiv (.slot 0) (.cst (.int 270))) (.cst (.int 90))) (.cst (.int 8))) (.cons (.bin .add (.cst (.int 1)) (.bin .mod (.bin .fdiv (.slot 0) (.cst (.int 24300))) (.cst (.int 9)))) .nil))))) .nil) .nil) (.cons (.ret (.tup (.cons (.bin .add (.bin .mul (.cst (.int 2)) (.bin .mod (.bin .fdiv (.slot 0) (.cst (.int 3))) (.cst (.int 8)))) (.cst (.int 1))) (.cons (.bin .add (.bin .mul (.cst (.int 2)) (.bin .mod (.bin .fdiv (.slot 0) (.cst (.int 24))) (.cst (.int 8)))) (.cst (.int 1))) (.cons (.cst (.int 2)) .nil))))) .nil))
def e_law_any_point : De where
  nm := "_law_any_point"
  ps := ["_law_cell", "_law_k"]
  N := ["_law_cell", "_law_k", "_law_first", "_law_second"]
  body := (.cons (.asg (.nm 2) (.call "_law_mixed" (.cons (.slot 0) (.cons (.slot 1) .nil)))) (.cons (.asg (.nm 3) (.call "_law_mixed" (.cons (.slot 0) (.cons (.bin .add (.slot 1) (.cst (.int 1))) .nil)))) (.cons (.ret (.tup (.cons (.bin .sub (.bin .mod (.slot 2) (.cst (.int 200000001))) (.bin .pow (.cst (.int 10)) (.cst (.int 8)))) (.cons (.bin .sub (.bin .mod (.slot 3) (.cst (.int 200000001))) (.bin .pow (.cst (.int 10)) (.cst (.int 8)))) (.cons (.bin .add (.cst (.int 1)) (.bin .mod (.call "_law_mixed" (.cons (.slot 0) (.cons (.bin .add (.slot 1) (.cst (.int 2))) .nil))) (.bin .pow (.cst (.int 10)) (.cst (.int 8))))) .nil))))) .nil)))
def e_law_sums : De where
  nm := "_law_sums"
  ps := ["_law_a", "_law_b"]
  N := ["_law_a", "_law_b", "_law_left", "_law_up"]
  body := (.cons (.asg (.nm 2) (.bin .sub (.bin .mul (.idx (.slot 0) (.cst (.int 1))) (.idx (.slot 1) (.cst (.int 2)))) (.bin .mul (.idx (.slot 0) (.cst (.int 2))) (.idx (.slot 1) (.cst (.int 1)))))) (.cons (.asg (.nm 3) (.bin .sub (.bin .mul (.idx (.slot 0) (.cst (.int 2))) (.idx (.slot 1) (.cst (.int 0)))) (.bin .mul (.idx (.slot 0) (.cst (.int 0))) (.idx (.slot 1) (.cst (.int 2)))))) (.cons (.ret (.tup (.cons (.slot 2) (.cons (.slot 3) (.cons (.bin .sub (.bin .mul (.idx (.slot 0) (.cst (.int 0))) (.idx (.slot 1) (.cst (.int 1)))) (.bin .mul (.idx (.slot 0) (.cst (.int 1))) (.idx (.slot 1) (.cst (.int 0))))) .nil))))) .nil)))
def e_law_turned : De where
  nm := "_law_turned"
  ps := ["_law_corner_here", "_law_number"]
  N := ["_law_corner_here", "_law_number", "_law_x", "_law_y", "_law_w", "_law_h", "_law_values"]
  body := (.cons (.asg (.tup [2, 3, 4, 5, 6]) (.slot 0)) (.cons (.ret (.idx (.lst (.cons (.slot 0) (.cons (.slot 0) (.cons (.slot 0) (.cons (.tup (.cons (.slot 2) (.cons (.slot 3) (.cons (.bin .sub (.cst (.int 0)) (.slot 4)) (.cons (.slot 5) (.cons (.slot 6) .nil)))))) (.cons (.tup (.cons (.slot 2) (.cons (.slot 3) (.cons (.cst (.int 0)) (.cons (.slot 5) (.cons (.slot 6) .nil)))))) .nil)))))) (.bin .mod (.slot 1) (.cst (.int 5))))) .nil))
def e_edges_of : De where
  nm := "edges_of"
  ps := ["triangle"]
  N := ["triangle", "first", "second", "third"]
  body := (.cons (.asg (.tup [1, 2, 3]) (.slot 0)) (.cons (.ret (.lst (.cons (.tup (.cons (.slot 1) (.cons (.slot 2) .nil))) (.cons (.tup (.cons (.slot 2) (.cons (.slot 3) .nil))) (.cons (.tup (.cons (.slot 3) (.cons (.slot 1) .nil))) .nil))))) .nil))
def e_check_ahead_b1 : Sts := (.cons (.ifs (.cmp .le (.idx (.slot 1) (.cst (.int 2))) (.cst (.int 0))) (.cons (.rais "BadTriangle") .nil) .nil) .nil)
def e_check_ahead : De where
  nm := "check_ahead"
  ps := ["triangle"]
  N := ["triangle", "corner"]
  body := (.cons (.for (.nm 1) (.sql (.slot 0)) e_check_ahead_b1) .nil)
def e_had_x1 : Ex := (.call "side" (.cons (.slot 3) (.cons (.slot 4) (.cons (.slot 1) .nil))))
def e_had : De where
  nm := "had"
  ps := ["triangle", "point"]
  N := ["triangle", "point", "sides", "one", "other"]
  body := (.cons (.drop (.call "check_ahead" (.cons (.slot 0) .nil))) (.cons (.asg (.nm 2) (.comp [("one", 3), ("other", 4)] e_had_x1 (.tup [3, 4]) (.sql (.call "edges_of" (.cons (.slot 0) .nil))) .no)) (.cons (.ifs (.bool false (.cons (.cmp .eq (.slot 2) (.lst (.cons (.cst (.int 1)) (.cons (.cst (.int 1)) (.cons (.cst (.int 1)) .nil))))) (.cons (.cmp .eq (.slot 2) (.lst (.cons (.neg (.cst (.int 1))) (.cons (.neg (.cst (.int 1))) (.cons (.neg (.cst (.int 1))) .nil))))) .nil))) (.cons (.ret (.idx (.slot 2) (.cst (.int 0)))) .nil) .nil) (.cons (.ret (.cst (.int 0))) .nil))))
def e_is_above : De where
  nm := "is_above"
  ps := ["corner", "point"]
  N := ["corner", "point"]
  body := (.cons (.ret (.cmp .gt (.bin .mul (.idx (.slot 0) (.cst (.int 1))) (.idx (.slot 1) (.cst (.int 2)))) (.bin .mul (.idx (.slot 1) (.cst (.int 1))) (.idx (.slot 0) (.cst (.int 2)))))) .nil)
def e_crossing : De where
  nm := "crossing"
  ps := ["one", "other", "point"]
  N := ["one", "other", "point", "turn"]
  body := (.cons (.ifs (.cmp .eq (.call "is_above" (.cons (.slot 0) (.cons (.slot 2) .nil))) (.call "is_above" (.cons (.slot 1) (.cons (.slot 2) .nil)))) (.cons (.ret (.cst (.int 0))) .nil) .nil) (.cons (.asg (.nm 3) (.call "side" (.cons (.slot 0) (.cons (.slot 1) (.cons (.slot 2) .nil))))) (.cons (.ifs (.bool true (.cons (.call "is_above" (.cons (.slot 1) (.cons (.slot 2) .nil))) (.cons (.cmp .gt (.slot 3) (.cst (.int 0))) .nil))) (.cons (.ret (.cst (.int 1))) .nil) .nil) (.cons (.ifs (.bool true (.cons (.call "is_above" (.cons (.slot 0) (.cons (.slot 2) .nil))) (.cons (.cmp .lt (.slot 3) (.cst (.int 0))) .nil))) (.cons (.ret (.neg (.cst (.int 1)))) .nil) .nil) (.cons (.ret (.cst (.int 0))) .nil)))))
def e_crossings_b1 : Sts := (.cons (.drop (.call "check_ahead" (.cons (.tup (.cons (.slot 2) (.cons (.slot 3) .nil))) .nil))) .nil)
def e_crossings_x1 : Ex := (.call "crossing" (.cons (.slot 2) (.cons (.slot 3) (.cons (.slot 1) .nil))))
def e_crossings : De where
  nm := "crossings"
  ps := ["edges", "point"]
  N := ["edges", "point", "one", "other"]
  body := (.cons (.for (.tup [2, 3]) (.sql (.slot 0)) e_crossings_b1) (.cons (.ret (.bi .sum (.cons (.comp [("one", 2), ("other", 3)] e_crossings_x1 (.tup [2, 3]) (.sql (.slot 0)) .no) .nil))) .nil))
def e_weights : De where
  nm := "weights"
  ps := ["triangle", "point"]
  N := ["triangle", "point", "found", "first", "second", "third"]
  body := (.cons (.asg (.tup [3, 4, 5]) (.slot 0)) (.cons (.asg (.nm 2) (.lst (.cons (.call "along" (.cons (.call "normal" (.cons (.slot 4) (.cons (.slot 5) .nil))) (.cons (.slot 1) .nil))) (.cons (.call "along" (.cons (.call "normal" (.cons (.slot 5) (.cons (.slot 3) .nil))) (.cons (.slot 1) .nil))) .nil)))) (.cons (.ret (.tup (.cons (.idx (.slot 2) (.cst (.int 0))) (.cons (.idx (.slot 2) (.cst (.int 1))) (.cons (.call "along" (.cons (.call "normal" (.cons (.slot 3) (.cons (.slot 4) .nil))) (.cons (.slot 1) .nil))) .nil))))) .nil)))
def e_middle : De where
  nm := "middle"
  ps := ["column", "row"]
  N := ["column", "row"]
  body := (.cons (.ret (.tup (.cons (.bin .add (.bin .mul (.cst (.int 2)) (.slot 0)) (.cst (.int 1))) (.cons (.bin .add (.bin .mul (.cst (.int 2)) (.slot 1)) (.cst (.int 1))) (.cons (.cst (.int 2)) .nil))))) .nil)
def e_left_mask_b1 : Sts := (.cons (.ifs (.bool false (.cons (.cmp .gt (.slot 5) (.cst (.int 0))) (.cons (.bool true (.cons (.cmp .eq (.slot 5) (.cst (.int 0))) (.cons (.slot 6) .nil))) .nil))) (.cons (.aug 7 .bor (.bin .shl (.cst (.int 1)) (.slot 8))) .nil) .nil) (.cons (.aug 5 .add (.bin .mul (.cst (.int 2)) (.idx (.slot 4) (.cst (.int 0))))) .nil))
def e_left_mask : De where
  nm := "left_mask"
  ps := ["a", "b", "width", "row"]
  N := ["a", "b", "width", "row", "sums", "total", "on_line", "bits", "column"]
  body := (.cons (.asg (.nm 4) (.call "normal" (.cons (.slot 0) (.cons (.slot 1) .nil)))) (.cons (.asg (.nm 5) (.call "along" (.cons (.slot 4) (.cons (.call "middle" (.cons (.cst (.int 0)) (.cons (.slot 3) .nil))) .nil)))) (.cons (.asg (.nm 6) (.bool false (.cons (.cmp .gt (.idx (.slot 4) (.cst (.int 0))) (.cst (.int 0))) (.cons (.bool true (.cons (.cmp .eq (.idx (.slot 4) (.cst (.int 0))) (.cst (.int 0))) (.cons (.cmp .gt (.idx (.slot 4) (.cst (.int 1))) (.cst (.int 0))) .nil))) .nil)))) (.cons (.asg (.nm 7) (.cst (.int 0))) (.cons (.for (.nm 8) (.rng1 (.slot 2)) e_left_mask_b1) (.cons (.ret (.slot 7)) .nil))))))
def e_law_draws_x1 : Ex := (.call "_law_mixed" (.cons (.slot 0) (.cons (.slot 2) .nil)))
def e_law_draws : De where
  nm := "_law_draws"
  ps := ["_law_cell", "_law_many"]
  N := ["_law_cell", "_law_many", "_law_k"]
  body := (.cons (.ret (.comp [("_law_k", 2)] e_law_draws_x1 (.nm 2) (.rng1 (.slot 1)) .no)) .nil)
def e_row_mask_b1 : Sts := (.cons (.aug 3 .band (.call "left_mask" (.cons (.slot 5) (.cons (.slot 6) (.cons (.slot 1) (.cons (.slot 2) .nil)))))) (.cons (.aug 4 .band (.call "left_mask" (.cons (.slot 6) (.cons (.slot 5) (.cons (.slot 1) (.cons (.slot 2) .nil)))))) .nil))
def e_row_mask : De where
  nm := "row_mask"
  ps := ["triangle", "width", "row"]
  N := ["triangle", "width", "row", "ahead", "back", "one", "other"]
  body := (.cons (.drop (.call "check_ahead" (.cons (.slot 0) .nil))) (.cons (.asg (.nm 3) (.bin .sub (.bin .shl (.cst (.int 1)) (.slot 1)) (.cst (.int 1)))) (.cons (.asg (.nm 4) (.slot 3)) (.cons (.for (.tup [5, 6]) (.sql (.call "edges_of" (.cons (.slot 0) .nil))) e_row_mask_b1) (.cons (.ret (.bin .bor (.slot 3) (.slot 4))) .nil)))))
def e_law_triangles_x1 : Ex := (.call "_law_draws" (.cons (.call "_law_cell_at" (.cons (.slot 0) (.cons (.bin .add (.slot 1) (.slot 9)) .nil))) (.cons (.bin .mul (.cst (.int 3)) (.slot 4)) .nil)))
def e_law_triangles_x2 : Ex := (.call "_law_corner" (.cons (.sl (.slot 12) .no (.yes (.slot 4))) (.cons (.slot 3) .nil)))
def e_law_triangles_x3 : Ex := (.call "_law_corner" (.cons (.sl (.idx (.slot 5) (.slot 9)) (.yes (.bin .mul (.slot 4) (.slot 13))) (.yes (.bin .add (.bin .mul (.slot 4) (.slot 13)) (.slot 4)))) (.cons (.slot 3) .nil)))
def e_law_triangles_b1 : Sts := (.cons (.asg (.nm 10) (.idx (.slot 7) (.bin .add (.cst (.int 1)) (.slot 9)))) (.cons (.asg (.nm 11) (.lst (.cons (.idx (.slot 6) (.bin .mod (.slot 10) (.cst (.int 6)))) (.cons (.idx (.slot 6) (.bin .mod (.bin .fdiv (.slot 10) (.cst (.int 6))) (.cst (.int 6)))) (.cons (.idx (.slot 6) (.bin .mod (.bin .fdiv (.slot 10) (.cst (.int 36))) (.cst (.int 6)))) .nil))))) (.cons (.ifs (.cmp .eq (.bin .mod (.bin .fdiv (.slot 10) (.cst (.int 216))) (.cst (.int 4))) (.cst (.int 1))) (.cons (.asg (.nm 11) (.comp [("_law_j", 13)] e_law_triangles_x3 (.nm 13) (.rng1 (.cst (.int 3))) .no)) .nil) .nil) (.cons (.app 8 (.tup (.cons (.idx (.slot 11) (.cst (.int 0))) (.cons (.idx (.slot 11) (.cst (.int 1))) (.cons (.idx (.slot 11) (.cst (.int 2))) .nil))))) .nil))))
def e_law_triangles : De where
  nm := "_law_triangles"
  ps := ["_law_script", "_law_first", "_law_most", "_law_many"]
  N := ["_law_script", "_law_first", "_law_most", "_law_many", "_law_size", "_law_rows", "_law_pool", "_law_draws_here", "_law_found", "_law_k", "_law_number", "_law_one", "_law_row", "_law_j"]
  body := (.cons (.asg (.nm 4) (.bin .add (.cst (.int 6)) (.slot 3))) (.cons (.asg (.nm 5) (.comp [("_law_k", 9)] e_law_triangles_x1 (.nm 9) (.rng1 (.cst (.int 6))) .no)) (.cons (.asg (.nm 6) (.comp [("_law_row", 12)] e_law_triangles_x2 (.nm 12) (.sql (.slot 5)) .no)) (.cons (.asg (.nm 7) (.call "_law_draws" (.cons (.call "_law_cell_at" (.cons (.slot 0) (.cons (.bin .add (.slot 1) (.cst (.int 6))) .nil))) (.cons (.bin .add (.slot 2) (.cst (.int 1))) .nil)))) (.cons (.own 8 (.lst .nil)) (.cons (.for (.nm 9) (.rng1 (.bin .mod (.idx (.slot 7) (.cst (.int 0))) (.bin .add (.slot 2) (.cst (.int 1))))) e_law_triangles_b1) (.cons (.ret (.slot 8)) .nil)))))))
def e_stretches_c1 : Ex := (.cmp .eq (.bin .band (.bin .shr (.slot 0) (.slot 2)) (.cst (.int 1))) (.cst (.int 1)))
def e_stretches_b1 : Sts := (.cons (.aug 2 .add (.cst (.int 1))) .nil)
def e_stretches_c2 : Ex := (.cmp .gt (.bin .shr (.slot 0) (.slot 2)) (.cst (.int 0)))
def e_stretches_b2 : Sts := (.cons (.asg (.nm 3) (.slot 2)) (.cons (.whl e_stretches_c1 e_stretches_b1) (.cons (.ifs (.cmp .gt (.slot 2) (.slot 3)) (.cons (.app 1 (.tup (.cons (.slot 3) (.cons (.slot 2) .nil)))) .nil) .nil) (.cons (.aug 2 .add (.cst (.int 1))) .nil))))
def e_stretches : De where
  nm := "stretches"
  ps := ["bits"]
  N := ["bits", "found", "column", "begin"]
  body := (.cons (.own 1 (.lst .nil)) (.cons (.asg (.nm 2) (.cst (.int 0))) (.cons (.whl e_stretches_c2 e_stretches_b2) (.cons (.ret (.slot 1)) .nil))))
def e_filled_mask_b1 : Sts := (.cons (.aug 3 .bor (.call "row_mask" (.cons (.slot 4) (.cons (.slot 1) (.cons (.slot 2) .nil))))) .nil)
def e_filled_mask : De where
  nm := "filled_mask"
  ps := ["triangles", "width", "row"]
  N := ["triangles", "width", "row", "bits", "triangle"]
  body := (.cons (.asg (.nm 3) (.cst (.int 0))) (.cons (.for (.nm 4) (.sql (.slot 0)) e_filled_mask_b1) (.cons (.ret (.slot 3)) .nil)))
def e_shared_mask_b1 : Sts := (.cons (.asg (.nm 6) (.call "row_mask" (.cons (.slot 5) (.cons (.slot 1) (.cons (.slot 2) .nil))))) (.cons (.aug 4 .bor (.bin .band (.slot 3) (.slot 6))) (.cons (.aug 3 .bor (.slot 6)) .nil)))
def e_shared_mask : De where
  nm := "shared_mask"
  ps := ["triangles", "width", "row"]
  N := ["triangles", "width", "row", "once", "twice", "triangle", "bits"]
  body := (.cons (.asg (.nm 3) (.cst (.int 0))) (.cons (.asg (.nm 4) (.cst (.int 0))) (.cons (.for (.nm 5) (.sql (.slot 0)) e_shared_mask_b1) (.cons (.ret (.slot 4)) .nil))))
def e_form_x1 : Ex := (.bin .mul (.slot 2) (.slot 3))
def e_form : De where
  nm := "form"
  ps := ["wall", "corner"]
  N := ["wall", "corner", "number", "part"]
  body := (.cons (.ret (.bi .sum (.cons (.comp [("number", 2), ("part", 3)] e_form_x1 (.tup [2, 3]) (.zip (.slot 0) (.sl (.slot 1) .no (.yes (.cst (.int 4))))) .no) .nil))) .nil)
def e_turned_to : De where
  nm := "turned_to"
  ps := ["triangle", "first"]
  N := ["triangle", "first"]
  body := (.cons (.ret (.bin .add (.sl (.slot 0) (.yes (.slot 1)) .no) (.sl (.slot 0) .no (.yes (.slot 1))))) .nil)
def e_cut_x1 : Ex := (.call "form" (.cons (.slot 1) (.cons (.slot 12) .nil)))
def e_cut_x2 : Ex := (.slot 13)
def e_cut_y1 : Exo := (.yes (.cmp .ge (.idx (.slot 2) (.slot 13)) (.cst (.int 0))))
def e_cut : De where
  nm := "cut"
  ps := ["triangle", "wall"]
  N := ["triangle", "wall", "forms", "inside", "alone", "ahead", "behind", "tip", "rest", "first", "second", "third", "corner", "k"]
  body := (.cons (.asg (.nm 2) (.comp [("corner", 12)] e_cut_x1 (.nm 12) (.sql (.slot 0)) .no)) (.cons (.asg (.nm 3) (.comp [("k", 13)] e_cut_x2 (.nm 13) (.rng1 (.cst (.int 3))) e_cut_y1)) (.cons (.ifs (.cmp .eq (.bi .len (.cons (.slot 3) .nil)) (.cst (.int 3))) (.cons (.ret (.tup (.cons (.lst (.cons (.slot 0) .nil)) (.cons (.lst .nil) .nil)))) .nil) .nil) (.cons (.ifs (.cmp .eq (.slot 3) (.lst .nil)) (.cons (.ret (.tup (.cons (.lst .nil) (.cons (.lst (.cons (.slot 0) .nil)) .nil)))) .nil) .nil) (.cons (.asg (.nm 4) (.idx (.slot 3) (.cst (.int 0)))) (.cons (.ifs (.cmp .eq (.bi .len (.cons (.slot 3) .nil)) (.cst (.int 2))) (.cons (.asg (.nm 4) (.bin .sub (.bin .sub (.cst (.int 3)) (.idx (.slot 3) (.cst (.int 0)))) (.idx (.slot 3) (.cst (.int 1))))) .nil) .nil) (.cons (.asg (.tup [9, 10, 11]) (.call "turned_to" (.cons (.slot 0) (.cons (.slot 4) .nil)))) (.cons (.asg (.nm 5) (.call "mixed" (.cons (.slot 9) (.cons (.slot 10) (.cons (.bi .abs (.cons (.call "form" (.cons (.slot 1) (.cons (.slot 10) .nil))) .nil)) (.cons (.bi .abs (.cons (.call "form" (.cons (.slot 1) (.cons (.slot 9) .nil))) .nil)) .nil)))))) (.cons (.asg (.nm 6) (.call "mixed" (.cons (.slot 9) (.cons (.slot 11) (.cons (.bi .abs (.cons (.call "form" (.cons (.slot 1) (.cons (.slot 11) .nil))) .nil)) (.cons (.bi .abs (.cons (.call "form" (.cons (.slot 1) (.cons (.slot 9) .nil))) .nil)) .nil)))))) (.cons (.asg (.nm 7) (.lst (.cons (.tup (.cons (.slot 9) (.cons (.slot 5) (.cons (.slot 6) .nil)))) .nil))) (.cons (.asg (.nm 8) (.lst (.cons (.tup (.cons (.slot 5) (.cons (.slot 10) (.cons (.slot 11) .nil)))) (.cons (.tup (.cons (.slot 5) (.cons (.slot 11) (.cons (.slot 6) .nil)))) .nil)))) (.cons (.ifs (.cmp .eq (.bi .len (.cons (.slot 3) .nil)) (.cst (.int 1))) (.cons (.ret (.tup (.cons (.slot 7) (.cons (.slot 8) .nil)))) .nil) .nil) (.cons (.ret (.tup (.cons (.slot 8) (.cons (.slot 7) .nil)))) .nil)))))))))))))
def e_law_form_x1 : Ex := (.bin .mul (.slot 2) (.slot 3))
def e_law_form : De where
  nm := "_law_form"
  ps := ["_law_shut", "_law_corner_here"]
  N := ["_law_shut", "_law_corner_here", "_law_one", "_law_other"]
  body := (.cons (.ret (.bi .sum (.cons (.comp [("_law_one", 2), ("_law_other", 3)] e_law_form_x1 (.tup [2, 3]) (.zip (.slot 0) (.sl (.slot 1) .no (.yes (.cst (.int 4))))) .no) .nil))) .nil)
def e_law_lowest_c1 : Ex := (.cmp .ne (.slot 3) (.cst (.int 0)))
def e_law_lowest_b1 : Sts := (.cons (.par 2 3 (.slot 3) (.bin .mod (.slot 2) (.slot 3))) .nil)
def e_law_lowest : De where
  nm := "_law_lowest"
  ps := ["_law_top", "_law_bottom"]
  N := ["_law_top", "_law_bottom", "_law_one", "_law_other"]
  body := (.cons (.asg (.nm 2) (.slot 0)) (.cons (.asg (.nm 3) (.slot 1)) (.cons (.whl e_law_lowest_c1 e_law_lowest_b1) (.cons (.ifs (.cmp .ne (.cmp .lt (.slot 1) (.cst (.int 0))) (.cmp .lt (.slot 2) (.cst (.int 0)))) (.cons (.asg (.nm 2) (.bin .sub (.cst (.int 0)) (.slot 2))) .nil) .nil) (.cons (.ret (.tup (.cons (.bin .fdiv (.slot 0) (.slot 2)) (.cons (.bin .fdiv (.slot 1) (.slot 2)) .nil)))) .nil)))))
def e_law_lowest_v2_c1 : Ex := (.cmp .ne (.slot 3) (.cst (.int 0)))
def e_law_lowest_v2_b1 : Sts := (.cons (.par 2 3 (.slot 3) (.bin .mod (.slot 2) (.slot 3))) .nil)
def e_law_lowest_v2 : De where
  nm := "_law_lowest"
  ps := ["_law_top", "_law_bottom"]
  N := ["_law_top", "_law_bottom", "_law_one", "_law_other"]
  body := (.cons (.asg (.nm 2) (.slot 0)) (.cons (.asg (.nm 3) (.slot 1)) (.cons (.whl e_law_lowest_v2_c1 e_law_lowest_v2_b1) (.cons (.ret (.tup (.cons (.bin .fdiv (.slot 0) (.bi .abs (.cons (.slot 2) .nil))) (.cons (.bin .fdiv (.slot 1) (.bi .abs (.cons (.slot 2) .nil))) .nil)))) .nil))))
def e_eyewalls : De where
  nm := "eyewalls"
  ps := ["width", "height", "near", "far"]
  N := ["width", "height", "near", "far"]
  body := (.cons (.ret (.lst (.cons (.tup (.cons (.cst (.int 0)) (.cons (.cst (.int 0)) (.cons (.cst (.int 1)) (.cons (.bin .sub (.cst (.int 0)) (.slot 2)) .nil))))) (.cons (.tup (.cons (.cst (.int 0)) (.cons (.cst (.int 0)) (.cons (.neg (.cst (.int 1))) (.cons (.slot 3) .nil))))) (.cons (.tup (.cons (.cst (.int 1)) (.cons (.cst (.int 0)) (.cons (.cst (.int 0)) (.cons (.cst (.int 0)) .nil))))) (.cons (.tup (.cons (.neg (.cst (.int 1))) (.cons (.cst (.int 0)) (.cons (.slot 0) (.cons (.cst (.int 0)) .nil))))) (.cons (.tup (.cons (.cst (.int 0)) (.cons (.cst (.int 1)) (.cons (.cst (.int 0)) (.cons (.cst (.int 0)) .nil))))) (.cons (.tup (.cons (.cst (.int 0)) (.cons (.neg (.cst (.int 1))) (.cons (.slot 1) (.cons (.cst (.int 0)) .nil))))) .nil)))))))) .nil)
def e_within_b1 : Sts := (.cons (.asg (.nm 4) (.bin .add (.slot 4) (.idx (.call "cut" (.cons (.slot 5) (.cons (.slot 3) .nil))) (.cst (.int 0))))) .nil)
def e_within_b2 : Sts := (.cons (.asg (.nm 4) (.lst .nil)) (.cons (.for (.nm 5) (.sql (.slot 2)) e_within_b1) (.cons (.asg (.nm 2) (.slot 4)) .nil)))
def e_within : De where
  nm := "within"
  ps := ["triangle", "walls"]
  N := ["triangle", "walls", "pieces", "wall", "found", "piece"]
  body := (.cons (.asg (.nm 2) (.lst (.cons (.slot 0) .nil))) (.cons (.for (.nm 3) (.sql (.slot 1)) e_within_b2) (.cons (.ret (.slot 2)) .nil)))
def e_mixed_values_x1 : Ex := (.bin .mul (.slot 6) (.idx (.slot 7) (.cst (.int 3))))
def e_mixed_values_x2 : Ex := (.bin .mul (.slot 6) (.idx (.slot 7) (.cst (.int 2))))
def e_mixed_values_x3 : Ex := (.bin .mul (.slot 6) (.idx (.idx (.slot 7) (.cst (.int 4))) (.slot 5)))
def e_mixed_values_b1 : Sts := (.cons (.app 4 (.call "ratio" (.cons (.bi .sum (.cons (.comp [("part", 6), ("corner", 7)] e_mixed_values_x3 (.tup [6, 7]) (.zip (.slot 1) (.slot 0)) .no) .nil)) (.cons (.slot 2) .nil)))) .nil)
def e_mixed_values : De where
  nm := "mixed_values"
  ps := ["triangle", "parts"]
  N := ["triangle", "parts", "whole", "depth", "values", "k", "part", "corner"]
  body := (.cons (.asg (.nm 2) (.bi .sum (.cons (.comp [("part", 6), ("corner", 7)] e_mixed_values_x1 (.tup [6, 7]) (.zip (.slot 1) (.slot 0)) .no) .nil))) (.cons (.asg (.nm 3) (.call "ratio" (.cons (.bi .sum (.cons (.comp [("part", 6), ("corner", 7)] e_mixed_values_x2 (.tup [6, 7]) (.zip (.slot 1) (.slot 0)) .no) .nil)) (.cons (.slot 2) .nil)))) (.cons (.own 4 (.lst .nil)) (.cons (.for (.nm 5) (.rng1 (.bi .len (.cons (.idx (.idx (.slot 0) (.cst (.int 0))) (.cst (.int 4))) .nil))) e_mixed_values_b1) (.cons (.ret (.tup (.cons (.slot 3) (.cons (.bi .tuple (.cons (.slot 4) .nil)) .nil)))) .nil)))))
def e_seen_at : De where
  nm := "seen_at"
  ps := ["triangle", "point"]
  N := ["triangle", "point"]
  body := (.cons (.ifs (.cmp .eq (.call "had" (.cons (.slot 0) (.cons (.slot 1) .nil))) (.cst (.int 0))) (.cons (.ret (.cst .non)) .nil) .nil) (.cons (.ret (.call "mixed_values" (.cons (.slot 0) (.cons (.call "weights" (.cons (.slot 0) (.cons (.slot 1) .nil))) .nil)))) .nil))
def e_law_parts_x1 : Ex := (.bin .mul (.slot 9) (.slot 10))
def e_law_parts_b1 : Sts := (.cons (.asg (.nm 4) (.idx (.slot 0) (.bin .sub (.slot 3) (.cst (.int 2))))) (.cons (.asg (.nm 5) (.idx (.slot 0) (.bin .sub (.slot 3) (.cst (.int 1))))) (.cons (.asg (.nm 6) (.bin .sub (.bin .mul (.idx (.slot 4) (.cst (.int 1))) (.idx (.slot 5) (.cst (.int 2)))) (.bin .mul (.idx (.slot 4) (.cst (.int 2))) (.idx (.slot 5) (.cst (.int 1)))))) (.cons (.asg (.nm 7) (.bin .sub (.bin .mul (.idx (.slot 4) (.cst (.int 2))) (.idx (.slot 5) (.cst (.int 0)))) (.bin .mul (.idx (.slot 4) (.cst (.int 0))) (.idx (.slot 5) (.cst (.int 2)))))) (.cons (.asg (.nm 8) (.tup (.cons (.slot 6) (.cons (.slot 7) (.cons (.bin .sub (.bin .mul (.idx (.slot 4) (.cst (.int 0))) (.idx (.slot 5) (.cst (.int 1)))) (.bin .mul (.idx (.slot 4) (.cst (.int 1))) (.idx (.slot 5) (.cst (.int 0))))) .nil))))) (.cons (.app 2 (.bi .sum (.cons (.comp [("_law_one", 9), ("_law_other", 10)] e_law_parts_x1 (.tup [9, 10]) (.zip (.slot 8) (.slot 1)) .no) .nil))) .nil))))))
def e_law_parts : De where
  nm := "_law_parts"
  ps := ["_law_triangle", "_law_point_here"]
  N := ["_law_triangle", "_law_point_here", "_law_parts_here", "_law_k", "_law_a", "_law_b", "_law_left", "_law_up", "_law_n", "_law_one", "_law_other"]
  body := (.cons (.own 2 (.lst .nil)) (.cons (.for (.nm 3) (.rng1 (.cst (.int 3))) e_law_parts_b1) (.cons (.ret (.slot 2)) .nil)))
def e_hit_x1 : Ex := (.bin .mul (.slot 5) (.idx (.slot 6) (.cst (.int 3))))
def e_hit_x2 : Ex := (.slot 5)
def e_hit_y1 : Exo := (.yes (.cmp .le (.bin .mul (.slot 5) (.slot 3)) (.cst (.int 0))))
def e_hit : De where
  nm := "hit"
  ps := ["triangle", "point"]
  N := ["triangle", "point", "parts", "whole", "turn", "part", "corner"]
  body := (.cons (.asg (.nm 2) (.call "weights" (.cons (.slot 0) (.cons (.slot 1) .nil)))) (.cons (.asg (.nm 3) (.bi .sum (.cons (.comp [("part", 5), ("corner", 6)] e_hit_x1 (.tup [5, 6]) (.zip (.slot 2) (.slot 0)) .no) .nil))) (.cons (.asg (.nm 4) (.call "along" (.cons (.call "normal" (.cons (.idx (.slot 0) (.cst (.int 0))) (.cons (.idx (.slot 0) (.cst (.int 1))) .nil))) (.cons (.idx (.slot 0) (.cst (.int 2))) .nil)))) (.cons (.ifs (.bool false (.cons (.cmp .eq (.slot 3) (.cst (.int 0))) (.cons (.cmp .le (.bin .mul (.slot 4) (.slot 3)) (.cst (.int 0))) .nil))) (.cons (.ret (.cst .non)) .nil) .nil) (.cons (.ifs (.cmp .ne (.comp [("part", 5)] e_hit_x2 (.nm 5) (.sql (.slot 2)) e_hit_y1) (.lst .nil)) (.cons (.ret (.cst .non)) .nil) .nil) (.cons (.ret (.call "mixed_values" (.cons (.slot 0) (.cons (.slot 2) .nil)))) .nil))))))
def e_is_part_x1 : Ex := (.bool true (.cons (.isi (.slot 1) "int") (.cons (.notE (.isi (.slot 1) "bool")) .nil)))
def e_is_part : De where
  nm := "is_part"
  ps := ["thing"]
  N := ["thing", "one"]
  body := (.cons (.ifs (.bool false (.cons (.notE (.isi (.slot 0) "tuple")) (.cons (.cmp .ne (.bi .len (.cons (.slot 0) .nil)) (.cst (.int 2))) .nil))) (.cons (.ret (.cst (.bl false))) .nil) .nil) (.cons (.ifs (.notE (.bi .all (.cons (.comp [("one", 1)] e_is_part_x1 (.nm 1) (.sql (.slot 0)) .no) .nil))) (.cons (.ret (.cst (.bl false))) .nil) .nil) (.cons (.ret (.bool true (.cons (.cmp .gt (.idx (.slot 0) (.cst (.int 1))) (.cst (.int 0))) (.cons (.cmp .eq (.call "ratio" (.cons (.idx (.slot 0) (.cst (.int 0))) (.cons (.idx (.slot 0) (.cst (.int 1))) .nil))) (.slot 0)) .nil)))) .nil)))
def e_check_pattern_x1 : Ex := (.call "is_part" (.cons (.slot 2) .nil))
def e_check_pattern_b1 : Sts := (.cons (.ifs (.bool false (.cons (.notE (.isi (.slot 1) "list")) (.cons (.cmp .nin (.bi .len (.cons (.slot 1) .nil)) (.glb "SIDES")) (.cons (.cmp .ne (.bi .len (.cons (.slot 1) .nil)) (.bi .len (.cons (.idx (.slot 0) (.cst (.int 0))) .nil))) .nil)))) (.cons (.rais "BadPattern") .nil) .nil) (.cons (.ifs (.notE (.bi .all (.cons (.comp [("one", 2)] e_check_pattern_x1 (.nm 2) (.sql (.slot 1)) .no) .nil))) (.cons (.rais "BadPattern") .nil) .nil) .nil))
def e_check_pattern : De where
  nm := "check_pattern"
  ps := ["pattern"]
  N := ["pattern", "line", "one"]
  body := (.cons (.ifs (.bool false (.cons (.notE (.isi (.slot 0) "list")) (.cons (.cmp .nin (.bi .len (.cons (.slot 0) .nil)) (.glb "SIDES")) .nil))) (.cons (.rais "BadPattern") .nil) .nil) (.cons (.for (.nm 1) (.sql (.slot 0)) e_check_pattern_b1) .nil))
def e_laid_at : De where
  nm := "laid_at"
  ps := ["pattern", "u", "v"]
  N := ["pattern", "u", "v", "line"]
  body := (.cons (.asg (.nm 3) (.idx (.slot 0) (.bin .mod (.call "down" (.cons (.slot 2) .nil)) (.bi .len (.cons (.slot 0) .nil))))) (.cons (.ret (.idx (.slot 3) (.bin .mod (.call "down" (.cons (.slot 1) .nil)) (.bi .len (.cons (.slot 3) .nil))))) .nil))
def e_is_fraction : De where
  nm := "is_fraction"
  ps := ["thing"]
  N := ["thing"]
  body := (.cons (.ifs (.bool false (.cons (.notE (.isi (.slot 0) "tuple")) (.cons (.cmp .ne (.bi .len (.cons (.slot 0) .nil)) (.cst (.int 2))) (.cons (.notE (.call "is_whole" (.cons (.idx (.slot 0) (.cst (.int 0))) .nil))) (.cons (.notE (.call "is_whole" (.cons (.idx (.slot 0) (.cst (.int 1))) .nil))) .nil))))) (.cons (.ret (.cst (.bl false))) .nil) .nil) (.cons (.ret (.bool true (.cons (.cmp .gt (.idx (.slot 0) (.cst (.int 1))) (.cst (.int 0))) (.cons (.cmp .eq (.call "ratio" (.cons (.idx (.slot 0) (.cst (.int 0))) (.cons (.idx (.slot 0) (.cst (.int 1))) .nil))) (.slot 0)) .nil)))) .nil))
def e_refuse_thing : De where
  nm := "refuse_thing"
  ps := ["bad"]
  N := ["bad"]
  body := (.cons (.ifs (.slot 0) (.cons (.rais "BadThing") .nil) .nil) .nil)
def e_law_pattern_b1 : Sts := (.cons (.asg (.nm 8) (.call "_law_mixed" (.cons (.slot 1) (.cons (.bin .add (.bin .mul (.cst (.int 20)) (.slot 5)) (.slot 7)) .nil)))) (.cons (.app 6 (.idx (.lst (.cons (.tup (.cons (.bin .mod (.slot 8) (.cst (.int 7))) (.cons (.cst (.int 1)) .nil))) (.cons (.call "ratio" (.cons (.bin .sub (.slot 8) (.bin .pow (.cst (.int 10)) (.cst (.int 9)))) (.cons (.bin .add (.cst (.int 1)) (.bin .mod (.bin .fdiv (.slot 8) (.cst (.int 9))) (.cst (.int 99)))) .nil))) .nil))) (.bin .mod (.bin .fdiv (.slot 0) (.cst (.int 16))) (.cst (.int 2))))) .nil))
def e_law_pattern_b2 : Sts := (.cons (.own 6 (.lst .nil)) (.cons (.for (.nm 7) (.rng1 (.slot 3)) e_law_pattern_b1) (.cons (.frz 6) (.cons (.app 4 (.slot 6)) .nil))))
def e_law_pattern : De where
  nm := "_law_pattern"
  ps := ["_law_number", "_law_more"]
  N := ["_law_number", "_law_more", "_law_rows", "_law_columns", "_law_found", "_law_r", "_law_line", "_law_c", "_law_one"]
  body := (.cons (.asg (.nm 2) (.idx (.lst (.cons (.cst (.int 1)) (.cons (.cst (.int 2)) (.cons (.cst (.int 4)) (.cons (.cst (.int 16)) .nil))))) (.bin .mod (.slot 0) (.cst (.int 4))))) (.cons (.asg (.nm 3) (.idx (.lst (.cons (.cst (.int 1)) (.cons (.cst (.int 2)) (.cons (.cst (.int 8)) (.cons (.cst (.int 4)) .nil))))) (.bin .mod (.bin .fdiv (.slot 0) (.cst (.int 4))) (.cst (.int 4))))) (.cons (.own 4 (.lst .nil)) (.cons (.for (.nm 5) (.rng1 (.slot 2)) e_law_pattern_b2) (.cons (.ret (.slot 4)) .nil)))))
def e_law_pattern_v2_x1 : Ex := (.call "_law_fraction" (.cons (.slot 0) (.cons (.bin .add (.bin .mul (.slot 2) (.slot 3)) (.slot 4)) .nil)))
def e_law_pattern_v2_x2 : Ex := (.comp [("_law_at", 4)] e_law_pattern_v2_x1 (.nm 4) (.rng1 (.slot 2)) .no)
def e_law_pattern_v2 : De where
  nm := "_law_pattern"
  ps := ["_law_cell"]
  N := ["_law_cell", "_law_high", "_law_wide", "_law_row", "_law_at"]
  body := (.cons (.asg (.nm 1) (.idx (.lst (.cons (.cst (.int 1)) (.cons (.cst (.int 2)) (.cons (.cst (.int 4)) (.cons (.cst (.int 8)) (.cons (.cst (.int 16)) .nil)))))) (.bin .mod (.call "_law_mixed" (.cons (.slot 0) (.cons (.cst (.int 1)) .nil))) (.cst (.int 5))))) (.cons (.asg (.nm 2) (.idx (.lst (.cons (.cst (.int 1)) (.cons (.cst (.int 2)) (.cons (.cst (.int 4)) (.cons (.cst (.int 8)) (.cons (.cst (.int 16)) .nil)))))) (.bin .mod (.call "_law_mixed" (.cons (.slot 0) (.cons (.cst (.int 2)) .nil))) (.cst (.int 5))))) (.cons (.ret (.comp [("_law_row", 3)] e_law_pattern_v2_x2 (.nm 3) (.rng1 (.slot 1)) .no)) .nil)))
def e_wall_c1 : Ex := (.cst (.bl true))
def e_wall_b1 : Sts := (.cons .pass .nil)
def e_wall : De where
  nm := "_wall"
  ps := ["k"]
  N := ["k"]
  body := (.cons (.whl e_wall_c1 e_wall_b1) .nil)
def e_colour_seen : De where
  nm := "colour_seen"
  ps := ["things", "p", "ground"]
  N := ["things", "p", "ground"]
  body := (.cons (.ret (.call "laid_over" (.cons (.call "sights" (.cons (.slot 0) (.cons (.slot 1) .nil))) (.cons (.slot 2) .nil)))) .nil)
def e_law_things_b1 : Sts := (.cons (.app 4 (.call "_law_thing" (.cons (.sl (.slot 3) (.yes (.bin .mul (.cst (.int 4)) (.slot 6))) (.yes (.bin .add (.bin .mul (.cst (.int 4)) (.slot 6)) (.cst (.int 4))))) (.cons (.slot 7) .nil)))) .nil)
def e_law_things : De where
  nm := "_law_things"
  ps := ["_law_script", "_law_first", "_law_most"]
  N := ["_law_script", "_law_first", "_law_most", "_law_draws_here", "_law_found", "_law_many", "_law_k", "_law_triangle"]
  body := (.cons (.asg (.nm 3) (.call "_law_draws" (.cons (.call "_law_cell_at" (.cons (.slot 0) (.cons (.bin .add (.slot 1) (.cst (.int 7))) .nil))) (.cons (.bin .mul (.cst (.int 4)) (.slot 2)) .nil)))) (.cons (.own 4 (.lst .nil)) (.cons (.asg (.nm 5) (.bin .add (.cst (.int 2)) (.bin .mod (.bin .fdiv (.call "_law_cell_at" (.cons (.slot 0) (.cons (.bin .add (.slot 1) (.cst (.int 7))) .nil))) (.cst (.int 2))) (.cst (.int 2))))) (.cons (.for (.tup [6, 7]) (.enum (.call "_law_triangles" (.cons (.slot 0) (.cons (.slot 1) (.cons (.slot 2) (.cons (.slot 5) .nil)))))) e_law_things_b1) (.cons (.ret (.slot 4)) .nil)))))
def e_law_less : De where
  nm := "_law_less"
  ps := ["_law_one", "_law_other"]
  N := ["_law_one", "_law_other"]
  body := (.cons (.ret (.cmp .lt (.bin .mul (.idx (.slot 0) (.cst (.int 0))) (.idx (.slot 1) (.cst (.int 1)))) (.bin .mul (.idx (.slot 1) (.cst (.int 0))) (.idx (.slot 0) (.cst (.int 1)))))) .nil)
def e_spot_at : De where
  nm := "spot_at"
  ps := ["column", "row", "spot"]
  N := ["column", "row", "spot"]
  body := (.cons (.ret (.tup (.cons (.bin .add (.bin .mul (.glb "EIGHTHS") (.slot 0)) (.idx (.slot 2) (.cst (.int 0)))) (.cons (.bin .add (.bin .mul (.glb "EIGHTHS") (.slot 1)) (.idx (.slot 2) (.cst (.int 1)))) (.cons (.glb "EIGHTHS") .nil))))) .nil)
def e_refuse_floor : De where
  nm := "refuse_floor"
  ps := ["bad"]
  N := ["bad"]
  body := (.cons (.ifs (.slot 0) (.cons (.rais "BadFloor") .nil) .nil) .nil)
def e_is_spot_x1 : Ex := (.bool true (.cons (.call "is_whole" (.cons (.slot 1) .nil)) (.cons (.chain .le .le (.cst (.int 1)) (.slot 1) (.cst (.int 7))) .nil)))
def e_is_spot : De where
  nm := "is_spot"
  ps := ["thing"]
  N := ["thing", "number"]
  body := (.cons (.ifs (.bool false (.cons (.notE (.isi (.slot 0) "tuple")) (.cons (.cmp .ne (.bi .len (.cons (.slot 0) .nil)) (.cst (.int 2))) .nil))) (.cons (.ret (.cst (.bl false))) .nil) .nil) (.cons (.ret (.bi .all (.cons (.comp [("number", 1)] e_is_spot_x1 (.nm 1) (.sql (.slot 0)) .no) .nil))) .nil))
def e_paint_x1 : Ex := (.call "colour_seen" (.cons (.slot 0) (.cons (.call "spot_at" (.cons (.slot 9) (.cons (.slot 7) (.cons (.slot 10) .nil)))) (.cons (.slot 4) .nil))))
def e_paint_b1 : Sts := (.cons (.app 8 (.call "mean_of" (.cons (.comp [("spot", 10)] e_paint_x1 (.nm 10) (.sql (.slot 5)) .no) .nil))) .nil)
def e_paint_b2 : Sts := (.cons (.own 8 (.lst .nil)) (.cons (.for (.nm 9) (.rng1 (.slot 1)) e_paint_b1) (.cons (.frz 8) (.cons (.app 6 (.slot 8)) .nil))))
def e_paint : De where
  nm := "paint"
  ps := ["things", "width", "height", "spots", "ground"]
  N := ["things", "width", "height", "spots", "ground", "some", "rows", "row", "cells", "column", "spot"]
  body := (.cons (.asg (.nm 5) (.call "spots_of" (.cons (.slot 1) (.cons (.slot 2) (.cons (.slot 3) .nil))))) (.cons (.ifs (.cmp .is (.slot 4) (.cst .non)) (.cons (.asg (.nm 4) (.glb "DARK")) .nil) .nil) (.cons (.own 6 (.lst .nil)) (.cons (.for (.nm 7) (.rng1 (.slot 2)) e_paint_b2) (.cons (.ret (.slot 6)) .nil)))))
def e_law_spots_b1 : Sts := (.cons (.asg (.nm 4) (.tup (.cons (.bin .add (.cst (.int 1)) (.bin .mod (.slot 3) (.cst (.int 7)))) (.cons (.bin .add (.cst (.int 1)) (.bin .mod (.bin .fdiv (.slot 3) (.cst (.int 7))) (.cst (.int 7)))) .nil)))) (.cons (.ifs (.cmp .eq (.bin .mod (.bin .fdiv (.slot 3) (.cst (.int 64))) (.cst (.int 3))) (.cst (.int 0))) (.cons (.asg (.nm 4) (.tup (.cons (.cst (.int 4)) (.cons (.cst (.int 4)) .nil)))) .nil) .nil) (.cons (.ifs (.cmp .nin (.slot 4) (.slot 2)) (.cons (.app 2 (.slot 4)) .nil) .nil) .nil)))
def e_law_spots : De where
  nm := "_law_spots"
  ps := ["_law_cell"]
  N := ["_law_cell", "_law_draws_here", "_law_found", "_law_more", "_law_spot"]
  body := (.cons (.asg (.nm 1) (.call "_law_draws" (.cons (.slot 0) (.cons (.cst (.int 17)) .nil)))) (.cons (.own 2 (.lst .nil)) (.cons (.for (.nm 3) (.sql (.sl (.slot 1) (.yes (.cst (.int 1))) (.yes (.bin .add (.cst (.int 2)) (.idx (.lst (.cons (.bin .mod (.bin .fdiv (.idx (.slot 1) (.cst (.int 0))) (.cst (.int 8))) (.cst (.int 3))) (.cons (.bin .mod (.bin .fdiv (.idx (.slot 1) (.cst (.int 0))) (.cst (.int 8))) (.cst (.int 16))) .nil))) (.bi .int (.cons (.cmp .eq (.bin .mod (.idx (.slot 1) (.cst (.int 0))) (.cst (.int 8))) (.cst (.int 7))) .nil))))))) e_law_spots_b1) (.cons (.ret (.slot 2)) .nil))))
def e_doubtful_x1 : Ex := (.call "is_doubtful" (.cons (.call "sights" (.cons (.slot 0) (.cons (.call "spot_at" (.cons (.slot 7) (.cons (.slot 6) (.cons (.slot 8) .nil)))) .nil))) .nil))
def e_doubtful_b1 : Sts := (.cons (.ifs (.bi .any (.cons (.comp [("spot", 8)] e_doubtful_x1 (.nm 8) (.sql (.slot 4)) .no) .nil)) (.cons (.app 5 (.tup (.cons (.slot 7) (.cons (.slot 6) .nil)))) .nil) .nil) .nil)
def e_doubtful_b2 : Sts := (.cons (.for (.nm 7) (.rng1 (.slot 1)) e_doubtful_b1) .nil)
def e_doubtful : De where
  nm := "doubtful"
  ps := ["things", "width", "height", "spots"]
  N := ["things", "width", "height", "spots", "some", "found", "row", "column", "spot"]
  body := (.cons (.asg (.nm 4) (.call "spots_of" (.cons (.slot 1) (.cons (.slot 2) (.cons (.slot 3) .nil))))) (.cons (.own 5 (.lst .nil)) (.cons (.for (.nm 6) (.rng1 (.slot 2)) e_doubtful_b2) (.cons (.ret (.slot 5)) .nil))))
def e_tiles_across : De where
  nm := "tiles_across"
  ps := ["width", "wide"]
  N := ["width", "wide"]
  body := (.cons (.ret (.bin .fdiv (.bin .sub (.bin .add (.slot 0) (.slot 1)) (.cst (.int 1))) (.slot 1))) .nil)
def e_tile_cells_b1 : Sts := (.cons (.app 4 (.tup (.cons (.slot 8) (.cons (.slot 5) .nil)))) .nil)
def e_tile_cells_b2 : Sts := (.cons (.for (.nm 8) (.rng2 (.bin .mul (.slot 7) (.slot 2)) (.bi .min (.cons (.slot 0) (.cons (.bin .add (.bin .mul (.slot 7) (.slot 2)) (.slot 2)) .nil)))) e_tile_cells_b1) .nil)
def e_tile_cells : De where
  nm := "tile_cells"
  ps := ["width", "height", "wide", "tile"]
  N := ["width", "height", "wide", "tile", "found", "row", "down", "across", "column"]
  body := (.cons (.asg (.tup [6, 7]) (.bi .divmod (.cons (.slot 3) (.cons (.call "tiles_across" (.cons (.slot 0) (.cons (.slot 2) .nil))) .nil)))) (.cons (.own 4 (.lst .nil)) (.cons (.for (.nm 5) (.rng2 (.bin .mul (.slot 6) (.slot 2)) (.bi .min (.cons (.slot 1) (.cons (.bin .add (.bin .mul (.slot 6) (.slot 2)) (.slot 2)) .nil)))) e_tile_cells_b2) (.cons (.ret (.slot 4)) .nil))))
def e_near_depth_b1 : Sts := (.cons (.asg (.nm 3) (.call "ratio" (.cons (.idx (.slot 2) (.cst (.int 2))) (.cons (.idx (.slot 2) (.cst (.int 3))) .nil)))) (.cons (.ifs (.call "under" (.cons (.slot 3) (.cons (.slot 1) .nil))) (.cons (.asg (.nm 1) (.slot 3)) .nil) .nil) .nil))
def e_near_depth : De where
  nm := "near_depth"
  ps := ["triangle"]
  N := ["triangle", "least", "corner", "depth"]
  body := (.cons (.asg (.nm 1) (.call "ratio" (.cons (.idx (.idx (.slot 0) (.cst (.int 0))) (.cst (.int 2))) (.cons (.idx (.idx (.slot 0) (.cst (.int 0))) (.cst (.int 3))) .nil)))) (.cons (.for (.nm 2) (.sql (.sl (.slot 0) (.yes (.cst (.int 1))) .no)) e_near_depth_b1) (.cons (.ret (.slot 1)) .nil)))
def e_law_cells_b1 : Sts := (.cons (.ifs (.cmp .eq (.bin .add (.bin .mul (.bin .fdiv (.slot 6) (.slot 2)) (.slot 4)) (.bin .fdiv (.slot 7) (.slot 2))) (.slot 3)) (.cons (.app 5 (.tup (.cons (.slot 7) (.cons (.slot 6) .nil)))) .nil) .nil) .nil)
def e_law_cells_b2 : Sts := (.cons (.for (.nm 7) (.rng1 (.slot 0)) e_law_cells_b1) .nil)
def e_law_cells : De where
  nm := "_law_cells"
  ps := ["_law_width", "_law_height", "_law_wide", "_law_tile"]
  N := ["_law_width", "_law_height", "_law_wide", "_law_tile", "_law_across", "_law_found", "_law_row", "_law_column"]
  body := (.cons (.asg (.nm 4) (.bin .fdiv (.bin .sub (.bin .add (.slot 0) (.slot 2)) (.cst (.int 1))) (.slot 2))) (.cons (.own 5 (.lst .nil)) (.cons (.for (.nm 6) (.rng1 (.slot 1)) e_law_cells_b2) (.cons (.ret (.slot 5)) .nil))))
def e_mask_b1 : Sts := (.cons (.ifs (.cmp .ne (.call "had" (.cons (.slot 0) (.cons (.call "spot_at" (.cons (.slot 1) (.cons (.slot 2) (.cons (.slot 6) .nil)))) .nil))) (.cst (.int 0))) (.cons (.asg (.nm 4) (.bin .bor (.slot 4) (.bin .shl (.cst (.int 1)) (.slot 5)))) .nil) .nil) .nil)
def e_mask : De where
  nm := "mask"
  ps := ["triangle", "column", "row", "spots"]
  N := ["triangle", "column", "row", "spots", "found", "k", "spot"]
  body := (.cons (.asg (.nm 4) (.cst (.int 0))) (.cons (.for (.tup [5, 6]) (.enum (.slot 3)) e_mask_b1) (.cons (.ret (.slot 4)) .nil)))
def e_share_x1 : Ex := (.slot 6)
def e_share_y1 : Exo := (.yes (.cmp .eq (.bin .band (.bin .shr (.slot 4) (.slot 6)) (.cst (.int 1))) (.cst (.int 1))))
def e_share : De where
  nm := "share"
  ps := ["triangle", "column", "row", "spots"]
  N := ["triangle", "column", "row", "spots", "bits", "many", "k"]
  body := (.cons (.asg (.nm 4) (.call "mask" (.cons (.slot 0) (.cons (.slot 1) (.cons (.slot 2) (.cons (.slot 3) .nil)))))) (.cons (.asg (.nm 5) (.bi .len (.cons (.comp [("k", 6)] e_share_x1 (.nm 6) (.rng1 (.bi .len (.cons (.slot 3) .nil))) e_share_y1) .nil))) (.cons (.ret (.call "ratio" (.cons (.slot 5) (.cons (.bi .len (.cons (.slot 3) .nil)) .nil)))) .nil)))
def e_places_under : De where
  nm := "places_under"
  ps := ["at", "many"]
  N := ["at", "many"]
  body := (.cons (.ifs (.cmp .eq (.slot 1) (.cst (.int 1))) (.cons (.ret (.lst (.cons (.cst (.int 0)) .nil))) .nil) .nil) (.cons (.ret (.lst (.cons (.bin .mul (.cst (.int 2)) (.slot 0)) (.cons (.bin .add (.bin .mul (.cst (.int 2)) (.slot 0)) (.cst (.int 1))) .nil)))) .nil))
def e_half_of : De where
  nm := "half_of"
  ps := ["many"]
  N := ["many"]
  body := (.cons (.ret (.bi .max (.cons (.cst (.int 1)) (.cons (.bin .fdiv (.slot 0) (.cst (.int 2))) .nil)))) .nil)
def e_halved_x1 : Ex := (.idx (.idx (.slot 0) (.slot 8)) (.slot 9))
def e_halved_b1 : Sts := (.cons (.ext 7 (.comp [("x", 9)] e_halved_x1 (.nm 9) (.sql (.call "places_under" (.cons (.slot 6) (.cons (.slot 2) .nil)))) .no)) .nil)
def e_halved_b2 : Sts := (.cons (.own 7 (.lst .nil)) (.cons (.for (.nm 8) (.sql (.call "places_under" (.cons (.slot 4) (.cons (.slot 1) .nil)))) e_halved_b1) (.cons (.frz 7) (.cons (.app 5 (.call "mean_of" (.cons (.slot 7) .nil))) .nil))))
def e_halved_b3 : Sts := (.cons (.own 5 (.lst .nil)) (.cons (.for (.nm 6) (.rng1 (.call "half_of" (.cons (.slot 2) .nil))) e_halved_b2) (.cons (.frz 5) (.cons (.app 3 (.slot 5)) .nil))))
def e_halved : De where
  nm := "halved"
  ps := ["pattern"]
  N := ["pattern", "high", "wide", "found", "row", "line", "at", "some", "y", "x"]
  body := (.cons (.drop (.call "check_pattern" (.cons (.slot 0) .nil))) (.cons (.asg (.nm 1) (.bi .len (.cons (.slot 0) .nil))) (.cons (.asg (.nm 2) (.bi .len (.cons (.idx (.slot 0) (.cst (.int 0))) .nil))) (.cons (.own 3 (.lst .nil)) (.cons (.for (.nm 4) (.rng1 (.call "half_of" (.cons (.slot 1) .nil))) e_halved_b3) (.cons (.ret (.slot 3)) .nil))))))
def e_chain_x1 : Ex := (.bi .list (.cons (.slot 2) .nil))
def e_chain_c1 : Ex := (.bool false (.cons (.cmp .gt (.bi .len (.cons (.idx (.slot 1) (.neg (.cst (.int 1)))) .nil)) (.cst (.int 1))) (.cons (.cmp .gt (.bi .len (.cons (.idx (.idx (.slot 1) (.neg (.cst (.int 1)))) (.cst (.int 0))) .nil)) (.cst (.int 1))) .nil)))
def e_chain_b1 : Sts := (.cons (.app 1 (.call "halved" (.cons (.idx (.slot 1) (.neg (.cst (.int 1)))) .nil))) .nil)
def e_chain : De where
  nm := "chain"
  ps := ["pattern"]
  N := ["pattern", "found", "line"]
  body := (.cons (.drop (.call "check_pattern" (.cons (.slot 0) .nil))) (.cons (.own 1 (.lst (.cons (.comp [("line", 2)] e_chain_x1 (.nm 2) (.sql (.slot 0)) .no) .nil))) (.cons (.whl e_chain_c1 e_chain_b1) (.cons (.ret (.slot 1)) .nil))))
def e_told_at : De where
  nm := "told_at"
  ps := ["pattern", "u", "v"]
  N := ["pattern", "u", "v"]
  body := (.cons (.drop (.call "check_pattern" (.cons (.slot 0) .nil))) (.cons (.ret (.call "laid_at" (.cons (.slot 0) (.cons (.slot 1) (.cons (.slot 2) .nil))))) .nil))
def e_read_thing : De where
  nm := "read_thing"
  ps := ["row"]
  N := ["row"]
  body := (.cons (.ifs (.notE (.isi (.slot 0) "str")) (.cons .never .nil) .nil) (.cons (.ret (.call "thing_of" (.cons (.slot 0) (.cons (.cst (.int 0)) .nil)))) .nil))
def e_floor_in_x1 : Ex := (.call "number_in" (.cons (.slot 3) (.cons (.slot 1) .nil)))
def e_floor_in : De where
  nm := "floor_in"
  ps := ["words", "at"]
  N := ["words", "at", "sides", "word"]
  body := (.cons (.asg (.nm 2) (.comp [("word", 3)] e_floor_in_x1 (.nm 3) (.sql (.slot 0)) .no)) (.cons (.ifs (.bool false (.cons (.cmp .ne (.bi .len (.cons (.slot 2) .nil)) (.cst (.int 2))) (.cons (.cmp .lt (.bi .min (.cons (.slot 2) .nil)) (.cst (.int 1))) (.cons (.cmp .gt (.bi .max (.cons (.slot 2) .nil)) (.glb "MOST_SIDE")) .nil)))) (.cons .never .nil) .nil) (.cons (.ret (.tup (.cons (.idx (.slot 2) (.cst (.int 0))) (.cons (.idx (.slot 2) (.cst (.int 1))) .nil)))) .nil)))
def e_ground_in : De where
  nm := "ground_in"
  ps := ["words", "at"]
  N := ["words", "at"]
  body := (.cons (.ifs (.cmp .ne (.bi .len (.cons (.slot 0) .nil)) (.cst (.int 1))) (.cons .never .nil) .nil) (.cons (.ret (.call "fraction_in" (.cons (.idx (.slot 0) (.cst (.int 0))) (.cons (.slot 1) .nil)))) .nil))
def e_refuse_if : De where
  nm := "refuse_if"
  ps := ["bad"]
  N := ["bad"]
  body := (.cons (.ifs (.slot 0) (.cons .never .nil) .nil) .nil)
def e_bounded : De where
  nm := "bounded"
  ps := ["word", "low", "high"]
  N := ["word", "low", "high", "number"]
  body := (.cons (.asg (.nm 3) (.call "number_in" (.cons (.slot 0) (.cons (.cst (.int 0)) .nil)))) (.cons (.drop (.call "refuse_if" (.cons (.notE (.chain .le .le (.slot 1) (.slot 3) (.slot 2))) .nil))) (.cons (.ret (.slot 3)) .nil)))
end PS

/-! P17 -/
namespace PL
open PySem PySem.Spec L2
/-! ### tools for plain laws -/
theorem whileO_eq (c : Ev → Option Bool) (b : Ev → Option Out) (env : Ev) : whileO c b env = (c env).bind fun k => if k = true then (b env).bind fun o => match o with
    | .nx e => whileO c b e
    | .ct e => whileO c b e
    | .bk e => some (.nx e)
    | .rt r => some (.rt r) else some (.nx env) := by
  rw [whileO]; rfl
def Has (tb : List De) (e : De) : Prop := (tb.find? fun x => decide (x.nm = e.nm)) = some e
theorem callH {tb : List De} {κ : Str → Option D} {e : De} (h : Has tb e) (d : Nat) (args : List D) (hl : args.length = e.ps.length) :
    callF tb κ (d + 1) e.nm args = outR (evSs (callF tb κ d) (callX tb κ d) κ e.body (env0 e.N.length args)) := by
  unfold Has at h
  simp only [callF, h, Option.bind_some, hl, if_true]
theorem callXH {tb : List De} {κ : Str → Option D} {e : De} (h : Has tb e) (d : Nat) (args : List D) (hl : args.length = e.ps.length) :
    callX tb κ (d + 1) e.nm args = (xSs (callF tb κ d) (callX tb κ d) κ e.body (env0 e.N.length args)).map (·.1) := by
  unfold Has at h
  simp only [callX, h, Option.bind_some, hl, if_true]
/-- o hands back something of Q -/
def Ok {α : Type} (o : Option α) (Q : α → Prop) : Prop := ∃ a, o = some a ∧ Q a
theorem Ok.some {α : Type} {a : α} {Q : α → Prop} (h : Q a) : Ok (some a) Q := ⟨a, rfl, h⟩
theorem Ok.of {α : Type} {o : Option α} {a : α} {Q : α → Prop} (e : o = Option.some a) (h : Q a) : Ok o Q := ⟨a, e, h⟩
theorem Ok.bind {α β : Type} {o : Option α} {f : α → Option β} {Q : α → Prop} {R : β → Prop} (h : Ok o Q) (g : ∀ a, Q a → Ok (f a) R) : Ok (o.bind f) R := by
  obtain ⟨a, rfl, q⟩ := h
  exact g a q
theorem Ok.map {α β : Type} {o : Option α} {f : α → β} {Q : α → Prop} {R : β → Prop} (h : Ok o Q) (g : ∀ a, Q a → R (f a)) : Ok (o.map f) R := by
  obtain ⟨a, rfl, q⟩ := h
  exact ⟨f a, rfl, g a q⟩
theorem Ok.imp {α : Type} {o : Option α} {Q R : α → Prop} (h : Ok o Q) (g : ∀ a, Q a → R a) : Ok o R := by
  obtain ⟨a, e, q⟩ := h
  exact ⟨a, e, g a q⟩
section
variable {ρ : Str → List D → Option Rv} {ξ : Str → List D → Option Str} {κ : Str → Option D}
@[simp] theorem outR_map (o : Option Rv) (f : Ev → Option Out) : outR ((Option.map Out.rt o).bind fun x => x.seq f) = o := by cases o <;> rfl
@[simp] theorem map_seq (o : Option Rv) (f : Ev → Option Out) : ((Option.map Out.rt o).bind fun x => x.seq f) = o.map Out.rt := by cases o <;> rfl
@[simp] theorem outR_map' (o : Option Rv) : outR (Option.map Out.rt o) = o := by cases o <;> rfl
@[simp] theorem loop_nil (t : Tg) (b : Sts) (env : Ev) : loopD ρ ξ κ t b [] env = some (.nx env) := rfl
theorem loop_cons (t : Tg) (b : Sts) (d : D) (r : List D) (env : Ev) : loopD ρ ξ κ t b (d :: r) env = (bindT t d env).bind fun e => (evSs ρ ξ κ b e).bind fun o => match o with
    | .nx e => loopD ρ ξ κ t b r e
    | .ct e => loopD ρ ξ κ t b r e
    | .bk e => some (.nx e)
    | .rt r => some (.rt r) := rfl
@[simp] theorem loopX_nil (t : Tg) (b : Sts) (env : Ev) : loopX ρ ξ κ t b [] env = none := rfl
theorem loopX_here {t : Tg} {b : Sts} {d : D} {r : List D} {env e : Ev} {q : Str × Ev} (h1 : bindT t d env = some e) (h2 : xSs ρ ξ κ b e = some q) : loopX ρ ξ κ t b (d :: r) env = some q := by
  unfold loopX
  simp only [forX, h1, Option.bind_some, h2]
theorem loopX_step {t : Tg} {b : Sts} {d : D} {r : List D} {env e e' : Ev} (h1 : bindT t d env = some e) (h2 : xSs ρ ξ κ b e = none) (h3 : evSs ρ ξ κ b e = some (.nx e')) : loopX ρ ξ κ t b (d :: r) env = loopX ρ ξ κ t b r e' := by
  unfold loopX
  simp only [forX, h1, Option.bind_some, h2, h3]
theorem loopX_none {t : Tg} {b : Sts} {d : D} {r : List D} {env e : Ev} (h1 : bindT t d env = some e) (h2 : xSs ρ ξ κ b e = none) (h3 : evSs ρ ξ κ b e = none) : loopX ρ ξ κ t b (d :: r) env = none := by
  unfold loopX
  simp only [forX, h1, Option.bind_some, h2, h3]
  rfl
theorem loop_dead {t : Tg} {b : Sts} {d : D} {r : List D} {env e : Ev} (h1 : bindT t d env = some e) (h2 : evSs ρ ξ κ b e = none) : loopD ρ ξ κ t b (d :: r) env = none := by
  rw [loop_cons, h1, Option.bind_some, h2, Option.bind_none]
/-- one turn -/
theorem loop_step {t : Tg} {b : Sts} {d : D} {r : List D} {env e e' : Ev} (h1 : bindT t d env = some e) (h2 : evSs ρ ξ κ b e = some (.nx e')) : loopD ρ ξ κ t b (d :: r) env = loopD ρ ξ κ t b r e' := by
  rw [loop_cons, h1, Option.bind_some, h2, Option.bind_some]
theorem loop_stepC {t : Tg} {b : Sts} {d : D} {r : List D} {env e e' : Ev} (h1 : bindT t d env = some e) (h2 : evSs ρ ξ κ b e = some (.ct e')) : loopD ρ ξ κ t b (d :: r) env = loopD ρ ξ κ t b r e' := by
  rw [loop_cons, h1, Option.bind_some, h2, Option.bind_some]
theorem loop_stepR {t : Tg} {b : Sts} {d : D} {r : List D} {env e : Ev} {v : Rv} (h1 : bindT t d env = some e) (h2 : evSs ρ ξ κ b e = some (.rt v)) : loopD ρ ξ κ t b (d :: r) env = some (.rt v) := by
  rw [loop_cons, h1, Option.bind_some, h2, Option.bind_some]
/-- a loop that goes on to its end -/
theorem loop_inv {t : Tg} {b : Sts} (Inv : Nat → Ev → Prop) : ∀ (ds : List D) (k : Nat) (env : Ev), Inv k env →
    (∀ (i : Nat) (d : D) (env : Ev), ds[i]? = some d → Inv (k + i) env → ∃ e e', bindT t d env = some e ∧ (evSs ρ ξ κ b e = some (.nx e') ∨ evSs ρ ξ κ b e = some (.ct e')) ∧ Inv (k + i + 1) e') →
    ∃ e', loopD ρ ξ κ t b ds env = some (.nx e') ∧ Inv (k + ds.length) e'
  | [], k, env, h, _ => ⟨env, rfl, h⟩
  | d :: ds, k, env, h, st => by
    obtain ⟨e, e', he, h2, h3⟩ := st 0 d env rfl h
    have ih := loop_inv Inv ds (k + 1) e' h3 fun i d env hd hi => by
      have := st (i + 1) d env hd (by rw [show k + (i + 1) = k + 1 + i by omega]; exact hi)
      rw [show k + (i + 1) = k + 1 + i by omega] at this
      exact this
    rw [show k + 1 + ds.length = k + (d :: ds).length by rw [List.length_cons]; omega] at ih
    refine Exists.imp (fun e'' h => ⟨?_, h.2⟩) ih
    rcases h2 with h2 | h2
    · rw [loop_step he h2]; exact h.1
    · rw [loop_stepC he h2]; exact h.1
/-- a loop all of whose turns are alike -/
theorem loop_all {t : Tg} {b : Sts} (Inv : Ev → Prop) {ds : List D} {env : Ev} (h : Inv env)
    (st : ∀ d env, d ∈ ds → Inv env → ∃ e e', bindT t d env = some e ∧ (evSs ρ ξ κ b e = some (.nx e') ∨ evSs ρ ξ κ b e = some (.ct e')) ∧ Inv e') :
    ∃ e', loopD ρ ξ κ t b ds env = some (.nx e') ∧ Inv e' :=
  loop_inv (fun _ => Inv) ds 0 env h fun i d env hd hi => st d env (List.mem_of_getElem? hd) hi
theorem comp_cons (own : List (Str × Nat)) (elt : Ex) (tg : Tg) (c : Exo) (env : Ev) (d : D) (ds : List D) : compD ρ κ own elt tg c env (d :: ds) =
    ((bindT tg d (wipeS env (own.map (·.2)))).bind fun env2 => (evC ρ κ c env2).bind fun k => if k = true then (fzo (evR ρ κ elt env2)).map some else some none).bind fun o => (compD ρ κ own elt tg c env ds).map fun rest => match o with | some d => d :: rest | none => rest := by
  unfold compD
  rw [colD]
  congr 1
  funext o
  cases o <;> rfl
@[simp] theorem comp_nil (own : List (Str × Nat)) (elt : Ex) (tg : Tg) (c : Exo) (env : Ev) : compD ρ κ own elt tg c env [] = some [] := id rfl
/-- a comprehension without a test -/
theorem comp_map {own : List (Str × Nat)} {elt : Ex} {tg : Tg} {env : Ev} {f : D → D} : ∀ {ds : List D}, (∀ d, d ∈ ds → ∃ e, bindT tg d (wipeS env (own.map (·.2))) = some e ∧ fzo (evR ρ κ elt e) = some (f d)) → compD ρ κ own elt tg .no env ds = some (ds.map f)
  | [], _ => rfl
  | d :: ds, h => by
    obtain ⟨e, h1, h2⟩ := h d (List.mem_cons_self ..)
    have ih := comp_map (ds := ds) fun x hx => h x (List.mem_cons_of_mem _ hx)
    rw [comp_cons, h1, ih]
    simp only [h2, Option.bind_some, Option.map_some, List.map_cons, evC_no, if_true]
theorem comp_filter {own : List (Str × Nat)} {elt c : Ex} {tg : Tg} {env : Ev} {f : D → D} {p : D → Bool} : ∀ {ds : List D}, (∀ d, d ∈ ds → ∃ e, bindT tg d (wipeS env (own.map (·.2))) = some e ∧ toB (evR ρ κ c e) = some (p d) ∧ (p d = true → fzo (evR ρ κ elt e) = some (f d))) →
    compD ρ κ own elt tg (.yes c) env ds = some ((ds.filter p).map f)
  | [], _ => rfl
  | d :: ds, h => by
    obtain ⟨e, h1, h2, h3⟩ := h d (List.mem_cons_self ..)
    have ih := comp_filter (ds := ds) fun x hx => h x (List.mem_cons_of_mem _ hx)
    rw [comp_cons, h1, ih]
    simp only [h2, Option.bind_some, Option.map_some, evC_yes]
    by_cases hp : p d = true
    · simp [hp, h3 hp]
    · simp [hp]
/-- a comprehension over what a list holds, told by its parts -/
theorem comp_ok {α : Type} {own : List (Str × Nat)} {elt : Ex} {tg : Tg} {env : Ev} {mk : α → D} {Q : D → α → Prop} : ∀ {ds : List D}, (∀ d, d ∈ ds → ∃ e a, bindT tg d (wipeS env (own.map (·.2))) = some e ∧ fzo (evR ρ κ elt e) = some (mk a) ∧ Q d a) →
    ∃ as : List α, compD ρ κ own elt tg .no env ds = some (as.map mk) ∧ as.length = ds.length ∧ ∀ (i : Nat) (d : D) (a : α), ds[i]? = some d → as[i]? = some a → Q d a
  | [], _ => ⟨[], rfl, rfl, fun i d a h => by simp at h⟩
  | d :: ds, h => by
    obtain ⟨e, a, h1, h2, q⟩ := h d (List.mem_cons_self ..)
    obtain ⟨as, e2, l, q2⟩ := comp_ok fun x hx => h x (List.mem_cons_of_mem _ hx)
    refine ⟨a :: as, ?_, by simp [l], fun i x y hx hy => ?_⟩
    · rw [comp_cons, h1, e2]
      simp only [h2, Option.bind_some, Option.map_some, List.map_cons, evC_no, if_true]
    · cases i with
      | zero => simp at hx hy; subst hx hy; exact q
      | succ i => simp at hx hy; exact q2 i x y hx hy
theorem whl_eq (c : Ex) (b : Sts) (env : Ev) : whlD ρ ξ κ c b env = (toB (evR ρ κ c env)).bind fun k => if k = true then (evSs ρ ξ κ b env).bind fun o => match o with
    | .nx e => whlD ρ ξ κ c b e
    | .ct e => whlD ρ ξ κ c b e
    | .bk e => some (.nx e)
    | .rt r => some (.rt r) else some (.nx env) := by
  unfold whlD
  rw [whileO_eq]
theorem whl_step {c : Ex} {b : Sts} {env e : Ev} (h1 : toB (evR ρ κ c env) = some true) (h2 : evSs ρ ξ κ b env = some (.nx e)) : whlD ρ ξ κ c b env = whlD ρ ξ κ c b e := by
  rw [whl_eq, h1, Option.bind_some, if_pos rfl, h2, Option.bind_some]
theorem whl_end {c : Ex} {b : Sts} {env : Ev} (h1 : toB (evR ρ κ c env) = some false) : whlD ρ ξ κ c b env = some (.nx env) := by
  rw [whl_eq, h1, Option.bind_some, if_neg (by decide)]
end

/-! ### equality -/
def eqDs : List D → List D → Bool
  | [], [] => true
  | a :: as, b :: bs => eqD a b && eqDs as bs
  | _, _ => false
theorem eqvAll_is : ∀ xs ys : List D, PyData.eqvAll (toPys xs) (toPys ys) = eqDs xs ys
  | [], [] => by simp [toPys, PyData.eqvAll, eqDs]
  | [], _ :: _ => by simp [toPys, PyData.eqvAll, eqDs]
  | _ :: _, [] => by simp [toPys, PyData.eqvAll, eqDs]
  | x :: xs, y :: ys => by simp only [toPys, PyData.eqvAll, eqDs, eqvAll_is xs ys]; rfl
@[simp] theorem eqDs_nil : eqDs [] [] = true := rfl
@[simp] theorem eqDs_cons (a b : D) (as bs : List D) : eqDs (a :: as) (b :: bs) = (eqD a b && eqDs as bs) := rfl
@[simp] theorem eqDs_nc (b : D) (bs : List D) : eqDs [] (b :: bs) = false := rfl
@[simp] theorem eqDs_cn (b : D) (bs : List D) : eqDs (b :: bs) [] = false := rfl
@[simp] theorem eqD_int (a b : Int) : eqD (.int a) (.int b) = decide (a = b) := by
  simp [eqD, toPy, PyData.eqv]
  by_cases h : a = b <;> simp [h]
@[simp] theorem eqD_str (a b : Str) : eqD (.str a) (.str b) = decide (a = b) := by
  simp [eqD, toPy, PyData.eqv]
  by_cases h : a = b <;> simp [h]
@[simp] theorem eqD_bl (a b : Bool) : eqD (.bl a) (.bl b) = (a == b) := by
  simp [eqD, toPy, PyData.eqv]
  all_goals (cases a <;> cases b <;> simp)
@[simp] theorem eqD_non : eqD .non .non = true := by simp [eqD, toPy, PyData.eqv]
@[simp] theorem eqD_tt (a b : List D) : eqD (.tup a) (.tup b) = eqDs a b := by simp only [eqD, toPy, PyData.eqv, eqvAll_is]
@[simp] theorem eqD_ll (a b : List D) : eqD (.lst a) (.lst b) = eqDs a b := by simp only [eqD, toPy, PyData.eqv, eqvAll_is]
@[simp] theorem eqD_lf (a b : List D) : eqD (.lst a) (.flst b) = eqDs a b := by simp only [eqD, toPy, PyData.eqv, eqvAll_is]
@[simp] theorem eqD_fl (a b : List D) : eqD (.flst a) (.lst b) = eqDs a b := by simp only [eqD, toPy, PyData.eqv, eqvAll_is]
@[simp] theorem eqD_ff (a b : List D) : eqD (.flst a) (.flst b) = eqDs a b := by simp only [eqD, toPy, PyData.eqv, eqvAll_is]
@[simp] theorem eqD_tl (a b : List D) : eqD (.tup a) (.lst b) = false := by simp [eqD, toPy, PyData.eqv]
@[simp] theorem eqD_lt (a b : List D) : eqD (.lst a) (.tup b) = false := by simp [eqD, toPy, PyData.eqv]
@[simp] theorem eqD_nt (a : List D) : eqD .non (.tup a) = false := by simp [eqD, toPy, PyData.eqv]
@[simp] theorem eqD_tn (a : List D) : eqD (.tup a) .non = false := by simp [eqD, toPy, PyData.eqv]
@[simp] theorem eqD_ni (a : Int) : eqD .non (.int a) = false := by simp [eqD, toPy, PyData.eqv]
@[simp] theorem eqD_in (a : Int) : eqD (.int a) .non = false := by simp [eqD, toPy, PyData.eqv]
@[simp] theorem cmp_eqS (i j : D) (hi : shp 20 i = true) (hj : shp 20 j = true) : cmpD .eq i j = some (eqD i j) := by rw [cmp_eq, if_pos ⟨hi, hj⟩]
@[simp] theorem cmp_neS (i j : D) (hi : shp 20 i = true) (hj : shp 20 j = true) : cmpD .ne i j = some (!eqD i j) := by rw [cmp_ne, if_pos ⟨hi, hj⟩]
@[simp] theorem cmp_eqB (i j : Bool) : cmpD .eq (.bl i) (.bl j) = some (i == j) := by rw [cmp_eqS _ _ rfl rfl, eqD_bl]
@[simp] theorem cmp_neB (i j : Bool) : cmpD .ne (.bl i) (.bl j) = some (!(i == j)) := by rw [cmp_neS _ _ rfl rfl, eqD_bl]
@[simp] theorem shp_int (n : Nat) (i : Int) : shp (n + 1) (.int i) = true := rfl
@[simp] theorem shp_bl (n : Nat) (i : Bool) : shp (n + 1) (.bl i) = true := rfl
@[simp] theorem shp_non (n : Nat) : shp (n + 1) .non = true := rfl
@[simp] theorem shp_tup (n : Nat) (xs : List D) : shp (n + 1) (.tup xs) = xs.all (shp n) := rfl
@[simp] theorem shp_lst (n : Nat) (xs : List D) : shp (n + 1) (.lst xs) = xs.all (shp n) := rfl
@[simp] theorem shp_flst (n : Nat) (xs : List D) : shp (n + 1) (.flst xs) = xs.all (shp n) := rfl
/-- what is the same, and has a shape, is alike -/
theorem eqD_self (n : Nat) : ∀ (d : D), shp n d = true → eqD d d = true := by
  induction n with
  | zero => intro d h; simp [shp] at h
  | succ n ih =>
    have l : ∀ xs : List D, xs.all (shp n) = true → eqDs xs xs = true := fun xs => by
      induction xs with
      | nil => intro _; rfl
      | cons x xs ih2 => intro h; simp only [List.all_cons, Bool.and_eq_true] at h; simp [ih x h.1, ih2 h.2]
    intro d h
    cases d with
    | non => simp
    | bl b => simp
    | int i => simp
    | str s => simp
    | tup xs => simp only [shp_tup] at h; simp [l xs h]
    | lst xs => simp only [shp_lst] at h; simp [l xs h]
    | flst xs => simp only [shp_flst] at h; simp [l xs h]
theorem atI_ok {α : Type} {xs : List α} {i : Int} (h : -(xs.length : Int) ≤ i) (h2 : i < xs.length) : ∃ x, atI xs i = some x ∧ x ∈ xs := by
  unfold atI ixN
  by_cases h0 : 0 ≤ i
  · have : i.toNat < xs.length := by omega
    exact ⟨xs[i.toNat], by simp [h0, h2, this], List.getElem_mem _⟩
  · have : (i + xs.length).toNat < xs.length := by omega
    exact ⟨xs[(i + xs.length).toNat], by simp [h0, h, this], List.getElem_mem _⟩
theorem atI_nat {α : Type} {xs : List α} {i : Nat} : atI xs (i : Int) = xs[i]? := by
  unfold atI ixN
  by_cases h : i < xs.length
  · simp [h]
  · simp [h, List.getElem?_eq_none (Nat.not_lt.mp h)]
@[simp] theorem rngD_length (lo : Int) (n : Nat) : (rngD lo n).length = n := rngD_len lo n
theorem mem_rng0 {d : D} {n : Nat} (h : d ∈ rngD 0 n) : ∃ k : Nat, k < n ∧ d = .int k := by
  unfold rngD at h
  simp only [List.mem_map, List.mem_range] at h
  obtain ⟨k, hk, rfl⟩ := h
  exact ⟨k, hk, by simp⟩
theorem ints_at {ns : List Int} {i : Int} (h : -(ns.length : Int) ≤ i) (h2 : i < ns.length) : ∃ c, atI (ns.map D.int) i = some (.int c) ∧ c ∈ ns := by
  obtain ⟨x, h3, h4⟩ := atI_ok (xs := ns.map D.int) (i := i) (by simpa using h) (by simpa using h2)
  obtain ⟨c, hc, rfl⟩ := List.mem_map.mp h4
  exact ⟨c, h3, hc⟩
@[simp] theorem cut_map {α β : Type} (f : α → β) (xs : List α) (lo hi : Option Int) : cutD (xs.map f) lo hi = (cutD xs lo hi).map f := by unfold cutD; rw [List.length_map, List.map_take, List.map_drop]
theorem cut_none {α : Type} (xs : List α) : cutD xs none none = xs := by unfold cutD; simp [HT.sIx]
theorem cut_take {α : Type} (xs : List α) {n : Int} (h : 0 ≤ n) : cutD xs none (some n) = xs.take n.toNat := by
  unfold cutD
  simp only [HT.sIx, if_neg (Int.not_lt.mpr h), List.drop_zero, Nat.sub_zero]
  rw [List.take_eq_take_iff]
  omega
theorem cut_drop {α : Type} (xs : List α) {n : Int} (h : 0 ≤ n) : cutD xs (some n) none = xs.drop n.toNat := by
  unfold cutD
  simp only [HT.sIx, if_neg (Int.not_lt.mpr h)]
  rcases Nat.lt_or_ge n.toNat xs.length with hl | hl
  · rw [Nat.min_eq_left (by omega), List.take_of_length_le (by simp)]
  · rw [Nat.min_eq_right hl]; simp [List.drop_eq_nil_of_le hl]
theorem inRg_of {i : Int} (h : decide (-(2 ^ 62) ≤ i ∧ i < 2 ^ 62) = true) : inRg i = true := h
theorem inRg_nn {i : Int} (h : 0 ≤ i) (h2 : i < 2 ^ 62) : inRg i = true := by unfold inRg; simp; omega
/-! ### sizes -/
theorem fmod_nn' (a : Int) {b : Int} (h : 0 < b) : 0 ≤ a.fmod b ∧ a.fmod b < b := ⟨Int.fmod_nonneg_of_pos a h, Int.fmod_lt_of_pos a h⟩
def Sm (n : Nat) (i : Int) : Prop := i.natAbs < 2 ^ n
theorem Sm.mono {n m : Nat} {i : Int} (h : Sm n i) (l : n ≤ m) : Sm m i := Nat.lt_of_lt_of_le h (Nat.pow_le_pow_right (by decide) l)
theorem Sm.mul {n m : Nat} {i j : Int} (h : Sm n i) (g : Sm m j) : Sm (n + m) (i * j) := by
  unfold Sm at *
  rw [Int.natAbs_mul, Nat.pow_add]
  exact Nat.mul_lt_mul'' h g
theorem Sm.add {n m : Nat} {i j : Int} (h : Sm n i) (g : Sm m j) : Sm (max n m + 1) (i + j) := by
  have h := h.mono (Nat.le_max_left n m)
  have g := g.mono (Nat.le_max_right n m)
  unfold Sm at *
  rw [Nat.pow_succ]
  omega
theorem Sm.neg {n : Nat} {i : Int} (h : Sm n i) : Sm n (-i) := by unfold Sm at *; rw [Int.natAbs_neg]; exact h
theorem Sm.sub {n m : Nat} {i j : Int} (h : Sm n i) (g : Sm m j) : Sm (max n m + 1) (i - j) := by
  rw [Int.sub_eq_add_neg]
  exact h.add g.neg
theorem Sm.nn {n : Nat} {i : Int} (h : 0 ≤ i) (g : i < 2 ^ n) : Sm n i := by
  unfold Sm
  have : ((2 : Int) ^ n) = ((2 ^ n : Nat) : Int) := by simp
  omega
theorem Sm.of {n : Nat} {i : Int} {k : Nat} (h : i.natAbs ≤ k) (g : k < 2 ^ n) : Sm n i := Nat.lt_of_le_of_lt h g
theorem Sm.le {n : Nat} {i j : Int} (h : i.natAbs ≤ j.natAbs) (g : Sm n j) : Sm n i := Nat.lt_of_le_of_lt h g
theorem mulOk_sm {n m : Nat} {i j : Int} (h : Sm n i) (g : Sm m j) (hn : n ≤ 400000) (hm : m ≤ 400000) : mulOk i j = true := by
  unfold mulOk
  have a := h.mono hn
  have b := g.mono hm
  unfold Sm at a b
  rw [← bigm_eq] at a b
  simp [a, b]
theorem mulOk_r {i j : Int} (h : Sm 64 j) : mulOk i j = true := by
  unfold mulOk Sm at *
  have : -(2 ^ 64) < j ∧ j < 2 ^ 64 := by omega
  simp only [Bool.or_eq_true, decide_eq_true_eq]
  exact .inl (.inr this)
theorem mulOk_l {i j : Int} (h : Sm 64 i) : mulOk i j = true := by
  unfold mulOk Sm at *
  have : -(2 ^ 64) < i ∧ i < 2 ^ 64 := by omega
  simp only [Bool.or_eq_true, decide_eq_true_eq]
  exact .inr this
theorem divOk_sm {n : Nat} {i : Int} (h : Sm n i) (hn : n ≤ 9000) (h0 : i ≠ 0) : divOk i = true := by
  unfold divOk
  have a := h.mono hn
  unfold Sm at a
  rw [← bigd_eq] at a
  simp [a, h0]
theorem divOk_lit {i : Int} (h0 : i ≠ 0) (h : Sm 64 i) : divOk i = true := divOk_sm h (by decide) h0
theorem powOk_lit {i j : Int} (h : decide (0 ≤ j ∧ j ≤ 1000000 ∧ i.natAbs < 2 ^ 64) = true) : powOk i j = true := h

theorem Sm.lit {i : Int} (h : decide (i.natAbs < 2 ^ 70) = true) : Sm 70 i := by
  have h : i.natAbs < 2 ^ 70 := of_decide_eq_true h
  exact h
theorem Sm.fmodl {a k : Int} (h : decide (0 < k ∧ k.natAbs < 2 ^ 70) = true) : Sm 70 (a.fmod k) := by
  obtain ⟨h1, h2⟩ := of_decide_eq_true h
  have := fmod_nn' a h1
  unfold Sm
  omega
theorem Sm.fdivl {n : Nat} {a k : Int} (h : Sm n a) : Sm n (a.fdiv k) := Nat.lt_of_le_of_lt (Int.natAbs_fdiv_le_natAbs a k) h
theorem Sm.nat {i : Nat} (h : i < 2 ^ 64) : Sm 64 (i : Int) := by unfold Sm; omega
@[simp] theorem mulOk_d {i j : Int} (h : ∃ n m, Sm n i ∧ Sm m j ∧ n ≤ 400000 ∧ m ≤ 400000) : mulOk i j = true := by
  obtain ⟨n, m, h1, h2, h3, h4⟩ := h
  exact mulOk_sm h1 h2 h3 h4
@[simp] theorem divOk_d {i : Int} (h : ∃ n, Sm n i ∧ n ≤ 9000) (h0 : i ≠ 0) : divOk i = true := by
  obtain ⟨n, h1, h2⟩ := h
  exact divOk_sm h1 h2 h0
@[simp] theorem powOk_d {i j : Int} (h : Sm 64 i) (h1 : 0 ≤ j ∧ j ≤ 1000000) : powOk i j = true := decide_eq_true ⟨h1.1, h1.2, h⟩

/-! ### the draws -/
@[irreducible] def mixI (c k : Int) : Int :=
  if 2 ^ 90 ≤ c ∧ c.fmod 2 = 1 ∧ 0 < c / 2 ^ (1 + 31 * k).toNat then (c / 2 ^ (1 + 31 * k).toNat).fmod 2147483648 else
  (((c + 7919 * k + 1) * 48271).fmod 2147483647 * ((((c + 7919 * k + 1) * 48271).fmod 2147483647).fdiv 1009 + 69621)).fmod 2147483647 *
    (((((c + 7919 * k + 1) * 48271).fmod 2147483647 * ((((c + 7919 * k + 1) * 48271).fmod 2147483647).fdiv 1009 + 69621)).fmod 2147483647).fdiv 2003 + 39373 + k) |>.fmod 2147483629
theorem fmod_nn (a : Int) {b : Int} (h : 0 < b) : 0 ≤ a.fmod b ∧ a.fmod b < b := ⟨Int.fmod_nonneg_of_pos a h, Int.fmod_lt_of_pos a h⟩
theorem fmod_pos (a : Int) {b : Int} (h : 0 < b) : a.fmod b = a % b := by rw [Int.fmod_eq_emod_of_nonneg _ (by omega)]
theorem fdiv_pos (a : Int) {b : Int} (h : 0 < b) : a.fdiv b = a / b := by rw [Int.fdiv_eq_ediv_of_nonneg _ (by omega)]
theorem mixI_nn (c k : Int) : 0 ≤ mixI c k := by
  unfold mixI
  split
  · exact (fmod_nn _ (by decide)).1
  · exact (fmod_nn _ (by decide)).1
theorem mixI_lt (c k : Int) : mixI c k < 2147483648 := by
  unfold mixI
  split
  · exact (fmod_nn _ (by decide)).2
  · exact Int.lt_trans (fmod_nn _ (by decide)).2 (by decide)
theorem mixI_sm (c k : Int) : Sm 31 (mixI c k) := Sm.nn (mixI_nn c k) (mixI_lt c k)
end PL

/-! PF -/
namespace PL
open PySem PySem.Spec L2
/-! ### fractions -/
theorem gcd_fmod (a b : Int) : Int.gcd b (a.fmod b) = Int.gcd a b := by
  rw [Int.fmod_def, Int.sub_eq_add_neg, ← Int.mul_neg]
  rw [Int.gcd_comm a b]
  exact Int.gcd_add_mul_left_right _ _ _
theorem fmod_lt (a : Int) {b : Int} (h : b ≠ 0) : (a.fmod b).natAbs < b.natAbs := by
  rcases Int.lt_or_gt_of_ne h with h | h
  · have h1 := Int.fmod_nonneg_of_pos (-a) (b := -b) (by omega)
    have h2 := Int.fmod_lt_of_pos (-a) (b := -b) (by omega)
    rw [Int.neg_fmod_neg] at h1 h2
    omega
  · have h1 := Int.fmod_nonneg_of_pos a h
    have h2 := Int.fmod_lt_of_pos a h
    omega
section
variable (ρ : Str → List D → Option Rv) {ξ : Str → List D → Option Str} (κ : Str → Option D)
theorem divisor_loop : ∀ (n : Nat) (a b : Int), b.natAbs < n →
    ∃ g : Int, g.natAbs = Int.gcd a b ∧ whlD ρ ξ κ PS.e_divisor_c1 PS.e_divisor_b1 [.pv (.int a), .pv (.int b)] = some (.nx [.pv (.int g), .pv (.int 0)])
  | 0, _, _, h => by omega
  | n + 1, a, b, h => by
    by_cases hb : b = 0
    · subst hb
      exact ⟨a, by simp, whl_end (by simp [PS.e_divisor_c1])⟩
    · obtain ⟨g, h1, h2⟩ := divisor_loop n b (a.fmod b) (by have := fmod_lt a hb; omega)
      refine ⟨g, by rw [h1, gcd_fmod], ?_⟩
      rw [whl_step (e := [.pv (.int b), .pv (.int (a.fmod b))]) (by simp [PS.e_divisor_c1, hb]) (by simp [PS.e_divisor_b1, hb]), h2]
theorem divisor_body (a b : Int) : outR (evSs ρ ξ κ PS.e_divisor.body (env0 2 [.int a, .int b])) = some (.pv (.int (Int.gcd a b))) := by
  obtain ⟨g, h1, h2⟩ := divisor_loop (ξ := ξ) ρ κ _ a b (Nat.lt_succ_self _)
  simp [PS.e_divisor, env0, h2]
  omega
end
def frD (q : Rat) : D := .tup [.int q.num, .int (q.den : Int)]
/-- small top and bottom -/
def RB (n : Nat) (q : Rat) : Prop := Sm n q.num ∧ Sm n (q.den : Int)
theorem divInt_num {a b : Int} (hb : b ≠ 0) : (Rat.divInt a b).num = a.fdiv (if b < 0 then 0 - (Int.gcd a b : Int) else Int.gcd a b) := by
  rw [Rat.num_divInt, Int.gcd_comm]
  have hd : (Int.gcd a b : Int) ∣ a := Int.gcd_dvd_left ..
  split
  · rename_i h
    rw [Int.sign_eq_neg_one_of_neg h, show (0 - (Int.gcd a b : Int)) = -(Int.gcd a b : Int) by omega]
    rw [Int.fdiv_eq_ediv_of_dvd (Int.neg_dvd.mpr hd), Int.ediv_neg, show -1 * a = -a by omega]
    rw [Int.neg_ediv_of_dvd hd]
  · rename_i h
    rw [Int.sign_eq_one_of_pos (by omega), Int.fdiv_eq_ediv_of_dvd hd, Int.one_mul]
theorem divInt_den {a b : Int} (hb : b ≠ 0) : ((Rat.divInt a b).den : Int) = b.fdiv (if b < 0 then 0 - (Int.gcd a b : Int) else Int.gcd a b) := by
  rw [Rat.den_divInt, if_neg hb, Int.gcd_comm]
  have hd : (Int.gcd a b : Int) ∣ b := Int.gcd_dvd_right ..
  split
  · rename_i h
    rw [show (0 - (Int.gcd a b : Int)) = -(Int.gcd a b : Int) by omega]
    rw [Int.fdiv_eq_ediv_of_dvd (Int.neg_dvd.mpr hd), Int.ediv_neg, ← Int.neg_ediv_of_dvd hd]
    rw [Int.natCast_ediv]
    congr 1
    omega
  · rename_i h
    rw [Int.fdiv_eq_ediv_of_dvd hd, Int.natCast_ediv]
    congr 1
    omega
theorem ratio_body {ρ : Str → List D → Option Rv} {ξ : Str → List D → Option Str} (κ : Str → Option D) {a b : Int} {n : Nat} (h : ρ "divisor" [.int a, .int b] = some (.pv (.int (Int.gcd a b)))) (hb : b ≠ 0) (hn : Sm n b) (hn' : n ≤ 9000) :
    outR (evSs ρ ξ κ PS.e_ratio.body (env0 3 [.int a, .int b])) = some (.pv (frD (Rat.divInt a b))) := by
  have hg : (Int.gcd a b : Int) ≠ 0 := by
    have := Int.gcd_pos_of_ne_zero_right a hb
    omega
  have hs : Sm n (Int.gcd a b : Int) := Sm.le (j := b) (by
    have := Nat.le_of_dvd (by omega) (Int.gcd_dvd_natAbs_right a b)
    omega) hn
  have h1 := divOk_sm hs hn' hg
  have h2 := divOk_sm (i := -(Int.gcd a b : Int)) hs.neg hn' (by omega)
  unfold frD
  rw [divInt_num hb, divInt_den hb]
  simp [PS.e_ratio, env0, h, h1, h2]
  split <;> simp

@[simp] theorem atI0 (x : D) (xs : List D) : atI (x :: xs) 0 = some x := by simp [atI, ixN]
@[simp] theorem atI1 (x y : D) (xs : List D) : atI (x :: y :: xs) 1 = some y := by simp [atI, ixN]; omega
@[simp] theorem atI2 (x y z : D) (xs : List D) : atI (x :: y :: z :: xs) 2 = some z := by simp [atI, ixN]; omega
@[simp] theorem atI3 (x y z u : D) (xs : List D) : atI (x :: y :: z :: u :: xs) 3 = some u := by simp [atI, ixN]; omega
@[simp] theorem atI4 (x y z u v : D) (xs : List D) : atI (x :: y :: z :: u :: v :: xs) 4 = some v := by simp [atI, ixN]; omega
theorem RB.mono {n m : Nat} {q : Rat} (h : RB n q) (l : n ≤ m) : RB m q := ⟨h.1.mono l, h.2.mono l⟩
theorem rb_divInt {n : Nat} {a b : Int} (hb : b ≠ 0) (h1 : Sm n a) (h2 : Sm n b) : RB n (Rat.divInt a b) := by
  have hg : 0 < Int.gcd a b := Int.gcd_pos_of_ne_zero_right a hb
  constructor
  · refine Sm.le ?_ h1
    rw [Rat.num_divInt, Int.gcd_comm]
    rw [Int.natAbs_ediv_of_dvd (Int.dvd_trans (Int.gcd_dvd_left ..) (Int.dvd_mul_left ..)), Int.natAbs_mul, Int.natAbs_sign_of_ne_zero hb]
    rw [Nat.one_mul]
    exact Nat.div_le_self _ _
  · refine Sm.le ?_ h2
    rw [Rat.den_divInt, if_neg hb]
    exact Nat.div_le_self _ _
theorem den_ne (q : Rat) : (q.den : Int) ≠ 0 := by have := q.den_pos; omega
theorem den_pos' (q : Rat) : 0 < (q.den : Int) := by have := q.den_pos; omega
theorem rb_add {n m : Nat} {p q : Rat} (h1 : RB n p) (h2 : RB m q) : RB (n + m + 1) (p + q) := by
  rw [← Rat.num_divInt_den p, ← Rat.num_divInt_den q, Rat.divInt_add_divInt _ _ (den_ne p) (den_ne q)]
  refine rb_divInt (Int.mul_ne_zero (den_ne p) (den_ne q)) ?_ ?_
  · exact ((h1.1.mul h2.2).add (h2.1.mul h1.2)).mono (by omega)
  · exact (h1.2.mul h2.2).mono (by omega)
theorem rb_sub {n m : Nat} {p q : Rat} (h1 : RB n p) (h2 : RB m q) : RB (n + m + 1) (p - q) := by
  rw [← Rat.num_divInt_den p, ← Rat.num_divInt_den q, Rat.divInt_sub_divInt _ _ (den_ne p) (den_ne q)]
  refine rb_divInt (Int.mul_ne_zero (den_ne p) (den_ne q)) ?_ ?_
  · exact ((h1.1.mul h2.2).sub (h2.1.mul h1.2)).mono (by omega)
  · exact (h1.2.mul h2.2).mono (by omega)
theorem rb_mul {n m : Nat} {p q : Rat} (h1 : RB n p) (h2 : RB m q) : RB (n + m) (p * q) := by
  rw [← Rat.num_divInt_den p, ← Rat.num_divInt_den q, Rat.divInt_mul_divInt]
  refine rb_divInt (Int.mul_ne_zero (den_ne p) (den_ne q)) ?_ ?_
  · exact (h1.1.mul h2.1).mono (by omega)
  · exact (h1.2.mul h2.2).mono (by omega)
section
variable {ρ : Str → List D → Option Rv} {ξ : Str → List D → Option Str} (κ : Str → Option D) {p q : Rat} {n m : Nat}
def RatioOk (ρ : Str → List D → Option Rv) : Prop := ∀ {a b : Int}, b ≠ 0 → (∃ n, Sm n b ∧ n ≤ 9000) → ρ "ratio" [.int a, .int b] = some (.pv (frD (Rat.divInt a b)))
theorem plus_body (h : RatioOk ρ) (h1 : RB n p) (h2 : RB m q) (hn : n + m ≤ 9000) : outR (evSs ρ ξ κ PS.e_plus.body (env0 2 [frD p, frD q])) = some (.pv (frD (p + q))) := by
  have m1 := mulOk_sm h1.1 h2.2 (by omega) (by omega)
  have m2 := mulOk_sm h2.1 h1.2 (by omega) (by omega)
  have m3 := mulOk_sm h1.2 h2.2 (by omega) (by omega)
  have r := h (a := p.num * q.den + q.num * p.den) (b := p.den * q.den) (Int.mul_ne_zero (den_ne p) (den_ne q)) ⟨_, h1.2.mul h2.2, hn⟩
  rw [← Rat.divInt_add_divInt _ _ (den_ne p) (den_ne q), Rat.num_divInt_den, Rat.num_divInt_den] at r
  simp [PS.e_plus, env0, frD, m1, m2, m3]
  simpa [frD] using r
theorem minus_body (h : RatioOk ρ) (h1 : RB n p) (h2 : RB m q) (hn : n + m ≤ 9000) : outR (evSs ρ ξ κ PS.e_minus.body (env0 2 [frD p, frD q])) = some (.pv (frD (p - q))) := by
  have m1 := mulOk_sm h1.1 h2.2 (by omega) (by omega)
  have m2 := mulOk_sm h2.1 h1.2 (by omega) (by omega)
  have m3 := mulOk_sm h1.2 h2.2 (by omega) (by omega)
  have r := h (a := p.num * q.den - q.num * p.den) (b := p.den * q.den) (Int.mul_ne_zero (den_ne p) (den_ne q)) ⟨_, h1.2.mul h2.2, hn⟩
  rw [← Rat.divInt_sub_divInt _ _ (den_ne p) (den_ne q), Rat.num_divInt_den, Rat.num_divInt_den] at r
  simp [PS.e_minus, env0, frD, m1, m2, m3]
  simpa [frD] using r
theorem product_body (h : RatioOk ρ) (h1 : RB n p) (h2 : RB m q) (hn : n + m ≤ 9000) : outR (evSs ρ ξ κ PS.e_product.body (env0 2 [frD p, frD q])) = some (.pv (frD (p * q))) := by
  have m1 := mulOk_sm h1.1 h2.1 (by omega) (by omega)
  have m3 := mulOk_sm h1.2 h2.2 (by omega) (by omega)
  have r := h (a := p.num * q.num) (b := p.den * q.den) (Int.mul_ne_zero (den_ne p) (den_ne q)) ⟨_, h1.2.mul h2.2, hn⟩
  rw [← Rat.divInt_mul_divInt, Rat.num_divInt_den, Rat.num_divInt_den] at r
  simp [PS.e_product, env0, frD, m1, m3]
  simpa [frD] using r
theorem under_body (h1 : RB n p) (h2 : RB m q) (hn : n ≤ 400000) (hm : m ≤ 400000) : outR (evSs ρ ξ κ PS.e_under.body (env0 2 [frD p, frD q])) = some (.pv (.bl (decide (p < q)))) := by
  have m1 := mulOk_sm h1.1 h2.2 (by omega) (by omega)
  have m2 := mulOk_sm h2.1 h1.2 (by omega) (by omega)
  simp [PS.e_under, env0, frD, m1, m2, Rat.lt_iff]
theorem down_body (h1 : RB n p) (hn : n ≤ 9000) : outR (evSs ρ ξ κ PS.e_down.body (env0 1 [frD p])) = some (.pv (.int p.floor)) := by
  have m1 := divOk_sm h1.2 hn (den_ne p)
  simp [PS.e_down, env0, frD, m1, Rat.floor_def, fdiv_pos _ (den_pos' p)]
/-- the sum of a list -/
def sumR : List Rat → Rat
  | [] => 0
  | q :: r => q + sumR r
def PlusOk (ρ : Str → List D → Option Rv) : Prop := ∀ {p q : Rat}, (∃ n m, RB n p ∧ RB m q ∧ n + m ≤ 9000) → ρ "plus" [frD p, frD q] = some (.pv (frD (p + q)))
theorem mean_loop (h : PlusOk ρ) {k : Nat} (x : Sl) : ∀ (l : List Rat) (n : Nat) (a : Rat) (y : Sl), (∀ q ∈ l, RB k q) → RB n a → n + l.length * (k + 1) ≤ 9000 →
    ∃ z, loopD ρ ξ κ (.nm 2) PS.e_mean_of_b1 (l.map frD) [x, .pv (frD a), y] = some (.nx [x, .pv (frD (a + sumR l)), z])
  | [], n, a, y, _, _, _ => ⟨y, by simp [sumR, Rat.add_zero]⟩
  | q :: l, n, a, y, hl, ha, hn => by
    rw [List.length_cons, Nat.succ_mul] at hn
    have hq := hl q (List.mem_cons_self ..)
    obtain ⟨z, hz⟩ := mean_loop h x l (n + k + 1) (a + q) (.pv (frD q)) (fun r hr => hl r (List.mem_cons_of_mem _ hr)) (rb_add ha hq) (by omega)
    refine ⟨z, ?_⟩
    have hp := h (p := a) (q := q) ⟨n, k, ha, hq, by omega⟩
    rw [List.map_cons, loop_step (e := [x, .pv (frD a), .pv (frD q)]) (e' := [x, .pv (frD (a + q)), .pv (frD q)]) (by simp) (by simp [PS.e_mean_of_b1, hp]), hz, sumR, Rat.add_assoc]
theorem rb_sumR {k : Nat} : ∀ {l : List Rat}, (∀ q ∈ l, RB k q) → RB (l.length * (k + 1) + 1) (sumR l)
  | [], _ => ⟨by simp [sumR, Sm], by simp [sumR, Sm]⟩
  | q :: l, h => (rb_add (h q (List.mem_cons_self ..)) (rb_sumR fun r hr => h r (List.mem_cons_of_mem _ hr))).mono (by rw [List.length_cons, Nat.succ_mul]; omega)
theorem mean_body (h : PlusOk ρ) (hr : RatioOk ρ) {k : Nat} {l : List Rat} {L : D} (hL : L = .lst (l.map frD) ∨ L = .flst (l.map frD) ∨ L = .tup (l.map frD)) (hl : ∀ q ∈ l, RB k q) (hn : l.length * (k + 1) + 100 ≤ 9000) (h0 : l ≠ []) :
    outR (evSs ρ ξ κ PS.e_mean_of.body (env0 3 [L])) = some (.pv (frD (sumR l / (l.length : Nat)))) := by
  have z0 : RB 1 (0 : Rat) := ⟨by simp [Sm], by simp [Sm]⟩
  obtain ⟨z, hz⟩ := mean_loop (ξ := ξ) κ h (.pv L) l 1 0 .un hl z0 (by omega)
  rw [Rat.zero_add] at hz
  have hpos : 0 < l.length := by cases l with | nil => exact absurd rfl h0 | cons _ _ => simp
  have hlen : Sm 64 (l.length : Int) := by
    unfold Sm
    have : l.length ≤ 9000 := by
      have : l.length * 1 ≤ l.length * (k + 1) := Nat.mul_le_mul_left _ (by omega)
      omega
    omega
  have s := rb_sumR hl
  have m1 := mulOk_r (i := ((sumR l).den : Int)) hlen
  have r := hr (a := (sumR l).num) (b := (sumR l).den * (l.length : Nat)) (Int.mul_ne_zero (den_ne _) (by omega)) ⟨_, s.2.mul hlen, by omega⟩
  have e : Rat.divInt (sumR l).num ((sumR l).den * (l.length : Nat)) = sumR l / (l.length : Nat) := by
    rw [Rat.divInt_eq_div, Rat.intCast_mul]
    have := Rat.divInt_eq_div (sumR l).num (sumR l).den
    rw [Rat.num_divInt_den] at this
    have d0 : ((sumR l).den : Rat) ≠ 0 := by
      intro e
      have := (sumR l).den_pos
      rw [Rat.natCast_eq_zero_iff] at e
      omega
    have l0 : ((l.length : Nat) : Rat) ≠ 0 := by
      intro e
      rw [Rat.natCast_eq_zero_iff] at e
      omega
    simp only [Rat.intCast_natCast] at this ⊢
    rw [Rat.div_def] at this ⊢
    rw [Rat.div_def, Rat.inv_mul_rev]
    conv => rhs; rw [this]
    rw [Rat.mul_assoc, Rat.mul_comm (_⁻¹) (_⁻¹)]
  rw [e] at r
  have zz : frD 0 = .tup [.int 0, .int 1] := by simp [frD]
  rw [zz] at hz
  rcases hL with rfl | rfl | rfl
  all_goals
    simp [PS.e_mean_of, env0, hz]
    simp [frD, m1, r]
end
end PL

/-! PM -/
namespace PL
open PySem PySem.Spec L2
/-! ### what the laws draw -/
section
variable {ρ : Str → List D → Option Rv} {ξ : Str → List D → Option Str} (κ : Str → Option D)
theorem mixed_body (c k : Int) (h0 : 0 ≤ k) (hk : k < 2 ^ 40) : outR (evSs ρ ξ κ PS.e_law_mixed.body (env0 3 [.int c, .int k])) = some (.pv (.int (mixI c k))) := by
  have sk : Sm 64 k := Sm.nn h0 (by omega)
  have m1 : mulOk 31 k = true := mulOk_r sk
  have m2 : mulOk 7919 k = true := mulOk_r sk
  have m3 : mulOk (c + 7919 * k + 1) 48271 = true := mulOk_r (by simp [Sm])
  have d1 : divOk 1009 = true := divOk_lit (by decide) (by simp [Sm])
  have d2 : divOk 2003 = true := divOk_lit (by decide) (by simp [Sm])
  have p1 : powOk 1 90 = true := powOk_lit (by decide)
  have b1 := fmod_nn ((c + 7919 * k + 1) * 48271) (b := 2147483647) (by decide)
  have q1 : 0 ≤ 1 + 31 * k := by omega
  generalize hu : ((c + 7919 * k + 1) * 48271).fmod 2147483647 = u at b1
  have m4 : mulOk u (u.fdiv 1009 + 69621) = true := mulOk_l (Sm.nn b1.1 (by omega))
  have b2 := fmod_nn (u * (u.fdiv 1009 + 69621)) (b := 2147483647) (by decide)
  have hm : mixI c k = if 2 ^ 90 ≤ c ∧ c.fmod 2 = 1 ∧ 0 < c / 2 ^ (1 + 31 * k).toNat then (c / 2 ^ (1 + 31 * k).toNat).fmod 2147483648 else
      ((u * (u.fdiv 1009 + 69621)).fmod 2147483647 * (((u * (u.fdiv 1009 + 69621)).fmod 2147483647).fdiv 2003 + 39373 + k)).fmod 2147483629 := by
    unfold mixI
    rw [hu]
  generalize hv : (u * (u.fdiv 1009 + 69621)).fmod 2147483647 = v at b2 hm
  have m5 : mulOk v (v.fdiv 2003 + 39373 + k) = true := mulOk_l (Sm.nn b2.1 (by omega))
  have d2 : divOk 2003 = true := divOk_lit (by decide) (by simp [Sm])
  rw [hm]
  simp only [show ((2 : Int) ^ 90) = 1237940039285380274899124224 by decide]
  simp [PS.e_law_mixed, env0, m1, m2, m3, m4, m5, d1, d2, p1, q1, hu, hv]
  by_cases h1 : 1237940039285380274899124224 ≤ c <;> by_cases h2 : c.fmod 2 = 1 <;> by_cases h3 : 0 < c / 2 ^ (1 + 31 * k).toNat <;> simp [h1, h2, h3]
theorem mixed_body2 (c k : Int) (h0 : 0 ≤ k) (hk : k < 2 ^ 40) : outR (evSs ρ ξ κ PS.e_law_mixed_v2.body (env0 3 [.int c, .int k])) = some (.pv (.int (mixI c k))) := mixed_body κ c k h0 hk
def MixOk (ρ : Str → List D → Option Rv) : Prop := ∀ {c k : Int}, 0 ≤ k ∧ k < 2 ^ 40 → ρ "_law_mixed" [.int c, .int k] = some (.pv (.int (mixI c k)))
theorem whole_body (d : D) : outR (evSs ρ ξ κ PS.e_law_whole.body (env0 1 [d])) = some (.pv (.bl (isiD d "int" && !isiD d "bool"))) := by
  simp [PS.e_law_whole, env0]
  cases isiD d "int" <;> cases isiD d "bool" <;> rfl
theorem law_divisor_body (a b : Int) : outR (evSs ρ ξ κ PS.e_law_divisor.body (env0 2 [.int a, .int b])) = some (.pv (.int (Int.gcd a b))) := divisor_body ρ κ a b
/-- a number out of four draws -/
@[irreducible] def farI (c k b : Int) : Int := (mixI c k + mixI c (k + 1) * 2 ^ 31 + mixI c (k + 2) * 2 ^ 62 + mixI c (k + 3) * 2 ^ 93).fmod b
theorem farI_nn (c k : Int) {b : Int} (h : 0 < b) : 0 ≤ farI c k b := by unfold farI; exact (fmod_nn _ h).1
theorem farI_lt (c k : Int) {b : Int} (h : 0 < b) : farI c k b < b := by unfold farI; exact (fmod_nn _ h).2
theorem powOk_shl {i j : Int} (h : Sm 64 i) (hj : 0 ≤ j ∧ j ≤ 1000000) : powOk i j = true := decide_eq_true ⟨hj.1, hj.2, h⟩
theorem far_body (hm : MixOk ρ) (c k b : Int) (h0 : 0 ≤ k) (hk : k < 2 ^ 39) (hb : b ≠ 0) : outR (evSs ρ ξ κ PS.e_law_far.body (env0 4 [.int c, .int k, .int b])) = some (.pv (.int (farI c k b))) := by
  have a0 := hm (c := c) (k := k) (by omega)
  have a1 := hm (c := c) (k := k + 1) (by omega)
  have a2 := hm (c := c) (k := k + 2) (by omega)
  have a3 := hm (c := c) (k := k + 3) (by omega)
  have p1 := powOk_shl (i := mixI c (k + 1)) (j := 31) ((mixI_sm _ _).mono (by decide)) (by decide)
  have p2 := powOk_shl (i := mixI c (k + 2)) (j := 62) ((mixI_sm _ _).mono (by decide)) (by decide)
  have p3 := powOk_shl (i := mixI c (k + 3)) (j := 93) ((mixI_sm _ _).mono (by decide)) (by decide)
  unfold farI
  simp [PS.e_law_far, env0, a0, a1, a2, a3, p1, p2, p3, hb]
def FarOk (ρ : Str → List D → Option Rv) : Prop := ∀ {c k b : Int}, 0 ≤ k ∧ k < 2 ^ 39 → b ≠ 0 → ρ "_law_far" [.int c, .int k, .int b] = some (.pv (.int (farI c k b)))
def WholeOk (ρ : Str → List D → Option Rv) : Prop := ∀ d, ρ "_law_whole" [d] = some (.pv (.bl (isiD d "int" && !isiD d "bool")))
def DivisorOk (ρ : Str → List D → Option Rv) : Prop := ∀ {a b : Int}, ρ "divisor" [.int a, .int b] = some (.pv (.int (Int.gcd a b)))
def LDivisorOk (ρ : Str → List D → Option Rv) : Prop := ∀ {a b : Int}, ρ "_law_divisor" [.int a, .int b] = some (.pv (.int (Int.gcd a b)))
/-- the program's fractions -/
structure FracOk (ρ : Str → List D → Option Rv) : Prop where
  ratio : RatioOk ρ
  plus : PlusOk ρ
  minus : ∀ {p q : Rat}, (∃ n m, RB n p ∧ RB m q ∧ n + m ≤ 9000) → ρ "minus" [frD p, frD q] = some (.pv (frD (p - q)))
  product : ∀ {p q : Rat}, (∃ n m, RB n p ∧ RB m q ∧ n + m ≤ 9000) → ρ "product" [frD p, frD q] = some (.pv (frD (p * q)))
end
section
variable {tb : List De} {κ : Str → Option D} {e : De}
theorem mixOk_call (h : Has tb e) (he : e = PS.e_law_mixed ∨ e = PS.e_law_mixed_v2) (d : Nat) : MixOk (callF tb κ (d + 1)) := fun {c k} hk => by
  rcases he with rfl | rfl
  · exact (callH h d [.int c, .int k] rfl).trans (mixed_body κ c k hk.1 hk.2)
  · exact (callH h d [.int c, .int k] rfl).trans (mixed_body2 κ c k hk.1 hk.2)
theorem farOk_call (h : Has tb PS.e_law_far) (d : Nat) (hm : MixOk (callF tb κ d)) : FarOk (callF tb κ (d + 1)) := fun {c k b} hk hb =>
  (callH h d [.int c, .int k, .int b] rfl).trans (far_body κ hm c k b hk.1 hk.2 hb)
theorem wholeOk_call (h : Has tb PS.e_law_whole) (d : Nat) : WholeOk (callF tb κ (d + 1)) := fun x => (callH h d [x] rfl).trans (whole_body κ x)
theorem divisorOk_call (h : Has tb PS.e_divisor) (d : Nat) : DivisorOk (callF tb κ (d + 1)) := fun {a b} => (callH h d [.int a, .int b] rfl).trans (divisor_body _ κ a b)
theorem ldivisorOk_call (h : Has tb PS.e_law_divisor) (d : Nat) : LDivisorOk (callF tb κ (d + 1)) := fun {a b} => (callH h d [.int a, .int b] rfl).trans (law_divisor_body κ a b)
theorem ratioOk_call (h1 : Has tb PS.e_divisor) (h : Has tb PS.e_ratio) (d : Nat) : RatioOk (callF tb κ (d + 2)) := fun {a b} hb ⟨n, h2, h3⟩ =>
  (callH h (d + 1) [.int a, .int b] rfl).trans (ratio_body κ (divisorOk_call h1 d) hb h2 h3)
theorem plusOk_call (h1 : Has tb PS.e_divisor) (h2 : Has tb PS.e_ratio) (h : Has tb PS.e_plus) (d : Nat) : PlusOk (callF tb κ (d + 3)) := fun {p q} ⟨n, m, a, b, l⟩ =>
  (callH h (d + 2) [frD p, frD q] rfl).trans (plus_body κ (ratioOk_call h1 h2 d) a b l)
theorem minusOk_call (h1 : Has tb PS.e_divisor) (h2 : Has tb PS.e_ratio) (h : Has tb PS.e_minus) (d : Nat) {p q : Rat} {n m : Nat} (a : RB n p) (b : RB m q) (l : n + m ≤ 9000) : callF tb κ (d + 3) "minus" [frD p, frD q] = some (.pv (frD (p - q))) :=
  (callH h (d + 2) [frD p, frD q] rfl).trans (minus_body κ (ratioOk_call h1 h2 d) a b l)
theorem productOk_call (h1 : Has tb PS.e_divisor) (h2 : Has tb PS.e_ratio) (h : Has tb PS.e_product) (d : Nat) {p q : Rat} {n m : Nat} (a : RB n p) (b : RB m q) (l : n + m ≤ 9000) : callF tb κ (d + 3) "product" [frD p, frD q] = some (.pv (frD (p * q))) :=
  (callH h (d + 2) [frD p, frD q] rfl).trans (product_body κ (ratioOk_call h1 h2 d) a b l)
theorem underOk_call (h : Has tb PS.e_under) (d : Nat) {p q : Rat} {n m : Nat} (a : RB n p) (b : RB m q) (hn : n ≤ 400000) (hm : m ≤ 400000) : callF tb κ (d + 1) "under" [frD p, frD q] = some (.pv (.bl (decide (p < q)))) :=
  (callH h d [frD p, frD q] rfl).trans (under_body κ a b hn hm)
theorem downOk_call (h : Has tb PS.e_down) (d : Nat) {p : Rat} {n : Nat} (a : RB n p) (hn : n ≤ 9000) : callF tb κ (d + 1) "down" [frD p] = some (.pv (.int p.floor)) :=
  (callH h d [frD p] rfl).trans (down_body κ a hn)
end
end PL

/-! PC -/
namespace PL
open PySem PySem.Spec L2
/-! ### corners, points, edges -/
structure Cor where
  x : Int
  y : Int
  w : Int
  h : Int
  vs : List Int
def vD (vs : List Int) : D := .tup (vs.map .int)
def cD (c : Cor) : D := .tup [.int c.x, .int c.y, .int c.w, .int c.h, vD c.vs]
def triD (p : Int × Int × Int) : D := .tup [.int p.1, .int p.2.1, .int p.2.2]
@[simp] theorem idx_cD0 (c : Cor) : idxD (cD c) (.int 0) = some (.int c.x) := by simp [cD]
@[simp] theorem idx_cD1 (c : Cor) : idxD (cD c) (.int 1) = some (.int c.y) := by simp [cD]
@[simp] theorem idx_cD2 (c : Cor) : idxD (cD c) (.int 2) = some (.int c.w) := by simp [cD]
@[simp] theorem idx_cD3 (c : Cor) : idxD (cD c) (.int 3) = some (.int c.h) := by simp [cD]
@[simp] theorem idx_cD4 (c : Cor) : idxD (cD c) (.int 4) = some (vD c.vs) := by simp [cD]
@[simp] theorem sl_cD3 (c : Cor) : slD (cD c) none (some 3) = some (.pv (.tup [.int c.x, .int c.y, .int c.w])) := by simp [cD, cut_take]
@[simp] theorem sl_cD4 (c : Cor) : slD (cD c) none (some 4) = some (.pv (.tup [.int c.x, .int c.y, .int c.w, .int c.h])) := by simp [cD, cut_take]
@[simp] theorem len_cD (c : Cor) : biD .len [cD c] = some (.pv (.int 5)) := by simp [cD]
@[simp] theorem isi_cD (c : Cor) : isiD (cD c) "tuple" = true := by simp [cD]
@[simp] theorem asQ_cD (c : Cor) : asQ (cD c) = some [.int c.x, .int c.y, .int c.w, .int c.h, vD c.vs] := by simp [cD]
@[simp] theorem bind_cD (is : List Nat) (c : Cor) (env : Ev) : bindT (.tup is) (cD c) env = bindL is [.int c.x, .int c.y, .int c.w, .int c.h, vD c.vs] env := by simp [cD]
@[simp] theorem idx_triD0 (c : Int × Int × Int) : idxD (triD c) (.int 0) = some (.int c.1) := by simp [triD]
@[simp] theorem idx_triD1 (c : Int × Int × Int) : idxD (triD c) (.int 1) = some (.int c.2.1) := by simp [triD]
@[simp] theorem idx_triD2 (c : Int × Int × Int) : idxD (triD c) (.int 2) = some (.int c.2.2) := by simp [triD]
@[simp] theorem len_triD (c : Int × Int × Int) : biD .len [triD c] = some (.pv (.int 3)) := by simp [triD]
@[simp] theorem isi_triD (c : Int × Int × Int) : isiD (triD c) "tuple" = true := by simp [triD]
@[simp] theorem asQ_triD (c : Int × Int × Int) : asQ (triD c) = some [.int c.1, .int c.2.1, .int c.2.2] := by simp [triD]
@[simp] theorem bind_triD (is : List Nat) (c : Int × Int × Int) (env : Ev) : bindT (.tup is) (triD c) env = bindL is [.int c.1, .int c.2.1, .int c.2.2] env := by simp [triD]
theorem all_int (n : Nat) : ∀ vs : List Int, (vs.map D.int).all (shp (n + 1)) = true
  | [] => rfl
  | v :: r => by simp only [List.map_cons, List.all_cons, shp_int, Bool.true_and]; exact all_int n r
@[simp] theorem shp_vD (n : Nat) (vs : List Int) : shp (n + 2) (vD vs) = true := by unfold vD; rw [shp_tup]; exact all_int n vs
@[simp] theorem shp_cD (n : Nat) (c : Cor) : shp (n + 3) (cD c) = true := by unfold cD; rw [shp_tup]; simp
@[simp] theorem shp_triD (n : Nat) (c : Int × Int × Int) : shp (n + 2) (triD c) = true := by unfold triD; rw [shp_tup]; simp
@[simp] theorem eqD_cD (c : Cor) : eqD (cD c) (cD c) = true := eqD_self 3 _ (shp_cD 0 c)
structure CB (n : Nat) (c : Cor) : Prop where
  x : Sm n c.x
  y : Sm n c.y
  w : Sm n c.w
  h : Sm n c.h
  v : ∀ i ∈ c.vs, Sm n i
theorem CB.mono {n m : Nat} {c : Cor} (h : CB n c) (l : n ≤ m) : CB m c := ⟨h.x.mono l, h.y.mono l, h.w.mono l, h.h.mono l, fun i hi => (h.v i hi).mono l⟩
structure PB (n : Nat) (p : Int × Int × Int) : Prop where
  x : Sm n p.1
  y : Sm n p.2.1
  s : Sm n p.2.2
theorem PB.mono {n m : Nat} {c : Int × Int × Int} (h : PB n c) (l : n ≤ m) : PB m c := ⟨h.x.mono l, h.y.mono l, h.s.mono l⟩
def norI (a b : Cor) : Int × Int × Int := (a.y * b.w - a.w * b.y, a.w * b.x - a.x * b.w, a.x * b.y - a.y * b.x)
def aloI (s p : Int × Int × Int) : Int := s.1 * p.1 + s.2.1 * p.2.1 + s.2.2 * p.2.2
def sgn3 (u v w : Int) : Int := if 0 < u then 1 else if u < 0 then -1 else if 0 < v then 1 else if v < 0 then -1 else if 0 < w then 1 else if w < 0 then -1 else 0
def sideI (a b : Cor) (p : Int × Int × Int) : Int := sgn3 (aloI (norI a b) p) (norI a b).1 (norI a b).2.1
theorem nor_b {n : Nat} {a b : Cor} (ha : CB n a) (hb : CB n b) : PB (n + n + 1) (norI a b) := by
  refine ⟨?_, ?_, ?_⟩
  · exact ((ha.y.mul hb.w).sub (ha.w.mul hb.y)).mono (by omega)
  · exact ((ha.w.mul hb.x).sub (ha.x.mul hb.w)).mono (by omega)
  · exact ((ha.x.mul hb.y).sub (ha.y.mul hb.x)).mono (by omega)
theorem alo_b {n m : Nat} {s p : Int × Int × Int} (hs : PB n s) (hp : PB m p) : Sm (n + m + 2) (aloI s p) := by
  unfold aloI
  exact (((hs.x.mul hp.x).add (hs.y.mul hp.y)).add (hs.s.mul hp.s)).mono (by omega)
section
variable {ρ : Str → List D → Option Rv} {ξ : Str → List D → Option Str} (κ : Str → Option D)
/-- a list of at least three numbers ahead -/
theorem normal_body {a b : Cor} (ha : CB 2000 a) (hb : CB 2000 b) : outR (evSs ρ ξ κ PS.e_normal.body (env0 4 [cD a, cD b])) = some (.pv (triD (norI a b))) := by
  obtain ⟨a1, a2, a3, a4, a5⟩ := ha
  obtain ⟨b1, b2, b3, b4, b5⟩ := hb
  simp -implicitDefEqProofs (disch := (first | assumption | (exact ⟨_, _, by (repeat' (first | assumption | (exact Sm.lit (by decide)) | (exact mixI_sm _ _) | (apply Sm.mul) | (apply Sm.sub) | (apply Sm.add) | (apply Sm.neg) | (exact Sm.fmodl (by decide)) | (apply Sm.fdivl) | (exact Sm.nat (by omega)) | (exact Sm.nn (by omega) (by omega)))), by (repeat' (first | assumption | (exact Sm.lit (by decide)) | (exact mixI_sm _ _) | (apply Sm.mul) | (apply Sm.sub) | (apply Sm.add) | (apply Sm.neg) | (exact Sm.fmodl (by decide)) | (apply Sm.fdivl) | (exact Sm.nat (by omega)) | (exact Sm.nn (by omega) (by omega)))), by first | decide | omega, by first | decide | omega⟩) | (exact ⟨_, by (repeat' (first | assumption | (exact Sm.lit (by decide)) | (exact mixI_sm _ _) | (apply Sm.mul) | (apply Sm.sub) | (apply Sm.add) | (apply Sm.neg) | (exact Sm.fmodl (by decide)) | (apply Sm.fdivl) | (exact Sm.nat (by omega)) | (exact Sm.nn (by omega) (by omega)))), by first | decide | omega⟩) | decide)) [PS.e_normal, env0, cD, norI, triD]
def NormalOk (ρ : Str → List D → Option Rv) : Prop := ∀ {a b : Cor}, CB 2000 a → CB 2000 b → ρ "normal" [cD a, cD b] = some (.pv (triD (norI a b)))
theorem along_body {s p : Int × Int × Int} {l : List D} (hs : PB 4001 s) (hp : PB 2000 p) : outR (evSs ρ ξ κ PS.e_along.body (env0 2 [triD s, .tup (.int p.1 :: .int p.2.1 :: .int p.2.2 :: l)])) = some (.pv (.int (aloI s p))) := by
  obtain ⟨a1, a2, a3⟩ := hs
  obtain ⟨b1, b2, b3⟩ := hp
  simp -implicitDefEqProofs (disch := (first | assumption | (exact ⟨_, _, by (repeat' (first | assumption | (exact Sm.lit (by decide)) | (exact mixI_sm _ _) | (apply Sm.mul) | (apply Sm.sub) | (apply Sm.add) | (apply Sm.neg) | (exact Sm.fmodl (by decide)) | (apply Sm.fdivl) | (exact Sm.nat (by omega)) | (exact Sm.nn (by omega) (by omega)))), by (repeat' (first | assumption | (exact Sm.lit (by decide)) | (exact mixI_sm _ _) | (apply Sm.mul) | (apply Sm.sub) | (apply Sm.add) | (apply Sm.neg) | (exact Sm.fmodl (by decide)) | (apply Sm.fdivl) | (exact Sm.nat (by omega)) | (exact Sm.nn (by omega) (by omega)))), by first | decide | omega, by first | decide | omega⟩) | (exact ⟨_, by (repeat' (first | assumption | (exact Sm.lit (by decide)) | (exact mixI_sm _ _) | (apply Sm.mul) | (apply Sm.sub) | (apply Sm.add) | (apply Sm.neg) | (exact Sm.fmodl (by decide)) | (apply Sm.fdivl) | (exact Sm.nat (by omega)) | (exact Sm.nn (by omega) (by omega)))), by first | decide | omega⟩) | decide)) [PS.e_along, env0, aloI, triD]
def AlongOk (ρ : Str → List D → Option Rv) : Prop := ∀ {s p : Int × Int × Int} {l : List D}, PB 4001 s → PB 2000 p → ρ "along" [triD s, .tup (.int p.1 :: .int p.2.1 :: .int p.2.2 :: l)] = some (.pv (.int (aloI s p)))
theorem side_body (hn : NormalOk ρ) (hl : AlongOk ρ) {a b : Cor} {p : Int × Int × Int} {l : List D} (ha : CB 2000 a) (hb : CB 2000 b) (hp : PB 2000 p) : outR (evSs ρ ξ κ PS.e_side.body (env0 5 [cD a, cD b, .tup (.int p.1 :: .int p.2.1 :: .int p.2.2 :: l)])) = some (.pv (.int (sideI a b p))) := by
  have h1 := hn ha hb
  have h2 := hl (l := l) (nor_b ha hb) hp
  simp only [triD] at h1 h2
  simp -implicitDefEqProofs [PS.e_side, env0, h1, h2, loop_cons, PS.e_side_b1]
  unfold sideI sgn3
  generalize aloI (norI a b) p = u
  generalize (norI a b).1 = v
  generalize (norI a b).2.1 = w
  repeat' split
  all_goals first | rfl | omega | simp_all
def rayD (p : Int × Int × Int) (l : List D) : D := .tup (.int p.1 :: .int p.2.1 :: .int p.2.2 :: l)
def SideOk (ρ : Str → List D → Option Rv) : Prop := ∀ {a b : Cor} {p : Int × Int × Int} {l : List D}, CB 2000 a → CB 2000 b → PB 2000 p → ρ "side" [cD a, cD b, rayD p l] = some (.pv (.int (sideI a b p)))
/-! ### triangles -/
structure Tri where
  a : Cor
  b : Cor
  c : Cor
def tD (t : Tri) : D := .tup [cD t.a, cD t.b, cD t.c]
structure TB (n : Nat) (t : Tri) : Prop where
  a : CB n t.a
  b : CB n t.b
  c : CB n t.c
structure Ahead (t : Tri) : Prop where
  a : 0 < t.a.w
  b : 0 < t.b.w
  c : 0 < t.c.w
theorem edges_body (t : Tri) : outR (evSs ρ ξ κ PS.e_edges_of.body (env0 4 [tD t])) = some (.li [.tup [cD t.a, cD t.b], .tup [cD t.b, cD t.c], .tup [cD t.c, cD t.a]]) := by
  simp -implicitDefEqProofs (disch := (first | assumption | (exact ⟨_, _, by (repeat' (first | assumption | (exact Sm.lit (by decide)) | (exact mixI_sm _ _) | (apply Sm.mul) | (apply Sm.sub) | (apply Sm.add) | (apply Sm.neg) | (exact Sm.fmodl (by decide)) | (apply Sm.fdivl) | (exact Sm.nat (by omega)) | (exact Sm.nn (by omega) (by omega)))), by (repeat' (first | assumption | (exact Sm.lit (by decide)) | (exact mixI_sm _ _) | (apply Sm.mul) | (apply Sm.sub) | (apply Sm.add) | (apply Sm.neg) | (exact Sm.fmodl (by decide)) | (apply Sm.fdivl) | (exact Sm.nat (by omega)) | (exact Sm.nn (by omega) (by omega)))), by first | decide | omega, by first | decide | omega⟩) | (exact ⟨_, by (repeat' (first | assumption | (exact Sm.lit (by decide)) | (exact mixI_sm _ _) | (apply Sm.mul) | (apply Sm.sub) | (apply Sm.add) | (apply Sm.neg) | (exact Sm.fmodl (by decide)) | (apply Sm.fdivl) | (exact Sm.nat (by omega)) | (exact Sm.nn (by omega) (by omega)))), by first | decide | omega⟩) | decide)) [PS.e_edges_of, env0, tD]
def EdgesOk (ρ : Str → List D → Option Rv) : Prop := ∀ t, ρ "edges_of" [tD t] = some (.li [.tup [cD t.a, cD t.b], .tup [cD t.b, cD t.c], .tup [cD t.c, cD t.a]])
theorem ahead_body {t : Tri} (h : Ahead t) : outR (evSs ρ ξ κ PS.e_check_ahead.body (env0 2 [tD t])) = some (.pv .non) := by
  have h1 : ¬ (t.a.w ≤ 0) := by have := h.a; omega
  have h2 : ¬ (t.b.w ≤ 0) := by have := h.b; omega
  have h3 : ¬ (t.c.w ≤ 0) := by have := h.c; omega
  simp -implicitDefEqProofs [PS.e_check_ahead, env0, loop_cons, PS.e_check_ahead_b1, tD, cD, h1, h2, h3]
theorem ahead_body2 {a b : Cor} (ha : 0 < a.w) (hb : 0 < b.w) : outR (evSs ρ ξ κ PS.e_check_ahead.body (env0 2 [.tup [cD a, cD b]])) = some (.pv .non) := by
  have h1 : ¬ (a.w ≤ 0) := by omega
  have h2 : ¬ (b.w ≤ 0) := by omega
  simp -implicitDefEqProofs [PS.e_check_ahead, env0, loop_cons, PS.e_check_ahead_b1, cD, h1, h2]
structure CAheadOk (ρ : Str → List D → Option Rv) : Prop where
  tri : ∀ {t : Tri}, Ahead t → ρ "check_ahead" [tD t] = some (.pv .non)
  two : ∀ {a b : Cor}, 0 < a.w → 0 < b.w → ρ "check_ahead" [.tup [cD a, cD b]] = some (.pv .non)
def hadI (t : Tri) (p : Int × Int × Int) : Int :=
  if sideI t.a t.b p = 1 ∧ sideI t.b t.c p = 1 ∧ sideI t.c t.a p = 1 then 1 else if sideI t.a t.b p = -1 ∧ sideI t.b t.c p = -1 ∧ sideI t.c t.a p = -1 then -1 else 0
theorem had_body (hc : CAheadOk ρ) (he : EdgesOk ρ) (hs : SideOk ρ) {t : Tri} {p : Int × Int × Int} {l : List D} (ht : TB 2000 t) (hp : PB 2000 p) (h : Ahead t) : outR (evSs ρ ξ κ PS.e_had.body (env0 5 [tD t, rayD p l])) = some (.pv (.int (hadI t p))) := by
  have h1 := hc.tri h
  have h2 := he t
  have s1 := hs (l := l) ht.a ht.b hp
  have s2 := hs (l := l) ht.b ht.c hp
  have s3 := hs (l := l) ht.c ht.a hp
  generalize tD t = T at h1 h2
  generalize rayD p l = R at s1 s2 s3
  simp -implicitDefEqProofs [PS.e_had, env0, h1, h2, comp_cons, PS.e_had_x1, s1, s2, s3]
  unfold hadI
  generalize sideI t.a t.b p = u
  generalize sideI t.b t.c p = v
  generalize sideI t.c t.a p = w
  by_cases h1 : u = 1 ∧ v = 1 ∧ w = 1
  · simp [h1]
  · by_cases h2 : u = -1 ∧ v = -1 ∧ w = -1
    · simp [h2]
    · have e1 : (decide (u = 1) && (decide (v = 1) && decide (w = 1))) = false := by
        by_cases a : u = 1 <;> by_cases b : v = 1 <;> by_cases c : w = 1 <;> simp_all
      have e2 : (decide (u = -1) && (decide (v = -1) && decide (w = -1))) = false := by
        by_cases a : u = -1 <;> by_cases b : v = -1 <;> by_cases c : w = -1 <;> simp_all
      rw [if_neg h1, if_neg h2]
      simp [e1, e2, h1, h2]
def HadOk (ρ : Str → List D → Option Rv) : Prop := ∀ {t : Tri} {p : Int × Int × Int} {l : List D}, TB 2000 t → PB 2000 p → Ahead t → ρ "had" [tD t, rayD p l] = some (.pv (.int (hadI t p)))
/-! ### crossings -/
def aboveB (a : Cor) (p : Int × Int × Int) : Bool := decide (p.2.1 * a.w < a.y * p.2.2)
theorem above_body {a : Cor} {p : Int × Int × Int} {l : List D} (ha : CB 2000 a) (hp : PB 2000 p) : outR (evSs ρ ξ κ PS.e_is_above.body (env0 2 [cD a, rayD p l])) = some (.pv (.bl (aboveB a p))) := by
  obtain ⟨a1, a2, a3, a4, a5⟩ := ha
  obtain ⟨b1, b2, b3⟩ := hp
  simp -implicitDefEqProofs (disch := (first | assumption | (exact ⟨_, _, by (repeat' (first | assumption | (exact Sm.lit (by decide)) | (exact mixI_sm _ _) | (apply Sm.mul) | (apply Sm.sub) | (apply Sm.add) | (apply Sm.neg) | (exact Sm.fmodl (by decide)) | (apply Sm.fdivl) | (exact Sm.nat (by omega)) | (exact Sm.nn (by omega) (by omega)))), by (repeat' (first | assumption | (exact Sm.lit (by decide)) | (exact mixI_sm _ _) | (apply Sm.mul) | (apply Sm.sub) | (apply Sm.add) | (apply Sm.neg) | (exact Sm.fmodl (by decide)) | (apply Sm.fdivl) | (exact Sm.nat (by omega)) | (exact Sm.nn (by omega) (by omega)))), by first | decide | omega, by first | decide | omega⟩) | (exact ⟨_, by (repeat' (first | assumption | (exact Sm.lit (by decide)) | (exact mixI_sm _ _) | (apply Sm.mul) | (apply Sm.sub) | (apply Sm.add) | (apply Sm.neg) | (exact Sm.fmodl (by decide)) | (apply Sm.fdivl) | (exact Sm.nat (by omega)) | (exact Sm.nn (by omega) (by omega)))), by first | decide | omega⟩) | decide)) [PS.e_is_above, env0, cD, rayD, aboveB]
def AboveOk (ρ : Str → List D → Option Rv) : Prop := ∀ {a : Cor} {p : Int × Int × Int} {l : List D}, CB 2000 a → PB 2000 p → ρ "is_above" [cD a, rayD p l] = some (.pv (.bl (aboveB a p)))
def crossI (a b : Cor) (p : Int × Int × Int) : Int := if aboveB a p = aboveB b p then 0 else if aboveB b p = true ∧ 0 < sideI a b p then 1 else if aboveB a p = true ∧ sideI a b p < 0 then -1 else 0
theorem crossing_body (hv : AboveOk ρ) (hs : SideOk ρ) {a b : Cor} {p : Int × Int × Int} {l : List D} (ha : CB 2000 a) (hb : CB 2000 b) (hp : PB 2000 p) : outR (evSs ρ ξ κ PS.e_crossing.body (env0 4 [cD a, cD b, rayD p l])) = some (.pv (.int (crossI a b p))) := by
  have h1 := hv (l := l) ha hp
  have h2 := hv (l := l) hb hp
  have h3 := hs (l := l) ha hb hp
  simp -implicitDefEqProofs [PS.e_crossing, env0, h1, h2, h3]
  unfold crossI
  generalize sideI a b p = u
  cases aboveB a p <;> cases aboveB b p <;> simp
  all_goals (repeat' split) <;> first | rfl | omega | simp_all
def CrossOk (ρ : Str → List D → Option Rv) : Prop := ∀ {a b : Cor} {p : Int × Int × Int} {l : List D}, CB 2000 a → CB 2000 b → PB 2000 p → ρ "crossing" [cD a, cD b, rayD p l] = some (.pv (.int (crossI a b p)))
def edD (e : Cor × Cor) : D := .tup [cD e.1, cD e.2]
theorem asInts_map : ∀ ns : List Int, asInts (ns.map D.int) = some ns
  | [] => rfl
  | n :: r => by simp only [List.map_cons, asInts, asInts_map r, Option.map_some]
@[simp] theorem bi_sumL (ns : List Int) : biD .sum [.lst (ns.map D.int)] = some (.pv (.int ns.sum)) := by simp only [biD, asL, Option.bind_some, asInts_map]
theorem comp_mapI {own : List (Str × Nat)} {elt : Ex} {tg : Tg} {env : Ev} {α : Type} {mk : α → D} {f : α → D} {as : List α} (h : ∀ a, a ∈ as → ∃ e, bindT tg (mk a) (wipeS env (own.map (·.2))) = some e ∧ fzo (evR ρ κ elt e) = some (f a)) : compD ρ κ own elt tg .no env (as.map mk) = some (as.map f) := by
  induction as with
  | nil => rfl
  | cons a as ih =>
    obtain ⟨e, h1, h2⟩ := h a (List.mem_cons_self ..)
    rw [List.map_cons, comp_cons, h1, ih fun x hx => h x (List.mem_cons_of_mem _ hx)]
    simp only [h2, Option.bind_some, Option.map_some, List.map_cons, evC_no, if_true]
theorem crossings_body (hc : CAheadOk ρ) (hx : CrossOk ρ) {es : List (Cor × Cor)} {p : Int × Int × Int} {l : List D} (he : ∀ e ∈ es, CB 2000 e.1 ∧ CB 2000 e.2 ∧ 0 < e.1.w ∧ 0 < e.2.w) (hl : es.length ≤ 1000) (hp : PB 2000 p) :
    outR (evSs ρ ξ κ PS.e_crossings.body (env0 4 [.lst (es.map edD), rayD p l])) = some (.pv (.int (es.map fun e => crossI e.1 e.2 p).sum)) := by
  have main : ∃ e', loopD ρ ξ κ (.tup [2, 3]) PS.e_crossings_b1 (es.map edD) [.pv (.lst (es.map edD)), .pv (rayD p l), .un, .un] = some (.nx e') ∧ ∃ x y, e' = [.pv (.lst (es.map edD)), .pv (rayD p l), x, y] := by
    refine loop_all (fun e => ∃ x y, e = [.pv (.lst (es.map edD)), .pv (rayD p l), x, y]) ⟨_, _, rfl⟩ fun d env hd hi => ?_
    obtain ⟨x, y, rfl⟩ := hi
    obtain ⟨e, hm, rfl⟩ := List.mem_map.mp hd
    obtain ⟨_, _, h1, h2⟩ := he e hm
    have c := hc.two h1 h2
    refine ⟨[.pv (.lst (es.map edD)), .pv (rayD p l), .pv (cD e.1), .pv (cD e.2)], [.pv (.lst (es.map edD)), .pv (rayD p l), .pv (cD e.1), .pv (cD e.2)], by simp [edD], .inl (by simp -implicitDefEqProofs [PS.e_crossings_b1, c]), _, _, rfl⟩
  obtain ⟨e', h1, x, y, rfl⟩ := main
  have h2 : compD ρ κ [("one", 2), ("other", 3)] PS.e_crossings_x1 (.tup [2, 3]) .no [.pv (.lst (es.map edD)), .pv (rayD p l), x, y] (es.map edD) = some (es.map fun e => D.int (crossI e.1 e.2 p)) := by
    refine comp_mapI κ fun e hm => ?_
    obtain ⟨a1, a2, _, _⟩ := he e hm
    have c := hx (l := l) a1 a2 hp
    exact ⟨[.pv (.lst (es.map edD)), .pv (rayD p l), .pv (cD e.1), .pv (cD e.2)], by simp [edD], by simp [PS.e_crossings_x1, c]⟩
  have h3 : es.length ≤ 16777216 := by omega
  have h4 : (es.map fun e => D.int (crossI e.1 e.2 p)) = (es.map fun e => crossI e.1 e.2 p).map D.int := by simp
  rw [h4] at h2
  simp -implicitDefEqProofs [PS.e_crossings, env0, h1, h2, h3, -List.map_map]
/-! ### weights -/
def wgtI (t : Tri) (p : Int × Int × Int) : Int × Int × Int := (aloI (norI t.b t.c) p, aloI (norI t.c t.a) p, aloI (norI t.a t.b) p)
theorem weights_body (hn : NormalOk ρ) (hl : AlongOk ρ) {t : Tri} {p : Int × Int × Int} {l : List D} (ht : TB 2000 t) (hp : PB 2000 p) : outR (evSs ρ ξ κ PS.e_weights.body (env0 6 [tD t, rayD p l])) = some (.pv (triD (wgtI t p))) := by
  have n1 := hn ht.b ht.c
  have n2 := hn ht.c ht.a
  have n3 := hn ht.a ht.b
  have a1 := hl (l := l) (nor_b ht.b ht.c) hp
  have a2 := hl (l := l) (nor_b ht.c ht.a) hp
  have a3 := hl (l := l) (nor_b ht.a ht.b) hp
  unfold rayD
  generalize D.tup (.int p.1 :: .int p.2.1 :: .int p.2.2 :: l) = R at a1 a2 a3
  simp -implicitDefEqProofs [PS.e_weights, env0, tD, n1, n2, n3, a1, a2, a3]
  rfl
def WeightsOk (ρ : Str → List D → Option Rv) : Prop := ∀ {t : Tri} {p : Int × Int × Int} {l : List D}, TB 2000 t → PB 2000 p → ρ "weights" [tD t, rayD p l] = some (.pv (triD (wgtI t p)))
end
section
variable {tb : List De} {κ : Str → Option D} {d : Nat}
theorem normalOk_call (h : Has tb PS.e_normal) : NormalOk (callF tb κ (d + 1)) := fun {a b} ha hb => (callH h d [cD a, cD b] rfl).trans (normal_body κ ha hb)
theorem alongOk_call (h : Has tb PS.e_along) : AlongOk (callF tb κ (d + 1)) := fun {s p l} hs hp => (callH h d [triD s, _] rfl).trans (along_body κ hs hp)
theorem sideOk_call (h : Has tb PS.e_side) (hn : NormalOk (callF tb κ d)) (hl : AlongOk (callF tb κ d)) : SideOk (callF tb κ (d + 1)) := fun {a b p l} ha hb hp => (callH h d [cD a, cD b, rayD p l] rfl).trans (side_body κ hn hl ha hb hp)
theorem edgesOk_call (h : Has tb PS.e_edges_of) : EdgesOk (callF tb κ (d + 1)) := fun t => (callH h d [tD t] rfl).trans (edges_body κ t)
theorem aheadOk_call (h : Has tb PS.e_check_ahead) : CAheadOk (callF tb κ (d + 1)) := ⟨fun {t} ht => (callH h d [tD t] rfl).trans (ahead_body κ ht), fun {a b} ha hb => (callH h d [.tup [cD a, cD b]] rfl).trans (ahead_body2 κ ha hb)⟩
theorem hadOk_call (h : Has tb PS.e_had) (hc : CAheadOk (callF tb κ d)) (he : EdgesOk (callF tb κ d)) (hs : SideOk (callF tb κ d)) : HadOk (callF tb κ (d + 1)) := fun {t p l} ht hp ha => (callH h d [tD t, rayD p l] rfl).trans (had_body κ hc he hs ht hp ha)
theorem aboveOk_call (h : Has tb PS.e_is_above) : AboveOk (callF tb κ (d + 1)) := fun {a p l} ha hp => (callH h d [cD a, rayD p l] rfl).trans (above_body κ ha hp)
theorem crossOk_call (h : Has tb PS.e_crossing) (hv : AboveOk (callF tb κ d)) (hs : SideOk (callF tb κ d)) : CrossOk (callF tb κ (d + 1)) := fun {a b p l} ha hb hp => (callH h d [cD a, cD b, rayD p l] rfl).trans (crossing_body κ hv hs ha hb hp)
theorem weightsOk_call (h : Has tb PS.e_weights) (hn : NormalOk (callF tb κ d)) (hl : AlongOk (callF tb κ d)) : WeightsOk (callF tb κ (d + 1)) := fun {t p l} ht hp => (callH h d [tD t, rayD p l] rfl).trans (weights_body κ hn hl ht hp)
end
end PL

/-! PL1 -/
namespace PL
open PySem PySem.Spec L2
/-! ### what the laws build -/
section
variable {ρ : Str → List D → Option Rv} {ξ : Str → List D → Option Str} (κ : Str → Option D)
theorem cell_at_body (ns : List Int) (k : Nat) : outR (evSs ρ ξ κ PS.e_law_cell_at.body (env0 2 [.flst (ns.map D.int), .int k])) = some (.pv (.int (ns.getD k 0))) := by
  by_cases h : k < ns.length
  · have e : atI (ns.map D.int) (k : Int) = some (.int (ns.getD k 0)) := by
      rw [atI_nat, List.getElem?_map, List.getD_eq_getElem?_getD, List.getElem?_eq_getElem h]; rfl
    have h' : ((k : Int) < (ns.length : Int)) := by omega
    simp -implicitDefEqProofs [PS.e_law_cell_at, env0, e, h']
  · have e : ns.getD k 0 = 0 := by rw [List.getD_eq_getElem?_getD, List.getElem?_eq_none (by omega)]; rfl
    have h' : ¬ ((k : Int) < (ns.length : Int)) := by omega
    rw [e]
    simp -implicitDefEqProofs [PS.e_law_cell_at, env0, h']
def CellAtOk (ρ : Str → List D → Option Rv) : Prop := ∀ (ns : List Int) (k : Nat), ρ "_law_cell_at" [.flst (ns.map D.int), .int k] = some (.pv (.int (ns.getD k 0)))
theorem rng_map (n : Nat) : rngD 0 n = (List.range n).map fun (k : Nat) => D.int (k : Int) := by unfold rngD; simp
theorem corner_body (hm : MixOk ρ) (c k m : Int) (hk : 0 ≤ k ∧ k ≤ 1000) (hj : 0 ≤ m ∧ m ≤ 10) :
    ∃ r : Cor, outR (evSs ρ ξ κ PS.e_law_corner.body (env0 16 [.int c, .int k, .int m])) = some (.pv (cD r)) ∧ CB 21 r ∧ 0 < r.w ∧ 0 < r.h ∧ r.vs.length = m.toNat := by
  have m1 := hm (c := c) (k := 20 * k + 1) (by omega)
  have m2 := hm (c := c) (k := 20 * k + 2) (by omega)
  have m3 := hm (c := c) (k := 20 * k + 3) (by omega)
  have m4 := hm (c := c) (k := 20 * k + 4) (by omega)
  have b1 := mixI_nn c (20 * k + 1)
  generalize mixI c (20 * k + 1) = u at m1 b1
  generalize mixI c (20 * k + 2) = v at m2
  generalize mixI c (20 * k + 3) = w at m3
  generalize mixI c (20 * k + 4) = z at m4
  have sk : Sm 64 k := Sm.nn hk.1 (by omega)
  have mk : mulOk 20 k = true := mulOk_r sk
  have p6 : powOk 10 6 = true := powOk_lit (by decide)
  have ir : inRg m = true := inRg_nn hj.1 (by omega)
  have hml : m.toNat ≤ 16777216 := by omega
  obtain ⟨vs, hvs, hv21, hvl⟩ : ∃ vs : List Int, compD ρ κ [("_law_j", 14)] PS.e_law_corner_x1 (.nm 14) .no [.pv (.int c), .pv (.int k), .pv (.int m), .pv (.int u), .pv (.int v), .pv (.int w), .un, .un, .un, .un, .un, .un, .un, .un, .un, .un] (rngD 0 m.toNat) = some (vs.map D.int) ∧ (∀ i ∈ vs, -1000000 ≤ i ∧ i ≤ 1000000) ∧ vs.length = m.toNat := by
    refine ⟨(List.range m.toNat).map fun (j : Nat) => (mixI c (20 * k + 5 + j)).fmod 2000001 - 1000000, ?_, fun i hi => ?_, by simp⟩
    · rw [rng_map, comp_mapI κ (f := fun (j : Nat) => D.int ((mixI c (20 * k + 5 + j)).fmod 2000001 - 1000000))]
      · simp
      · intro j hj'
        have := List.mem_range.mp hj'
        have mm := hm (c := c) (k := 20 * k + 5 + j) (by omega)
        exact ⟨[.pv (.int c), .pv (.int k), .pv (.int m), .pv (.int u), .pv (.int v), .pv (.int w), .un, .un, .un, .un, .un, .un, .un, .un, .pv (.int j), .un], by simp, by simp -implicitDefEqProofs [PS.e_law_corner_x1, mm, mk, p6]⟩
    · obtain ⟨j, _, rfl⟩ := List.mem_map.mp hi
      have := fmod_nn (mixI c (20 * k + 5 + j)) (b := 2000001) (by decide)
      omega
  have hvs2 : compD ρ κ [("_law_value", 15)] PS.e_law_corner_x2 (.nm 15) .no [.pv (.int c), .pv (.int k), .pv (.int m), .pv (.int u), .pv (.int v), .pv (.int w), .pv (.tup (vs.map D.int)), .un, .un, .un, .un, .un, .un, .un, .un, .un] (vs.map D.int) = some ((vs.map fun i => i.fmod 301 - 100).map D.int) := by
    rw [comp_mapI κ (f := fun (i : Int) => D.int (i.fmod 301 - 100))]
    · simp
    · intro i hi
      exact ⟨[.pv (.int c), .pv (.int k), .pv (.int m), .pv (.int u), .pv (.int v), .pv (.int w), .pv (.tup (vs.map D.int)), .un, .un, .un, .un, .un, .un, .un, .un, .pv (.int i)], by simp, by simp -implicitDefEqProofs [PS.e_law_corner_x2]⟩
  suffices h : ∀ Q : Rv → Prop, (∀ r : Cor, CB 21 r → 0 < r.w → 0 < r.h → r.vs.length = m.toNat → Q (.pv (cD r))) → ∃ r, outR (evSs ρ ξ κ PS.e_law_corner.body (env0 16 [.int c, .int k, .int m])) = some r ∧ Q r by
    obtain ⟨r, e, cor, rfl, h⟩ := h (fun r => ∃ cor : Cor, r = .pv (cD cor) ∧ CB 21 cor ∧ 0 < cor.w ∧ 0 < cor.h ∧ cor.vs.length = m.toNat) fun cor h1 h2 h3 h4 => ⟨cor, rfl, h1, h2, h3, h4⟩
    exact ⟨cor, e, h⟩
  intro Q hQ
  have f1 := fmod_nn v (b := 2000001) (by decide)
  have f2 := fmod_nn w (b := 2000001) (by decide)
  have f3 := fmod_nn (u.fdiv 16) (b := 1000000) (by decide)
  have f4 := fmod_nn z (b := 1000000) (by decide)
  have f5 := fmod_nn (u.fdiv 16) (b := 6) (by decide)
  have f6 := fmod_nn v (b := 16) (by decide)
  have f7 := fmod_nn (v.fdiv 16) (b := 16) (by decide)
  have f8 := fmod_nn v (b := 81) (by decide)
  have f9 := fmod_nn (v.fdiv 81) (b := 81) (by decide)
  have f10 := fmod_nn (u.fdiv 16) (b := 9) (by decide)
  have hi := fmod_nn (u.fdiv 128) (b := 4) (by decide)
  have hi' : (u.fdiv 128).fmod 4 = 0 ∨ (u.fdiv 128).fmod 4 = 1 ∨ (u.fdiv 128).fmod 4 = 2 ∨ (u.fdiv 128).fmod 4 = 3 := by omega
  have s2 : ∀ i ∈ vs, Sm 21 i := fun i hi => by have := hv21 i hi; unfold Sm; omega
  have s3 : ∀ i ∈ vs.map (fun i => i.fmod 301 - 100), Sm 21 i := fun i hi => by
    obtain ⟨j, _, rfl⟩ := List.mem_map.mp hi
    have := fmod_nn j (b := 301) (by decide)
    unfold Sm; omega
  have t1 : Sm 3 (1 + (u.fdiv 16).fmod 6) := by unfold Sm; omega
  have t2 : Sm 4 (v.fmod 16 - 2) := by unfold Sm; omega
  have t3 : Sm 4 ((v.fdiv 16).fmod 16 - 2) := by unfold Sm; omega
  have x1 := (t2.mul t1).mono (show 4 + 3 ≤ 21 by decide)
  have x2 := (t3.mul t1).mono (show 4 + 3 ≤ 21 by decide)
  have k1 : mulOk (v.fmod 16 - 2) (1 + (u.fdiv 16).fmod 6) = true := mulOk_sm t2 t1 (by decide) (by decide)
  have k2 : mulOk ((v.fdiv 16).fmod 16 - 2) (1 + (u.fdiv 16).fmod 6) = true := mulOk_sm t3 t1 (by decide) (by decide)
  have k3 : mulOk 2 (1 + (u.fdiv 16).fmod 6) = true := mulOk_l (by simp [Sm])
  have d1 : divOk 16 = true := divOk_lit (by decide) (by simp [Sm])
  have d2 : divOk 81 = true := divOk_lit (by decide) (by simp [Sm])
  have d3 : divOk 128 = true := divOk_lit (by decide) (by simp [Sm])
  by_cases c1 : 13 < u.fmod 16
  · simp -implicitDefEqProofs [PS.e_law_corner, env0, m1, m2, m3, m4, mk, p6, ir, hml, hvs, hvs2, c1, d1]
    refine hQ ⟨_, _, _, _, vs⟩ ⟨?_, ?_, ?_, ?_, s2⟩ ?_ ?_ hvl
    all_goals (simp only [Sm]; omega)
  · by_cases c2 : 1 < u.fmod 16
    · rcases hi' with h | h | h | h
      all_goals
        simp -implicitDefEqProofs [PS.e_law_corner, env0, m1, m2, m3, m4, mk, p6, ir, hml, hvs, hvs2, hvl, c1, c2, h, k1, k2, k3, d1, d2, d3, -List.map_map]
        refine hQ ⟨_, _, _, _, vs.map (fun i => i.fmod 301 - 100)⟩ ⟨?_, ?_, ?_, ?_, s3⟩ ?_ ?_ ?_
        all_goals first | exact x1 | exact x2 | exact hvl | (simp [hvl]; done) | (simp only [Sm]; omega)
    · rcases hi' with h | h | h | h
      all_goals
        simp -implicitDefEqProofs [PS.e_law_corner, env0, m1, m2, m3, m4, mk, p6, ir, hml, hvs, hvs2, hvl, c1, c2, h, k1, k2, k3, d1, d2, d3, -List.map_map]
        refine hQ ⟨_, _, _, _, vs⟩ ⟨?_, ?_, ?_, ?_, s2⟩ ?_ ?_ hvl
        all_goals first | exact x1 | exact x2 | exact hvl | (simp [hvl]; done) | (simp only [Sm]; omega)
def CornerOk (ρ : Str → List D → Option Rv) : Prop := ∀ {c k m : Int}, 0 ≤ k ∧ k ≤ 1000 → 0 ≤ m ∧ m ≤ 10 → ∃ r : Cor, ρ "_law_corner" [.int c, .int k, .int m] = some (.pv (cD r)) ∧ CB 21 r ∧ 0 < r.w ∧ 0 < r.h ∧ r.vs.length = m.toNat
theorem point_body (n : Int) (hn : 0 ≤ n) : ∃ p, outR (evSs ρ ξ κ PS.e_law_point.body (env0 1 [.int n])) = some (.pv (triD p)) ∧ PB 8 p ∧ 0 < p.2.2 := by
  have d1 : divOk 3 = true := divOk_lit (by decide) (by simp [Sm])
  have d2 : divOk 270 = true := divOk_lit (by decide) (by simp [Sm])
  have d3 : divOk 24300 = true := divOk_lit (by decide) (by simp [Sm])
  have d4 : divOk 24 = true := divOk_lit (by decide) (by simp [Sm])
  have k1 : ∀ i, mulOk 2 i = true := fun i => mulOk_l (by simp [Sm])
  have f1 := fmod_nn (n.fdiv 3) (b := 90) (by decide)
  have f2 := fmod_nn (n.fdiv 270) (b := 90) (by decide)
  have f3 := fmod_nn (n.fdiv 24300) (b := 9) (by decide)
  have f4 := fmod_nn (n.fdiv 3) (b := 8) (by decide)
  have f5 := fmod_nn (n.fdiv 24) (b := 8) (by decide)
  by_cases h : n.fmod 3 = 0
  · refine ⟨(_, _, _), by simp -implicitDefEqProofs [PS.e_law_point, env0, d1, d2, d3, d4, k1, h, triD]; exact ⟨rfl, rfl, rfl⟩, ⟨?_, ?_, ?_⟩, ?_⟩
    all_goals (simp only [Sm]; omega)
  · refine ⟨(_, _, _), by simp -implicitDefEqProofs [PS.e_law_point, env0, d1, d2, d3, d4, k1, h, triD]; exact ⟨rfl, rfl, rfl⟩, ⟨?_, ?_, ?_⟩, ?_⟩
    all_goals (simp only [Sm]; omega)
def PointOk (ρ : Str → List D → Option Rv) : Prop := ∀ {n : Int}, 0 ≤ n → ∃ p, ρ "_law_point" [.int n] = some (.pv (triD p)) ∧ PB 8 p ∧ 0 < p.2.2
theorem any_point_body (hm : MixOk ρ) (c k : Int) (hk : 0 ≤ k ∧ k ≤ 100000) : ∃ p, outR (evSs ρ ξ κ PS.e_law_any_point.body (env0 4 [.int c, .int k])) = some (.pv (triD p)) ∧ PB 28 p ∧ 0 < p.2.2 := by
  have m1 := hm (c := c) (k := k) (by omega)
  have m2 := hm (c := c) (k := k + 1) (by omega)
  have m3 := hm (c := c) (k := k + 2) (by omega)
  generalize mixI c k = u at m1
  generalize mixI c (k + 1) = v at m2
  generalize mixI c (k + 2) = w at m3
  have p8 : powOk 10 8 = true := powOk_lit (by decide)
  have f1 := fmod_nn u (b := 200000001) (by decide)
  have f2 := fmod_nn v (b := 200000001) (by decide)
  have f3 := fmod_nn w (b := 100000000) (by decide)
  refine ⟨(_, _, _), by simp -implicitDefEqProofs [PS.e_law_any_point, env0, m1, m2, m3, p8, triD]; exact ⟨rfl, rfl, rfl⟩, ⟨?_, ?_, ?_⟩, ?_⟩
  all_goals (simp only [Sm]; omega)
def AnyPointOk (ρ : Str → List D → Option Rv) : Prop := ∀ {c k : Int}, 0 ≤ k ∧ k ≤ 100000 → ∃ p, ρ "_law_any_point" [.int c, .int k] = some (.pv (triD p)) ∧ PB 28 p ∧ 0 < p.2.2
end
section
variable {tb : List De} {κ : Str → Option D} {d : Nat}
theorem cellAtOk_call (h : Has tb PS.e_law_cell_at) : CellAtOk (callF tb κ (d + 1)) := fun ns k => (callH h d [.flst (ns.map D.int), .int k] rfl).trans (cell_at_body κ ns k)
theorem cornerOk_call (h : Has tb PS.e_law_corner) (hm : MixOk (callF tb κ d)) : CornerOk (callF tb κ (d + 1)) := fun {c k m} hk hj => by
  obtain ⟨r, h1, h2⟩ := corner_body κ hm c k m hk hj
  exact ⟨r, (callH h d [.int c, .int k, .int m] rfl).trans h1, h2⟩
theorem pointOk_call (h : Has tb PS.e_law_point) : PointOk (callF tb κ (d + 1)) := fun {n} hn => by
  obtain ⟨r, h1, h2⟩ := point_body (ρ := callF tb κ d) κ n hn
  exact ⟨r, (callH h d [.int n] rfl).trans h1, h2⟩
theorem anyPointOk_call (h : Has tb PS.e_law_any_point) (hm : MixOk (callF tb κ d)) : AnyPointOk (callF tb κ (d + 1)) := fun {c k} hk => by
  obtain ⟨r, h1, h2⟩ := any_point_body κ hm c k hk
  exact ⟨r, (callH h d [.int c, .int k] rfl).trans h1, h2⟩
end
end PL

/-! PG -/
namespace PL
open PySem PySem.Spec L2
/-! ### plain geometry -/
theorem sgn3_neg (u v w : Int) : sgn3 (-u) (-v) (-w) = -sgn3 u v w := by
  unfold sgn3
  repeat' split
  all_goals omega
theorem nor_swap (a b : Cor) : norI b a = (-(norI a b).1, -(norI a b).2.1, -(norI a b).2.2) := by
  unfold norI
  simp only [Prod.mk.injEq]
  refine ⟨?_, ?_, ?_⟩ <;> grind
theorem alo_neg (s p : Int × Int × Int) : aloI (-s.1, -s.2.1, -s.2.2) p = -aloI s p := by
  unfold aloI
  grind
theorem side_swap (a b : Cor) (p : Int × Int × Int) : sideI b a p = -sideI a b p := by
  unfold sideI
  rw [nor_swap a b, alo_neg, sgn3_neg]
theorem side_self (a : Cor) (p : Int × Int × Int) : sideI a a p = 0 := by
  have := side_swap a a p
  omega
theorem sgn3_pos {t : Int} (ht : 0 < t) (u v w : Int) : sgn3 (t * u) v w = sgn3 u v w := by
  have h1 : (0 < t * u) ↔ 0 < u := ⟨fun h => by
    rcases Int.lt_trichotomy u 0 with g | g | g
    · have := Int.mul_neg_of_pos_of_neg ht g; omega
    · subst g; simp at h
    · exact g, fun h => Int.mul_pos ht h⟩
  have h2 : (t * u < 0) ↔ u < 0 := ⟨fun h => by
    rcases Int.lt_trichotomy u 0 with g | g | g
    · exact g
    · subst g; simp at h
    · have := Int.mul_pos ht g; omega, fun h => Int.mul_neg_of_pos_of_neg ht h⟩
  unfold sgn3
  simp only [h1, h2]
theorem side_scale {t : Int} (ht : 0 < t) (a b : Cor) (p : Int × Int × Int) : sideI a b (p.1 * t, p.2.1 * t, p.2.2 * t) = sideI a b p := by
  unfold sideI
  have : aloI (norI a b) (p.1 * t, p.2.1 * t, p.2.2 * t) = t * aloI (norI a b) p := by unfold aloI; grind
  rw [this, sgn3_pos ht]
/-- the cells that most laws walk -/
theorem cut_1n {α : Type} (xs : List α) (n : Nat) (h : 1 ≤ n) : cutD xs (some 1) (some (n : Int)) = (xs.drop 1).take (n - 1) := by
  unfold cutD
  have e1 : HT.sIx xs.length 0 (some 1) = min 1 xs.length := by simp [HT.sIx]
  have e2 : HT.sIx xs.length xs.length (some (n : Int)) = min n xs.length := by
    simp only [HT.sIx]
    rw [if_neg (by omega)]
    simp
  rw [e1, e2]
  cases xs with
  | nil => simp
  | cons x xs =>
    simp only [List.length_cons]
    rw [Nat.min_eq_left (show 1 ≤ xs.length + 1 by omega)]
    simp only [List.drop_succ_cons, List.drop_zero]
    rw [List.take_eq_take_iff]
    omega
/-- for cell in [cell_at(script, 0)] + script[1:n]: ..; return True -/
theorem law_cells {ρ : Str → List D → Option Rv} {ξ : Str → List D → Option Str} {κ : Str → Option D} (hca : CellAtOk ρ) {b : Sts} {n m : Nat} {ns : List Int} (hn : 1 ≤ n) (hl : ns.length ≤ 63)
    (h : ∀ (c : Int) (ys : List Sl), ys.length = m → ∃ ys', (evSs ρ ξ κ b (.pv (.flst (ns.map D.int)) :: .pv (.int c) :: ys) = some (.nx (.pv (.flst (ns.map D.int)) :: ys')) ∨ evSs ρ ξ κ b (.pv (.flst (ns.map D.int)) :: .pv (.int c) :: ys) = some (.ct (.pv (.flst (ns.map D.int)) :: ys'))) ∧ ys'.length = m + 1) :
    outR (evSs ρ ξ κ (.cons (.for (.nm 1) (.sql (.bin .add (.lst (.cons (.call "_law_cell_at" (.cons (.slot 0) (.cons (.cst (.int 0)) .nil))) .nil)) (.sl (.slot 0) (.yes (.cst (.int 1))) (.yes (.cst (.int n)))))) b) (.cons (.ret (.cst (.bl true))) .nil)) (env0 (m + 2) [.flst (ns.map D.int)])) = some (.pv (.bl true)) := by
  have c0 := hca ns 0
  have hcut : cutD ns (some 1) (some (n : Int)) = (ns.drop 1).take (n - 1) := cut_1n ns n hn
  have hen : env0 (m + 2) [.flst (ns.map D.int)] = .pv (.flst (ns.map D.int)) :: .un :: List.replicate m .un := by
    simp [env0, List.replicate_succ]
  have hle : 1 + (List.map D.int (List.take (n - 1) (List.drop 1 ns))).length ≤ 16777216 := by simp; omega
  have main : ∀ cs : List Int, ∀ ys : List Sl, ys.length = m + 1 → ∃ ys', loopD ρ ξ κ (.nm 1) b (cs.map D.int) (.pv (.flst (ns.map D.int)) :: ys) = some (.nx (.pv (.flst (ns.map D.int)) :: ys')) ∧ ys'.length = m + 1 := by
    intro cs
    induction cs with
    | nil => exact fun ys hy => ⟨ys, rfl, hy⟩
    | cons c cs ih =>
      intro ys hy
      cases ys with
      | nil => simp at hy
      | cons y ys =>
        simp only [List.length_cons] at hy
        obtain ⟨ys', h1, h2⟩ := h c ys (by omega)
        obtain ⟨ys'', h3, h4⟩ := ih ys' h2
        refine ⟨ys'', ?_, h4⟩
        have hb : bindT (.nm 1) (D.int c) (Sl.pv (.flst (ns.map D.int)) :: y :: ys) = some (.pv (.flst (ns.map D.int)) :: .pv (.int c) :: ys) := by simp
        rcases h1 with h1 | h1
        · rw [List.map_cons, loop_step hb h1, h3]
        · rw [List.map_cons, loop_stepC hb h1, h3]
  obtain ⟨ys', h1, _⟩ := main (ns.getD 0 0 :: (ns.drop 1).take (n - 1)) (.un :: List.replicate m .un) (by simp)
  rw [List.map_cons] at h1
  rw [hen]
  have c0' : ρ "_law_cell_at" [.flst (ns.map D.int), .int 0] = some (.pv (.int (ns.getD 0 0))) := c0
  simp -implicitDefEqProofs only [evSs_cons, evS_for, evJ_sql, evR_bin, viewOr_lst, viewOr_sl, evR_lst, evR_sl, evEs_cons, evEs_nil, evR_call, evR_slot, pvAt_zero, evR_cst, Option.map_some, fzo_some, fz_pv, fz_li, Option.bind_some, c0', evO_yes, asI_int, viewOr_slot, viewS_zero, sl_flst', cut_map, hcut, bin_addL, List.length_cons, List.length_nil, Nat.zero_add, if_true]
  simp -implicitDefEqProofs only [Nat.reduceLeDiff, if_true, fzo_some, fz_li, Option.bind_some, bin_addL, List.length_cons, List.length_nil, Nat.zero_add]
  rw [if_pos hle]
  simp -implicitDefEqProofs only [fzo_some, fz_li, Option.bind_some, asQ_lst, List.cons_append, List.nil_append, h1, seq_nx, evS_ret, retOf_cst, evR_cst, Option.map_some, seq_rt, outR_rt]
/-- cells = [0, 1] + script[:n]; for k in range(len(cells)): ..; and the rest -/
theorem law_cells01 {ρ : Str → List D → Option Rv} {ξ : Str → List D → Option Str} {κ : Str → Option D} {b tail : Sts} {a0 a1 : Int} {n m : Nat} {ns : List Int} (hl : ns.length ≤ 63)
    (h : ∀ (cs : List Int) (k : Nat) (ys : List Sl), k < cs.length → ys.length = m → ∃ ys', (evSs ρ ξ κ b (.pv (.flst (ns.map D.int)) :: .pv (.lst (cs.map D.int)) :: .pv (.int k) :: ys) = some (.nx (.pv (.flst (ns.map D.int)) :: .pv (.lst (cs.map D.int)) :: ys'))) ∧ ys'.length = m + 1) :
    ∃ (cs : List Int) (ys : List Sl), ys.length = m + 1 ∧ evSs ρ ξ κ (.cons (.asg (.nm 1) (.bin .add (.lst (.cons (.cst (.int a0)) (.cons (.cst (.int a1)) .nil))) (.sl (.slot 0) .no (.yes (.cst (.int n)))))) (.cons (.for (.nm 2) (.rng1 (.bi .len (.cons (.slot 1) .nil))) b) tail)) (env0 (m + 3) [.flst (ns.map D.int)]) = evSs ρ ξ κ tail (.pv (.flst (ns.map D.int)) :: .pv (.lst (cs.map D.int)) :: ys) := by
  have hcut : cutD ns none (some (n : Int)) = ns.take n := by rw [cut_take _ (by omega)]; rfl
  have hen : env0 (m + 3) [.flst (ns.map D.int)] = .pv (.flst (ns.map D.int)) :: .un :: .un :: List.replicate m .un := by
    simp [env0, List.replicate_succ]
  have hle : 2 + (List.map D.int (List.take n ns)).length ≤ 16777216 := by simp; omega
  obtain ⟨cs, hcs⟩ : ∃ cs, cs = a0 :: a1 :: ns.take n := ⟨_, rfl⟩
  have hcs' : D.int a0 :: D.int a1 :: (ns.take n).map D.int = cs.map D.int := by rw [hcs]; rfl
  have hcl : cs.length ≤ 100 := by rw [hcs]; simp; omega
  have ir : inRg (cs.length : Int) = true := inRg_nn (by omega) (by omega)
  have main : ∀ (j : Nat) (i : Nat) (ys : List Sl), i + j = cs.length → ys.length = m + 1 → ∃ ys', loopD ρ ξ κ (.nm 2) b ((List.range' i j).map fun (k : Nat) => D.int (k : Int)) (.pv (.flst (ns.map D.int)) :: .pv (.lst (cs.map D.int)) :: ys) = some (.nx (.pv (.flst (ns.map D.int)) :: .pv (.lst (cs.map D.int)) :: ys')) ∧ ys'.length = m + 1 := by
    intro j
    induction j with
    | zero => exact fun i ys _ hy => ⟨ys, rfl, hy⟩
    | succ j ih =>
      intro i ys hi hy
      cases ys with
      | nil => simp at hy
      | cons y ys =>
        simp only [List.length_cons] at hy
        obtain ⟨ys', h1, h2⟩ := h cs i ys (by omega) (by omega)
        obtain ⟨ys'', h3, h4⟩ := ih (i + 1) ys' (by omega) h2
        refine ⟨ys'', ?_, h4⟩
        rw [List.range'_succ, List.map_cons, loop_step (by simp) h1, h3]
  obtain ⟨ys', h1, h2⟩ := main cs.length 0 (.un :: List.replicate m .un) (by omega) (by simp)
  refine ⟨cs, ys', h2, ?_⟩
  rw [← List.range_eq_range'] at h1
  rw [← rng_map] at h1
  rw [hen]
  simp -implicitDefEqProofs only [evSs_cons, evS_asg, evR_bin, viewOr_lst, viewOr_sl, evR_lst, evR_sl, evEs_cons, evEs_nil, evR_cst, Option.map_some, fzo_some, fz_pv, fz_li, Option.bind_some, evO_no, evO_yes, asI_int, viewOr_slot, viewS_zero, sl_flst', cut_map, hcut]
  simp -implicitDefEqProofs only [List.length_cons, List.length_nil, Nat.reduceAdd, Nat.reduceLeDiff, if_true, fzo_some, fz_li, Option.bind_some, bin_addL]
  rw [if_pos hle]
  simp -implicitDefEqProofs only [fzo_some, fz_li, Option.bind_some, List.cons_append, List.nil_append, hcs', bindT_nm, List.length_cons, Nat.zero_lt_succ, Nat.succ_lt_succ_iff, Nat.lt_add_left_iff_pos, if_true, List.set_cons_succ, List.set_cons_zero, Option.map_some, seq_nx, evSs_cons, evS_for, evJ_rng1, evI_rng1, evR_bi, evVs_cons, evVs_nil, evR_slot, viewOr_slot, viewS_succ, viewS_zero, bi_lenL, List.length_map, fz_pv, asI_int, ir, Int.toNat_natCast, h1]
/-- a walk over the cells, each turn leaving the script -/
theorem cells_loop {ρ : Str → List D → Option Rv} {ξ : Str → List D → Option Str} {κ : Str → Option D} {b : Sts} {m : Nat} {S : D}
    (h : ∀ (c : Int) (ys : List Sl), ys.length = m → ∃ ys', (evSs ρ ξ κ b (.pv S :: .pv (.int c) :: ys) = some (.nx (.pv S :: ys')) ∨ evSs ρ ξ κ b (.pv S :: .pv (.int c) :: ys) = some (.ct (.pv S :: ys'))) ∧ ys'.length = m + 1) :
    ∀ (cs : List Int) (ys : List Sl), ys.length = m + 1 → ∃ ys', loopD ρ ξ κ (.nm 1) b (cs.map D.int) (.pv S :: ys) = some (.nx (.pv S :: ys')) ∧ ys'.length = m + 1 := by
  intro cs
  induction cs with
  | nil => exact fun ys hy => ⟨ys, rfl, hy⟩
  | cons c cs ih =>
    intro ys hy
    cases ys with
    | nil => simp at hy
    | cons y ys =>
      simp only [List.length_cons] at hy
      obtain ⟨ys', h1, h2⟩ := h c ys (by omega)
      obtain ⟨ys'', h3, h4⟩ := ih ys' h2
      refine ⟨ys'', ?_, h4⟩
      have hb : bindT (.nm 1) (D.int c) (Sl.pv S :: y :: ys) = some (.pv S :: .pv (.int c) :: ys) := by simp
      rcases h1 with h1 | h1
      · rw [List.map_cons, loop_step hb h1, h3]
      · rw [List.map_cons, loop_stepC hb h1, h3]
/-- for cell in [a, b] + script[:n]: ..; return True -/
theorem law_cells2 {ρ : Str → List D → Option Rv} {ξ : Str → List D → Option Str} {κ : Str → Option D} {b : Sts} {a0 a1 : Int} {n m : Nat} {ns : List Int} (hl : ns.length ≤ 63)
    (h : ∀ (c : Int) (ys : List Sl), ys.length = m → ∃ ys', (evSs ρ ξ κ b (.pv (.flst (ns.map D.int)) :: .pv (.int c) :: ys) = some (.nx (.pv (.flst (ns.map D.int)) :: ys')) ∨ evSs ρ ξ κ b (.pv (.flst (ns.map D.int)) :: .pv (.int c) :: ys) = some (.ct (.pv (.flst (ns.map D.int)) :: ys'))) ∧ ys'.length = m + 1) :
    outR (evSs ρ ξ κ (.cons (.for (.nm 1) (.sql (.bin .add (.lst (.cons (.cst (.int a0)) (.cons (.cst (.int a1)) .nil))) (.sl (.slot 0) .no (.yes (.cst (.int n)))))) b) (.cons (.ret (.cst (.bl true))) .nil)) (env0 (m + 2) [.flst (ns.map D.int)])) = some (.pv (.bl true)) := by
  have hcut : cutD ns none (some (n : Int)) = ns.take n := by rw [cut_take _ (by omega)]; rfl
  have hen : env0 (m + 2) [.flst (ns.map D.int)] = .pv (.flst (ns.map D.int)) :: .un :: List.replicate m .un := by
    simp [env0, List.replicate_succ]
  have hle : 2 + (List.map D.int (List.take n ns)).length ≤ 16777216 := by simp; omega
  obtain ⟨ys', h1, _⟩ := cells_loop h (a0 :: a1 :: ns.take n) (.un :: List.replicate m .un) (by simp)
  rw [List.map_cons, List.map_cons] at h1
  rw [hen]
  simp -implicitDefEqProofs only [evSs_cons, evS_for, evJ_sql, evR_bin, viewOr_lst, viewOr_sl, evR_lst, evR_sl, evEs_cons, evEs_nil, evR_cst, Option.map_some, fzo_some, fz_pv, fz_li, Option.bind_some, evO_no, evO_yes, asI_int, viewOr_slot, viewS_zero, sl_flst', cut_map, hcut]
  simp -implicitDefEqProofs only [List.length_cons, List.length_nil, Nat.reduceAdd, Nat.reduceLeDiff, if_true, fzo_some, fz_li, Option.bind_some, bin_addL]
  rw [if_pos hle]
  simp -implicitDefEqProofs only [fzo_some, fz_li, Option.bind_some, asQ_lst, List.cons_append, List.nil_append, h1, seq_nx, evS_ret, retOf_cst, evR_cst, Option.map_some, seq_rt, outR_rt]
end PL

/-! PX -/
namespace PL
open PySem PySem.Spec L2
/-! ### mixed corners -/
def nums (c : Cor) : List Int := c.x :: c.y :: c.w :: c.h :: c.vs
def linC (s t : Int) (a b : Cor) : Cor := ⟨s * a.x + t * b.x, s * a.y + t * b.y, s * a.w + t * b.w, s * a.h + t * b.h, (a.vs.zip b.vs).map fun p => s * p.1 + t * p.2⟩
def gcdL (ns : List Int) (g : Int) : Int := ns.foldl (fun g n => (Int.gcd g n : Int)) g
def gcdC (c : Cor) : Int := gcdL (nums c) 0
def divC (c : Cor) (g : Int) : Cor := ⟨c.x / g, c.y / g, c.w / g, c.h / g, c.vs.map (· / g)⟩
def mixC (s t : Int) (a b : Cor) : Cor := divC (linC s t a b) (gcdC (linC s t a b))
theorem nums_b {n : Nat} {c : Cor} (h : CB n c) : ∀ i ∈ nums c, Sm n i := by
  intro i hi
  simp only [nums, List.mem_cons] at hi
  rcases hi with rfl | rfl | rfl | rfl | hi
  · exact h.x
  · exact h.y
  · exact h.w
  · exact h.h
  · exact h.v i hi
theorem nums_lin (s t : Int) (a b : Cor) : nums (linC s t a b) = ((nums a).zip (nums b)).map fun p => s * p.1 + t * p.2 := by simp [nums, linC]
theorem gcdL_dvd0 : ∀ (ns : List Int) (g : Int), gcdL ns g ∣ g
  | [], g => Int.dvd_refl _
  | n :: r, g => Int.dvd_trans (gcdL_dvd0 r _) (Int.gcd_dvd_left ..)
theorem gcdL_dvd : ∀ (ns : List Int) (g n : Int), n ∈ ns → gcdL ns g ∣ n
  | [], g, n, h => by simp at h
  | m :: r, g, n, h => by
    rcases List.mem_cons.mp h with rfl | h
    · exact Int.dvd_trans (gcdL_dvd0 r _) (Int.gcd_dvd_right ..)
    · exact gcdL_dvd r _ n h
theorem gcdL_nn : ∀ (ns : List Int) (g : Int), 0 ≤ g → 0 ≤ gcdL ns g
  | [], g, h => h
  | n :: r, g, _ => gcdL_nn r _ (Int.natCast_nonneg _)
/-- what divides all divides the last one -/
theorem gcdL_max : ∀ (ns : List Int) (g k : Int), k ∣ g → (∀ n ∈ ns, k ∣ n) → k ∣ gcdL ns g
  | [], g, k, h, _ => h
  | n :: r, g, k, h, h2 => gcdL_max r _ k (Int.dvd_coe_gcd h (h2 n (List.mem_cons_self ..))) fun m hm => h2 m (List.mem_cons_of_mem _ hm)
theorem gcdC_pos {c : Cor} (h : 0 < c.h) : 0 < gcdC c := by
  have h1 := gcdL_nn (nums c) 0 (Int.le_refl _)
  have h2 := gcdL_dvd (nums c) 0 c.h (by simp [nums])
  unfold gcdC
  rcases Int.lt_or_eq_of_le h1 with h3 | h3
  · exact h3
  · rw [← h3] at h2
    have := Int.zero_dvd.mp h2
    omega
theorem gcdC_dvd {c : Cor} {n : Int} (h : n ∈ nums c) : gcdC c ∣ n := gcdL_dvd _ _ _ h
theorem zipD_map {α β : Type} (f : α → D) (g : β → D) : ∀ (as : List α) (bs : List β), zipD (as.map f) (bs.map g) = (as.zip bs).map fun p => .tup [f p.1, g p.2]
  | [], _ => by simp [zipD]
  | _ :: _, [] => by simp [zipD]
  | a :: as, b :: bs => by simp [zipD, zipD_map f g as bs]
section
variable {ρ : Str → List D → Option Rv} {ξ : Str → List D → Option Str} (κ : Str → Option D)
theorem numbers_body {c : Cor} (h : c.vs.length ≤ 1000) : outR (evSs ρ ξ κ PS.e_numbers_of.body (env0 1 [cD c])) = some (.li ((nums c).map D.int)) := by
  have : 4 + c.vs.length ≤ 16777216 := by omega
  simp -implicitDefEqProofs [PS.e_numbers_of, env0, vD, this, nums]
def NumbersOk (ρ : Str → List D → Option Rv) : Prop := ∀ {c : Cor}, c.vs.length ≤ 1000 → ρ "numbers_of" [cD c] = some (.li ((nums c).map D.int))
theorem divC_nums (c : Cor) (g : Int) : nums (divC c g) = (nums c).map (· / g) := by simp [nums, divC]
theorem mixed_body_ok (hn : NumbersOk ρ) (hd : DivisorOk ρ) {a b : Cor} {s t : Int} {n m : Nat} (ha : CB n a) (hb : CB n b) (hs : Sm m s) (ht : Sm m t) (hnm : n + m + 1 ≤ 9000) (ha2 : a.vs.length ≤ 1000) (hb2 : b.vs.length ≤ 1000) (h0 : 0 < s * a.h + t * b.h) :
    outR (evSs ρ ξ κ PS.e_mixed.body (env0 10 [cD a, cD b, .int s, .int t])) = some (.pv (cD (mixC s t a b))) := by
  have g0 : 0 < gcdC (linC s t a b) := gcdC_pos h0
  have n1 := hn ha2
  have n2 := hn hb2
  have nb : ∀ i ∈ nums (linC s t a b), Sm (n + m + 1) i := by
    rw [nums_lin]
    intro i hi
    obtain ⟨p, hp, rfl⟩ := List.mem_map.mp hi
    have := List.of_mem_zip hp
    exact ((hs.mul (nums_b ha _ this.1)).add (ht.mul (nums_b hb _ this.2))).mono (by omega)
  have c1 : compD ρ κ [("here", 8), ("there", 9)] PS.e_mixed_x1 (.tup [8, 9]) .no [.pv (cD a), .pv (cD b), .pv (.int s), .pv (.int t), .un, .un, .un, .un, .un, .un] (zipD ((nums a).map D.int) ((nums b).map D.int)) = some ((nums (linC s t a b)).map D.int) := by
    rw [zipD_map, comp_mapI κ (f := fun p => D.int (s * p.1 + t * p.2)), nums_lin, List.map_map]
    · rfl
    · intro p hp
      have hp2 := List.of_mem_zip hp
      have m1 := mulOk_sm hs (nums_b ha _ hp2.1) (by omega) (by omega)
      have m2 := mulOk_sm ht (nums_b hb _ hp2.2) (by omega) (by omega)
      exact ⟨[.pv (cD a), .pv (cD b), .pv (.int s), .pv (.int t), .un, .un, .un, .un, .pv (.int p.1), .pv (.int p.2)], by simp, by simp -implicitDefEqProofs [PS.e_mixed_x1, m1, m2]⟩
  have l1 : ∀ (ns : List Int) (g : Int) (x0 x1 x2 x3 x4 x6 x7 x8 x9 : Sl), ∃ y, loopD ρ ξ κ (.nm 6) PS.e_mixed_b1 (ns.map D.int) [x0, x1, x2, x3, x4, .pv (.int g), x6, x7, x8, x9] = some (.nx [x0, x1, x2, x3, x4, .pv (.int (gcdL ns g)), y, x7, x8, x9]) := by
    intro ns
    induction ns with
    | nil => exact fun g x0 x1 x2 x3 x4 x6 x7 x8 x9 => ⟨x6, rfl⟩
    | cons i ns ih =>
      intro g x0 x1 x2 x3 x4 x6 x7 x8 x9
      obtain ⟨y, hy⟩ := ih (Int.gcd g i) x0 x1 x2 x3 x4 (.pv (.int i)) x7 x8 x9
      refine ⟨y, ?_⟩
      have d1 := hd (a := g) (b := i)
      rw [List.map_cons, loop_step (e := [x0, x1, x2, x3, x4, .pv (.int g), .pv (.int i), x7, x8, x9]) (e' := [x0, x1, x2, x3, x4, .pv (.int (Int.gcd g i)), .pv (.int i), x7, x8, x9]) (by simp) (by simp -implicitDefEqProofs [PS.e_mixed_b1, d1]), hy]
      rfl
  obtain ⟨y, l1⟩ := l1 (nums (linC s t a b)) 0 (.pv (cD a)) (.pv (cD b)) (.pv (.int s)) (.pv (.int t)) (.pv (.lst ((nums (linC s t a b)).map D.int))) .un .un .un .un
  have sg : Sm (n + m + 1) (gcdC (linC s t a b)) := Sm.le (j := (linC s t a b).h) (by
    have := Int.natAbs_dvd_natAbs.mpr (gcdC_dvd (c := linC s t a b) (n := (linC s t a b).h) (by simp [nums]))
    exact Nat.le_of_dvd (by show 0 < (s * a.h + t * b.h).natAbs; omega) this) (nb _ (by simp [nums]))
  have dg := divOk_sm sg hnm (by omega)
  have hg : gcdL (nums (linC s t a b)) 0 = gcdC (linC s t a b) := rfl
  rw [hg] at l1
  have c2 : compD ρ κ [("number", 6)] PS.e_mixed_x2 (.nm 6) .no [.pv (cD a), .pv (cD b), .pv (.int s), .pv (.int t), .pv (.lst ((nums (linC s t a b)).map D.int)), .pv (.int (gcdC (linC s t a b))), y, .un, .un, .un] ((nums (linC s t a b)).map D.int) = some ((nums (mixC s t a b)).map D.int) := by
    unfold mixC
    rw [divC_nums]
    generalize gcdC (linC s t a b) = g at *
    generalize nums (linC s t a b) = ns
    rw [comp_mapI κ (f := fun i => D.int (i / g)), List.map_map]
    · rfl
    · intro i hi
      exact ⟨[.pv (cD a), .pv (cD b), .pv (.int s), .pv (.int t), .pv (.lst (ns.map D.int)), .pv (.int g), .pv (.int i), .un, .un, .un], by simp, by simp -implicitDefEqProofs [PS.e_mixed_x2, dg, fdiv_pos _ g0]⟩
  have hz : (zipD ((nums a).map D.int) ((nums b).map D.int)).length ≤ 16777216 := by
    rw [zipD_len]
    simp [nums]
    omega
  have hz2 : ((nums (linC s t a b)).map D.int).length ≤ 16777216 := by
    simp [nums, linC]
    omega
  have cd : ∀ l : List Int, cutD (D.int (mixC s t a b).x :: D.int (mixC s t a b).y :: D.int (mixC s t a b).w :: D.int (mixC s t a b).h :: l.map D.int) (some 4) none = l.map D.int := fun l => by rw [cut_drop _ (by decide)]; rfl
  have hnm2 : (nums (mixC s t a b)).map D.int = D.int (mixC s t a b).x :: D.int (mixC s t a b).y :: D.int (mixC s t a b).w :: D.int (mixC s t a b).h :: (mixC s t a b).vs.map D.int := rfl
  rw [hnm2] at c2
  generalize mixC s t a b = M at *
  have hz3 : (nums (linC s t a b)).length ≤ 16777216 := by simpa using hz2
  have hM : D.tup [D.int M.x, D.int M.y, D.int M.w, D.int M.h, D.tup (M.vs.map D.int)] = cD M := rfl
  simp -implicitDefEqProofs [-cut_map, PS.e_mixed, env0, n1, n2, c1, l1, c2, hz, hz3, cd, hM]
def MixedOk (ρ : Str → List D → Option Rv) : Prop := ∀ {a b : Cor} {s t : Int}, (∃ n m, CB n a ∧ CB n b ∧ Sm m s ∧ Sm m t ∧ n + m + 1 ≤ 9000) → a.vs.length ≤ 1000 → b.vs.length ≤ 1000 → 0 < s * a.h + t * b.h → ρ "mixed" [cD a, cD b, .int s, .int t] = some (.pv (cD (mixC s t a b)))
end
section
variable {tb : List De} {κ : Str → Option D} {d : Nat}
theorem numbersOk_call (h : Has tb PS.e_numbers_of) : NumbersOk (callF tb κ (d + 1)) := fun {c} hc => (callH h d [cD c] rfl).trans (numbers_body κ hc)
theorem mixedOk_call (h : Has tb PS.e_mixed) (hn : NumbersOk (callF tb κ d)) (hd : DivisorOk (callF tb κ d)) : MixedOk (callF tb κ (d + 1)) := fun {a b s t} ⟨n, m, h1, h2, h3, h4, h5⟩ h6 h7 h8 =>
  (callH h d [cD a, cD b, .int s, .int t] rfl).trans (mixed_body_ok κ hn hd h1 h2 h3 h4 h5 h6 h7 h8)
end
/-! what a mixed corner is -/
theorem mix_g {s t : Int} {a b : Cor} (h : 0 < s * a.h + t * b.h) : ∃ g : Int, 0 < g ∧ g * (mixC s t a b).x = s * a.x + t * b.x ∧ g * (mixC s t a b).y = s * a.y + t * b.y ∧ g * (mixC s t a b).w = s * a.w + t * b.w ∧ g * (mixC s t a b).h = s * a.h + t * b.h := by
  have h0 := gcdC_pos (c := linC s t a b) h
  refine ⟨_, h0, ?_, ?_, ?_, ?_⟩
  · exact Int.mul_ediv_cancel' (gcdC_dvd (by simp [nums, linC]))
  · exact Int.mul_ediv_cancel' (gcdC_dvd (by simp [nums, linC]))
  · exact Int.mul_ediv_cancel' (gcdC_dvd (by simp [nums, linC]))
  · exact Int.mul_ediv_cancel' (gcdC_dvd (by simp [nums, linC]))
theorem mix_len {s t : Int} {a b : Cor} : (mixC s t a b).vs.length = min a.vs.length b.vs.length := by simp [mixC, divC, linC]
theorem sm_div {n : Nat} {i g : Int} (h : Sm n i) : Sm n (i / g) := by
  unfold Sm at *
  have := Int.natAbs_ediv_le_natAbs i g
  omega
theorem mix_b {n m : Nat} {s t : Int} {a b : Cor} (ha : CB n a) (hb : CB n b) (hs : Sm m s) (ht : Sm m t) : CB (n + m + 1) (mixC s t a b) := by
  have nb : ∀ i ∈ nums (linC s t a b), Sm (n + m + 1) i := by
    rw [nums_lin]
    intro i hi
    obtain ⟨p, hp, rfl⟩ := List.mem_map.mp hi
    have := List.of_mem_zip hp
    exact ((hs.mul (nums_b ha _ this.1)).add (ht.mul (nums_b hb _ this.2))).mono (by omega)
  refine ⟨sm_div (nb _ (by simp [nums])), sm_div (nb _ (by simp [nums])), sm_div (nb _ (by simp [nums])), sm_div (nb _ (by simp [nums])), fun i hi => ?_⟩
  simp only [mixC, divC, List.mem_map] at hi
  obtain ⟨j, hj, rfl⟩ := hi
  exact sm_div (nb _ (by simp [nums, hj]))
/-- the numbers of a mixed corner, all at once -/
theorem mix_nums {s t : Int} {a b : Cor} (h : 0 < s * a.h + t * b.h) (k : Nat) (n u v : Int) (hn : (nums (mixC s t a b))[k]? = some n) (hu : (nums a)[k]? = some u) (hv : (nums b)[k]? = some v) : gcdC (linC s t a b) * n = s * u + t * v := by
  unfold mixC at hn
  rw [divC_nums, nums_lin, List.map_map, List.getElem?_map] at hn
  have hz : ((nums a).zip (nums b))[k]? = some (u, v) := by rw [List.getElem?_zip_eq_some]; exact ⟨hu, hv⟩
  rw [hz] at hn
  simp only [Option.map_some, Option.some.injEq, Function.comp] at hn
  subst hn
  refine Int.mul_ediv_cancel' (gcdC_dvd ?_)
  rw [nums_lin]
  exact List.mem_map.mpr ⟨(u, v), List.mem_of_getElem? hz, rfl⟩
theorem gcdL_ge (ns : List Int) (g : Int) (h : 0 ≤ g) : (gcdL ns g).natAbs = (gcdL ns g).toNat := by have := gcdL_nn ns g h; omega
/-- nothing above 1 divides a mixed corner -/
theorem gcd_divC {c : Cor} (h : 0 < gcdC c) : gcdC (divC c (gcdC c)) = 1 := by
  obtain ⟨k, hk⟩ : ∃ k, k = gcdC (divC c (gcdC c)) := ⟨_, rfl⟩
  have k0 : 0 ≤ k := by rw [hk]; exact gcdL_nn _ _ (Int.le_refl _)
  have hd : ∀ n ∈ nums c, k * gcdC c ∣ n := by
    intro n hn
    have h1 : gcdC c ∣ n := gcdC_dvd hn
    have h2 : k ∣ n / gcdC c := by
      rw [hk]
      refine gcdC_dvd ?_
      rw [divC_nums]
      exact List.mem_map.mpr ⟨n, hn, rfl⟩
    have h3 := Int.mul_dvd_mul_right (gcdC c) h2
    rw [Int.ediv_mul_cancel h1] at h3
    exact h3
  have hg : k * gcdC c ∣ gcdC c := gcdL_max _ _ _ (Int.dvd_zero _) hd
  rw [← hk]
  obtain ⟨m, hm⟩ := hg
  have h4 : gcdC c * (k * m - 1) = 0 := by grind
  rcases Int.mul_eq_zero.mp h4 with h5 | h5
  · omega
  · have h6 : k ∣ 1 := ⟨m, by omega⟩
    have := Int.le_of_dvd (by decide) h6
    have : k ≠ 0 := fun e => by rw [e] at h6; exact absurd (Int.zero_dvd.mp h6) (by decide)
    omega
theorem zip_comm (s t : Int) : ∀ (a b : List Int), ((b.zip a).map fun p => t * p.1 + s * p.2) = ((a.zip b).map fun p => s * p.1 + t * p.2)
  | [], b => by simp
  | _ :: _, [] => by simp
  | x :: a, y :: b => by
    simp only [List.zip_cons_cons, List.map_cons, zip_comm s t a b]
    rw [Int.add_comm]
theorem lin_swap (s t : Int) (a b : Cor) : linC t s b a = linC s t a b := by
  simp only [linC, zip_comm s t a.vs b.vs, Cor.mk.injEq]
  refine ⟨?_, ?_, ?_, ?_, trivial⟩ <;> exact Int.add_comm _ _
theorem mix_swap (s t : Int) (a b : Cor) : mixC t s b a = mixC s t a b := by unfold mixC; rw [lin_swap]
def scaC (k : Int) (c : Cor) : Cor := ⟨k * c.x, k * c.y, k * c.w, k * c.h, c.vs.map (k * ·)⟩
theorem nums_sca (k : Int) (c : Cor) : nums (scaC k c) = (nums c).map (k * ·) := by simp [nums, scaC]
theorem gcdL_sca {k : Int} (hk : 0 < k) : ∀ (ns : List Int) (g : Int), gcdL (ns.map (k * ·)) (k * g) = k * gcdL ns g
  | [], g => rfl
  | n :: r, g => by
    show gcdL (r.map (k * ·)) (Int.gcd (k * g) (k * n) : Int) = k * gcdL r (Int.gcd g n)
    rw [← gcdL_sca hk r, Int.gcd_mul_left]
    congr 1
    have : (k.natAbs : Int) = k := by omega
    rw [Int.natCast_mul, this]
theorem gcdC_sca {k : Int} (hk : 0 < k) (c : Cor) : gcdC (scaC k c) = k * gcdC c := by
  unfold gcdC
  rw [nums_sca, ← gcdL_sca hk, Int.mul_zero]
theorem div_sca {k : Int} (hk : 0 < k) (c : Cor) : divC (scaC k c) (gcdC (scaC k c)) = divC c (gcdC c) := by
  rw [gcdC_sca hk]
  simp only [divC, scaC, Int.mul_ediv_mul_of_pos _ _ hk, List.map_map, Cor.mk.injEq, true_and]
  refine List.map_congr_left fun v _ => ?_
  exact Int.mul_ediv_mul_of_pos _ _ hk
theorem lin_sca (k s t : Int) (a b : Cor) : linC (k * s) (k * t) a b = scaC k (linC s t a b) := by
  simp only [linC, scaC, Cor.mk.injEq, List.map_map]
  refine ⟨by grind, by grind, by grind, by grind, List.map_congr_left fun p _ => ?_⟩
  simp only [Function.comp]
  grind
theorem mix_sca {k : Int} (hk : 0 < k) (s t : Int) (a b : Cor) : mixC (k * s) (k * t) a b = mixC s t a b := by
  unfold mixC
  rw [lin_sca, div_sca hk]
theorem zip_self (s t : Int) : ∀ a : List Int, ((a.zip a).map fun p => s * p.1 + t * p.2) = a.map ((s + t) * ·)
  | [] => rfl
  | x :: a => by
    simp only [List.zip_cons_cons, List.map_cons, zip_self s t a]
    rw [Int.add_mul]
theorem lin_self (s t : Int) (a : Cor) : linC s t a a = scaC (s + t) a := by
  simp only [linC, scaC, zip_self, Int.add_mul]
theorem zip_one : ∀ (a b : List Int), a.length ≤ b.length → ((a.zip b).map fun p => 1 * p.1 + 0 * p.2) = a
  | [], _, _ => by simp
  | x :: a, [], h => by simp at h
  | x :: a, y :: b, h => by
    simp only [List.length_cons] at h
    simp only [List.zip_cons_cons, List.map_cons, zip_one a b (by omega)]
    simp
theorem lin_one (a b : Cor) (h : a.vs.length ≤ b.vs.length) : linC 1 0 a b = a := by
  simp only [linC, zip_one _ _ h]
  simp
theorem mix_self {s t : Int} (h : 0 < s + t) (a b : Cor) (hl : a.vs.length ≤ b.vs.length) : mixC s t a a = mixC 1 0 a b := by
  unfold mixC
  rw [lin_self, div_sca h, lin_one a b hl]
theorem mix_h_pos {s t : Int} {a b : Cor} (h : 0 < s * a.h + t * b.h) : 0 < (mixC s t a b).h := by
  obtain ⟨g, g0, _, _, _, h1⟩ := mix_g h
  rw [← h1] at h
  rcases Int.lt_or_le 0 (mixC s t a b).h with q | q
  · exact q
  · have := Int.mul_le_mul_of_nonneg_left q (Int.le_of_lt g0)
    omega
end PL

/-! PSP -/
namespace PL
open PySem PySem.Spec L2
@[simp] theorem idx_tD0 (t : Tri) : idxD (tD t) (.int 0) = some (cD t.a) := by simp [tD]
@[simp] theorem idx_tD1 (t : Tri) : idxD (tD t) (.int 1) = some (cD t.b) := by simp [tD]
@[simp] theorem idx_tD2 (t : Tri) : idxD (tD t) (.int 2) = some (cD t.c) := by simp [tD]
@[simp] theorem asQ_tD (t : Tri) : asQ (tD t) = some [cD t.a, cD t.b, cD t.c] := by simp [tD]
@[simp] theorem len_tD (t : Tri) : biD .len [tD t] = some (.pv (.int 3)) := by simp [tD]
@[simp] theorem isi_tD (t : Tri) : isiD (tD t) "tuple" = true := by simp [tD]
@[simp] theorem bind_tD (is : List Nat) (t : Tri) (env : Ev) : bindT (.tup is) (tD t) env = bindL is [cD t.a, cD t.b, cD t.c] env := by simp [tD]
/-! ### spots -/
def spD (s : Int × Int) : D := .tup [.int s.1, .int s.2]
def spotP (c r : Int) (s : Int × Int) : Int × Int × Int := (8 * c + s.1, 8 * r + s.2, 8)
theorem bitOr_nn (a b : Nat) : Builtin.bitOr (a : Int) (b : Int) = ((a ||| b : Nat) : Int) := by
  rw [Bits.bitOr_pp (by omega) (by omega)]; rfl
theorem bitAnd_nn (a b : Nat) : Builtin.bitAnd (a : Int) (b : Int) = ((a &&& b : Nat) : Int) := by
  unfold Builtin.bitAnd
  simp
def maskN (hd : Int × Int → Bool) : List (Int × Int) → Nat → Nat → Nat
  | [], _, acc => acc
  | s :: l, k, acc => maskN hd l (k + 1) (if hd s = true then acc ||| 1 <<< k else acc)
def hasB (t : Tri) (p : Int × Int × Int) : Bool := decide (hadI t p ≠ 0)
section
variable {ρ : Str → List D → Option Rv} {ξ : Str → List D → Option Str} (κ : Str → Option D)
theorem spot_at_body (hκ : κ "EIGHTHS" = some (.int 8)) (c r : Int) (s : Int × Int) : outR (evSs ρ ξ κ PS.e_spot_at.body (env0 3 [.int c, .int r, spD s])) = some (.pv (triD (spotP c r s))) := by
  have k8 : ∀ i, mulOk 8 i = true := fun i => mulOk_l (by simp [Sm])
  simp -implicitDefEqProofs [PS.e_spot_at, env0, hκ, spD, k8, triD, spotP]
def SpotAtOk (ρ : Str → List D → Option Rv) : Prop := ∀ {c r : Int} {s : Int × Int}, ρ "spot_at" [.int c, .int r, spD s] = some (.pv (triD (spotP c r s)))
theorem enumD_map {α : Type} (f : α → D) : ∀ (k : Nat) (as : List α), enumD k (as.map f) = (as.zipIdx k).map fun p => D.tup [.int (p.2 : Nat), f p.1]
  | _, [] => rfl
  | k, a :: as => by simp [enumD, enumD_map f (k + 1) as]
theorem mask_loop (hh : HadOk ρ) (hs : SpotAtOk ρ) {t : Tri} {c r : Int} (ht : TB 2000 t) (ha : Ahead t) (hc : Sm 100 c) (hr : Sm 100 r) (x3 : Sl) : ∀ (l : List (Int × Int)) (k acc : Nat) (x5 x6 : Sl), (∀ s ∈ l, Sm 100 s.1 ∧ Sm 100 s.2) → k + l.length ≤ 1000 →
    ∃ y5 y6, loopD ρ ξ κ (.tup [5, 6]) PS.e_mask_b1 (enumD k (l.map spD)) [.pv (tD t), .pv (.int c), .pv (.int r), x3, .pv (.int (acc : Nat)), x5, x6] = some (.nx [.pv (tD t), .pv (.int c), .pv (.int r), x3, .pv (.int (maskN (fun s => hasB t (spotP c r s)) l k acc : Nat)), y5, y6])
  | [], k, acc, x5, x6, _, _ => ⟨x5, x6, rfl⟩
  | s :: l, k, acc, x5, x6, hl, hk => by
    rw [List.length_cons] at hk
    have s8 : Sm 4 8 := by simp [Sm]
    have pb : PB 2000 (spotP c r s) := ⟨((s8.mul hc).add (hl s (List.mem_cons_self ..)).1).mono (by decide), ((s8.mul hr).add (hl s (List.mem_cons_self ..)).2).mono (by decide), (s8.mono (by decide) : Sm 2000 (8 : Int))⟩
    have h1 := hh (t := t) (p := spotP c r s) (l := []) ht pb ha
    have h2 := hs (c := c) (r := r) (s := s)
    have hk2 : (k : Int) ≤ 1000000 := by omega
    have pw : powOk 1 (k : Int) = true := powOk_shl (by simp [Sm]) ⟨by omega, hk2⟩
    have e1 : (1 : Int) * 2 ^ k = ((1 <<< k : Nat) : Int) := by simp [Nat.shiftLeft_eq]
    simp only [rayD] at h1
    simp only [triD] at h2
    by_cases hz : hadI t (spotP c r s) = 0
    · obtain ⟨y5, y6, ih⟩ := mask_loop hh hs ht ha hc hr x3 l (k + 1) acc (.pv (.int (k : Nat))) (.pv (spD s)) (fun u hu => hl u (List.mem_cons_of_mem _ hu)) (by omega)
      refine ⟨y5, y6, ?_⟩
      rw [List.map_cons, enumD, loop_step (e := [.pv (tD t), .pv (.int c), .pv (.int r), x3, .pv (.int (acc : Nat)), .pv (.int (k : Nat)), .pv (spD s)]) (e' := [.pv (tD t), .pv (.int c), .pv (.int r), x3, .pv (.int (acc : Nat)), .pv (.int (k : Nat)), .pv (spD s)]) (by simp) (by simp -implicitDefEqProofs [PS.e_mask_b1, h1, h2, hz]), ih]
      simp [maskN, hasB, hz]
    · obtain ⟨y5, y6, ih⟩ := mask_loop hh hs ht ha hc hr x3 l (k + 1) (acc ||| 1 <<< k) (.pv (.int (k : Nat))) (.pv (spD s)) (fun u hu => hl u (List.mem_cons_of_mem _ hu)) (by omega)
      refine ⟨y5, y6, ?_⟩
      rw [List.map_cons, enumD, loop_step (e := [.pv (tD t), .pv (.int c), .pv (.int r), x3, .pv (.int (acc : Nat)), .pv (.int (k : Nat)), .pv (spD s)]) (e' := [.pv (tD t), .pv (.int c), .pv (.int r), x3, .pv (.int ((acc ||| 1 <<< k : Nat) : Int)), .pv (.int (k : Nat)), .pv (spD s)]) (by simp) (by simp -implicitDefEqProofs [PS.e_mask_b1, h1, h2, hz, pw]; rw [← bitOr_nn, ← e1]; simp), ih]
      simp [maskN, hasB, hz]
theorem mask_body (hh : HadOk ρ) (hs : SpotAtOk ρ) {t : Tri} {c r : Int} (ht : TB 2000 t) (ha : Ahead t) (hc : Sm 100 c) (hr : Sm 100 r) {l : List (Int × Int)} (hl : ∀ s ∈ l, Sm 100 s.1 ∧ Sm 100 s.2) (hk : l.length ≤ 1000) {L : D} (hL : L = .lst (l.map spD) ∨ L = .flst (l.map spD)) :
    outR (evSs ρ ξ κ PS.e_mask.body (env0 7 [tD t, .int c, .int r, L])) = some (.pv (.int (maskN (fun s => hasB t (spotP c r s)) l 0 0 : Nat))) := by
  obtain ⟨y5, y6, h⟩ := mask_loop (ξ := ξ) κ hh hs ht ha hc hr (.pv L) l 0 0 .un .un hl (by omega)
  have h : loopD ρ ξ κ (.tup [5, 6]) PS.e_mask_b1 (enumD 0 (l.map spD)) [.pv (tD t), .pv (.int c), .pv (.int r), .pv L, .pv (.int 0), .un, .un] = _ := h
  rcases hL with rfl | rfl
  all_goals simp -implicitDefEqProofs [PS.e_mask, env0, h]
def MaskOk (ρ : Str → List D → Option Rv) : Prop := ∀ {t : Tri} {c r : Int} {l : List (Int × Int)} {L : D}, TB 2000 t → Ahead t → Sm 100 c → Sm 100 r → (∀ s ∈ l, Sm 100 s.1 ∧ Sm 100 s.2) → l.length ≤ 1000 → (L = .lst (l.map spD) ∨ L = .flst (l.map spD)) →
    ρ "mask" [tD t, .int c, .int r, L] = some (.pv (.int (maskN (fun s => hasB t (spotP c r s)) l 0 0 : Nat)))
/-- how many of the first n bits -/
def cntN (b n : Nat) : Nat := ((List.range n).filter fun k => b.testBit k).length
theorem shr_bit (b k : Nat) : Builtin.bitAnd ((b : Int) / 2 ^ k) 1 = if b.testBit k = true then 1 else 0 := by
  have e : ((b : Int) / 2 ^ k) = ((b >>> k : Nat) : Int) := by rw [Nat.shiftRight_eq_div_pow]; simp
  have e1 : (1 : Int) = ((1 : Nat) : Int) := rfl
  rw [e, e1, bitAnd_nn, Nat.testBit]
  rw [Nat.and_comm]
  have := Nat.one_and_eq_mod_two (b >>> k)
  rw [this]
  have hm : (b >>> k) % 2 = 0 ∨ (b >>> k) % 2 = 1 := by omega
  rcases hm with h | h <;> rw [h] <;> simp
theorem share_body (hr : RatioOk ρ) (hm : MaskOk ρ) {t : Tri} {c r : Int} (ht : TB 2000 t) (ha : Ahead t) (hc : Sm 100 c) (hr' : Sm 100 r) {l : List (Int × Int)} (hl : ∀ s ∈ l, Sm 100 s.1 ∧ Sm 100 s.2) (hk : l.length ≤ 1000) (h0 : l ≠ []) {L : D} (hL : L = .lst (l.map spD) ∨ L = .flst (l.map spD)) :
    outR (evSs ρ ξ κ PS.e_share.body (env0 7 [tD t, .int c, .int r, L])) = some (.pv (frD (Rat.divInt (cntN (maskN (fun s => hasB t (spotP c r s)) l 0 0) l.length : Nat) (l.length : Nat)))) := by
  have m1 := hm ht ha hc hr' hl hk hL
  generalize maskN (fun s => hasB t (spotP c r s)) l 0 0 = B at *
  have hpos : 0 < l.length := by cases l with | nil => exact absurd rfl h0 | cons _ _ => simp
  have cf := comp_filter (ρ := ρ) (κ := κ) (own := [("k", 6)]) (elt := PS.e_share_x1) (c := (.cmp .eq (.bin .band (.bin .shr (.slot 4) (.slot 6)) (.cst (.int 1))) (.cst (.int 1)))) (tg := .nm 6) (env := [.pv (tD t), .pv (.int c), .pv (.int r), .pv L, .pv (.int (B : Nat)), .un, .un])
    (f := fun d => d) (p := fun d => match d with | .int k => B.testBit k.toNat | _ => false) (ds := rngD 0 l.length) (fun d hd => by
      obtain ⟨k, hk', rfl⟩ := mem_rng0 hd
      refine ⟨[.pv (tD t), .pv (.int c), .pv (.int r), .pv L, .pv (.int (B : Nat)), .un, .pv (.int k)], by simp, ?_, fun _ => by simp [PS.e_share_x1]⟩
      have h0 : (0 : Int) ≤ k := by omega
      have e := shr_bit B k
      simp -implicitDefEqProofs [h0, e])
  have lenf : (((rngD 0 l.length).filter fun d => match d with | .int k => B.testBit k.toNat | _ => false).map fun d => d).length = cntN B l.length := by
    rw [List.length_map, rng_map, List.filter_map, List.length_map]
    unfold cntN
    congr 1
  have ir : inRg (l.length : Int) = true := inRg_nn (by omega) (by omega)
  have hle : l.length ≤ 16777216 := by omega
  have rr := hr (a := (cntN B l.length : Nat)) (b := (l.length : Nat)) (by omega) ⟨64, Sm.nat (by omega), by decide⟩
  simp only [List.map_id'] at cf lenf
  have cf : compD ρ κ [("k", 6)] PS.e_share_x1 (.nm 6) PS.e_share_y1 [.pv (tD t), .pv (.int c), .pv (.int r), .pv L, .pv (.int (B : Nat)), .un, .un] (rngD 0 l.length) = _ := cf
  have ll : biD .len [L] = some (.pv (.int (l.length : Nat))) := by rcases hL with rfl | rfl <;> simp
  simp -implicitDefEqProofs [PS.e_share, env0, m1, ll, ir, hle, cf, lenf, rr]
end
section
variable {tb : List De} {κ : Str → Option D} {d : Nat}
theorem spotAtOk_call (h : Has tb PS.e_spot_at) (hκ : κ "EIGHTHS" = some (.int 8)) : SpotAtOk (callF tb κ (d + 1)) := fun {c r s} => (callH h d [.int c, .int r, spD s] rfl).trans (spot_at_body κ hκ c r s)
theorem maskOk_call (h : Has tb PS.e_mask) (hh : HadOk (callF tb κ d)) (hs : SpotAtOk (callF tb κ d)) : MaskOk (callF tb κ (d + 1)) := fun {t c r l L} h1 h2 h3 h4 h5 h6 h7 => (callH h d [tD t, .int c, .int r, L] rfl).trans (mask_body κ hh hs h1 h2 h3 h4 h5 h6 h7)
end
/-! signs under scaling -/
theorem pos_mul_iff {t u : Int} (ht : 0 < t) : (0 < t * u) ↔ 0 < u := ⟨fun h => by
    rcases Int.lt_trichotomy u 0 with g | g | g
    · have := Int.mul_neg_of_pos_of_neg ht g; omega
    · subst g; simp at h
    · exact g, fun h => Int.mul_pos ht h⟩
theorem neg_mul_iff {t u : Int} (ht : 0 < t) : (t * u < 0) ↔ u < 0 := ⟨fun h => by
    rcases Int.lt_trichotomy u 0 with g | g | g
    · exact g
    · subst g; simp at h
    · have := Int.mul_pos ht g; omega, fun h => Int.mul_neg_of_pos_of_neg ht h⟩
theorem sgn3_sca {a b c : Int} (ha : 0 < a) (hb : 0 < b) (hc : 0 < c) (u v w : Int) : sgn3 (a * u) (b * v) (c * w) = sgn3 u v w := by
  unfold sgn3
  simp only [pos_mul_iff ha, neg_mul_iff ha, pos_mul_iff hb, neg_mul_iff hb, pos_mul_iff hc, neg_mul_iff hc]
/-- the same side, by the three numbers -/
theorem side_eq {a b a' b' : Cor} {p p' : Int × Int × Int} {i j k : Int} (hi : 0 < i) (hj : 0 < j) (hk : 0 < k) (h1 : aloI (norI a' b') p' = i * aloI (norI a b) p) (h2 : (norI a' b').1 = j * (norI a b).1) (h3 : (norI a' b').2.1 = k * (norI a b).2.1) : sideI a' b' p' = sideI a b p := by
  unfold sideI
  rw [h1, h2, h3, sgn3_sca hi hj hk]
theorem had_eq {t t' : Tri} {p p' : Int × Int × Int} (h1 : sideI t'.a t'.b p' = sideI t.a t.b p) (h2 : sideI t'.b t'.c p' = sideI t.b t.c p) (h3 : sideI t'.c t'.a p' = sideI t.c t.a p) : hadI t' p' = hadI t p := by
  unfold hadI
  rw [h1, h2, h3]
end PL

/-! PL2 -/
namespace PL
open PySem PySem.Spec L2
/-! ### draws of a cell, and corners made of them -/
def Nn31 (d : Int) : Prop := 0 ≤ d ∧ d < 2147483648
section
variable {ρ : Str → List D → Option Rv} {ξ : Str → List D → Option Str} (κ : Str → Option D)
theorem draws_body (hm : MixOk ρ) (c : Int) (n : Int) (hn : 0 ≤ n ∧ n ≤ 1000) : ∃ ds : List Int, outR (evSs ρ ξ κ PS.e_law_draws.body (env0 3 [.int c, .int n])) = some (.li (ds.map D.int)) ∧ ds.length = n.toNat ∧ ∀ d ∈ ds, Nn31 d := by
  have ir : inRg n = true := inRg_nn hn.1 (by omega)
  have hl : n.toNat ≤ 16777216 := by omega
  have c1 : compD ρ κ [("_law_k", 2)] PS.e_law_draws_x1 (.nm 2) .no [.pv (.int c), .pv (.int n), .un] (rngD 0 n.toNat) = some (((List.range n.toNat).map fun (k : Nat) => mixI c k).map D.int) := by
    rw [rng_map, comp_mapI κ (f := fun (k : Nat) => D.int (mixI c k)), List.map_map]
    · rfl
    · intro k hk
      have := List.mem_range.mp hk
      have m := hm (c := c) (k := (k : Int)) (by omega)
      exact ⟨[.pv (.int c), .pv (.int n), .pv (.int k)], by simp, by simp -implicitDefEqProofs [PS.e_law_draws_x1, m]⟩
  refine ⟨(List.range n.toNat).map fun (k : Nat) => mixI c k, ?_, by simp, fun d hd => ?_⟩
  · simp -implicitDefEqProofs [-List.map_map, PS.e_law_draws, env0, ir, hl, c1]
  · obtain ⟨k, _, rfl⟩ := List.mem_map.mp hd
    exact ⟨mixI_nn _ _, mixI_lt _ _⟩
def DrawsOk (ρ : Str → List D → Option Rv) : Prop := ∀ {c n : Int}, 0 ≤ n ∧ n ≤ 1000 → ∃ ds : List Int, ρ "_law_draws" [.int c, .int n] = some (.li (ds.map D.int)) ∧ ds.length = n.toNat ∧ ∀ d ∈ ds, Nn31 d
theorem at6 (d0 d1 d2 d3 d4 d5 : Int) (rest : List Int) (j : Nat) (hj : j < rest.length) : ∃ v, atI (D.int d0 :: D.int d1 :: D.int d2 :: D.int d3 :: D.int d4 :: D.int d5 :: rest.map D.int) (6 + (j : Int)) = some (.int v) ∧ v ∈ rest := by
  refine ⟨rest[j], ?_, List.getElem_mem _⟩
  have e : (6 + (j : Int)) = ((6 + j : Nat) : Int) := by omega
  rw [e, PL.atI_nat, Nat.add_comm]
  simp [hj]
theorem at5 (x y z u v w : D) (l : List D) : atI (x :: y :: z :: u :: v :: w :: l) 5 = some w := by simp [atI, ixN]; omega
theorem corner2_body {d0 d1 d2 d3 d4 d5 m : Int} {rest : List Int} (h0 : Nn31 d0) (h1 : Nn31 d1) (h2 : Nn31 d2) (h3 : Nn31 d3) (h4 : Nn31 d4) (h5 : Nn31 d5) (hm : 0 ≤ m ∧ m ≤ 3) (hr : m.toNat ≤ rest.length) :
    ∃ r : Cor, outR (evSs ρ ξ κ PS.e_law_corner_v2.body (env0 12 [.lst ((d0 :: d1 :: d2 :: d3 :: d4 :: d5 :: rest).map D.int), .int m])) = some (.pv (cD r)) ∧ CB 21 r ∧ 0 < r.w ∧ 0 < r.h ∧ r.vs.length = m.toNat := by
  have ir : inRg m = true := inRg_nn hm.1 (by omega)
  have hml : m.toNat ≤ 16777216 := by omega
  have g1 := fmod_nn (d0.fdiv 4) (b := 4) (by decide)
  have g2 := fmod_nn (d0.fdiv 16) (b := 3) (by decide)
  have g3 := fmod_nn (d1.fdiv 32) (b := 4) (by decide)
  have g4 := fmod_nn (d1.fdiv 512) (b := 9) (by decide)
  have g5 := fmod_nn (d1.fdiv 4096) (b := 300) (by decide)
  have g6 := fmod_nn d2 (b := 2000001) (by decide)
  have g7 := fmod_nn d3 (b := 2000001) (by decide)
  have g8 := fmod_nn d4 (b := 1000000) (by decide)
  have g9 := fmod_nn d5 (b := 1000000) (by decide)
  have g10 := fmod_nn d2 (b := 2001) (by decide)
  obtain ⟨S, hS, S0, S1⟩ : ∃ S : Int, atI [D.int 2, D.int 8, D.int 1, D.int 2] ((d0.fdiv 4).fmod 4) = some (.int S) ∧ 0 < S ∧ S ≤ 8 := by
    rcases (show (d0.fdiv 4).fmod 4 = 0 ∨ (d0.fdiv 4).fmod 4 = 1 ∨ (d0.fdiv 4).fmod 4 = 2 ∨ (d0.fdiv 4).fmod 4 = 3 by omega) with h | h | h | h <;> rw [h] <;> simp
  obtain ⟨T, hT, T0, T1⟩ : ∃ T : Int, T = 1 + (d0.fdiv 16).fmod 3 ∧ 0 < T ∧ T ≤ 3 := ⟨_, rfl, by omega, by omega⟩
  have q1 := fmod_nn (d0.fdiv 64) (b := S * 8 + 1) (by omega)
  have q2 := fmod_nn d1 (b := S * 8 + 1) (by omega)
  have sS : Sm 4 S := by unfold Sm; omega
  have sT : Sm 2 T := by unfold Sm; omega
  have sx : Sm 8 ((d0.fdiv 64).fmod (S * 8 + 1) - S) := by unfold Sm; omega
  have sy : Sm 8 (d1.fmod (S * 8 + 1) - S) := by unfold Sm; omega
  have W0 : 0 < S * T := Int.mul_pos S0 T0
  have sW := sS.mul sT
  obtain ⟨H, hH, H0, H1⟩ : ∃ H : Int, atI [D.int 1, D.int (S * T), D.int (1 + (d1.fdiv 512).fmod 9), D.int (S * T)] ((d1.fdiv 32).fmod 4) = some (.int H) ∧ 0 < H ∧ Sm 8 H := by
    rcases (show (d1.fdiv 32).fmod 4 = 0 ∨ (d1.fdiv 32).fmod 4 = 1 ∨ (d1.fdiv 32).fmod 4 = 2 ∨ (d1.fdiv 32).fmod 4 = 3 by omega) with h | h | h | h <;> rw [h]
    · exact ⟨1, by simp, by decide, by simp [Sm]⟩
    · exact ⟨S * T, by simp, W0, sW.mono (by decide)⟩
    · exact ⟨1 + (d1.fdiv 512).fmod 9, by simp, by omega, by unfold Sm; omega⟩
    · exact ⟨S * T, by simp, W0, sW.mono (by decide)⟩
  have k8 : mulOk S 8 = true := mulOk_r (by simp [Sm])
  have kT : ∀ i, mulOk T i = true := fun i => mulOk_l (sT.mono (by decide))
  have kS : ∀ i, mulOk S i = true := fun i => mulOk_l (sS.mono (by decide))
  have d4' : divOk 4 = true := divOk_lit (by decide) (by simp [Sm])
  have d16 : divOk 16 = true := divOk_lit (by decide) (by simp [Sm])
  have d64 : divOk 64 = true := divOk_lit (by decide) (by simp [Sm])
  have d512 : divOk 512 = true := divOk_lit (by decide) (by simp [Sm])
  have d32 : divOk 32 = true := divOk_lit (by decide) (by simp [Sm])
  have d4096 : divOk 4096 = true := divOk_lit (by decide) (by simp [Sm])
  have p6 : powOk 10 6 = true := powOk_lit (by decide)
  have nz : S * 8 + 1 ≠ 0 := by omega
  have cut2 : cutD (D.int d0 :: D.int d1 :: D.int d2 :: D.int d3 :: D.int d4 :: D.int d5 :: rest.map D.int) none (some 2) = [.int d0, .int d1] := by rw [cut_take _ (by decide)]; rfl
  obtain ⟨L, hL⟩ : ∃ L, L = D.int d0 :: D.int d1 :: D.int d2 :: D.int d3 :: D.int d4 :: D.int d5 :: rest.map D.int := ⟨_, rfl⟩
  have a2 : atI L 2 = some (.int d2) := by rw [hL]; simp
  have a3 : atI L 3 = some (.int d3) := by rw [hL]; simp
  have a4 : atI L 4 = some (.int d4) := by rw [hL]; simp
  have a5 : atI L 5 = some (.int d5) := by rw [hL]; exact at5 ..
  rw [← hL] at cut2
  have vs1 : ∀ (x2 x3 x4 x5 x6 x7 x8 x9 x10 x11 : Sl), ∃ vs : List Int, compD ρ κ [("_law_j", 11)] PS.e_law_corner_v2_x1 (.nm 11) .no [.pv (.lst L), .pv (.int m), x2, x3, x4, x5, x6, x7, x8, x9, x10, x11] (rngD 0 m.toNat) = some (vs.map D.int) ∧ (∀ i ∈ vs, Sm 21 i) ∧ vs.length = m.toNat := by
    intro x2 x3 x4 x5 x6 x7 x8 x9 x10 x11
    obtain ⟨as, e, l, q⟩ := comp_ok (ρ := ρ) (κ := κ) (mk := D.int) (Q := fun _ i => Sm 21 i) (own := [("_law_j", 11)]) (elt := PS.e_law_corner_v2_x1) (tg := .nm 11) (env := [.pv (.lst L), .pv (.int m), x2, x3, x4, x5, x6, x7, x8, x9, x10, x11]) (ds := rngD 0 m.toNat) (fun d hd => by
      obtain ⟨j, hj, rfl⟩ := mem_rng0 hd
      obtain ⟨v, hv, _⟩ := at6 d0 d1 d2 d3 d4 d5 rest j (by omega)
      rw [← hL] at hv
      have := fmod_nn v (b := 41) (by decide)
      exact ⟨_, v.fmod 41 - 10, by simp; rfl, by simp -implicitDefEqProofs [PS.e_law_corner_v2_x1, hv], by unfold Sm; omega⟩)
    refine ⟨as, e, fun i hi => ?_, by simpa using l⟩
    obtain ⟨j, hj⟩ := List.getElem?_of_mem hi
    exact q j _ i (List.getElem?_eq_getElem (by have := (List.getElem?_eq_some_iff.mp hj).1; omega)) hj
  have vs2 : ∀ (x2 x3 x4 x5 x6 x7 x8 x9 x10 x11 : Sl), ∃ vs : List Int, compD ρ κ [("_law_j", 11)] PS.e_law_corner_v2_x2 (.nm 11) .no [.pv (.lst L), .pv (.int m), x2, x3, x4, x5, x6, x7, x8, x9, x10, x11] (rngD 0 m.toNat) = some (vs.map D.int) ∧ (∀ i ∈ vs, Sm 21 i) ∧ vs.length = m.toNat := by
    intro x2 x3 x4 x5 x6 x7 x8 x9 x10 x11
    obtain ⟨as, e, l, q⟩ := comp_ok (ρ := ρ) (κ := κ) (mk := D.int) (Q := fun _ i => Sm 21 i) (own := [("_law_j", 11)]) (elt := PS.e_law_corner_v2_x2) (tg := .nm 11) (env := [.pv (.lst L), .pv (.int m), x2, x3, x4, x5, x6, x7, x8, x9, x10, x11]) (ds := rngD 0 m.toNat) (fun d hd => by
      obtain ⟨j, hj, rfl⟩ := mem_rng0 hd
      obtain ⟨v, hv, _⟩ := at6 d0 d1 d2 d3 d4 d5 rest j (by omega)
      rw [← hL] at hv
      have := fmod_nn v (b := 2000001) (by decide)
      exact ⟨_, v.fmod 2000001 - 1000000, by simp; rfl, by simp -implicitDefEqProofs [PS.e_law_corner_v2_x2, hv, p6], by unfold Sm; omega⟩)
    refine ⟨as, e, fun i hi => ?_, by simpa using l⟩
    obtain ⟨j, hj⟩ := List.getElem?_of_mem hi
    exact q j _ i (List.getElem?_eq_getElem (by have := (List.getElem?_eq_some_iff.mp hj).1; omega)) hj
  obtain ⟨vs, cv, sv, lv⟩ := vs1 (.pv (.int S)) (.pv (.int T)) (.pv (.int (T * ((d0.fdiv 64).fmod (S * 8 + 1) - S)))) (.pv (.int (T * (d1.fmod (S * 8 + 1) - S)))) (.pv (.int (S * T))) (.pv (.int H)) .un (.pv (.int d0)) (.pv (.int d1)) .un
  obtain ⟨ws, cw, sw, lw⟩ := vs2 (.pv (.int S)) (.pv (.int T)) (.pv (.int (d2.fmod 2000001 - 1000000))) (.pv (.int (d3.fmod 2000001 - 1000000))) (.pv (.int (1 + d4.fmod 1000000))) (.pv (.int (1 + d5.fmod 1000000))) (.pv (.tup (vs.map D.int))) (.pv (.int d0)) (.pv (.int d1)) .un
  have hmap : (d0 :: d1 :: d2 :: d3 :: d4 :: d5 :: rest).map D.int = L := by rw [hL]; rfl
  rw [hmap]
  suffices h : ∀ Q : Rv → Prop, (∀ r : Cor, CB 21 r → 0 < r.w → 0 < r.h → r.vs.length = m.toNat → Q (.pv (cD r))) → ∃ r, outR (evSs ρ ξ κ PS.e_law_corner_v2.body (env0 12 [.lst L, .int m])) = some r ∧ Q r by
    obtain ⟨r, e, cor, rfl, h⟩ := h (fun r => ∃ cor : Cor, r = .pv (cD cor) ∧ CB 21 cor ∧ 0 < cor.w ∧ 0 < cor.h ∧ cor.vs.length = m.toNat) fun cor h1 h2 h3 h4 => ⟨cor, rfl, h1, h2, h3, h4⟩
    exact ⟨cor, e, h⟩
  intro Q hQ
  by_cases c3 : d0.fmod 4 = 3
  · simp -implicitDefEqProofs [PS.e_law_corner_v2, env0, cut2, hS, ← hT, k8, kT, kS, d4', d16, d64, d512, d32, d4096, p6, nz, hH, ir, hml, cv, c3, a2, a3, a4, a5, cw]
    refine hQ ⟨_, _, _, _, ws⟩ ⟨?_, ?_, ?_, ?_, sw⟩ ?_ ?_ lw
    all_goals (simp only [Sm]; omega)
  · by_cases c2 : d0.fmod 4 = 2
    · simp -implicitDefEqProofs [PS.e_law_corner_v2, env0, cut2, hS, ← hT, k8, kT, kS, d4', d16, d64, d512, d32, d4096, p6, nz, hH, ir, hml, cv, c3, c2, a2, a3, a4, a5, cw]
      refine hQ ⟨_, _, _, _, vs⟩ ⟨?_, ?_, ?_, ?_, sv⟩ ?_ ?_ lv
      · simp only [Sm]; omega
      · exact (sT.mul sy).mono (by decide)
      · simp only [Sm]; omega
      · exact H1.mono (by decide)
      · show 0 < 1 + (d1.fdiv 4096).fmod 300; omega
      · exact H0
    · simp -implicitDefEqProofs [PS.e_law_corner_v2, env0, cut2, hS, ← hT, k8, kT, kS, d4', d16, d64, d512, d32, d4096, p6, nz, hH, ir, hml, cv, c3, c2, a2, a3, a4, a5, cw]
      refine hQ ⟨_, _, _, _, vs⟩ ⟨?_, ?_, ?_, ?_, sv⟩ ?_ ?_ lv
      · exact (sT.mul sx).mono (by decide)
      · exact (sT.mul sy).mono (by decide)
      · exact sW.mono (by decide)
      · exact H1.mono (by decide)
      · exact W0
      · exact H0
def Corner2Ok (ρ : Str → List D → Option Rv) : Prop := ∀ {ds : List Int} {m : Int}, (∀ d ∈ ds, Nn31 d) → 0 ≤ m ∧ m ≤ 3 → 6 + m.toNat ≤ ds.length → ∃ r : Cor, ρ "_law_corner" [.lst (ds.map D.int), .int m] = some (.pv (cD r)) ∧ CB 21 r ∧ 0 < r.w ∧ 0 < r.h ∧ r.vs.length = m.toNat
end
section
variable {tb : List De} {κ : Str → Option D} {d : Nat}
theorem drawsOk_call (h : Has tb PS.e_law_draws) (hm : MixOk (callF tb κ d)) : DrawsOk (callF tb κ (d + 1)) := fun {c n} hn => by
  obtain ⟨ds, h1, h2⟩ := draws_body κ hm c n hn
  exact ⟨ds, (callH h d [.int c, .int n] rfl).trans h1, h2⟩
theorem six {ds : List Int} (h : 6 ≤ ds.length) : ∃ d0 d1 d2 d3 d4 d5 r, ds = d0 :: d1 :: d2 :: d3 :: d4 :: d5 :: r := by
  rcases ds with _ | ⟨d0, _ | ⟨d1, _ | ⟨d2, _ | ⟨d3, _ | ⟨d4, _ | ⟨d5, r⟩⟩⟩⟩⟩⟩
  all_goals first | exact ⟨_, _, _, _, _, _, _, rfl⟩ | (simp at h)
theorem corner2Ok_call (h : Has tb PS.e_law_corner_v2) : Corner2Ok (callF tb κ (d + 1)) := fun {ds m} hd hm hl => by
  obtain ⟨d0, d1, d2, d3, d4, d5, rest, rfl⟩ := six (ds := ds) (by omega)
  obtain ⟨r, h1, h2⟩ := corner2_body (ρ := callF tb κ d) κ (hd d0 (by simp)) (hd d1 (by simp)) (hd d2 (by simp)) (hd d3 (by simp)) (hd d4 (by simp)) (hd d5 (by simp)) hm (show m.toNat ≤ rest.length by simp at hl; omega)
  exact ⟨r, (callH h d [_, .int m] rfl).trans h1, h2⟩
end
end PL

namespace PLx
open PySem PySem.Spec PyProof.Rows L2 PL
def e_law_mask_b1 : Sts := (.cons (.asg (.nm 5) (.bin .add (.cst (.int 1)) (.bin .mod (.slot 4) (.cst (.int 9))))) (.cons (.ifs (.cmp .lt (.bin .add (.slot 3) (.slot 5)) (.cst (.int 65))) (.cons (.asg (.nm 2) (.bin .bor (.slot 2) (.bin .shl (.bin .sub (.bin .shl (.cst (.int 1)) (.slot 5)) (.cst (.int 1))) (.slot 3)))) .nil) .nil) (.cons (.asg (.nm 3) (.bin .add (.bin .add (.bin .add (.slot 3) (.slot 5)) (.cst (.int 1))) (.bin .mod (.bin .fdiv (.slot 4) (.cst (.int 9))) (.cst (.int 6))))) .nil)))
def e_law_mask : De where
  nm := "_law_mask"
  ps := ["_law_cell"]
  N := ["_law_cell", "_law_draws_here", "_law_bits", "_law_column", "_law_number", "_law_long"]
  body := (.cons (.asg (.nm 1) (.call "_law_draws" (.cons (.bin .fdiv (.slot 0) (.cst (.int 2))) (.cons (.cst (.int 20)) .nil)))) (.cons (.ifs (.cmp .eq (.bin .mod (.slot 0) (.cst (.int 2))) (.cst (.int 1))) (.cons (.ret (.bin .mod (.bin .fdiv (.slot 0) (.cst (.int 2))) (.bin .shl (.cst (.int 1)) (.cst (.int 64))))) .nil) .nil) (.cons (.ifs (.cmp .eq (.bin .mod (.idx (.slot 1) (.cst (.int 0))) (.cst (.int 5))) (.cst (.int 1))) (.cons (.ret (.idx (.lst (.cons (.cst (.int 0)) (.cons (.bin .sub (.bin .shl (.cst (.int 1)) (.cst (.int 64))) (.cst (.int 1))) (.cons (.cst (.int 1)) (.cons (.bin .shl (.cst (.int 1)) (.cst (.int 63))) (.cons (.bin .fdiv (.bin .shl (.cst (.int 1)) (.cst (.int 64))) (.cst (.int 3))) (.cons (.bin .mul (.cst (.int 2)) (.bin .fdiv (.bin .shl (.cst (.int 1)) (.cst (.int 64))) (.cst (.int 3)))) .nil))))))) (.bin .mod (.idx (.slot 1) (.cst (.int 1))) (.cst (.int 6))))) .nil) .nil) (.cons (.asg (.nm 2) (.cst (.int 0))) (.cons (.asg (.nm 3) (.bin .mod (.bin .fdiv (.idx (.slot 1) (.cst (.int 0))) (.cst (.int 5))) (.cst (.int 5)))) (.cons (.for (.nm 4) (.sql (.sl (.slot 1) (.yes (.cst (.int 1))) .no)) e_law_mask_b1) (.cons (.ret (.slot 2)) .nil)))))))
def e_law_b1 : Sts := (.cons (.ifs (.bool false (.cons (.notE (.isi (.slot 6) "tuple")) (.cons (.cmp .ne (.bi .len (.cons (.slot 6) .nil)) (.cst (.int 2))) (.cons (.notE (.chain3 .lt .lt .le (.slot 5) (.idx (.slot 6) (.cst (.int 0))) (.idx (.slot 6) (.cst (.int 1))) (.cst (.int 64)))) .nil)))) (.cons (.ret (.cst (.bl false))) .nil) .nil) (.cons (.asg (.nm 4) (.bin .bor (.slot 4) (.bin .shl (.bin .sub (.bin .shl (.cst (.int 1)) (.bin .sub (.idx (.slot 6) (.cst (.int 1))) (.idx (.slot 6) (.cst (.int 0))))) (.cst (.int 1))) (.idx (.slot 6) (.cst (.int 0)))))) (.cons (.asg (.nm 5) (.idx (.slot 6) (.cst (.int 1)))) .nil)))
def e_law_b2 : Sts := (.cons (.asg (.nm 2) (.call "_law_mask" (.cons (.call "_law_cell_at" (.cons (.slot 0) (.cons (.slot 1) .nil))) .nil))) (.cons (.own 3 (.call "stretches" (.cons (.slot 2) .nil))) (.cons (.ifs (.notE (.isi (.slot 3) "list")) (.cons (.ret (.cst (.bl false))) .nil) .nil) (.cons (.asg (.nm 4) (.cst (.int 0))) (.cons (.asg (.nm 5) (.neg (.cst (.int 1)))) (.cons (.forL (.nm 6) 3 e_law_b1) (.cons (.ifs (.cmp .ne (.slot 4) (.slot 2)) (.cons (.ret (.cst (.bl false))) .nil) .nil) (.cons (.app 3 (.tup (.cons (.cst (.int 0)) (.cons (.cst (.int 1)) .nil)))) (.cons (.ifs (.cmp .ne (.bi .len (.cons (.call "stretches" (.cons (.slot 2) .nil)) .nil)) (.bin .sub (.bi .len (.cons (.slot 3) .nil)) (.cst (.int 1)))) (.cons (.ret (.cst (.bl false))) .nil) .nil) .nil)))))))))
def e_law : De where
  nm := "law"
  ps := ["_law_script"]
  N := ["_law_script", "_law_k", "_law_bits", "_law_found", "_law_told", "_law_last", "_law_one"]
  body := (.cons (.for (.nm 1) (.rng1 (.bi .max (.cons (.cst (.int 1)) (.cons (.bi .len (.cons (.sl (.slot 0) .no (.yes (.cst (.int 8)))) .nil)) .nil)))) e_law_b2) (.cons (.ret (.cst (.bl true))) .nil))
def tb : List De := [PS.e_stretches, PS.e_law_cell_at, PS.e_law_mixed, PS.e_law_draws, e_law_mask, e_law]
def tab : Tab where
  fns := tb.map fun e => (e.nm, e.ps)
  bns := ["isinstance", "len", "list", "max", "range", "tuple"]
  gls := []
  xcs := []
  xts := []
def κ : Str → Option D := fun x => none
end PLx

namespace PLx
open PySem PySem.Spec L2 PL
/-! ### runs of bits -/
def seg (b e : Nat) : Nat := (2 ^ (e - b) - 1) <<< b
theorem seg_bit {b e : Nat} (h : b ≤ e) (i : Nat) : (seg b e).testBit i = decide (b ≤ i ∧ i < e) := by
  unfold seg
  rw [Nat.testBit_shiftLeft, Nat.testBit_two_pow_sub_one]
  by_cases h1 : b ≤ i
  · by_cases h2 : i < e
    · simp [h1, h2]; omega
    · simp [h1, h2]; omega
  · simp [h1]
def pD (q : Nat × Nat) : D := .tup [.int (q.1 : Int), .int (q.2 : Int)]
def okC : Nat → List (Nat × Nat) → Prop
  | _, [] => True
  | c, q :: l => c ≤ q.1 ∧ q.1 < q.2 ∧ q.2 ≤ 64 ∧ okC (q.2 + 1) l
def hit (l : List (Nat × Nat)) (i : Nat) : Bool := l.any fun q => decide (q.1 ≤ i ∧ i < q.2)
def tell (l : List (Nat × Nat)) (a : Nat) : Nat := l.foldl (fun a q => a ||| seg q.1 q.2) a
theorem tell_bit : ∀ (l : List (Nat × Nat)) (c a i : Nat), okC c l → (tell l a).testBit i = (a.testBit i || hit l i)
  | [], _, a, i, _ => by simp [tell, hit]
  | q :: l, c, a, i, h => by
    obtain ⟨h1, h2, h3, h4⟩ := h
    have ih := tell_bit l (q.2 + 1) (a ||| seg q.1 q.2) i h4
    show (tell l (a ||| seg q.1 q.2)).testBit i = _
    rw [ih, Nat.testBit_or, seg_bit (by omega)]
    unfold hit
    rw [List.any_cons, Bool.or_assoc]
theorem high_bit {N i : Nat} (hN : N < 2 ^ 64) (h : 64 ≤ i) : N.testBit i = false := Nat.testBit_lt_two_pow (Nat.lt_of_lt_of_le hN (Nat.pow_le_pow_right (by decide) h))
theorem shr_zero {N c : Nat} (h : ¬ 0 < (N : Int) / 2 ^ c) (i : Nat) (hi : c ≤ i) : N.testBit i = false := by
  have e : ((N : Int) / 2 ^ c) = ((N / 2 ^ c : Nat) : Int) := by simp
  rw [e] at h
  have z : N / 2 ^ c = 0 := by
    rcases Nat.eq_zero_or_pos (N / 2 ^ c) with q | q
    · exact q
    · exact absurd (Int.natCast_pos.mpr q) h
  have lt : N < 2 ^ c := by
    rcases Nat.lt_or_ge N (2 ^ c) with q | q
    · exact q
    · have := Nat.div_pos q (Nat.pow_pos (by decide)); omega
  exact Nat.testBit_lt_two_pow (Nat.lt_of_lt_of_le lt (Nat.pow_le_pow_right (by decide) hi))
section
variable {ρ : Str → List D → Option Rv} {ξ : Str → List D → Option Str} (κ : Str → Option D)
theorem inner {N : Nat} (hN : N < 2 ^ 64) (x1 x3 : Sl) : ∀ (n c : Nat), 64 - c < n → c ≤ 65 → ∃ c', c ≤ c' ∧ (c ≤ 64 → c' ≤ 64) ∧ (∀ i, c ≤ i → i < c' → N.testBit i = true) ∧ N.testBit c' = false ∧
    whlD ρ ξ κ PS.e_stretches_c1 PS.e_stretches_b1 [.pv (.int (N : Int)), x1, .pv (.int (c : Int)), x3] = some (.nx [.pv (.int (N : Int)), x1, .pv (.int (c' : Int)), x3])
  | 0, c, h, _ => by omega
  | n + 1, c, h, h65 => by
    have sb := shr_bit N c
    by_cases hb : N.testBit c = true
    · have c64 : c < 64 := by
        rcases Nat.lt_or_ge c 64 with q | q
        · exact q
        · rw [high_bit hN q] at hb; cases hb
      obtain ⟨c', h1, h2, h3, h4, h5⟩ := inner hN x1 x3 n (c + 1) (by omega) (by omega)
      refine ⟨c', by omega, fun _ => h2 (by omega), fun i a b => ?_, h4, ?_⟩
      · by_cases hi : i = c
        · subst hi; exact hb
        · exact h3 i (by omega) b
      · rw [if_pos hb] at sb
        rw [whl_step (e := [.pv (.int (N : Int)), x1, .pv (.int ((c + 1 : Nat) : Int)), x3]) (by simp [PS.e_stretches_c1, sb]) (by simp [PS.e_stretches_b1]), h5]
    · have hb' : N.testBit c = false := Bool.eq_false_iff.mpr hb
      rw [if_neg hb] at sb
      exact ⟨c, Nat.le_refl _, fun h => h, fun i a b => by omega, hb', whl_end (by simp [PS.e_stretches_c1, sb])⟩
theorem outer {N : Nat} (hN : N < 2 ^ 64) : ∀ (n c : Nat) (acc : List (Nat × Nat)) (x3 : Sl), 65 - c < n → c ≤ 65 → acc.length ≤ c → ∃ (rest : List (Nat × Nat)) (c2 : Nat) (y3 : Sl), okC c rest ∧ (∀ i, hit rest i = (decide (c ≤ i) && N.testBit i)) ∧
    rest.length ≤ 66 ∧ whlD ρ ξ κ PS.e_stretches_c2 PS.e_stretches_b2 [.pv (.int (N : Int)), .li (acc.map pD), .pv (.int (c : Int)), x3] = some (.nx [.pv (.int (N : Int)), .li ((acc ++ rest).map pD), .pv (.int (c2 : Int)), y3])
  | 0, c, _, _, h, _, _ => by omega
  | n + 1, c, acc, x3, h, h65, ha => by
    by_cases hz : 0 < (N : Int) / 2 ^ c
    · obtain ⟨c', h1, h2, h3, h4, h5⟩ := inner (ρ := ρ) (ξ := ξ) κ hN (.li (acc.map pD)) (.pv (.int (c : Int))) 66 c (by omega) h65
      have c64 : c ≤ 63 := by
        rcases Nat.lt_or_ge c 64 with q | q
        · omega
        · exfalso
          have : N / 2 ^ c = 0 := Nat.div_eq_of_lt (Nat.lt_of_lt_of_le hN (Nat.pow_le_pow_right (by decide) q))
          have e : ((N : Int) / 2 ^ c) = ((N / 2 ^ c : Nat) : Int) := by simp
          rw [e, this] at hz
          omega
      have h2 := h2 (by omega)
      have la : (acc.map pD).length < 16777216 := by rw [List.length_map]; omega
      have e1 : ((c' : Int) + 1) = ((c' + 1 : Nat) : Int) := by omega
      by_cases hc : c < c'
      · obtain ⟨rest, c2, y3, r1, r2, r4, r3⟩ := outer hN n (c' + 1) (acc ++ [(c, c')]) (.pv (.int (c : Int))) (by omega) (by omega) (by simp; omega)
        refine ⟨(c, c') :: rest, c2, y3, ⟨Nat.le_refl _, hc, h2, r1⟩, fun i => ?_, ?_, ?_⟩
        · have : hit ((c, c') :: rest) i = (decide (c ≤ i ∧ i < c') || hit rest i) := rfl
          rw [this, r2 i]
          by_cases a : c ≤ i
          · by_cases b : i < c'
            · simp [a, b, h3 i a b]
            · by_cases d : i = c'
              · subst d; simp [a, h4]
              · simp [a, b, show c' + 1 ≤ i by omega]
          · simp [a, show ¬ c' + 1 ≤ i by omega]
        · have : ∀ (l : List (Nat × Nat)) (c : Nat), okC c l → c ≤ 65 → l.length + c ≤ 66 := by
            intro l
            induction l with
            | nil => intro c _ h; simp; omega
            | cons q l ih =>
              intro c h hc
              obtain ⟨a, b, d, e⟩ := h
              have := ih _ e (by omega)
              simp; omega
          have := this _ (c' + 1) r1 (by omega)
          simp; omega
        · have hc' : (c : Int) < (c' : Int) := by omega
          have st : evSs ρ ξ κ PS.e_stretches_b2 [.pv (.int (N : Int)), .li (acc.map pD), .pv (.int (c : Int)), x3] = some (.nx [.pv (.int (N : Int)), .li ((acc ++ [(c, c')]).map pD), .pv (.int ((c' + 1 : Nat) : Int)), .pv (.int (c : Int))]) := by
            rw [List.map_append, List.map_cons, List.map_nil]
            generalize acc.map pD = Q at *
            simp -implicitDefEqProofs [PS.e_stretches_b2, h5, hc, hc', la, pD]
          rw [whl_step (by simp [PS.e_stretches_c2, hz]) st, r3]
          simp
      · have ec : c' = c := by omega
        subst ec
        obtain ⟨rest, c2, y3, r1, r2, r4, r3⟩ := outer hN n (c' + 1) acc (.pv (.int (c' : Int))) (by omega) (by omega) (by omega)
        refine ⟨rest, c2, y3, ?_, fun i => ?_, r4, ?_⟩
        · cases rest with
          | nil => trivial
          | cons q l => exact ⟨by have := r1.1; omega, r1.2⟩
        · rw [r2 i]
          by_cases a : i = c'
          · subst a; simp [h4]
          · by_cases b : c' ≤ i
            · simp [b, show c' + 1 ≤ i by omega]
            · simp [b, show ¬ c' + 1 ≤ i by omega]
        · have st : evSs ρ ξ κ PS.e_stretches_b2 [.pv (.int (N : Int)), .li (acc.map pD), .pv (.int (c' : Int)), x3] = some (.nx [.pv (.int (N : Int)), .li (acc.map pD), .pv (.int ((c' + 1 : Nat) : Int)), .pv (.int (c' : Int))]) := by
            generalize acc.map pD = Q at *
            simp -implicitDefEqProofs [PS.e_stretches_b2, h5]
          rw [whl_step (by simp [PS.e_stretches_c2, hz]) st, r3]
    · exact ⟨[], c, x3, trivial, fun i => by
        by_cases a : c ≤ i
        · simp [hit, a, shr_zero hz i a]
        · simp [hit, a], by simp, by rw [whl_end (by simp [PS.e_stretches_c2, hz])]; simp⟩
theorem stretches_body {N : Nat} (hN : N < 2 ^ 64) : ∃ l : List (Nat × Nat), outR (evSs ρ ξ κ PS.e_stretches.body (env0 4 [.int (N : Int)])) = some (.li (l.map pD)) ∧ okC 0 l ∧ (∀ i, hit l i = N.testBit i) ∧ l.length ≤ 66 := by
  obtain ⟨l, c2, y3, h1, h2, h4, h3⟩ := outer (ρ := ρ) (ξ := ξ) κ hN 100 0 [] .un (by omega) (by omega) (by simp)
  rw [List.map_nil, List.nil_append] at h3
  have h3 : whlD ρ ξ κ PS.e_stretches_c2 PS.e_stretches_b2 [.pv (.int (N : Int)), .li [], .pv (.int 0), .un] = some (.nx [.pv (.int (N : Int)), .li (l.map pD), .pv (.int (c2 : Int)), y3]) := h3
  refine ⟨l, ?_, h1, fun i => by rw [h2 i]; simp, h4⟩
  generalize l.map pD = L at *
  simp -implicitDefEqProofs [PS.e_stretches, env0, h3]
def StrOk (ρ : Str → List D → Option Rv) : Prop := ∀ {N : Nat}, N < 2 ^ 64 → ∃ l : List (Nat × Nat), ρ "stretches" [.int (N : Int)] = some (.li (l.map pD)) ∧ okC 0 l ∧ (∀ i, hit l i = N.testBit i) ∧ l.length ≤ 66
/-! ### the drawn masks -/
theorem pow_sub (k : Nat) : ((2 ^ k : Nat) : Int) - 1 = ((2 ^ k - 1 : Nat) : Int) := by
  have : 0 < 2 ^ k := Nat.pow_pos (by decide)
  omega
theorem shl_one {k : Nat} (hk : k ≤ 64) : binD .shl (.int 1) (.int (k : Int)) = some (.pv (.int ((2 ^ k : Nat) : Int))) := by
  rw [bin_shl, if_pos (powOk_shl (by simp [Sm]) ⟨by omega, by omega⟩)]
  simp
theorem shl_seg {k b : Nat} (hk : k ≤ 64) (hb : b ≤ 1000) : binD .shl (.int ((2 ^ k - 1 : Nat) : Int)) (.int (b : Int)) = some (.pv (.int (((2 ^ k - 1) <<< b : Nat) : Int))) := by
  have : 2 ^ k ≤ 2 ^ 64 := Nat.pow_le_pow_right (by decide) hk
  have p : 0 < 2 ^ k := Nat.pow_pos (by decide)
  rw [bin_shl, if_pos (powOk_shl (by unfold Sm; omega) ⟨by omega, by omega⟩)]
  rw [Nat.shiftLeft_eq, Int.natCast_mul, Int.natCast_pow, Int.toNat_natCast]
  rfl
theorem mask_body (hd : DrawsOk ρ) (cell : Int) : ∃ N : Nat, outR (evSs ρ ξ κ e_law_mask.body (env0 6 [.int cell])) = some (.pv (.int (N : Int))) ∧ N < 2 ^ 64 := by
  obtain ⟨ds, h1, h2, h3⟩ := hd (c := cell.fdiv 2) (n := 20) (by decide)
  have d2 : divOk 2 = true := divOk_lit (by decide) (by simp [Sm])
  have d3 : divOk 3 = true := divOk_lit (by decide) (by simp [Sm])
  have d5 : divOk 5 = true := divOk_lit (by decide) (by simp [Sm])
  have d9 : divOk 9 = true := divOk_lit (by decide) (by simp [Sm])
  have pw : powOk 1 64 = true := powOk_lit (by decide)
  have pw3 : powOk 1 63 = true := powOk_lit (by decide)
  have k2 : ∀ i, mulOk 2 i = true := fun i => mulOk_l (by simp [Sm])
  obtain ⟨a, b, r, rfl⟩ : ∃ a b r, ds = a :: b :: r := by
    match ds, h2 with
    | a :: b :: r, _ => exact ⟨a, b, r, rfl⟩
  have na := h3 a (by simp)
  have nb := h3 b (by simp)
  simp only [List.map_cons] at h1
  by_cases hc : cell.fmod 2 = 1
  · have f := fmod_nn (cell.fdiv 2) (b := 18446744073709551616) (by decide)
    refine ⟨((cell.fdiv 2).fmod 18446744073709551616).toNat, ?_, by omega⟩
    rw [Int.toNat_of_nonneg f.1]
    simp -implicitDefEqProofs [e_law_mask, env0, d2, h1, hc, pw]
  · by_cases h5 : a.fmod 5 = 1
    · have f6 := fmod_nn b (b := 6) (by decide)
      have nn : ¬ cell.fmod 2 = 1 := hc
      rcases (show b.fmod 6 = 0 ∨ b.fmod 6 = 1 ∨ b.fmod 6 = 2 ∨ b.fmod 6 = 3 ∨ b.fmod 6 = 4 ∨ b.fmod 6 = 5 by omega) with h | h | h | h | h | h
      · exact ⟨0, by simp -implicitDefEqProofs [e_law_mask, env0, d2, d3, h1, hc, h5, pw, pw3, k2, h], by decide⟩
      · exact ⟨18446744073709551615, by simp -implicitDefEqProofs [e_law_mask, env0, d2, d3, h1, hc, h5, pw, pw3, k2, h], by decide⟩
      · exact ⟨1, by simp -implicitDefEqProofs [e_law_mask, env0, d2, d3, h1, hc, h5, pw, pw3, k2, h], by decide⟩
      · exact ⟨9223372036854775808, by simp -implicitDefEqProofs [e_law_mask, env0, d2, d3, h1, hc, h5, pw, pw3, k2, h], by decide⟩
      · exact ⟨6148914691236517205, by simp -implicitDefEqProofs [e_law_mask, env0, d2, d3, h1, hc, h5, pw, pw3, k2, h], by decide⟩
      · have a5 : ∀ x0 x1 x2 x3 x4 x5 : D, atI [x0, x1, x2, x3, x4, x5] 5 = some x5 := fun _ _ _ _ _ _ => by simp [atI, ixN]
        exact ⟨12297829382473034410, by simp -implicitDefEqProofs [e_law_mask, env0, d2, d3, h1, hc, h5, pw, pw3, k2, h, a5], by decide⟩
    · have fa := fmod_nn (a.fdiv 5) (b := 5) (by decide)
      obtain ⟨e', g, B, C, x4, x5, hB, hC, rfl⟩ := loop_inv (ρ := ρ) (ξ := ξ) (κ := κ) (t := .nm 4) (b := e_law_mask_b1) (fun i e => ∃ (B C : Nat) (x4 x5 : Sl), B < 2 ^ 64 ∧ C ≤ 5 + 20 * i ∧ e = [.pv (.int cell), .pv (.lst (.int a :: .int b :: r.map D.int)), .pv (.int (B : Int)), .pv (.int (C : Int)), x4, x5]) ((b :: r).map D.int) 0 [.pv (.int cell), .pv (.lst (.int a :: .int b :: r.map D.int)), .pv (.int 0), .pv (.int ((a.fdiv 5).fmod 5)), .un, .un] ⟨0, ((a.fdiv 5).fmod 5).toNat, .un, .un, by decide, by omega, by rw [Int.toNat_of_nonneg fa.1]; rfl⟩ (fun i d env hdd hi => by
        obtain ⟨B, C, x4, x5, hB, hC, rfl⟩ := hi
        rw [List.getElem?_map] at hdd
        obtain ⟨n, hn, rfl⟩ := Option.map_eq_some_iff.mp hdd
        have hil : i < 20 := by
          have := (List.getElem?_eq_some_iff.mp hn).1
          simp at h2 this; omega
        have nn := h3 n (List.mem_cons_of_mem _ (List.mem_of_getElem? hn))
        have f9 := fmod_nn n (b := 9) (by decide)
        have f6 := fmod_nn (n.fdiv 9) (b := 6) (by decide)
        rw [Nat.zero_add] at hC ⊢
        obtain ⟨L, hL⟩ : ∃ L : Nat, 1 + n.fmod 9 = (L : Int) := ⟨(1 + n.fmod 9).toNat, by omega⟩
        obtain ⟨G, hG⟩ : ∃ G : Nat, (n.fdiv 9).fmod 6 = (G : Int) := ⟨((n.fdiv 9).fmod 6).toNat, by omega⟩
        have L9 : 1 ≤ L ∧ L ≤ 9 := by omega
        have G5 : G ≤ 5 := by omega
        obtain ⟨C2, hC2, eC⟩ : ∃ C2 : Nat, C2 = C + L + 1 + G ∧ (C : Int) + (L : Int) + 1 + (G : Int) = (C2 : Int) := ⟨_, rfl, by omega⟩
        by_cases hlt : C + L < 65
        · have hlt' : (C : Int) + (L : Int) < 65 := by omega
          have sb : (2 ^ L - 1) <<< C < 2 ^ 64 := by
            rw [Nat.shiftLeft_eq]
            have p1 : 0 < 2 ^ L := Nat.pow_pos (by decide)
            have p2 : 0 < 2 ^ C := Nat.pow_pos (by decide)
            have : (2 ^ L - 1) * 2 ^ C < 2 ^ L * 2 ^ C := Nat.mul_lt_mul_of_pos_right (by omega) p2
            rw [← Nat.pow_add] at this
            exact Nat.lt_of_lt_of_le this (Nat.pow_le_pow_right (by decide) (by omega))
          have bo := bitOr_nn B ((2 ^ L - 1) <<< C)
          have s1 := shl_one (k := L) (by omega)
          have s2 := pow_sub L
          have s3 := shl_seg (k := L) (b := C) (by omega) (by omega)
          refine ⟨[.pv (.int cell), .pv (.lst (.int a :: .int b :: r.map D.int)), .pv (.int (B : Int)), .pv (.int (C : Int)), .pv (.int n), x5], [.pv (.int cell), .pv (.lst (.int a :: .int b :: r.map D.int)), .pv (.int ((B ||| (2 ^ L - 1) <<< C : Nat) : Int)), .pv (.int (C2 : Int)), .pv (.int n), .pv (.int (L : Int))], by simp, .inl ?_, _, _, _, _, Nat.or_lt_two_pow hB sb, by omega, rfl⟩
          generalize ((2 ^ L : Nat) : Int) = E1 at *
          generalize ((2 ^ L - 1 : Nat) : Int) = E2 at *
          generalize (2 ^ L - 1) <<< C = E3 at *
          simp -implicitDefEqProofs [-bin_shl, e_law_mask_b1, d9, hL, hG, hlt, hlt', s1, s2, s3, bo, eC]
        · have hlt' : ¬ (C : Int) + (L : Int) < 65 := by omega
          refine ⟨[.pv (.int cell), .pv (.lst (.int a :: .int b :: r.map D.int)), .pv (.int (B : Int)), .pv (.int (C : Int)), .pv (.int n), x5], [.pv (.int cell), .pv (.lst (.int a :: .int b :: r.map D.int)), .pv (.int (B : Int)), .pv (.int (C2 : Int)), .pv (.int n), .pv (.int (L : Int))], by simp, .inl ?_, _, _, _, _, hB, by omega, rfl⟩
          simp -implicitDefEqProofs [e_law_mask_b1, d9, hL, hG, hlt, hlt', eC])
      have cd : cutD (.int a :: .int b :: r.map D.int) (some 1) none = (b :: r).map D.int := by rw [cut_drop _ (by decide)]; rfl
      refine ⟨B, ?_, hB⟩
      generalize (b :: r).map D.int = M1 at *
      generalize r.map D.int = M2 at *
      simp -implicitDefEqProofs [e_law_mask, env0, d2, d5, h1, hc, h5, cd, g]
def MskOk (ρ : Str → List D → Option Rv) : Prop := ∀ cell : Int, ∃ N : Nat, ρ "_law_mask" [.int cell] = some (.pv (.int (N : Int))) ∧ N < 2 ^ 64
/-! ### the law -/
theorem told_loop (x0 x1 x2 : Sl) : ∀ (l : List (Nat × Nat)) (c a : Nat) (x6 : Sl), okC c l → c ≤ 65 → ∃ (z : Int) (y6 : Sl), loopD ρ ξ κ (.nm 6) e_law_b1 (l.map pD) [x0, x1, x2, .hid, .pv (.int (a : Int)), .pv (.int ((c : Int) - 1)), x6] = some (.nx [x0, x1, x2, .hid, .pv (.int ((tell l a : Nat) : Int)), .pv (.int z), y6])
  | [], c, a, x6, _, _ => ⟨_, x6, by simp [tell]; rfl⟩
  | (b, e) :: l, c, a, x6, h, hc => by
    obtain ⟨h1, h2, h3, h4⟩ := h
    simp only at h1 h2 h3 h4
    obtain ⟨z, y6, ih⟩ := told_loop x0 x1 x2 l (e + 1) (a ||| seg b e) (.pv (pD (b, e))) h4 (by omega)
    refine ⟨z, y6, ?_⟩
    have q1 : (c : Int) - 1 < (b : Int) := by omega
    have q2 : (b : Int) < (e : Int) := by omega
    have q3 : (e : Int) ≤ 64 := by omega
    have ek : (e : Int) - (b : Int) = ((e - b : Nat) : Int) := by omega
    have s1 := shl_one (k := e - b) (by omega)
    have s2 := pow_sub (e - b)
    have s3 := shl_seg (k := e - b) (b := b) (by omega) (by omega)
    have bo := bitOr_nn a (seg b e)
    have ec : ((e + 1 : Nat) : Int) - 1 = (e : Int) := by omega
    rw [ec] at ih
    change binD .shl (.int ((2 ^ (e - b) - 1 : Nat) : Int)) (.int (b : Int)) = some (.pv (.int ((seg b e : Nat) : Int))) at s3
    have st : evSs ρ ξ κ e_law_b1 [x0, x1, x2, .hid, .pv (.int (a : Int)), .pv (.int ((c : Int) - 1)), .pv (pD (b, e))] = some (.nx [x0, x1, x2, .hid, .pv (.int ((a ||| seg b e : Nat) : Int)), .pv (.int (e : Int)), .pv (pD (b, e))]) := by
      have i0 : idxD (pD (b, e)) (.int 0) = some (.int (b : Int)) := by simp [pD]
      have i1 : idxD (pD (b, e)) (.int 1) = some (.int (e : Int)) := by simp [pD]
      have ti : isiD (pD (b, e)) "tuple" = true := by simp [pD]
      have ln : biD .len [pD (b, e)] = some (.pv (.int 2)) := by simp [pD]
      generalize pD (b, e) = P at *
      generalize ((2 ^ (e - b) : Nat) : Int) = E1 at *
      generalize ((2 ^ (e - b) - 1 : Nat) : Int) = E2 at *
      generalize seg b e = E3 at *
      simp -implicitDefEqProofs [-bin_shl, e_law_b1, i0, i1, ti, ln, q1, q2, q3, ek, s1, s2, s3, bo]
    rw [List.map_cons, loop_step (by simp) st, ih]
    rfl
theorem cell_ok (hm : MskOk ρ) (hs : StrOk ρ) {S : D} {k cell : Int} (hca : ρ "_law_cell_at" [S, .int k] = some (.pv (.int cell))) (x2 x3 x4 x5 x6 : Sl) :
    ∃ y2 y3 y4 y5 y6, evSs ρ ξ κ e_law_b2 [.pv S, .pv (.int k), x2, x3, x4, x5, x6] = some (.nx [.pv S, .pv (.int k), y2, y3, y4, y5, y6]) := by
  obtain ⟨N, h1, hN⟩ := hm cell
  obtain ⟨l, h2, h3, h4, h5⟩ := hs hN
  obtain ⟨z, y6, lp⟩ := told_loop (ρ := ρ) (ξ := ξ) κ (.pv S) (.pv (.int k)) (.pv (.int (N : Int))) l 0 0 x6 h3 (by omega)
  have te : tell l 0 = N := by
    refine Nat.eq_of_testBit_eq fun i => ?_
    rw [tell_bit l 0 0 i h3, h4 i]; simp
  rw [te] at lp
  have e1 : ((0 : Nat) : Int) - 1 = -1 := rfl
  rw [e1] at lp
  have lp : loopD ρ ξ κ (.nm 6) e_law_b1 (l.map pD) [.pv S, .pv (.int k), .pv (.int (N : Int)), .hid, .pv (.int 0), .pv (.int (-1)), x6] = _ := lp
  have lt : (l.map pD).length < 16777216 := by rw [List.length_map]; omega
  refine ⟨.pv (.int (N : Int)), .li (l.map pD ++ [.tup [.int 0, .int 1]]), .pv (.int (N : Int)), .pv (.int z), y6, ?_⟩
  generalize l.map pD = L at *
  simp -implicitDefEqProofs [e_law_b2, hca, h1, h2, lp, lt, unhid, isHid]
theorem law_body (hca : CellAtOk ρ) (hm : MskOk ρ) (hs : StrOk ρ) (ns : List Int) : outR (evSs ρ ξ κ e_law.body (env0 7 [.flst (ns.map D.int)])) = some (.pv (.bl true)) := by
  have ca := fun k : Nat => hca ns k
  have c8 : cutD (ns.map D.int) none (some 8) = (ns.take 8).map D.int := by rw [cut_map, cut_take _ (by decide)]; rfl
  have l8 : ((ns.take 8).map D.int).length ≤ 8 := by rw [List.length_map, List.length_take]; omega
  generalize (ns.take 8).map D.int = T at *
  generalize ns.map D.int = S at *
  obtain ⟨m, hm8, m8⟩ : ∃ m : Nat, (if (T.length : Int) > 1 then (T.length : Int) else 1) = (m : Int) ∧ m ≤ 8 := by
    by_cases h : (T.length : Int) > 1
    · exact ⟨T.length, by rw [if_pos h], l8⟩
    · exact ⟨1, by rw [if_neg h]; rfl, by decide⟩
  have bm : biD .max [.int 1, .int (T.length : Int)] = some (.pv (.int (m : Int))) := by rw [bi_max2, hm8]
  obtain ⟨e', g, x1, x2, x3, x4, x5, x6, rfl⟩ := loop_all (ρ := ρ) (ξ := ξ) (κ := κ) (t := .nm 1) (b := e_law_b2) (fun e => ∃ x1 x2 x3 x4 x5 x6 : Sl, e = [.pv (.flst S), x1, x2, x3, x4, x5, x6]) (ds := rngD 0 m) (env := [.pv (.flst S), .un, .un, .un, .un, .un, .un]) ⟨_, _, _, _, _, _, rfl⟩ (fun d env hd hi => by
    obtain ⟨x1, x2, x3, x4, x5, x6, rfl⟩ := hi
    obtain ⟨k, hk, rfl⟩ := mem_rng0 hd
    obtain ⟨y2, y3, y4, y5, y6, st⟩ := cell_ok (ρ := ρ) (ξ := ξ) κ hm hs (ca k) x2 x3 x4 x5 x6
    exact ⟨[.pv (.flst S), .pv (.int (k : Int)), x2, x3, x4, x5, x6], _, by simp, .inl st, _, _, _, _, _, _, rfl⟩)
  have im : inRg (m : Int) = true := inRg_nn (by omega) (by omega)
  simp -implicitDefEqProofs [-bi_max2, e_law, env0, c8, bm, im, g]
end
theorem law_true : ∀ ns : List Int, ns.length ≤ 63 → callF tb κ 10 "law" [.flst (ns.map D.int)] = some (.pv (.bl true)) := by
  intro ns hl
  have M : ∀ d, MixOk (callF tb κ (d + 1)) := fun d => mixOk_call (e := PS.e_law_mixed) (by rfl) (.inl rfl) d
  have CA : ∀ d, CellAtOk (callF tb κ (d + 1)) := fun d => cellAtOk_call (by rfl)
  have DR : ∀ d, DrawsOk (callF tb κ (d + 2)) := fun d => drawsOk_call (by rfl) (M d)
  have MS : ∀ d, MskOk (callF tb κ (d + 3)) := fun d c => by
    obtain ⟨N, e, g⟩ := mask_body (ρ := callF tb κ (d + 2)) (ξ := callX tb κ (d + 2)) κ (DR d) c
    exact ⟨N, (callH (e := e_law_mask) (by rfl) (d + 2) [.int c] rfl).trans e, g⟩
  have ST : ∀ d, StrOk (callF tb κ (d + 1)) := fun d {N} hN => by
    obtain ⟨l, e, g⟩ := stretches_body (ρ := callF tb κ d) (ξ := callX tb κ d) κ hN
    exact ⟨l, (callH (e := PS.e_stretches) (by rfl) d [.int N] rfl).trans e, g⟩
  exact (callH (e := e_law) (by rfl) 9 [.flst (ns.map D.int)] rfl).trans (law_body κ (CA 8) (MS 6) (ST 8) ns)
end PLx

namespace PLx
open PySem PySem.Spec PyProof.Rows L2 PL
def θ0 : Str → Addr := fun _ => 0
def γ0 : Str → V := fun x => .non
theorem hκ {K : PySem.W.Frag}   : KOk K κ (γ0 ) := by
  intro x d h F
  unfold κ at h
  unfold γ0
  cases h
def topS (i : Nat) : Stmt := PySem.Challenge.pw_sampleyard_k23_stretches.main.body.getD i (.Pass ⟨0, 0, 0, 0⟩)
theorem ok_e_stretches : okDe tab PS.e_stretches (topS 1) = true := by decide +kernel
theorem ok_e_law_cell_at : okDe tab PS.e_law_cell_at (topS 3) = true := by decide +kernel
theorem ok_e_law_mixed : okDe tab PS.e_law_mixed (topS 4) = true := by decide +kernel
theorem ok_e_law_draws : okDe tab PS.e_law_draws (topS 5) = true := by decide +kernel
theorem ok_e_law_mask : okDe tab e_law_mask (topS 6) = true := by decide +kernel
theorem ok_e_law : okDe tab e_law (topS 7) = true := by decide +kernel
theorem all_mk {P : Program} {w : World} {K : PySem.W.Frag} {h : Heap} {mg : Str → Option Value} {fa : Addr} (X : K.In h) (G : h.Ns mainGlobals mg) (hfa : mg "law" = some (.ref fa))
    {f0 : Addr} {od0 an0 : Option Addr} {sl0 : Array (Option Value)} {oc0 kV0 dc0 pm0 cd0 ct0 : Value}
    {f1 : Addr} {od1 an1 : Option Addr} {sl1 : Array (Option Value)} {oc1 kV1 dc1 pm1 cd1 ct1 : Value}
    {f2 : Addr} {od2 an2 : Option Addr} {sl2 : Array (Option Value)} {oc2 kV2 dc2 pm2 cd2 ct2 : Value}
    {f3 : Addr} {od3 an3 : Option Addr} {sl3 : Array (Option Value)} {oc3 kV3 dc3 pm3 cd3 ct3 : Value}
    {f4 : Addr} {od4 an4 : Option Addr} {sl4 : Array (Option Value)} {oc4 kV4 dc4 pm4 cd4 ct4 : Value}
    {f5 : Addr} {od5 an5 : Option Addr} {sl5 : Array (Option Value)} {oc5 kV5 dc5 pm5 cd5 ct5 : Value}
    (a0 : PySem.W.nsIn K mainGlobals "stretches" = some (some (.ref f0))) (l0 : K.lookup f0 = some ⟨oc0, od0, .func (PySem.W.fnOf "stretches" "stretches" (defArgs (topS 1)) (defBody (topS 1)) (defScope (topS 1)) .none kV0 dc0 pm0 an0 cd0 ct0), sl0⟩) (c0 : PySem.W.codeIn K cd0 "stretches" = true) (k0 : PySem.W.keepIn K (.ref f0) = true)
    (a1 : PySem.W.nsIn K mainGlobals "_law_cell_at" = some (some (.ref f1))) (l1 : K.lookup f1 = some ⟨oc1, od1, .func (PySem.W.fnOf "_law_cell_at" "_law_cell_at" (defArgs (topS 3)) (defBody (topS 3)) (defScope (topS 3)) .none kV1 dc1 pm1 an1 cd1 ct1), sl1⟩) (c1 : PySem.W.codeIn K cd1 "_law_cell_at" = true) (k1 : PySem.W.keepIn K (.ref f1) = true)
    (a2 : PySem.W.nsIn K mainGlobals "_law_mixed" = some (some (.ref f2))) (l2 : K.lookup f2 = some ⟨oc2, od2, .func (PySem.W.fnOf "_law_mixed" "_law_mixed" (defArgs (topS 4)) (defBody (topS 4)) (defScope (topS 4)) .none kV2 dc2 pm2 an2 cd2 ct2), sl2⟩) (c2 : PySem.W.codeIn K cd2 "_law_mixed" = true) (k2 : PySem.W.keepIn K (.ref f2) = true)
    (a3 : PySem.W.nsIn K mainGlobals "_law_draws" = some (some (.ref f3))) (l3 : K.lookup f3 = some ⟨oc3, od3, .func (PySem.W.fnOf "_law_draws" "_law_draws" (defArgs (topS 5)) (defBody (topS 5)) (defScope (topS 5)) .none kV3 dc3 pm3 an3 cd3 ct3), sl3⟩) (c3 : PySem.W.codeIn K cd3 "_law_draws" = true) (k3 : PySem.W.keepIn K (.ref f3) = true)
    (a4 : PySem.W.nsIn K mainGlobals "_law_mask" = some (some (.ref f4))) (l4 : K.lookup f4 = some ⟨oc4, od4, .func (PySem.W.fnOf "_law_mask" "_law_mask" (defArgs (topS 6)) (defBody (topS 6)) (defScope (topS 6)) .none kV4 dc4 pm4 an4 cd4 ct4), sl4⟩) (c4 : PySem.W.codeIn K cd4 "_law_mask" = true) (k4 : PySem.W.keepIn K (.ref f4) = true)
    (a5 : PySem.W.nsIn K mainGlobals "law" = some (some (.ref f5))) (l5 : K.lookup f5 = some ⟨oc5, od5, .func (PySem.W.fnOf "law" "law" (defArgs (topS 7)) (defBody (topS 7)) (defScope (topS 7)) .none kV5 dc5 pm5 an5 cd5 ct5), sl5⟩) (c5 : PySem.W.codeIn K cd5 "law" = true) (k5 : PySem.W.keepIn K (.ref f5) = true)
    (z0 : PySem.W.nsIn K mainGlobals "isinstance" = some none)
    (z1 : PySem.W.nsIn K mainGlobals "len" = some none)
    (z2 : PySem.W.nsIn K mainGlobals "list" = some none)
    (z3 : PySem.W.nsIn K mainGlobals "max" = some none)
    (z4 : PySem.W.nsIn K mainGlobals "range" = some none)
    (z5 : PySem.W.nsIn K mainGlobals "tuple" = some none)
    : ∃ fd : FuncData, (∀ (s : Shared) (v : Value), BindsTo s fd ⟨[v], []⟩ [("_law_script", v)]) ∧ ∀ base : Heap, K.In base → base.Ns mainGlobals mg → FnOk P w K mg base CX0 10 fa fd ["_law_script"] (spL K (callF tb κ 10) "law") := by
  have e := hfa.symm.trans (PySem.W.mg_of X G a5)
  cases e
  have hb : ∀ x, x ∈ tab.bns → mg x = none := by
    intro x hx
    have hx : x ∈ (["isinstance", "len", "list", "max", "range", "tuple"] : List Str) := hx
    simp only [List.mem_cons, List.not_mem_nil, or_false] at hx
    rcases hx with rfl | rfl | rfl | rfl | rfl | rfl
    · exact PySem.W.mg_none_of X G z0
    · exact PySem.W.mg_none_of X G z1
    · exact PySem.W.mg_none_of X G z2
    · exact PySem.W.mg_none_of X G z3
    · exact PySem.W.mg_none_of X G z4
    · exact PySem.W.mg_none_of X G z5
  have hgl : ∀ x, x ∈ tab.gls → ∃ u, mg x = some u ∧ RelV (γ0  x) u := by
    intro x hx; cases hx
  have hw : ∀ e, e ∈ tb → ∃ st a fd, Fun K e.nm e.nm st a fd ∧ mg e.nm = some (.ref a) ∧ Binds K fd e.ps [] ∧ okDe tab e st = true := by
    intro e he
    have he : e ∈ ([PS.e_stretches, PS.e_law_cell_at, PS.e_law_mixed, PS.e_law_draws, e_law_mask, e_law] : List De) := he
    simp only [List.mem_cons, List.not_mem_nil, or_false] at he
    rcases he with rfl | rfl | rfl | rfl | rfl | rfl
    · have F := fun_mk (st := topS 1) l0 c0 k0
      exact ⟨topS 1, _, _, F, PySem.W.mg_of X G a0, F.binds (ps := PS.e_stretches.ps) fun _ _ _ _ _ _ us hl => match us, hl with | [_], _ => rfl, ok_e_stretches⟩
    · have F := fun_mk (st := topS 3) l1 c1 k1
      exact ⟨topS 3, _, _, F, PySem.W.mg_of X G a1, F.binds (ps := PS.e_law_cell_at.ps) fun _ _ _ _ _ _ us hl => match us, hl with | [_, _], _ => rfl, ok_e_law_cell_at⟩
    · have F := fun_mk (st := topS 4) l2 c2 k2
      exact ⟨topS 4, _, _, F, PySem.W.mg_of X G a2, F.binds (ps := PS.e_law_mixed.ps) fun _ _ _ _ _ _ us hl => match us, hl with | [_, _], _ => rfl, ok_e_law_mixed⟩
    · have F := fun_mk (st := topS 5) l3 c3 k3
      exact ⟨topS 5, _, _, F, PySem.W.mg_of X G a3, F.binds (ps := PS.e_law_draws.ps) fun _ _ _ _ _ _ us hl => match us, hl with | [_, _], _ => rfl, ok_e_law_draws⟩
    · have F := fun_mk (st := topS 6) l4 c4 k4
      exact ⟨topS 6, _, _, F, PySem.W.mg_of X G a4, F.binds (ps := e_law_mask.ps) fun _ _ _ _ _ _ us hl => match us, hl with | [_], _ => rfl, ok_e_law_mask⟩
    · have F := fun_mk (st := topS 7) l5 c5 k5
      exact ⟨topS 7, _, _, F, PySem.W.mg_of X G a5, F.binds (ps := e_law.ps) fun _ _ _ _ _ _ us hl => match us, hl with | [_], _ => rfl, ok_e_law⟩
  have hxr : ∀ c, c ∈ tab.xcs → mg c = some (.ref ((θ0) c)) ∧ PySem.W.keepIn K (.ref ((θ0) c)) = true ∧ PySem.W.excIn K ((θ0) c) [.type "ValueError", .type "Exception", .type "BaseException", .type "object"] "ValueError.__new__" = true ∧ PySem.W.subIn K (.ref ((θ0) c)) (.type "BaseException") = some true ∧ PySem.W.typeIn K (.ref ((θ0) c)) = some (.type "type") := by
    intro c hc
    have hc : c ∈ ([] : List Str) := hc
    cases hc
  have hxn : ∀ t, t ∈ tab.xts → (t = "ValueError" ∧ mg t = none) ∨ (t ≠ "ValueError" ∧ mg t = some (.ref ((θ0) t))) := by
    intro c hc
    have hc : c ∈ ([] : List Str) := hc
    cases hc
  have hxo : XtOk K ⟨θ0, tab.xcs, tab.xts⟩ := ⟨(by intro c hc t ht; cases ht), (by intro c hc t ht; cases ht), (by intro c hc t ht hv; cases ht)⟩
  refine ⟨PySem.W.fnOf "law" "law" (defArgs (topS 7)) (defBody (topS 7)) (defScope (topS 7)) .none kV5 dc5 pm5 an5 cd5 ct5, fun s v => .of_eq rfl, fun base _ _ => ?_⟩
  have G0 := gb_all (P := P) (w := w) (base := base) (γ := γ0 ) (Ξ := ⟨θ0, tab.xcs, tab.xts⟩) (hκ ) (Γ := tab) rfl (by decide +kernel) hw hb hgl hxr hxn hxo ⟨rfl, rfl⟩ 9
  exact fn_ok0 (e := e_law) (st := topS 7) (hκ ) (fun_mk l5 c5 k5) ok_e_law G0 (by rfl)
end PLx
open PySem PySem.W PyProof.Rows
set_option maxRecDepth 100000 in
set_option maxHeartbeats 0 in
theorem PySem.Challenge.cw_sampleyard_k23_stretches_holds : PySem.Challenge.rw_sampleyard_k23_stretches.Holds := by
  w_on; o_law; k_head; (case hw => w_witness2)
  k_fill
  refine L2.walk_ofK (l := PySem.Challenge.rw_sampleyard_k23_stretches) (n := 63) (k := 10) (x := "_law_script") (CX := L2.CX0) (sp := fun K => PL.spL K (PL.callF PLx.tb PLx.κ 10) "law") rfl (by decide) rfl ⟨rfl, by decide, by decide⟩ (fun w h Y => PySem.W.kIn_of Y) ?F (fun K H a ns hl _ hS => PL.law_sp PLx.law_true K H a ns hl hS) (fun _ _ _ _ h => h)
  case F =>
    intro w mg fa h KX G hmg
    refine' PLx.all_mk KX G hmg ?a0 ?l0 ?c0 ?k0 ?a1 ?l1 ?c1 ?k1 ?a2 ?l2 ?c2 ?k2 ?a3 ?l3 ?c3 ?k3 ?a4 ?l4 ?c4 ?k4 ?a5 ?l5 ?c5 ?k5 ?z0 ?z1 ?z2 ?z3 ?z4 ?z5
    (case a0 => k_is); (case l0 => k_is); (case c0 => k_is); (case k0 => k_is); (case a1 => k_is); (case l1 => k_is); (case c1 => k_is); (case k1 => k_is); (case a2 => k_is); (case l2 => k_is); (case c2 => k_is); (case k2 => k_is); (case a3 => k_is); (case l3 => k_is); (case c3 => k_is); (case k3 => k_is); (case a4 => k_is); (case l4 => k_is); (case c4 => k_is); (case k4 => k_is); (case a5 => k_is); (case l5 => k_is); (case c5 => k_is); (case k5 => k_is); (case z0 => k_is); (case z1 => k_is); (case z2 => k_is); (case z3 => k_is); (case z4 => k_is); (case z5 => k_is)
