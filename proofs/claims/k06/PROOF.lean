import PyProof.Rows.All
import Wide.All
import OpenK.AllK
import Wide.FinOn
import PyProof.EqAt
import PyProof.EqKinds
import PyProof.TupleCall
import HandS.ForMost
import HandS.Deep
import HandS.TupLen
import HandS.Conv
import HandS.More
import HandS.IsInst
import KE.SortData
import PySem.Challenge.RW_pickhouse_k06_bounds
set_option Elab.async false
set_option linter.all false
set_option maxRecDepth 100000
set_option maxHeartbeats 4000000
/-! DL0: data in the slots; what an expression gives, by data -/
namespace DL
open PySem PySem.Spec PyProof.Rows L2
variable {K : PySem.W.Frag}

abbrev D := PyData
def li (l : List Int) : D := .list (l.map .int)
def lli (ls : List (List Int)) : D := .list (ls.map li)
def tI (l : List Int) : D := .tuple (l.map .int)
def kd (ks : List (List Int)) : D := .dict (ks.map fun k => (tI k, .bool true))
/-- the script -/
def scrD (ns : List Int) : D := .dict [(.none, li ns)]
def kdL (ks : List (List Int)) : List (List Key × V) := ks.map fun k => (k.map Sum.inl, V.bl true)

/-! ### what a value stands for -/
mutual
inductive Rep (K : PySem.W.Frag) (H : Hp) : V → D → Prop
  | non : Rep K H .non .none
  | bl (b : Bool) : Rep K H (.bl b) (.bool b)
  | int (i : Int) : Rep K H (.int i) (.int i)
  | str (x : Str) : Rep K H (.str x) (.str x)
  | lst {a : Addr} {xs : List V} {ds : List D} : H a = some (.lst xs) → RepAll K H xs ds → Rep K H (.ref a) (.list ds)
  | tup {a : Addr} {xs : List V} {ds : List D} : H a = some (.tup xs) → RepAll K H xs ds → Rep K H (.ref a) (.tuple ds)
  | dct {a : Addr} {ks : List (List Int)} {d : D} : d = kd ks → H a = some (.dT (kdL ks)) → Rep K H (.ref a) d
  | scr {a : Addr} {ns : List Int} {d : D} : d = scrD ns → SqL K H a (ns.map V.int) → Rep K H (.ref a) d
inductive RepAll (K : PySem.W.Frag) (H : Hp) : List V → List D → Prop
  | nil : RepAll K H [] []
  | cons {v : V} {vs : List V} {d : D} {ds : List D} : Rep K H v d → RepAll K H vs ds → RepAll K H (v :: vs) (d :: ds)
end

mutual
theorem Rep.mono {H H' : Hp} (e : Same H H') : ∀ {v : V} {d : D}, Rep K H v d → Rep K H' v d
  | _, _, .non => .non
  | _, _, .bl b => .bl b
  | _, _, .int i => .int i
  | _, _, .str x => .str x
  | _, _, .lst h r => .lst (e _ _ h) (RepAll.mono e r)
  | _, _, .tup h r => .tup (e _ _ h) (RepAll.mono e r)
  | _, _, .dct q h => .dct q (e _ _ h)
  | _, _, .scr q h => .scr q (e.seq h)
theorem RepAll.mono {H H' : Hp} (e : Same H H') : ∀ {vs : List V} {ds : List D}, RepAll K H vs ds → RepAll K H' vs ds
  | _, _, .nil => .nil
  | _, _, .cons h r => .cons (Rep.mono e h) (RepAll.mono e r)
end
theorem RepAll.length {H : Hp} : ∀ {vs : List V} {ds : List D}, RepAll K H vs ds → vs.length = ds.length
  | _, _, .nil => rfl
  | _, _, .cons _ r => by simp [RepAll.length r]
theorem RepAll.get {H : Hp} : ∀ {vs : List V} {ds : List D} {i : Nat} {v : V}, RepAll K H vs ds → vs[i]? = some v → ∃ d, ds[i]? = some d ∧ Rep K H v d
  | _, _, _, _, .nil, e => by simp at e
  | _, _, 0, _, .cons h _, e => by simp at e; subst e; exact ⟨_, rfl, h⟩
  | _, _, i + 1, _, .cons _ r, e => by
    obtain ⟨d, h1, h2⟩ := RepAll.get (i := i) r (by simpa using e)
    exact ⟨d, by simpa using h1, h2⟩
theorem RepAll.get' {H : Hp} : ∀ {vs : List V} {ds : List D} {i : Nat} {d : D}, RepAll K H vs ds → ds[i]? = some d → ∃ v, vs[i]? = some v ∧ Rep K H v d
  | _, _, _, _, .nil, e => by simp at e
  | _, _, 0, _, .cons h _, e => by simp at e; subst e; exact ⟨_, rfl, h⟩
  | _, _, i + 1, _, .cons _ r, e => by
    obtain ⟨d, h1, h2⟩ := RepAll.get' (i := i) r (by simpa using e)
    exact ⟨d, by simpa using h1, h2⟩
theorem RepAll.append {H : Hp} : ∀ {vs ws : List V} {ds es : List D}, RepAll K H vs ds → RepAll K H ws es → RepAll K H (vs ++ ws) (ds ++ es)
  | _, _, _, _, .nil, s => s
  | _, _, _, _, .cons h r, s => .cons h (RepAll.append r s)
theorem RepAll.take {H : Hp} : ∀ {vs : List V} {ds : List D} (n : Nat), RepAll K H vs ds → RepAll K H (vs.take n) (ds.take n)
  | _, _, 0, _ => .nil
  | _, _, _ + 1, .nil => .nil
  | _, _, n + 1, .cons h r => .cons h (RepAll.take n r)
theorem RepAll.drop {H : Hp} : ∀ {vs : List V} {ds : List D} (n : Nat), RepAll K H vs ds → RepAll K H (vs.drop n) (ds.drop n)
  | _, _, 0, r => r
  | _, _, _ + 1, .nil => .nil
  | _, _, n + 1, .cons _ r => RepAll.drop n r
theorem RepAll.reverse {H : Hp} : ∀ {vs : List V} {ds : List D}, RepAll K H vs ds → RepAll K H vs.reverse ds.reverse
  | _, _, .nil => .nil
  | _, _, .cons h r => by
    rw [List.reverse_cons, List.reverse_cons]
    exact RepAll.append (RepAll.reverse r) (.cons h .nil)
theorem RepAll.ints {H : Hp} : ∀ {vs : List V} {l : List Int}, RepAll K H vs (l.map .int) → vs = l.map V.int
  | _, [], h => by
    have h' : RepAll K H _ [] := h
    cases h'
    rfl
  | _, x :: l, h => by
    have h' : RepAll K H _ (PyData.int x :: l.map .int) := h
    cases h' with
    | cons r t =>
      cases r with
      | int => rw [RepAll.ints t]; rfl
      | dct q _ => cases q
      | scr q _ => cases q
theorem RepAll.of_ints {H : Hp} : ∀ l : List Int, RepAll K H (l.map V.int) (l.map .int)
  | [] => .nil
  | x :: l => .cons (.int x) (RepAll.of_ints l)
theorem RepAll.strs {H : Hp} : ∀ {vs : List V} {l : List Str}, RepAll K H vs (l.map .str) → vs = l.map V.str
  | _, [], h => by
    have h' : RepAll K H _ [] := h
    cases h'
    rfl
  | _, x :: l, h => by
    have h' : RepAll K H _ (PyData.str x :: l.map .str) := h
    cases h' with
    | cons r t =>
      cases r with
      | str => rw [RepAll.strs t]; rfl
      | dct q _ => cases q
      | scr q _ => cases q
theorem RepAll.of_strs {H : Hp} : ∀ l : List Str, RepAll K H (l.map V.str) (l.map .str)
  | [] => .nil
  | x :: l => .cons (.str x) (RepAll.of_strs l)
theorem RepAll.bls {H : Hp} : ∀ {vs : List V} {l : List Bool}, RepAll K H vs (l.map .bool) → vs = l.map V.bl
  | _, [], h => by
    have h' : RepAll K H _ [] := h
    cases h'
    rfl
  | _, x :: l, h => by
    have h' : RepAll K H _ (PyData.bool x :: l.map .bool) := h
    cases h' with
    | cons r t =>
      cases r with
      | bl => rw [RepAll.bls t]; rfl
      | dct q _ => cases q
      | scr q _ => cases q
theorem Rep.to_int {H : Hp} {v : V} {i : Int} (h : Rep K H v (.int i)) : v = .int i := by
  cases h with
  | int => rfl
  | dct q _ => cases q
  | scr q _ => cases q
theorem Rep.to_bl {H : Hp} {v : V} {b : Bool} (h : Rep K H v (.bool b)) : v = .bl b := by
  cases h with
  | bl => rfl
  | dct q _ => cases q
  | scr q _ => cases q
theorem Rep.to_str {H : Hp} {v : V} {x : Str} (h : Rep K H v (.str x)) : v = .str x := by
  cases h with
  | str => rfl
  | dct q _ => cases q
  | scr q _ => cases q
theorem Rep.to_non {H : Hp} {v : V} (h : Rep K H v .none) : v = .non := by
  cases h with
  | non => rfl
  | dct q _ => cases q
  | scr q _ => cases q
theorem Rep.to_lst {H : Hp} {v : V} {ds : List D} (h : Rep K H v (.list ds)) : ∃ a xs, v = .ref a ∧ H a = some (.lst xs) ∧ RepAll K H xs ds := by
  cases h with
  | lst h r => exact ⟨_, _, rfl, h, r⟩
  | dct q _ => cases q
  | scr q _ => cases q
theorem Rep.to_tup {H : Hp} {v : V} {ds : List D} (h : Rep K H v (.tuple ds)) : ∃ a xs, v = .ref a ∧ H a = some (.tup xs) ∧ RepAll K H xs ds := by
  cases h with
  | tup h r => exact ⟨_, _, rfl, h, r⟩
  | dct q _ => cases q
  | scr q _ => cases q
theorem map_int_inj : ∀ {k k' : List Int}, k.map PyData.int = k'.map PyData.int → k = k'
  | [], [], _ => rfl
  | [], _ :: _, h => by cases h
  | _ :: _, [], h => by cases h
  | x :: k, y :: k', h => by
    rw [List.map_cons, List.map_cons] at h
    injection h with h1 h2
    injection h1 with h1
    rw [h1, map_int_inj h2]
theorem tI_inj {k k' : List Int} (h : tI k = tI k') : k = k' := by
  unfold tI at h
  injection h with h
  exact map_int_inj h
theorem li_inj {k k' : List Int} (h : li k = li k') : k = k' := by
  unfold li at h
  injection h with h
  exact map_int_inj h
theorem kd_inj : ∀ {ks ks' : List (List Int)}, kd ks = kd ks' → ks = ks'
  | ks, ks', h => by
    unfold kd at h
    injection h with h
    induction ks generalizing ks' with
    | nil => cases ks' with
      | nil => rfl
      | cons _ _ => cases h
    | cons x k ih => cases ks' with
      | nil => cases h
      | cons y k' =>
        rw [List.map_cons, List.map_cons] at h
        injection h with h1 h2
        injection h1 with h1
        rw [tI_inj h1, ih _ h2]
theorem kd_scr {ks : List (List Int)} {ns : List Int} (h : kd ks = scrD ns) : False := by
  unfold kd scrD at h
  injection h with h
  cases ks with
  | nil => cases h
  | cons k r =>
    rw [List.map_cons] at h
    injection h with h _
    injection h with h _
    cases h
theorem Rep.to_kd {H : Hp} {v : V} {ks : List (List Int)} (h : Rep K H v (kd ks)) : ∃ a, v = .ref a ∧ H a = some (.dT (kdL ks)) := by
  generalize hd : kd ks = d at h
  cases h with
  | dct q h => rw [← hd] at q; rw [kd_inj q]; exact ⟨_, rfl, h⟩
  | scr q h => rw [← hd] at q; exact (kd_scr q).elim
  | _ => cases hd
theorem Rep.to_scr {H : Hp} {v : V} {ns : List Int} (h : Rep K H v (scrD ns)) : ∃ a, v = .ref a ∧ SqL K H a (ns.map V.int) := by
  generalize hd : scrD ns = d at h
  cases h with
  | dct q h => rw [← hd] at q; exact (kd_scr q.symm).elim
  | @scr a ms _ q h =>
    rw [← hd] at q
    unfold scrD at q
    injection q with q
    injection q with q _
    injection q with _ q
    have e : ns = ms := li_inj q
    rw [e]
    exact ⟨_, rfl, h⟩
  | _ => cases hd
/-! data without dicts, for the layer's own reading -/
mutual
theorem Rep.dp {K : PySem.W.Frag} {H : Hp} : ∀ {v : V} {d : D}, Rep K H v d → d.canLay0 = true → Dp K H v d
  | _, _, .non, _ => .non
  | _, _, .bl b, _ => .bl b
  | _, _, .int i, _ => .int i
  | _, _, .str x, _ => .str x
  | _, _, .lst h r, c => .lst (SqL.of h) (RepAll.dp r (by simpa [PyData.canLay0] using c))
  | _, _, .tup h r, c => .tup (SqT.of h) (RepAll.dp r (by simpa [PyData.canLay0] using c))
  | _, _, .dct q h, c => by subst q; unfold kd at c; simp [PyData.canLay0] at c
  | _, _, .scr q h, c => by subst q; unfold scrD at c; simp [PyData.canLay0] at c
theorem RepAll.dp {K : PySem.W.Frag} {H : Hp} : ∀ {vs : List V} {ds : List D}, RepAll K H vs ds → PyData.canLayAll0 ds = true → DpAll K H vs ds
  | _, _, .nil, _ => .nil
  | _, _, .cons h r, c => by
    have c' := c
    simp only [PyData.canLayAll0, Bool.and_eq_true] at c'
    exact .cons (Rep.dp h c'.1) (RepAll.dp r c'.2)
end

/-! ### views of the heap -/
/-- from (G, H) to (G', H'): all stays; the view takes in new things alone -/
structure Grow (G H G' H' : Hp) : Prop where
  h : Same H H'
  s : Same G' H'
  g : Same G G'
  o : ∀ a, H a ≠ none → G' a = G a
theorem Grow.refl {G H : Hp} (s : Same G H) : Grow G H G H := ⟨Same.refl _, s, Same.refl _, fun _ _ => rfl⟩
theorem Grow.trans {G H G1 H1 G2 H2 : Hp} (a : Grow G H G1 H1) (b : Grow G1 H1 G2 H2) : Grow G H G2 H2 :=
  ⟨a.h.trans b.h, b.s, a.g.trans b.g, fun x hx => by
    have : H1 x ≠ none := by
      cases e : H x with
      | none => exact absurd e hx
      | some o => rw [a.h x o e]; intro z; cases z
    rw [b.o x this, a.o x hx]⟩
theorem same_none {H H' : Hp} (e : Same H H') {a : Addr} (h : H' a = none) : H a = none := e.free h
/-- what is new is taken into the view -/
theorem Grow.new {G H : Hp} (s : Same G H) {p : Addr} {o : HO} (n : H p = none) : Grow G H (upd G p o) (upd H p o) := by
  refine ⟨fun b u e => ?_, fun b u e => ?_, fun b u e => ?_, fun b hb => ?_⟩
  · rw [upd_ne (ne_of_none e n)]; exact e
  · by_cases q : b = p
    · subst q; rw [upd_same] at e ⊢; exact e
    · rw [upd_ne q] at e ⊢; exact s b u e
  · rw [upd_ne (ne_of_none (s b u e) n)]; exact e
  · have : b ≠ p := fun q => hb (q ▸ n)
    rw [upd_ne this]
/-- .. or it is not -/
theorem Grow.hid {G H : Hp} (s : Same G H) {p : Addr} {o : HO} (n : H p = none) : Grow G H G (upd H p o) := by
  refine ⟨fun b u e => ?_, fun b u e => ?_, Same.refl _, fun b hb => rfl⟩
  · rw [upd_ne (ne_of_none e n)]; exact e
  · rw [upd_ne (ne_of_none (s b u e) n)]; exact s b u e

/-! ### slots -/
/-- what a slot holds: nothing known; a datum that stays; a list or dict of one's own (its items stay); a list of lists, all one's own -/
inductive Sl where
  | em
  | v (d : D)
  | o (d : D)
  | t (ls : List (List Int))
abbrev VEnv := List (Option D)
abbrev SEnv := List Sl
def VOk (K : PySem.W.Frag) (G : Hp) (σ : L2.St) (ρ : VEnv) : Prop := ∀ (i : Nat) (o : Option D), ρ[i]? = some o → ∃ w, σ[i]? = some w ∧ ∀ d, o = some d → ∃ v, w = some v ∧ Rep K G v d
theorem VOk.mono {G G' : Hp} {σ : L2.St} {ρ : VEnv} (e : Same G G') (h : VOk K G σ ρ) : VOk K G' σ ρ := fun i d q => by
  obtain ⟨w, h1, h2⟩ := h i d q
  refine ⟨w, h1, fun d z => ?_⟩
  obtain ⟨v, h3, h4⟩ := h2 d z
  exact ⟨v, h3, h4.mono e⟩
theorem VOk.get {G : Hp} {σ : L2.St} {ρ : VEnv} {i : Nat} {d : D} (h : VOk K G σ ρ) (e : ρ[i]? = some (some d)) : ∃ v, σ[i]? = some (some v) ∧ Rep K G v d := by
  obtain ⟨w, h1, h2⟩ := h i _ e
  obtain ⟨v, h3, h4⟩ := h2 d rfl
  exact ⟨v, by rw [h1, h3], h4⟩
def OwnIs (K : PySem.W.Frag) (G : Hp) (h : HO) (d : D) : Prop := (∃ xs ds, h = .lst xs ∧ d = .list ds ∧ RepAll K G xs ds) ∨ ∃ ks, h = .dT (kdL ks) ∧ d = kd ks
theorem OwnIs.mono {G G' : Hp} (e : Same G G') {h : HO} {d : D} (x : OwnIs K G h d) : OwnIs K G' h d := by
  rcases x with ⟨xs, ds, h1, h2, h3⟩ | x
  · exact .inl ⟨xs, ds, h1, h2, h3.mono e⟩
  · exact .inr x
def SlOk (K : PySem.W.Frag) (G H : Hp) (P : Addr → Prop) (o : Option V) : Sl → Prop
  | .em => True
  | .v d => ∃ v, o = some v ∧ Rep K G v d
  | .o d => ∃ p h, o = some (.ref p) ∧ P p ∧ H p = some h ∧ OwnIs K G h d
  | .t ls => ∃ p qs, o = some (.ref p) ∧ P p ∧ (∀ q ∈ qs, P q) ∧ (p :: qs).Nodup ∧ H p = some (.lst (qs.map V.ref)) ∧ Paired (fun q (l : List Int) => H q = some (.lst (l.map V.int))) qs ls
theorem SlOk.mono {G G' H H' : Hp} {P : Addr → Prop} {o : Option V} {s : Sl} (eg : Same G G') (eh : ∀ a, P a → ∀ x, H a = some x → H' a = some x) (x : SlOk K G H P o s) : SlOk K G' H' P o s := by
  cases s with
  | em => trivial
  | v d => obtain ⟨v, h1, h2⟩ := x; exact ⟨v, h1, h2.mono eg⟩
  | o d => obtain ⟨p, h, h1, h2, h3, h4⟩ := x; exact ⟨p, h, h1, h2, eh p h2 _ h3, h4.mono eg⟩
  | t ls =>
    obtain ⟨p, qs, h1, h2, h3, h4, h5, h6⟩ := x
    refine ⟨p, qs, h1, h2, h3, h4, eh p h2 _ h5, ?_⟩
    clear h4 h5
    induction h6 with
    | nil => exact .nil
    | cons r t ih => exact .cons (eh _ (h3 _ List.mem_cons_self) _ r) (ih fun q hq => h3 q (List.mem_cons_of_mem _ hq))
/-- a value of kind s has come: new where it is one's own -/
def Got (K : PySem.W.Frag) (G H G' H' : Hp) (v : V) (s : Sl) : Prop := Grow G H G' H' ∧ ∃ P : Addr → Prop, SlOk K G' H' P (some v) s ∧ ∀ a, P a → H a = none ∧ G' a = none
theorem Got.val {G H G' H' : Hp} {v : V} {d : D} (g : Grow G H G' H') (r : Rep K G' v d) : Got K G H G' H' v (.v d) := ⟨g, fun _ => False, ⟨v, rfl, r⟩, fun _ h => h.elim⟩
theorem Got.rep {G H G' H' : Hp} {v : V} {d : D} (g : Got K G H G' H' v (.v d)) : Grow G H G' H' ∧ Rep K G' v d := by
  obtain ⟨g, P, ⟨w, e, r⟩, _⟩ := g
  cases e
  exact ⟨g, r⟩
theorem Got.pre {G H G1 H1 G' H' : Hp} {v : V} {s : Sl} (a : Grow G H G1 H1) (g : Got K G1 H1 G' H' v s) : Got K G H G' H' v s := by
  obtain ⟨g, P, x, y⟩ := g
  exact ⟨a.trans g, P, x, fun b hb => ⟨a.h.free (y b hb).1, (y b hb).2⟩⟩
/-- the view with some addresses of the heap -/
noncomputable def addV (G H : Hp) (P : Addr → Prop) : Hp := fun a => open Classical in if P a then H a else G a
theorem addV_in {G H : Hp} {P : Addr → Prop} {a : Addr} (h : P a) : addV G H P a = H a := by unfold addV; rw [if_pos h]
theorem addV_out {G H : Hp} {P : Addr → Prop} {a : Addr} (h : ¬ P a) : addV G H P a = G a := by unfold addV; rw [if_neg h]
theorem addV_sub {G H : Hp} {P : Addr → Prop} (s : Same G H) : Same (addV G H P) H := fun a o e => by
  by_cases h : P a
  · rw [addV_in h] at e; exact e
  · rw [addV_out h] at e; exact s a o e
theorem addV_sup {G H : Hp} {P : Addr → Prop} (n : ∀ a, P a → G a = none) : Same G (addV G H P) := fun a o e => by
  by_cases h : P a
  · rw [n a h] at e; cases e
  · rw [addV_out h]; exact e
theorem Grow.add {G H G' H' : Hp} (g : Grow G H G' H') {P : Addr → Prop} (n : ∀ a, P a → H a = none ∧ G' a = none) : Grow G H (addV G' H' P) H' :=
  ⟨g.h, addV_sub g.s, g.g.trans (addV_sup fun a h => (n a h).2), fun a ha => by rw [addV_out fun h => ha (n a h).1]; exact g.o a ha⟩
theorem lli_rep {H : Hp} : ∀ {qs : List Addr} {ls : List (List Int)}, Paired (fun q (l : List Int) => H q = some (.lst (l.map V.int))) qs ls → RepAll K H (qs.map V.ref) (ls.map li)
  | _, _, .nil => .nil
  | _, _, .cons r t => .cons (.lst r (RepAll.of_ints _)) (lli_rep t)
theorem own_rep {G H : Hp} {p : Addr} {h : HO} {d : D} (e : H p = some h) (s : Same G H) (x : OwnIs K G h d) : Rep K H (.ref p) d := by
  rcases x with ⟨xs, ds, h1, h2, h3⟩ | ⟨ks, h1, h2⟩
  · subst h1; subst h2; exact .lst e (h3.mono s)
  · subst h1; subst h2; exact .dct rfl e
theorem sl_rep {G H : Hp} {P : Addr → Prop} {v : V} {d : D} (s : Same G H) (x : SlOk K G H P (some v) (.o d)) : Rep K H v d := by
  obtain ⟨p, h, h1, h2, h3, h4⟩ := x
  cases h1
  exact own_rep h3 s h4
/-- own, so known -/
theorem Got.weak {G H G' H' : Hp} {v : V} {d : D} (g : Got K G H G' H' v (.o d)) : ∃ G'', Got K G H G'' H' v (.v d) := by
  obtain ⟨g, P, ⟨p, h, h1, h2, h3, h4⟩, n⟩ := g
  cases h1
  refine ⟨addV G' H' P, .val (g.add n) ?_⟩
  have sup : Same G' (addV G' H' P) := addV_sup fun a h => (n a h).2
  exact own_rep (by rw [addV_in h2]; exact h3) sup h4
theorem Got.weakT {G H G' H' : Hp} {v : V} {ls : List (List Int)} (g : Got K G H G' H' v (.t ls)) : ∃ G'', Got K G H G'' H' v (.o (lli ls)) := by
  obtain ⟨g, P, ⟨p, qs, h1, h2, h3, h4, h5, h6⟩, n⟩ := g
  cases h1
  refine ⟨addV G' H' (fun a => a ∈ qs), g.add (fun a ha => n a (h3 a ha)), fun a => a = p, ⟨p, _, rfl, rfl, h5, .inl ⟨_, _, rfl, rfl, lli_rep ?_⟩⟩, ?_⟩
  · have : ∀ (rs : List Addr) (ms : List (List Int)), (∀ q ∈ rs, q ∈ qs) → Paired (fun q (l : List Int) => H' q = some (.lst (l.map V.int))) rs ms → Paired (fun q (l : List Int) => addV G' H' (fun a => a ∈ qs) q = some (.lst (l.map V.int))) rs ms := by
      intro rs ms hs hp
      induction hp with
      | nil => exact .nil
      | cons r t ih => exact .cons (by rw [addV_in (hs _ List.mem_cons_self)]; exact r) (ih fun q hq => hs q (List.mem_cons_of_mem _ hq))
    exact this qs ls (fun _ h => h) h6
  · intro a ha
    subst ha
    refine ⟨(n a h2).1, ?_⟩
    have na : a ∉ qs := (List.nodup_cons.mp h4).1
    rw [addV_out na]
    exact (n a h2).2

/-! ### the judgements -/
def tE (K : PySem.W.Frag) (ρ : VEnv) (s : Sl) : TE := fun σ H Q => ∃ G, Same G H ∧ VOk K G σ ρ ∧ ∀ v G' H', Got K G H G' H' v s → Q v H'
def tT (K : PySem.W.Frag) (ρ : VEnv) (b : Bool) : TT := fun σ H Q => ∃ G, Same G H ∧ VOk K G σ ρ ∧ ∀ G' H', Grow G H G' H' → Q b H'
def tA (K : PySem.W.Frag) (ρ : VEnv) (ds : List D) : TA := fun σ H Q => ∃ G, Same G H ∧ VOk K G σ ρ ∧ ∀ vs G' H', Grow G H G' H' → RepAll K G' vs ds → Q vs H'
abbrev ED (X : Cx) (e : Expr) (ρ : VEnv) (s : Sl) : Prop := PE X e (tE X.K ρ s)
abbrev TD (X : Cx) (e : Expr) (ρ : VEnv) (b : Bool) : Prop := PT X e (tT X.K ρ b)
abbrev AD (X : Cx) (es : List Expr) (ρ : VEnv) (ds : List D) : Prop := PA X es (tA X.K ρ ds)
theorem pe_imp {X : Cx} {e : Expr} {t t' : TE} (h : PE X e t) (i : ∀ σ H Q, t' σ H Q → t σ H Q) : PE X e t' := ⟨fun pins s σ H Q I q => h.run pins s σ H Q I (i σ H Q q)⟩
theorem pt_imp {X : Cx} {e : Expr} {t t' : TT} (h : PT X e t) (i : ∀ σ H Q, t' σ H Q → t σ H Q) : PT X e t' := ⟨fun pins s σ H Q I q => h.run pins s σ H Q I (i σ H Q q)⟩
theorem pa_imp {X : Cx} {e : List Expr} {t t' : TA} (h : PA X e t) (i : ∀ σ H Q, t' σ H Q → t σ H Q) : PA X e t' := ⟨fun pos pins s σ H Q I q => h.run pos pins s σ H Q I (i σ H Q q)⟩
section
variable {X : Cx} {a b c e : Expr} {es : List Expr} {ρ : VEnv} {s : Sl} {d d1 d2 d3 : D} {ds : List D} {pos : Pos} {n m : Int}

theorem ed_w (h : ED X e ρ (.o d)) : ED X e ρ (.v d) := pe_imp h fun σ H Q ⟨G, s, o, q⟩ => ⟨G, s, o, fun v G' H' g => by
  obtain ⟨G'', g'⟩ := g.weak
  exact q v G'' H' g'⟩
theorem ed_wt {ls : List (List Int)} (h : ED X e ρ (.t ls)) : ED X e ρ (.o (lli ls)) := pe_imp h fun σ H Q ⟨G, s, o, q⟩ => ⟨G, s, o, fun v G' H' g => by
  obtain ⟨G'', g'⟩ := g.weakT
  exact q v G'' H' g'⟩
theorem ed_is {s' : Sl} (h : ED X e ρ s) (q : s = s') : ED X e ρ s' := q ▸ h
theorem ed_isv (h : ED X e ρ (.v d1)) (q : d1 = d2) : ED X e ρ (.v d2) := q ▸ h
theorem td_is {b b' : Bool} (h : TD X e ρ b) (q : b = b') : TD X e ρ b' := q ▸ h
/-- by a value -/
theorem ed_of {t : TE} (h : PE X e t) (i : ∀ σ H G (Q : VK), Same G H → VOk X.K G σ ρ → (∀ v G' H', Grow G H G' H' → Rep X.K G' v d → Q v H') → t σ H Q) : ED X e ρ (.v d) :=
  pe_imp h fun σ H Q ⟨G, s, o, q⟩ => i σ H G Q s o fun v G' H' g r => q v G' H' (.val g r)
theorem tE_of {σ : L2.St} {H G : Hp} {Q : VK} (s : Same G H) (o : VOk X.K G σ ρ) (q : ∀ v G' H', Grow G H G' H' → Rep X.K G' v d → Q v H') : tE X.K ρ (.v d) σ H Q :=
  ⟨G, s, o, fun v G' H' g => q v G' H' g.rep.1 g.rep.2⟩

/-! ### names, constants -/
theorem ed_var (i : Nat) {x : Str} (hN : X.N[i]? = some x := by rfl) (hv : Vis X.env.scope x := by first | exact .inl rfl | exact .inr (.inl rfl) | exact .inr (.inr rfl)) (hd : ρ[i]? = some (some d) := by rfl) (h1 : (x == ("__debug__" : Str)) = false := by decide) (h2 : (x == ("__classdict__" : Str)) = false := by decide) : ED X (.Name x pos) ρ (.v d) :=
  ed_of (pe_var hN hv h1 h2) fun σ H G Q s o q => by
    obtain ⟨v, e, r⟩ := o.get hd
    exact ⟨v, e, q v G H (.refl s) r⟩
theorem ed_int {j} : ED X (.Constant (.int n) j pos) ρ (.v (.int n)) := ed_of pe_int fun σ H G Q s o q => q _ G H (.refl s) (.int n)
theorem ed_bl {k j} : ED X (.Constant (.bool k) j pos) ρ (.v (.bool k)) := ed_of pe_bl fun σ H G Q s o q => q _ G H (.refl s) (.bl k)
theorem ed_non {j} : ED X (.Constant .none j pos) ρ (.v .none) := ed_of pe_non fun σ H G Q s o q => q _ G H (.refl s) .non
theorem ed_str {x : Str} {j} : ED X (.Constant (.str x) j pos) ρ (.v (.str x)) := ed_of pe_str fun σ H G Q s o q => q _ G H (.refl s) (.str x)
theorem ed_globI {x : Str} {u : Value} (hm : X.mg x = some u) (r : RelV (.int n) u) (hg : Gl X x := by rfl) (hd : (x == ("__debug__" : Str)) = false := by decide) : ED X (.Name x pos) ρ (.v (.int n)) :=
  ed_of (pe_glob hg hm r hd) fun σ H G Q s o q => q _ G H (.refl s) (.int n)
theorem ed_globS {x : Str} {y : Str} {u : Value} (hm : X.mg x = some u) (r : RelV (.str y) u) (hg : Gl X x := by rfl) (hd : (x == ("__debug__" : Str)) = false := by decide) : ED X (.Name x pos) ρ (.v (.str y)) :=
  ed_of (pe_glob hg hm r hd) fun σ H G Q s o q => q _ G H (.refl s) (.str y)

/-! ### two in a row -/
theorem t_two {r : R2} {σ : L2.St} {H G : Hp} {Q : VK} (s : Same G H) (o : VOk X.K G σ ρ) (h : ∀ x y G1 H1, Grow G H G1 H1 → Rep X.K G1 x d1 → Rep X.K G1 y d2 → r x y H1 Q) : tOp r (tE X.K ρ (.v d1)) (tE X.K ρ (.v d2)) σ H Q :=
  tE_of s o fun x G1 H1 g1 r1 => tE_of g1.s (o.mono g1.g) fun y G2 H2 g2 r2 => h x y G2 H2 (g1.trans g2) (r1.mono g2.g) r2
theorem ed_op {op : Operator} {r : R2} (ho : OpR X (binaryOp op) r) (ha : ED X a ρ (.v d1)) (hb : ED X b ρ (.v d2))
    (hr : ∀ x y G H (Q : VK), Same G H → Rep X.K G x d1 → Rep X.K G y d2 → (∀ v G' H', Got X.K G H G' H' v s → Q v H') → r x y H Q) : ED X (.BinOp a op b pos) ρ s :=
  pe_imp (pe_op ho ha hb) fun σ H Q ⟨G, s, o, q⟩ => t_two s o fun x y G1 H1 g r1 r2 => hr x y G1 H1 Q g.s r1 r2 fun v G' H' g' => q v G' H' (g'.pre g)
theorem ed_cmp {op : CmpOp} {r : R2} {k : Bool} (ho : OpR X (compareOp op) r) (ha : ED X a ρ (.v d1)) (hb : ED X b ρ (.v d2)) (hm : behindInMarks op b = false)
    (hr : ∀ x y G H (Q : VK), Same G H → Rep X.K G x d1 → Rep X.K G y d2 → Q (.bl k) H → r x y H Q) : ED X (.Compare a [op] [b] pos) ρ (.v (.bool k)) :=
  ed_of (pe_cmpR ho ha hb hm) fun σ H G Q s o q => t_two s o fun x y G1 H1 g r1 r2 => hr x y G1 H1 Q g.s r1 r2 (q _ G1 H1 g (.bl k))
theorem td_cmp {op : CmpOp} {r : R2} {k : Bool} (ho : OpR X (compareOp op) r) (ha : ED X a ρ (.v d1)) (hb : ED X b ρ (.v d2)) (hm : behindInMarks op b = false)
    (hr : ∀ x y G H (Q : VK), Same G H → Rep X.K G x d1 → Rep X.K G y d2 → Q (.bl k) H → r x y H Q) : TD X (.Compare a [op] [b] pos) ρ k :=
  pt_imp (pt_cmpR ho ha hb hm) fun σ H Q ⟨G, s, o, q⟩ => t_two s o fun x y G1 H1 g r1 r2 => hr x y G1 H1 _ g.s r1 r2 ⟨k, rfl, q G1 H1 g⟩
/-- an expression whose value is True or False, as a test -/
theorem td_val {k : Bool} (h : ED X e ρ (.v (.bool k))) (he : ∀ whole, isTrue e X.env whole = (do let v ← whole; standAt e.pos; holding [v] (truthy v)) := by intro _; rfl) : TD X e ρ k :=
  pt_imp (pt_val h he) fun σ H Q ⟨G, s, o, q⟩ => tE_of s o fun v G' H' g r => ⟨k, r.to_bl, q G' H' g⟩
theorem td_not {k : Bool} (h : TD X a ρ k) : TD X (.UnaryOp .Not a pos) ρ (!k) := pt_imp (pt_not h) fun σ H Q ⟨G, s, o, q⟩ => ⟨G, s, o, fun G' H' g => q G' H' g⟩
end
end DL

/-! DL1: statements and calls, by data -/
namespace DL
open PySem PySem.Spec PyProof.Rows L2
variable {K : PySem.W.Frag}

/-! ### arguments -/
section
variable {X : Cx} {a b c e : Expr} {es : List Expr} {ρ : VEnv} {s : Sl} {d d1 d2 d3 : D} {ds : List D} {pos : Pos} {n m : Int}
theorem ad_nil : AD X [] ρ [] := pa_imp pa_nil fun σ H Q ⟨G, s, o, q⟩ => q [] G H (.refl s) .nil
theorem ad_cons (h : ED X e ρ (.v d)) (hr : AD X es ρ ds) (hs : starEach (e :: es) X.env = (false, eval e X.env) :: starEach es X.env := by rfl) : AD X (e :: es) ρ (d :: ds) :=
  pa_imp (pa_cons h hr hs) fun σ H Q ⟨G, s, o, q⟩ => tE_of s o fun v G1 H1 g1 r1 => ⟨G1, g1.s, o.mono g1.g, fun vs G2 H2 g2 r2 => q (v :: vs) G2 H2 (g1.trans g2) (.cons (r1.mono g2.g) r2)⟩
theorem tA_of {σ : L2.St} {H G : Hp} {Q : List V → Hp → Prop} (s : Same G H) (o : VOk X.K G σ ρ) (q : ∀ vs G' H', Grow G H G' H' → RepAll X.K G' vs ds → Q vs H') : tA X.K ρ ds σ H Q := ⟨G, s, o, q⟩
end

/-! ### the environment of a def's body -/
/-- what is visible of the slots for an expression whose value stays; .. for one whose value is dropped -/
def Sl.cl : Sl → Option D
  | .v d => some d
  | _ => none
def Sl.fl : Sl → Option D
  | .v d => some d
  | .o d => some d
  | .t ls => some (lli ls)
  | .em => none
abbrev cl (ρ : SEnv) : VEnv := ρ.map Sl.cl
abbrev fl (ρ : SEnv) : VEnv := ρ.map Sl.fl
def EnvOk (K : PySem.W.Frag) (H0 G H : Hp) (σ : L2.St) (ρ : SEnv) : Prop :=
  ∃ fp : Nat → Addr → Prop, (∀ i a, fp i a → H0 a = none ∧ G a = none ∧ H a ≠ none) ∧ (∀ i j a, fp i a → fp j a → i = j) ∧
    ∀ (i : Nat) (s : Sl), ρ[i]? = some s → ∃ o, σ[i]? = some o ∧ SlOk K G H (fp i) o s
theorem EnvOk.cl {H0 G H : Hp} {σ : L2.St} {ρ : SEnv} (h : EnvOk K H0 G H σ ρ) : VOk K G σ (cl ρ) := by
  obtain ⟨fp, _, _, h⟩ := h
  intro i z e
  rw [List.getElem?_map] at e
  cases q : ρ[i]? with
  | none => rw [q] at e; cases e
  | some s =>
    rw [q] at e
    obtain ⟨o, h1, h2⟩ := h i s q
    have e' : s.cl = z := Option.some.inj e
    refine ⟨o, h1, fun d hz => ?_⟩
    rw [← e'] at hz
    cases s with
    | v d' =>
      obtain ⟨v, h3, h4⟩ := h2
      cases hz
      exact ⟨v, h3, h4⟩
    | _ => cases hz
theorem EnvOk.fl {H0 G H : Hp} {σ : L2.St} {ρ : SEnv} (h : EnvOk K H0 G H σ ρ) (s : Same G H) : VOk K H σ (fl ρ) := by
  obtain ⟨fp, _, _, h⟩ := h
  intro i z e
  rw [List.getElem?_map] at e
  cases q : ρ[i]? with
  | none => rw [q] at e; cases e
  | some t =>
    rw [q] at e
    obtain ⟨o, h1, h2⟩ := h i t q
    have e' : t.fl = z := Option.some.inj e
    refine ⟨o, h1, fun d hz => ?_⟩
    rw [← e'] at hz
    cases t with
    | v d' =>
      obtain ⟨v, h3, h4⟩ := h2
      cases hz
      exact ⟨v, h3, h4.mono s⟩
    | o d' =>
      obtain ⟨p, x, h3, h4, h5, h6⟩ := h2
      cases hz
      exact ⟨_, h3, own_rep h5 s h6⟩
    | t ls =>
      obtain ⟨p, qs, h3, h4, h5, h6, h7, h8⟩ := h2
      cases hz
      exact ⟨_, h3, .lst h7 (lli_rep h8)⟩
    | em => cases hz
theorem EnvOk.mono {H0 G H G' H' : Hp} {σ : L2.St} {ρ : SEnv} (h : EnvOk K H0 G H σ ρ) (g : Grow G H G' H') : EnvOk K H0 G' H' σ ρ := by
  obtain ⟨fp, h1, h2, h3⟩ := h
  refine ⟨fp, fun i a q => ?_, h2, fun i s e => ?_⟩
  · obtain ⟨x, y, z⟩ := h1 i a q
    refine ⟨x, (g.o a z).trans y, fun w => z (g.h.free w)⟩
  · obtain ⟨o, x, y⟩ := h3 i s e
    exact ⟨o, x, y.mono g.g fun a _ x hx => g.h a x hx⟩
theorem SlOk.cut {G H : Hp} {P : Addr → Prop} {o : Option V} {s : Sl} (x : SlOk K G H P o s) : SlOk K G H (fun a => P a ∧ H a ≠ none) o s := by
  cases s with
  | em => trivial
  | v d => exact x
  | o d =>
    obtain ⟨p, h, h1, h2, h3, h4⟩ := x
    exact ⟨p, h, h1, ⟨h2, by rw [h3]; exact fun z => nomatch z⟩, h3, h4⟩
  | t ls =>
    obtain ⟨p, qs, h1, h2, h3, h4, h5, h6⟩ := x
    refine ⟨p, qs, h1, ⟨h2, by rw [h5]; exact fun z => nomatch z⟩, ?_, h4, h5, h6⟩
    clear h4 h5
    induction h6 with
    | nil => intro q hq; cases hq
    | cons r t ih =>
      intro q hq
      rcases List.mem_cons.mp hq with e | hq
      · subst e
        exact ⟨h3 _ List.mem_cons_self, by rw [r]; exact fun z => nomatch z⟩
      · exact ih (fun q hq => h3 q (List.mem_cons_of_mem _ hq)) q hq
theorem get_set {α : Type} {l : List α} {i j : Nat} {x y : α} (h : (l.set i x)[j]? = some y) : (j = i ∧ y = x ∧ i < l.length) ∨ (j ≠ i ∧ l[j]? = some y) := by
  by_cases e : i = j
  · subst e
    by_cases hl : i < l.length
    · rw [List.getElem?_set_self hl] at h
      exact .inl ⟨rfl, (Option.some.inj h).symm, hl⟩
    · rw [List.getElem?_eq_none (by rw [List.length_set]; omega)] at h
      cases h
  · rw [List.getElem?_set_ne e] at h
    exact .inr ⟨fun q => e q.symm, h⟩
/-- a slot is set to what has come -/
theorem EnvOk.set {H0 G H G' H' : Hp} {σ : L2.St} {ρ : SEnv} {i : Nat} {v : V} {s : Sl} (b : Same H0 H) (h : EnvOk K H0 G H σ ρ) (g : Got K G H G' H' v s) : EnvOk K H0 G' H' (σ.set i (some v)) (ρ.set i s) := by
  obtain ⟨g, P, x, n⟩ := g
  obtain ⟨fp, h1, h2, h3⟩ := h
  refine ⟨fun j a => (j = i ∧ P a ∧ H' a ≠ none) ∨ (j ≠ i ∧ fp j a), fun j a q => ?_, fun j k a q r => ?_, fun j t e => ?_⟩
  · rcases q with ⟨_, q, z⟩ | ⟨_, q⟩
    · exact ⟨b.free (n a q).1, (n a q).2, z⟩
    · obtain ⟨x, y, z⟩ := h1 j a q
      exact ⟨x, (g.o a z).trans y, fun w => z (g.h.free w)⟩
  · rcases q with ⟨e, q, _⟩ | ⟨e, q⟩
    · rcases r with ⟨e', r, _⟩ | ⟨e', r⟩
      · rw [e, e']
      · exact absurd (n a q).1 (h1 k a r).2.2
    · rcases r with ⟨e', r, _⟩ | ⟨e', r⟩
      · exact absurd (n a r).1 (h1 j a q).2.2
      · exact h2 j k a q r
  · rcases get_set e with ⟨e1, e2, e3⟩ | ⟨e1, e2⟩
    · subst e1; subst e2
      obtain ⟨o, y, _⟩ := h3 j (ρ[j]'e3) (List.getElem?_eq_getElem e3)
      have hl : j < σ.length := (List.getElem?_eq_some_iff.mp y).1
      refine ⟨some v, List.getElem?_set_self hl, ?_⟩
      have := x.cut
      cases t with
      | em => trivial
      | v d => exact this
      | o d =>
        obtain ⟨p, h, k1, k2, k3, k4⟩ := this
        exact ⟨p, h, k1, .inl ⟨rfl, k2⟩, k3, k4⟩
      | t ls =>
        obtain ⟨p, qs, k1, k2, k3, k4, k5, k6⟩ := this
        exact ⟨p, qs, k1, .inl ⟨rfl, k2⟩, fun q hq => .inl ⟨rfl, k3 q hq⟩, k4, k5, k6⟩
    · obtain ⟨o, y, z⟩ := h3 j t e2
      refine ⟨o, by rw [List.getElem?_set_ne (fun q => e1 q.symm)]; exact y, ?_⟩
      have z' := z.mono (P := fp j) g.g (fun a _ x hx => g.h a x hx)
      cases t with
      | em => trivial
      | v d => exact z'
      | o d =>
        obtain ⟨p, h, k1, k2, k3, k4⟩ := z'
        exact ⟨p, h, k1, .inr ⟨e1, k2⟩, k3, k4⟩
      | t ls =>
        obtain ⟨p, qs, k1, k2, k3, k4, k5, k6⟩ := z'
        exact ⟨p, qs, k1, .inr ⟨e1, k2⟩, fun q hq => .inr ⟨e1, k3 q hq⟩, k4, k5, k6⟩
theorem SlOk.wid {G H : Hp} {P P' : Addr → Prop} {o : Option V} {s : Sl} (x : SlOk K G H P o s) (h : ∀ a, P a → P' a) : SlOk K G H P' o s := by
  cases s with
  | em => trivial
  | v d => exact x
  | o d => obtain ⟨p, y, h1, h2, h3, h4⟩ := x; exact ⟨p, y, h1, h p h2, h3, h4⟩
  | t ls => obtain ⟨p, qs, h1, h2, h3, h4, h5, h6⟩ := x; exact ⟨p, qs, h1, h p h2, fun q hq => h q (h3 q hq), h4, h5, h6⟩
/-- one's own list or dict: where it stands; it may be changed -/
theorem EnvOk.own {H0 G H : Hp} {σ : L2.St} {ρ : SEnv} {i : Nat} {d : D} (h : EnvOk K H0 G H σ ρ) (e : ρ[i]? = some (.o d)) :
    ∃ p x, σ[i]? = some (some (.ref p)) ∧ H p = some x ∧ OwnIs K G x d ∧ H0 p = none ∧ G p = none ∧ ∀ x' d', OwnIs K G x' d' → EnvOk K H0 G (upd H p x') σ (ρ.set i (.o d')) := by
  obtain ⟨fp, h1, h2, h3⟩ := h
  obtain ⟨o, k1, p, x, k2, k3, k4, k5⟩ := h3 i _ e
  obtain ⟨m1, m2, m3⟩ := h1 i p k3
  refine ⟨p, x, by rw [k1, k2], k4, k5, m1, m2, fun x' d' ow => ⟨fp, fun j a q => ?_, h2, fun j t et => ?_⟩⟩
  · obtain ⟨y1, y2, y3⟩ := h1 j a q
    refine ⟨y1, y2, ?_⟩
    by_cases ea : a = p
    · rw [ea, upd_same]; exact fun z => nomatch z
    · rw [upd_ne ea]; exact y3
  · rcases get_set et with ⟨e1, e2, e3⟩ | ⟨e1, e2⟩
    · subst e1; subst e2
      exact ⟨some (.ref p), by rw [k1, k2], p, x', rfl, k3, upd_same, ow⟩
    · obtain ⟨o', y, z⟩ := h3 j t e2
      exact ⟨o', y, z.mono (Same.refl G) fun a ha x hx => by
        have na : a ≠ p := fun q => by subst q; exact e1 (h2 j i a ha k3)
        rw [upd_ne na]; exact hx⟩
/-- own no more: it stays as it is -/
theorem EnvOk.rel {H0 G0 G H : Hp} {σ : L2.St} {ρ : SEnv} {i : Nat} {d : D} (h : EnvOk K H0 G H σ ρ) (g : Grow G0 H0 G H) (e : ρ[i]? = some (.o d)) :
    ∃ G', Grow G0 H0 G' H ∧ EnvOk K H0 G' H σ (ρ.set i (.v d)) := by
  obtain ⟨fp, h1, h2, h3⟩ := h
  obtain ⟨o, k1, p, x, k2, k3, k4, k5⟩ := h3 i _ e
  obtain ⟨m1, m2, m3⟩ := h1 i p k3
  have sup : Same G (addV G H fun a => a = p) := addV_sup fun a ha => ha ▸ m2
  refine ⟨addV G H fun a => a = p, g.add fun a ha => ha ▸ ⟨m1, m2⟩, fun j a => j ≠ i ∧ fp j a, fun j a q => ?_, fun j k a q r => h2 j k a q.2 r.2, fun j t et => ?_⟩
  · obtain ⟨y1, y2, y3⟩ := h1 j a q.2
    refine ⟨y1, ?_, y3⟩
    have na : a ≠ p := fun z => by subst z; exact q.1 (h2 j i a q.2 k3)
    exact (addV_out (P := fun a => a = p) na).trans y2
  · rcases get_set et with ⟨e1, e2, e3⟩ | ⟨e1, e2⟩
    · subst e1; subst e2
      exact ⟨_, k1, _, k2, own_rep ((addV_in (P := fun a => a = p) rfl).trans k4) sup k5⟩
    · obtain ⟨o', y, z⟩ := h3 j t e2
      exact ⟨o', y, (z.mono sup fun a _ x hx => hx).wid fun a ha => ⟨e1, ha⟩⟩
theorem lli_rep_in {G H : Hp} {P : Addr → Prop} : ∀ {qs : List Addr} {ls : List (List Int)}, (∀ q ∈ qs, P q) → Paired (fun q (l : List Int) => H q = some (.lst (l.map V.int))) qs ls → Paired (fun q (l : List Int) => addV G H P q = some (.lst (l.map V.int))) qs ls
  | _, _, _, .nil => .nil
  | _, _, h, .cons r t => .cons (by rw [addV_in (h _ List.mem_cons_self)]; exact r) (lli_rep_in (fun q hq => h q (List.mem_cons_of_mem _ hq)) t)
/-- a tree: its items no longer one's own -/
theorem EnvOk.relT {H0 G0 G H : Hp} {σ : L2.St} {ρ : SEnv} {i : Nat} {ls : List (List Int)} (h : EnvOk K H0 G H σ ρ) (g : Grow G0 H0 G H) (e : ρ[i]? = some (.t ls)) :
    ∃ G', Grow G0 H0 G' H ∧ EnvOk K H0 G' H σ (ρ.set i (.o (lli ls))) := by
  obtain ⟨fp, h1, h2, h3⟩ := h
  obtain ⟨o, k1, p, qs, k2, k3, k4, k5, k6, k7⟩ := h3 i _ e
  obtain ⟨m1, m2, m3⟩ := h1 i p k3
  have np : p ∉ qs := (List.nodup_cons.mp k5).1
  have sup : Same G (addV G H fun a => a ∈ qs) := addV_sup fun a ha => (h1 i a (k4 a ha)).2.1
  refine ⟨addV G H fun a => a ∈ qs, g.add fun a ha => ⟨(h1 i a (k4 a ha)).1, (h1 i a (k4 a ha)).2.1⟩, fun j a => (j = i ∧ a = p) ∨ (j ≠ i ∧ fp j a), fun j a q => ?_, fun j k a q r => ?_, fun j t et => ?_⟩
  · rcases q with ⟨_, q⟩ | ⟨e1, q⟩
    · subst q
      exact ⟨m1, by rw [addV_out np]; exact m2, m3⟩
    · obtain ⟨y1, y2, y3⟩ := h1 j a q
      refine ⟨y1, ?_, y3⟩
      rw [addV_out fun z => e1 (h2 j i a q (k4 a z))]
      exact y2
  · rcases q with ⟨e1, q⟩ | ⟨e1, q⟩
    · rcases r with ⟨e2, r⟩ | ⟨e2, r⟩
      · rw [e1, e2]
      · subst q
        exact absurd (h2 k i _ r k3) e2
    · rcases r with ⟨e2, r⟩ | ⟨e2, r⟩
      · subst r
        exact absurd (h2 j i _ q k3) e1
      · exact h2 j k a q r
  · rcases get_set et with ⟨e1, e2, e3⟩ | ⟨e1, e2⟩
    · subst e1; subst e2
      exact ⟨_, k1, p, _, k2, .inl ⟨rfl, rfl⟩, k6, .inl ⟨_, _, rfl, rfl, lli_rep (lli_rep_in (fun _ h => h) k7)⟩⟩
    · obtain ⟨o', y, z⟩ := h3 j t e2
      exact ⟨o', y, (z.mono sup fun a _ x hx => hx).wid fun a ha => .inr ⟨e1, ha⟩⟩

/-- what needs no place in the heap -/
def Sl.port : Sl → Prop
  | .v d => ∀ (K : PySem.W.Frag) G v, (∃ G0, Rep K G0 v d) → Rep K G v d
  | .o d => ∀ (K : PySem.W.Frag) G x, (∃ G0, OwnIs K G0 x d) → OwnIs K G x d
  | .t _ => True
  | .em => True
theorem port_int (n : Int) : Sl.port (.v (.int n)) := fun _ G v ⟨_, r⟩ => r.to_int ▸ .int n
theorem port_bl (n : Bool) : Sl.port (.v (.bool n)) := fun _ G v ⟨_, r⟩ => r.to_bl ▸ .bl n
theorem port_str (n : Str) : Sl.port (.v (.str n)) := fun _ G v ⟨_, r⟩ => r.to_str ▸ .str n
theorem port_non : Sl.port (.v .none) := fun _ G v ⟨_, r⟩ => r.to_non ▸ .non
theorem port_li (l : List Int) : Sl.port (.o (li l)) := fun _ G x ⟨_, r⟩ => by
  rcases r with ⟨xs, ds, h1, h2, h3⟩ | ⟨ks, _, h2⟩
  · unfold li at h2
    injection h2 with h2
    subst h2
    exact .inl ⟨_, _, h1, rfl, h3.ints ▸ RepAll.of_ints l⟩
  · unfold li kd at h2
    cases h2
theorem port_kd (ks : List (List Int)) : Sl.port (.o (kd ks)) := fun _ G x ⟨_, r⟩ => by
  rcases r with ⟨xs, ds, h1, h2, h3⟩ | ⟨ks', h1, h2⟩
  · unfold kd at h2
    cases h2
  · exact .inr ⟨ks', h1, h2⟩
theorem port_t (ls : List (List Int)) : Sl.port (.t ls) := trivial
theorem Got.port {G H G2 H' : Hp} {v : V} {s : Sl} (sm : Same G H) (p : s.port) (g : Got K H H G2 H' v s) : Got K G H G H' v s := by
  obtain ⟨g, P, x, n⟩ := g
  refine ⟨⟨g.h, sm.trans g.h, Same.refl _, fun _ _ => rfl⟩, P, ?_, fun a h => ⟨(n a h).1, sm.free (n a h).1⟩⟩
  cases s with
  | em => trivial
  | v d =>
    obtain ⟨w, e, r⟩ := x
    cases e
    exact ⟨_, rfl, p K G _ ⟨_, r⟩⟩
  | o d =>
    obtain ⟨q, y, h1, h2, h3, h4⟩ := x
    exact ⟨q, y, h1, h2, h3, p K G y ⟨_, h4⟩⟩
  | t ls => exact x
/-! ### statements -/
/-- what is wanted behind a statement, by data -/
structure Kt where
  nx : SEnv → Prop
  rt : Sl → Prop
  bk : SEnv → Prop := fun _ => False
  ct : SEnv → Prop := fun _ => False
def RetOk (K : PySem.W.Frag) (H0 G H : Hp) (v : V) (s : Sl) : Prop := ∃ P : Addr → Prop, SlOk K G H P (some v) s ∧ ∀ a, P a → H0 a = none ∧ G a = none
structure Fits (K : PySem.W.Frag) (H0 G0 : Hp) (k : Kt) (E : Ends) : Prop where
  nx : ∀ ρ σ G H, k.nx ρ → Grow G0 H0 G H → EnvOk K H0 G H σ ρ → E.nx σ H
  rt : ∀ s v G H, k.rt s → Grow G0 H0 G H → RetOk K H0 G H v s → E.rt v H
  bk : ∀ ρ σ G H, k.bk ρ → Grow G0 H0 G H → EnvOk K H0 G H σ ρ → E.bk σ H
  ct : ∀ ρ σ G H, k.ct ρ → Grow G0 H0 G H → EnvOk K H0 G H σ ρ → E.ct σ H
def tS (K : PySem.W.Frag) (ρ : SEnv) (k : Kt) : TS := fun E σ H => ∃ H0 G0 G, Grow G0 H0 G H ∧ EnvOk K H0 G H σ ρ ∧ Fits K H0 G0 k E
abbrev SD (X : Cx) (st : List Stmt) (ρ : SEnv) (k : Kt) : Prop := PSs X st (tS X.K ρ k)
theorem pss_imp {X : Cx} {st : List Stmt} {t t' : TS} (h : PSs X st t) (i : ∀ E σ H, t' E σ H → t E σ H) : PSs X st t' := ⟨fun pins s σ H E I q => h.run pins s σ H E I (i E σ H q)⟩
/-- a way that may not be gone -/
theorem pss_if {X : Cx} {st : List Stmt} {c : Prop} {t : TS} (h : c → PSs X st t) : PSs X st (fun E σ H => c ∧ t E σ H) := ⟨fun pins s σ H E I q => (h q.1).run pins s σ H E I q.2⟩
theorem pss_ex {X : Cx} {st : List Stmt} {α : Type} {c : α → Prop} {t : α → TS} (h : ∀ a, c a → PSs X st (t a)) : PSs X st (fun E σ H => ∃ a, c a ∧ t a E σ H) := ⟨fun pins s σ H E I ⟨a, q, z⟩ => (h a q).run pins s σ H E I z⟩
theorem Grow.rebase {G0 H0 G H G' H' : Hp} (a : Grow G0 H0 G H) (b : Grow G H0 G' H') : Grow G0 H0 G' H' := ⟨b.h, b.s, a.g.trans b.g, fun x hx => (b.o x hx).trans (a.o x hx)⟩
theorem Grow.now {G0 H0 G H : Hp} (a : Grow G0 H0 G H) : Grow G H0 G H := ⟨a.h, a.s, Same.refl _, fun _ _ => rfl⟩
theorem Fits.nxt {H0 G0 : Hp} {k : Kt} {E : Ends} {N : SEnv → Prop} {F : L2.St → Hp → Prop} (f : Fits K H0 G0 k E) (h : ∀ ρ σ G H, N ρ → Grow G0 H0 G H → EnvOk K H0 G H σ ρ → F σ H) : Fits K H0 G0 { k with nx := N } { E with nx := F } :=
  ⟨h, f.rt, f.bk, f.ct⟩
section
variable {X : Cx} {a b c e : Expr} {es : List Expr} {ρ : SEnv} {s : Sl} {d d1 d2 d3 : D} {ds : List D} {pos : Pos} {k : Kt} {rest : List Stmt}
theorem sq_nil (h : k.nx ρ) : SD X [] ρ k := pss_imp pss_nil fun E σ H ⟨H0, G0, G, g, o, f⟩ => f.nx ρ σ G H h g o
/-- a statement, then the rest: the statement's reading t, what stands behind it -/
theorem sq_mk {st : Stmt} {t : TS} {M : SEnv → Prop} (h : PS X st t) (hr : ∀ ρ', M ρ' → SD X rest ρ' k)
    (i : ∀ (E : Ends) σ H H0 G0 G, Grow G0 H0 G H → EnvOk X.K H0 G H σ ρ → Fits X.K H0 G0 k E → (∀ F : L2.St → Hp → Prop, (∀ ρ' σ' G' H', M ρ' → Grow G0 H0 G' H' → EnvOk X.K H0 G' H' σ' ρ' → F σ' H') → t { E with nx := F } σ H)) : SD X (st :: rest) ρ k :=
  pss_imp (pss_cons h (pss_ex (t := fun ρ' => tS X.K ρ' k) hr)) fun E σ H ⟨H0, G0, G, g, o, f⟩ =>
    i E σ H H0 G0 G g o f _ fun ρ' σ' G' H' m g' o' => ⟨ρ', m, H0, G0, G', g', o', f⟩
/-- what is read and dropped -/
theorem EnvOk.drop {H0 G0 G H G2 H' : Hp} {σ : L2.St} {ρ : SEnv} (h : EnvOk X.K H0 G H σ ρ) (g : Grow G0 H0 G H) (q : Grow H H G2 H') : Grow G0 H0 G H' ∧ EnvOk X.K H0 G H' σ ρ := by
  have x : Grow G H G H' := ⟨q.h, g.s.trans q.h, Same.refl _, fun _ _ => rfl⟩
  exact ⟨g.trans x, h.mono x⟩

/-! x = e -/
theorem sq_set (i : Nat) {x : Str} {pos' : Pos} (he : ED X e (cl ρ) s) (hr : SD X rest (ρ.set i s) k) (hN : X.N.Nodup := by assumption) (hi : X.N[i]? = some x := by rfl) (hx : Loc X.env.scope x := by first | exact .inl rfl | exact .inr rfl)
    (hs : swapsWith e (some (.Name x pos')) pos.line X.env = pure false := by rfl) (hf : X.fn x = true ∨ X.env.scope.names.lookup x = some .local := by first | exact .inl rfl | exact .inr rfl | assumption) : SD X (.Assign [.Name x pos'] e pos :: rest) ρ k :=
  sq_mk (M := fun ρ' => ρ' = ρ.set i s) (ps_set hN hi hx he hs hf) (fun ρ' m => m ▸ hr) fun E σ H H0 G0 G g o f F q =>
    ⟨G, g.s, o.cl, fun v G' H' got => q _ _ G' H' rfl (g.trans got.1) (o.set g.h got)⟩
theorem sq_setf (i : Nat) {x : Str} {pos' : Pos} (hp : s.port) (he : ED X e (fl ρ) s) (hr : SD X rest (ρ.set i s) k) (hN : X.N.Nodup := by assumption) (hi : X.N[i]? = some x := by rfl) (hx : Loc X.env.scope x := by first | exact .inl rfl | exact .inr rfl)
    (hs : swapsWith e (some (.Name x pos')) pos.line X.env = pure false := by rfl) (hf : X.fn x = true ∨ X.env.scope.names.lookup x = some .local := by first | exact .inl rfl | exact .inr rfl | assumption) : SD X (.Assign [.Name x pos'] e pos :: rest) ρ k :=
  sq_mk (M := fun ρ' => ρ' = ρ.set i s) (ps_set hN hi hx he hs hf) (fun ρ' m => m ▸ hr) fun E σ H H0 G0 G g o f F q =>
    ⟨H, Same.refl _, o.fl g.s, fun v G' H' got => q _ _ G H' rfl (g.trans (got.port g.s hp).1) (o.set g.h (got.port g.s hp))⟩
/-! own no more -/
theorem sq_rel (i : Nat) (hr : SD X rest (ρ.set i (.v d)) k) (h : ρ[i]? = some (.o d) := by rfl) : SD X rest ρ k := pss_imp hr fun E σ H ⟨H0, G0, G, g, o, f⟩ => by
  obtain ⟨G', g', o'⟩ := o.rel g h
  exact ⟨H0, G0, G', g', o', f⟩
theorem sq_relt (i : Nat) {ls : List (List Int)} (hr : SD X rest (ρ.set i (.o (lli ls))) k) (h : ρ[i]? = some (.t ls) := by rfl) : SD X rest ρ k := pss_imp hr fun E σ H ⟨H0, G0, G, g, o, f⟩ => by
  obtain ⟨G', g', o'⟩ := o.relT g h
  exact ⟨H0, G0, G', g', o', f⟩
theorem sq_relT (i : Nat) {ls : List (List Int)} (hr : SD X rest (ρ.set i (.v (lli ls))) k) (h : ρ[i]? = some (.t ls) := by rfl) : SD X rest ρ k := by
  refine sq_relt i (sq_rel (d := lli ls) i ?_ ?_) h
  · rw [List.set_set]
    exact hr
  · exact List.getElem?_set_self (List.getElem?_eq_some_iff.mp h).1
/-! return e -/
theorem Got.ret {H0 G H G' H' : Hp} {v : V} {s : Sl} (b : Same H0 H) (g : Got X.K G H G' H' v s) : RetOk X.K H0 G' H' v s := by
  obtain ⟨_, P, x, n⟩ := g
  exact ⟨P, x, fun a h => ⟨b.free (n a h).1, (n a h).2⟩⟩
theorem sq_ret (he : ED X e (cl ρ) s) (h : k.rt s) : SD X (.Return (some e) pos :: rest) ρ k :=
  pss_imp (pss_cons (ps_ret he) (pss_never (sts := rest))) fun E σ H ⟨H0, G0, G, g, o, f⟩ =>
    ⟨G, g.s, o.cl, fun v G' H' got => f.rt s v G' H' h (g.trans got.1) (got.ret g.h)⟩
theorem sq_retf (hp : s.port) (he : ED X e (fl ρ) s) (h : k.rt s) : SD X (.Return (some e) pos :: rest) ρ k :=
  pss_imp (pss_cons (ps_ret he) (pss_never (sts := rest))) fun E σ H ⟨H0, G0, G, g, o, f⟩ =>
    ⟨H, Same.refl _, o.fl g.s, fun v G' H' got => f.rt s v G H' h (g.trans (got.port g.s hp).1) ((got.port g.s hp).ret g.h)⟩
/-- return x, x a slot's own thing -/
theorem sq_reto (i : Nat) {x : Str} {pos' : Pos} (h : k.rt s) (hd : ρ[i]? = some s := by rfl) (hs : ∃ d, s = .o d ∨ ∃ ls, s = .t ls := by first | exact ⟨_, .inl rfl⟩ | exact ⟨.none, .inr ⟨_, rfl⟩⟩) (hN : X.N[i]? = some x := by rfl) (hv : Vis X.env.scope x := by first | exact .inl rfl | exact .inr (.inl rfl) | exact .inr (.inr rfl)) (h1 : (x == ("__debug__" : Str)) = false := by decide) (h2 : (x == ("__classdict__" : Str)) = false := by decide) :
    SD X (.Return (some (.Name x pos')) pos :: rest) ρ k :=
  pss_imp (pss_cons (ps_ret (pe_var hN hv h1 h2)) (pss_never (sts := rest))) fun E σ H ⟨H0, G0, G, g, o, f⟩ => by
    obtain ⟨fp, p1, p2, p3⟩ := o
    obtain ⟨w, e, x⟩ := p3 i s hd
    have fin : ∀ v, w = some v → RetOk X.K H0 G H v s := fun v q => ⟨fp i, q ▸ x, fun a ha => ⟨(p1 i a ha).1, (p1 i a ha).2.1⟩⟩
    obtain ⟨d, hs⟩ := hs
    rcases hs with rfl | ⟨ls, rfl⟩
    · obtain ⟨p, _, q, _⟩ := id x
      exact ⟨_, by rw [e, q], f.rt _ _ G H h g (fin _ q)⟩
    · obtain ⟨p, _, q, _⟩ := id x
      exact ⟨_, by rw [e, q], f.rt _ _ G H h g (fin _ q)⟩
/-! if -/
theorem sq_if {b : Bool} {A B : List Stmt} {M : SEnv → Prop} (hc : TD X c (fl ρ) b) (hA : b = true → SD X A ρ { k with nx := M }) (hB : b = false → SD X B ρ { k with nx := M }) (hr : ∀ ρ', M ρ' → SD X rest ρ' k) : SD X (.If c A B pos :: rest) ρ k :=
  sq_mk (M := M) (ps_if hc (pss_if hA) (pss_if hB)) hr fun E σ H H0 G0 G g o f F q => ⟨H, Same.refl _, o.fl g.s, fun G' H' g' => by
    obtain ⟨g2, o2⟩ := o.drop g g'
    cases b with
    | true =>
      rw [if_pos rfl]
      exact ⟨rfl, H0, G0, G, g2, o2, f.nxt q⟩
    | false =>
      rw [if_neg Bool.false_ne_true]
      exact ⟨rfl, H0, G0, G, g2, o2, f.nxt q⟩⟩
/-- if c: .. that ends; then the rest -/
theorem sq_ifr {b : Bool} {A : List Stmt} (hc : TD X c (fl ρ) b) (hA : b = true → SD X A ρ { k with nx := fun _ => False }) (hB : b = false → SD X rest ρ k) : SD X (.If c A [] pos :: rest) ρ k :=
  sq_if (M := fun ρ' => ρ' = ρ ∧ b = false) hc (fun h => pss_imp (hA h) fun E σ H ⟨H0, G0, G, g, o, f⟩ => ⟨H0, G0, G, g, o, f.rt |> fun r => ⟨fun _ _ _ _ z => z.elim, f.rt, f.bk, f.ct⟩⟩) (fun h => sq_nil ⟨rfl, h⟩) fun ρ' m => by
    obtain ⟨m, h⟩ := m
    subst m
    exact hB h
theorem sq_brk (h : k.bk ρ) : SD X (.Break pos :: rest) ρ k := pss_imp (pss_cons ps_break (pss_never (sts := rest))) fun E σ H ⟨H0, G0, G, g, o, f⟩ => f.bk ρ σ G H h g o
theorem sq_cont (h : k.ct ρ) : SD X (.Continue pos :: rest) ρ k := pss_imp (pss_cons ps_continue (pss_never (sts := rest))) fun E σ H ⟨H0, G0, G, g, o, f⟩ => f.ct ρ σ G H h g o
/-- an expression for its own sake -/
theorem sq_expr (he : ED X e (fl ρ) s) (hr : SD X rest ρ k) (hs : swapsWith e none pos.line X.env = pure false := by rfl) : SD X (.Expr e pos :: rest) ρ k :=
  sq_mk (M := fun ρ' => ρ' = ρ) (ps_expr he hs) (fun ρ' m => m ▸ hr) fun E σ H H0 G0 G g o f F q => ⟨H, Same.refl _, o.fl g.s, fun v G' H' got => by
    obtain ⟨g2, o2⟩ := o.drop g got.1
    exact q ρ σ G H' rfl g2 o2⟩
end
end DL

/-! DL2: what is walked; loops; comprehensions; defs and their calls; by data -/
namespace DL
open PySem PySem.Spec PyProof.Rows L2
variable {K : PySem.W.Frag}

/-! ### what is walked -/
structure ItOk (K : PySem.W.Frag) (J : It) (ds : List D) (G : Hp) : Prop where
  go : ∀ i H, Same G H → i < ds.length → J.go i H
  stop : ∀ H, Same G H → J.stop ds.length H
  yld : ∀ i H G1 x H', Same G G1 → Same G1 H → i < ds.length → J.yld i H x H' → ∃ G2 d, Grow G1 H G2 H' ∧ ds[i]? = some d ∧ Rep K G2 x d
def tIt (K : PySem.W.Frag) (ρ : VEnv) (ds : List D) : TI := fun σ H R => ∃ G, Same G H ∧ VOk K G σ ρ ∧ ∀ J G' H', Grow G H G' H' → ItOk K J ds G' → R J H'
abbrev ID (X : Cx) (tg it : Expr) (ρ : VEnv) (ds : List D) : Prop := PI X tg it (tIt X.K ρ ds)
theorem pi_imp {X : Cx} {tg e : Expr} {t t' : TI} (h : PI X tg e t) (i : ∀ σ H Q, t' σ H Q → t σ H Q) : PI X tg e t' := ⟨fun pins s σ H Q I q => h.run pins s σ H Q I (i σ H Q q)⟩
/-- the built-ins' names are the built-ins' -/
structure Bi (mg : Str → Option Value) : Prop where
  len : mg "len" = none
  list : mg "list" = none
  tuple : mg "tuple" = none
  range : mg "range" = none
  sorted : mg "sorted" = none
  all : mg "all" = none
  sum : mg "sum" = none
  min : mg "min" = none
  max : mg "max" = none
  isinstance : mg "isinstance" = none
  enumerate : mg "enumerate" = none
  reversed : mg "reversed" = none
  str : mg "str" = none
  int : mg "int" = none
  bool : mg "bool" = none
  set : mg "set" = none
def enumD (ds : List D) : List D := ds.mapIdx fun i d => .tuple [.int (i : Nat), d]
section
variable {X : Cx} {tg e : Expr} {es : List Expr} {ρ : VEnv} {ds : List D} {d : D} {n : Int} {pos p : Pos}
theorem id_list (h : ED X e ρ (.v (.list ds))) : ID X tg e ρ ds := pi_imp (pi_list h) fun σ H R ⟨G, s, o, q⟩ => tE_of s o fun v G1 H1 g r => by
  obtain ⟨a, xs, rfl, hx, rx⟩ := r.to_lst
  refine ⟨a, rfl, ⟨xs, SqL.of (g.s _ _ hx)⟩, q _ G1 H1 g ⟨fun i H2 s2 hi => ?_, fun H2 s2 => ?_, fun i H2 G2 x H3 s12 s2 hi y => ?_⟩⟩
  · have hi' : i < xs.length := by rw [rx.length]; exact hi
    exact ⟨xs, xs[i], SqL.of (s2 _ _ hx), List.getElem?_eq_getElem hi'⟩
  · exact ⟨xs, SqL.of (s2 _ _ hx), by rw [rx.length]; exact Nat.le_refl _⟩
  · obtain ⟨rfl, y⟩ := y
    obtain ⟨d, h1, h2⟩ := rx.get (y xs (SqL.of (s2 _ _ (s12 _ _ hx))))
    exact ⟨G2, d, .refl s2, h1, h2.mono s12⟩
theorem id_range (B : Bi X.mg) (h : ED X e ρ (.v (.int n))) (h1 : -(2 ^ 62) ≤ n) (h2 : n < 2 ^ 62) (hg : Gl X "range" := by rfl) (hs : starEach [e] X.env = [(false, eval e X.env)] := by rfl) :
    ID X tg (.Call (.Name "range" p) [e] [] pos) ρ ((List.range n.toNat).map fun i => (.int (i : Nat) : D)) := pi_imp (pi_range1 hg B.range (ad_cons h ad_nil (by exact hs)) hs) fun σ H R ⟨G, s, o, q⟩ => tA_of s o fun vs G1 H1 g r => by
  cases r with
  | cons r t =>
    cases t
    have hl : ((List.range n.toNat).map fun i => (.int (i : Nat) : D)).length = n.toNat := by rw [List.length_map, List.length_range]
    refine ⟨n, by rw [r.to_int], h1, h2, q _ G1 H1 g ⟨fun i H2 s2 hi => ?_, fun H2 s2 => ?_, fun i H2 G2 x H3 s12 s2 hi y => ?_⟩⟩
    · rw [hl] at hi; exact hi
    · rw [hl]; exact Nat.le_refl _
    · obtain ⟨rfl, rfl⟩ := y
      rw [hl] at hi
      refine ⟨G2, .int (i : Nat), .refl s2, ?_, ?_⟩
      · rw [List.getElem?_map, List.getElem?_range hi]; rfl
      · rw [Int.zero_add]; exact .int _
theorem id_enum {tpos : Pos} {elts : List Expr} {kk : Nat} (B : Bi X.mg) (h : ED X e ρ (.v (.list ds))) (hg : Gl X "enumerate" := by rfl) (hs : starEach [e] X.env = [(false, eval e X.env)] := by rfl) :
    ID X (.Tuple elts kk tpos) (.Call (.Name "enumerate" p) [e] [] pos) ρ (enumD ds) := pi_imp (pi_enum hg B.enumerate (ad_cons h ad_nil (by exact hs)) hs) fun σ H R ⟨G, s, o, q⟩ => tA_of s o fun vs G1 H1 g r => by
  cases r with
  | cons r t =>
    cases t
    obtain ⟨a, xs, rfl, hx, rx⟩ := r.to_lst
    have hl : (enumD ds).length = xs.length := by unfold enumD; rw [List.length_mapIdx, rx.length]
    refine ⟨a, xs, rfl, SqL.of (g.s _ _ hx), q _ G1 H1 g ⟨fun i H2 s2 hi => ?_, fun H2 s2 => ?_, fun i H2 G2 x H3 s12 s2 hi y => ?_⟩⟩
    · rw [hl] at hi
      exact ⟨xs, xs[i], SqL.of (s2 _ _ hx), List.getElem?_eq_getElem hi⟩
    · rw [hl]
      exact ⟨xs, SqL.of (s2 _ _ hx), Nat.le_refl _⟩
    · obtain ⟨T, y, rfl, nT, rfl, hy⟩ := y
      obtain ⟨d, h1, h2⟩ := rx.get (hy xs (SqL.of (s2 _ _ (s12 _ _ hx))))
      refine ⟨upd G2 T (.tup [.int (i : Nat), y]), .tuple [.int (i : Nat), d], Grow.new s2 nT, ?_, ?_⟩
      · unfold enumD; rw [List.getElem?_mapIdx, h1]; rfl
      · have gg := Grow.new (o := .tup [.int (i : Nat), y]) s2 nT
        exact .tup upd_same (.cons (.int _) (.cons (h2.mono (s12.trans gg.g)) .nil))
end

/-! ### for -/
/-- a target: what it does to the slots -/
def TgOk (K : PySem.W.Frag) (g : TG) (u : D → SEnv → SEnv) (ds : List D) : Prop :=
  ∀ d, d ∈ ds → ∀ (x : V) (σ : L2.St) (H G H0 : Hp) (ρ : SEnv) (Q : L2.St → Hp → Prop), Same H0 H → Same G H → EnvOk K H0 G H σ ρ → Rep K G x d → (∀ σ', EnvOk K H0 G H σ' (u d ρ) → Q σ' H) → g x σ H Q
theorem tg_name {i : Nat} {ds : List D} : TgOk K (gName i) (fun d ρ => ρ.set i (.v d)) ds := fun d _ x σ H G H0 ρ Q b s o r q => q _ (o.set b (.val (.refl s) r))
def pairU (i j : Nat) : D → SEnv → SEnv := fun d ρ => match d with
  | .tuple [a, b] => (ρ.set i (.v a)).set j (.v b)
  | _ => ρ
theorem tg_pair {K : PySem.W.Frag} {i j : Nat} {ds : List D} (h : ∀ d ∈ ds, ∃ a b, d = .tuple [a, b]) : TgOk K (gTup K 2 (gCons (gName i) (gCons (gName j) gNil))) (pairU i j) ds := fun d hd x σ H G H0 ρ Q b s o r q => by
  obtain ⟨a, c, rfl⟩ := h d hd
  obtain ⟨t, xs, rfl, ht, rx⟩ := r.to_tup
  cases rx with
  | cons r1 rx =>
    cases rx with
    | cons r2 rx =>
      cases rx
      refine ⟨t, _, rfl, SqT.of (s _ _ ht), rfl, _, _, rfl, _, _, rfl, rfl, ?_⟩
      exact q _ ((o.set b (.val (.refl s) r1)).set b (.val (.refl s) r2))
section
variable {X : Cx} {tg it e : Expr} {es : List Expr} {ρ : SEnv} {ds : List D} {d : D} {n : Int} {pos p : Pos} {body rest : List Stmt} {k : Kt}
/-- a loop: I what holds ahead of turn i; M what holds behind the loop -/
theorem sq_forM {I : Nat → SEnv → Prop} {M : SEnv → Prop} {g : TG} {u : D → SEnv → SEnv} (hp : PassesOwn (model X.prog X.w) X.A X.env X.xe) (hc : X.calm = true) (hi : ID X tg it (cl ρ) ds) (hg : PG X tg g) (hu : TgOk X.K g u ds)
    (h0 : I 0 ρ) (hs : ∀ i d ρ', ds[i]? = some d → I i ρ' → SD X body (u d ρ') { nx := I (i + 1), ct := I (i + 1), bk := M, rt := k.rt }) (hM : ∀ ρ', I ds.length ρ' → M ρ') (hr : ∀ ρ', M ρ' → SD X rest ρ' k)
    (hf : ∀ x, foldedSetIterable it X.env x = pure x := by intro _; rfl) : SD X (.For tg it body [] pos :: rest) ρ k := by
  refine sq_mk (M := M) (ps_for hp hc hi hg (pss_ex (α := Nat × D × SEnv) (c := fun z => ds[z.1]? = some z.2.1 ∧ I z.1 z.2.2) (t := fun z => tS X.K (u z.2.1 z.2.2) { nx := I (z.1 + 1), ct := I (z.1 + 1), bk := M, rt := k.rt }) fun z hz => hs _ _ _ hz.1 hz.2) hf) hr ?_
  intro E σ H H0 G0 G g0 o f F q
  refine ⟨G, g0.s, o.cl, fun J G1 H1 g1 ok => ?_⟩
  have g01 : Grow G0 H0 G1 H1 := g0.trans g1
  refine ⟨fun i m σ' H' => m = ds.length - i ∧ i ≤ ds.length ∧ ∃ ρ' G2, I i ρ' ∧ Grow G1 H0 G2 H' ∧ EnvOk X.K H0 G2 H' σ' ρ', ⟨ds.length, by simp, Nat.zero_le _, ρ, G1, h0, g01.now, o.mono g1⟩, ?_⟩
  rintro i m σ2 H2 ⟨rfl, hi, ρ2, G2, I2, g2, o2⟩
  by_cases hlt : i < ds.length
  · refine .inr ⟨ok.go i H2 (g2.g.trans g2.s) hlt, fun σ' H' => ∃ ρ' G2, I (i + 1) ρ' ∧ Grow G1 H0 G2 H' ∧ EnvOk X.K H0 G2 H' σ' ρ', fun σ' H' z => ⟨ds.length - (i + 1), by omega, rfl, hlt, z⟩, fun x H3 y => ?_⟩
    obtain ⟨G3, d, g3, e3, r3⟩ := ok.yld i H2 G2 x H3 g2.g g2.s hlt y
    have g13 : Grow G1 H0 G3 H3 := g2.trans g3
    refine hu d (List.mem_of_getElem? e3) x σ2 H3 G3 H0 ρ2 _ g13.h g3.s (o2.mono g3) r3 fun σ' o' => ?_
    refine ⟨(i, d, ρ2), ⟨e3, I2⟩, H0, G1, G3, g13, o', ⟨fun ρ' σ'' G' H' z g' o'' => ⟨ρ', G', z, g', o''⟩, fun s v G' H' z g' r' => f.rt s v G' H' z (g01.rebase g') r', fun ρ' σ'' G' H' z g' o'' => q ρ' σ'' G' H' z (g01.rebase g') o'', fun ρ' σ'' G' H' z g' o'' => ⟨ρ', G', z, g', o''⟩⟩⟩
  · have e : i = ds.length := by omega
    subst e
    exact .inl ⟨ok.stop H2 (g2.g.trans g2.s), q ρ2 σ2 G2 H2 (hM _ I2) (g01.rebase g2) o2⟩
/-- .. its target a name, no break -/
theorem sq_for {α : Type} {enc : α → D} {xs : List α} (j : Nat) (I : Nat → SEnv → Prop) {x : Str} (hi : ID X (.Name x p) it (cl ρ) (xs.map enc))
    (h0 : I 0 ρ) (hs : ∀ i a ρ', xs[i]? = some a → I i ρ' → SD X body (ρ'.set j (.v (enc a))) { nx := I (i + 1), ct := I (i + 1), rt := k.rt }) (hr : ∀ ρ', I xs.length ρ' → SD X rest ρ' k)
    (hp : PassesOwn (model X.prog X.w) X.A X.env X.xe := by exact PassesOwn.never) (hc : X.calm = true := by rfl) (hN : X.N.Nodup := by assumption) (hj : X.N[j]? = some x := by rfl) (hx : Loc X.env.scope x := by first | exact .inl rfl | exact .inr rfl)
    (hf : ∀ x, foldedSetIterable it X.env x = pure x := by intro _; rfl) (hfn : X.fn x = true ∨ X.env.scope.names.lookup x = some .local := by first | exact .inl rfl | exact .inr rfl | assumption) : SD X (.For (.Name x p) it body [] pos :: rest) ρ k :=
  sq_forM (I := I) (M := I xs.length) hp hc hi (pg_name hN hj hx hfn) tg_name h0 (fun i d ρ' e z => by
    rw [List.getElem?_map] at e
    cases ea : xs[i]? with
    | none => rw [ea] at e; cases e
    | some a =>
      rw [ea] at e
      have e' : enc a = d := Option.some.inj e
      subst e'
      exact pss_imp (hs i a ρ' ea z) fun E σ H ⟨H0, G0, G, g, o, f⟩ => ⟨H0, G0, G, g, o, ⟨f.nx, f.rt, fun _ _ _ _ z => z.elim, f.ct⟩⟩) (fun _ z => by rw [List.length_map] at z; exact z) hr hf
end

/-! ### comprehensions -/
section
variable {X : Cx} {tg it elt : Expr} {es ifs : List Expr} {ρ : VEnv} {ds : List D} {d : D} {n : Int} {pos p : Pos}
/-- the tests of a comprehension -/
theorem td_pts0 : PTs X [] (tT X.K ρ true) := ⟨fun pins s σ H Q I ⟨G, sm, o, q⟩ => pts_nil.run pins s σ H Q I (q G H (.refl sm))⟩
theorem td_pts {c : Expr} {b : Bool} (h : TD X c ρ b) : PTs X [c] (tT X.K ρ b) := pts_one h
theorem pts_ex {α : Type} {t : α → TT} {c : α → Prop} (h : ∀ d, c d → PTs X ifs (t d)) : PTs X ifs (fun σ H Q => ∃ d, c d ∧ t d σ H Q) := ⟨fun pins s σ H Q I ⟨d, z, q⟩ => (h d z).run pins s σ H Q I q⟩
theorem pe_ex {α : Type} {t : α → TE} {c : α → Prop} (h : ∀ d, c d → PE X elt (t d)) : PE X elt (fun σ H Q => ∃ d, c d ∧ t d σ H Q) := ⟨fun pins s σ H Q I ⟨d, z, q⟩ => (h d z).run pins s σ H Q I q⟩
theorem vok_set {G : Hp} {σ : L2.St} {ρ : VEnv} {j : Nat} {x : V} {d : D} (o : VOk X.K G σ ρ) (r : Rep X.K G x d) : VOk X.K G (σ.set j (some x)) (ρ.set j (some d)) := fun i e h => by
  rcases get_set h with ⟨e1, e2, e3⟩ | ⟨e1, e2⟩
  · subst e1; subst e2
    obtain ⟨w, h1, _⟩ := o i _ (List.getElem?_eq_getElem e3)
    exact ⟨some x, List.getElem?_set_self (List.getElem?_eq_some_iff.mp h1).1, fun d' z => ⟨x, rfl, by cases z; exact r⟩⟩
  · obtain ⟨v, h1, h2⟩ := o i e e2
    exact ⟨v, by rw [List.getElem?_set_ne (fun q => e1 q.symm)]; exact h1, h2⟩
theorem list_set_cut {α : Type} {l : List α} {j : Nat} {x y : α} : (l.set j x).set j y = l.set j y := List.set_set ..
/-- the core: what the new list at Dl holds (by R, from what is put in), turn by turn -/
theorem lc_go {wi : TI} {j : Nat} {tt : TT} {te : TE} {σ : L2.St} {H1 G1 : Hp} {J : It} {Q : Hp → Prop} {D0 : Addr} (ok : ItOk X.K J ds G1) (s1 : Same G1 H1) (nD : H1 D0 = none)
    (R : Nat → Hp → Hp → Prop) (r0 : R 0 G1 (upd H1 D0 (.lst [])))
    (turn : ∀ i d x G H, ds[i]? = some d → R i G H → Grow G1 H1 G H → Rep X.K G x d → tt (σ.set j (some x)) H fun b H3 => if b = true then te (σ.set j (some x)) H3 fun y H4 => ∃ acc, H4 D0 = some (.lst acc) ∧ acc.length < sizeLine ∧ ∃ G5, Grow G1 H1 G5 (upd H4 D0 (.lst (acc ++ [y]))) ∧ R (i + 1) G5 (upd H4 D0 (.lst (acc ++ [y]))) else ∃ G5, Grow G1 H1 G5 H3 ∧ R (i + 1) G5 H3)
    (rg : ∀ i G H, R i G H → Same G H)
    (rn : ∀ i G H G' H', R i G H → Grow G H G' H' → R i G' H')
    (done : ∀ G H, Grow G1 H1 G H → R ds.length G H → Q H) :
    ∃ W : Nat → Nat → Hp → Prop, (∃ m, W 0 m (upd H1 D0 (.lst []))) ∧ ∀ i m H, W i m H →
      (J.stop i H ∧ Q H) ∨ (J.go i H ∧ ∃ Nx : Hp → Prop, (∀ H', Nx H' → ∃ m', m' < m ∧ W (i + 1) m' H') ∧ ∀ x H', J.yld i H x H' → gName j x (wipe σ [j]) H' fun σ2 H2 => wipe σ2 [j] = wipe σ [j] ∧ tt σ2 H2 fun b H3 =>
        if b = true then te σ2 H3 fun y H4 => ∃ acc, H4 D0 = some (.lst acc) ∧ acc.length < sizeLine ∧ Nx (upd H4 D0 (.lst (acc ++ [y]))) else Nx H3) := by
  refine ⟨fun i m H => m = ds.length - i ∧ i ≤ ds.length ∧ ∃ G, Grow G1 H1 G H ∧ R i G H, ⟨ds.length, by simp, Nat.zero_le _, G1, Grow.hid s1 nD, r0⟩, ?_⟩
  rintro i m H ⟨rfl, hi, G, g, r⟩
  by_cases hlt : i < ds.length
  · refine .inr ⟨ok.go i H (g.g.trans g.s) hlt, fun H' => ∃ G, Grow G1 H1 G H' ∧ R (i + 1) G H', fun H' z => ⟨ds.length - (i + 1), by omega, rfl, hlt, z⟩, fun x H3 y => ?_⟩
    obtain ⟨G3, d, g3, e3, r3⟩ := ok.yld i H G x H3 g.g g.s hlt y
    have ew : (wipe σ [j]).set j (some x) = σ.set j (some x) := by show ((σ.set j none).set j (some x)) = _; rw [List.set_set]
    show wipe ((wipe σ [j]).set j (some x)) [j] = wipe σ [j] ∧ tt ((wipe σ [j]).set j (some x)) H3 _
    rw [ew]
    refine ⟨by show ((σ.set j (some x)).set j none) = _; rw [List.set_set]; rfl, ?_⟩
    exact turn i d x G3 H3 e3 (rn i G H G3 H3 r g3) (g.trans g3) r3
  · have e : i = ds.length := by omega
    subst e
    exact .inl ⟨ok.stop H (g.g.trans g.s), done G H g r⟩
theorem take_filter {α : Type} {ds : List α} {p : α → Bool} {i : Nat} {d : α} (e : ds[i]? = some d) : (ds.take (i + 1)).filter p = (ds.take i).filter p ++ (if p d = true then [d] else []) := by
  have h : ds.take (i + 1) = ds.take i ++ [d] := by rw [List.take_add_one, e]; rfl
  rw [h, List.filter_append, List.filter_cons]
  rfl
/-- [elt for x in it if ..], its items data -/
theorem ed_lc {α : Type} {enc : α → D} {xs : List α} {scope : Scope} (j : Nat) {x : Str} (c : α → Bool) (f : α → D) (hi : ID X (.Name x p) it ρ (xs.map enc))
    (ht : ∀ d, d ∈ xs → ∀ (s : Shared) (H : Hp) (C : Addr) (cl : List (Str × Addr)) (fp : List Addr), PTs (X.blk s H scope (compEnvC scope cl C X.env) fp) ifs (tT X.K (ρ.set j (some (enc d))) (c d)))
    (he : ∀ d, d ∈ xs → c d = true → ∀ (s : Shared) (H : Hp) (C : Addr) (cl : List (Str × Addr)) (fp : List Addr), ED (X.blk s H scope (compEnvC scope cl C X.env) fp) elt (ρ.set j (some (enc d))) (.v (f d)))
    (hz : xs.length ≤ sizeLine) (hc : X.calm = true := by rfl) (hN : X.N.Nodup := by assumption) (ok : BlkOk X.N X.env.scope scope [(x, j)] := by exact blkOk_by (by kernel_rfl))
    (hg : ∀ (s : Shared) (H : Hp) (C : Addr) (cl : List (Str × Addr)) (fp : List Addr), PG (X.blk s H scope (compEnvC scope cl C X.env) fp) (.Name x p) (gName j) := by intro _ _ _ _ _; exact pg_name (by assumption) (by rfl) (by first | exact .inl rfl | exact .inr rfl) (by first | exact .inl rfl | exact .inr rfl))
    (hs : ∀ x, foldedSetIterable it X.env x = pure x := by intro _; rfl) : ED X (.ListComp elt [⟨.Name x p, it, ifs, 0⟩] scope pos) ρ (.o (.list ((xs.filter c).map f))) := by
  refine pe_imp (pe_lc (own := [(x, j)]) hc hN hi ok hg (fun s H C cl fp => pts_ex (c := fun d => d ∈ xs) (t := fun d => tT X.K (ρ.set j (some (enc d))) (c d)) fun d hd => ht d hd s H C cl fp)
    (fun s H C cl fp => pe_ex (c := fun d => d ∈ xs ∧ c d = true) (t := fun d => tE X.K (ρ.set j (some (enc d))) (.v (f d))) fun d hd => he d hd.1 hd.2 s H C cl fp) hs) fun σ H Q ⟨G, s, o, q⟩ => ⟨G, s, o, fun J G1 H1 g ok => ?_⟩
  intro D0 nD
  have g1D : G1 D0 = none := g.s.free nD
  refine lc_go (wi := tIt X.K ρ (xs.map enc)) (j := j) (σ := σ) (Q := fun H => Q (.ref D0) H) (tt := fun σ H Q => ∃ d, d ∈ xs ∧ tT X.K (ρ.set j (some (enc d))) (c d) σ H Q) (te := fun σ H Q => ∃ d, (d ∈ xs ∧ c d = true) ∧ tE X.K (ρ.set j (some (enc d))) (.v (f d)) σ H Q) ok g.s nD (fun i G H => Same G H ∧ G D0 = none ∧ ∃ acc, H D0 = some (.lst acc) ∧ RepAll X.K G acc (((xs.take i).filter c).map f)) ⟨(Grow.hid g.s nD).s, g1D, [], upd_same, .nil⟩ ?_ (fun i G H z => z.1) ?_ ?_
  · rintro i d y G2 H2 e ⟨s2, n2, acc, a1, a2⟩ g2 r2
    rw [List.getElem?_map] at e
    obtain ⟨a, ea, rfl⟩ : ∃ a, xs[i]? = some a ∧ d = enc a := by
      cases q : xs[i]? with
      | none => rw [q] at e; cases e
      | some a => rw [q] at e; exact ⟨a, rfl, (Option.some.inj e).symm⟩
    have hd : a ∈ xs := List.mem_of_getElem? ea
    have ov : VOk X.K G2 (σ.set j (some y)) (ρ.set j (some (enc a))) := vok_set (o.mono (g.trans g2).g) r2
    refine ⟨a, hd, G2, s2, ov, fun G3 H3 g3 => ?_⟩
    have n3 : G3 D0 = none := by rw [g3.o D0 (by rw [a1]; exact fun z => nomatch z)]; exact n2
    cases hcd : c a with
    | true =>
      refine iteT ?_
      refine ⟨a, ⟨hd, hcd⟩, tE_of g3.s (ov.mono g3.g) fun v G4 H4 g4 r4 => ⟨acc, (g3.trans g4).h D0 _ a1, ?_, G4, ?_, ?_⟩⟩
      · have h1 := a2.length
        have h2 : (((xs.take i).filter c).map f).length ≤ i := by
          rw [List.length_map]
          refine Nat.le_trans (List.length_filter_le _ _) ?_
          rw [List.length_take]; omega
        have h3 : i < xs.length := (List.getElem?_eq_some_iff.mp ea).1
        omega
      · have gg := (g2.trans g3).trans g4
        refine ⟨fun b u hb => ?_, fun b u hb => ?_, gg.g, gg.o⟩
        · rw [upd_ne (ne_of_none hb nD)]; exact gg.h b u hb
        · have n4 : G4 D0 = none := by rw [(g3.trans g4).o D0 (by rw [a1]; exact fun z => nomatch z)]; exact n2
          rw [upd_ne (ne_of_none hb n4)]; exact g4.s b u hb
      · have n4 : G4 D0 = none := by rw [(g3.trans g4).o D0 (by rw [a1]; exact fun z => nomatch z)]; exact n2
        refine ⟨fun b u hb => ?_, n4, _, upd_same, ?_⟩
        · rw [upd_ne (ne_of_none hb n4)]; exact g4.s b u hb
        · rw [take_filter ea, if_pos hcd, List.map_append]
          exact (a2.mono (g3.trans g4).g).append (.cons r4 .nil)
    | false =>
      refine iteF ?_
      refine ⟨G3, g2.trans g3, g3.s, n3, acc, g3.h D0 _ a1, ?_⟩
      rw [take_filter ea, if_neg (by rw [hcd]; exact Bool.false_ne_true), List.append_nil]
      exact a2.mono g3.g
  · rintro i G2 H2 G3 H3 ⟨s2, n2, acc, a1, a2⟩ g3
    exact ⟨g3.s, by rw [g3.o D0 (by rw [a1]; exact fun z => nomatch z)]; exact n2, acc, g3.h D0 _ a1, a2.mono g3.g⟩
  · rintro G2 H2 g2 ⟨s2, n2, acc, a1, a2⟩
    rw [List.length_map, List.take_length] at a2
    exact q _ G2 H2 ⟨g.trans g2, fun a => a = D0, ⟨D0, _, rfl, rfl, a1, .inl ⟨acc, _, rfl, rfl, a2⟩⟩, fun a ha => ha ▸ ⟨g.h.free nD, n2⟩⟩

theorem own_li {G : Hp} {h : HO} {l : List Int} (x : OwnIs X.K G h (li l)) : h = .lst (l.map V.int) := by
  rcases x with ⟨xs, ds, h1, h2, h3⟩ | ⟨ks, _, h2⟩
  · unfold li at h2
    injection h2 with h2
    subst h2
    rw [h1, h3.ints]
  · unfold li kd at h2
    cases h2
theorem Paired.snoc {α β : Type} {F : α → β → Prop} : ∀ {xs : List α} {ys : List β} {x : α} {y : β}, Paired F xs ys → F x y → Paired F (xs ++ [x]) (ys ++ [y])
  | _, _, _, _, .nil, h => .cons h .nil
  | _, _, _, _, .cons r t, h => .cons r (Paired.snoc t h)
theorem Paired.same {α β : Type} {F G : α → β → Prop} : ∀ {xs : List α} {ys : List β}, Paired F xs ys → (∀ x ∈ xs, ∀ y, F x y → G x y) → Paired G xs ys
  | _, _, .nil, _ => .nil
  | _, _, .cons r t, h => .cons (h _ List.mem_cons_self _ r) (Paired.same t fun x hx => h x (List.mem_cons_of_mem _ hx))
theorem paired_some {H : Hp} : ∀ {qs : List Addr} {ls : List (List Int)}, Paired (fun q (l : List Int) => H q = some (.lst (l.map V.int))) qs ls → ∀ q ∈ qs, H q ≠ none
  | _, _, .nil => fun _ hq => nomatch hq
  | _, _, .cons r t => fun q hq => by
    rcases List.mem_cons.mp hq with z | hq
    · subst z; rw [r]; exact fun z => nomatch z
    · exact paired_some t q hq
theorem nodup_snoc {α : Type} {l : List α} {x : α} (h : l.Nodup) (n : x ∉ l) : (l ++ [x]).Nodup := by
  rw [List.nodup_append]
  exact ⟨h, by simp, fun a ha b hb e => by
    have : b = x := by simpa using hb
    subst this
    exact n (e ▸ ha)⟩
/-- [elt for x in it if ..], its items new lists of ints -/
theorem ed_lct {α : Type} {enc : α → D} {xs : List α} {scope : Scope} (j : Nat) {x : Str} (c : α → Bool) (f : α → List Int) (hi : ID X (.Name x p) it ρ (xs.map enc))
    (ht : ∀ d, d ∈ xs → ∀ (s : Shared) (H : Hp) (C : Addr) (cl : List (Str × Addr)) (fp : List Addr), PTs (X.blk s H scope (compEnvC scope cl C X.env) fp) ifs (tT X.K (ρ.set j (some (enc d))) (c d)))
    (he : ∀ d, d ∈ xs → c d = true → ∀ (s : Shared) (H : Hp) (C : Addr) (cl : List (Str × Addr)) (fp : List Addr), ED (X.blk s H scope (compEnvC scope cl C X.env) fp) elt (ρ.set j (some (enc d))) (.o (li (f d))))
    (hz : xs.length ≤ sizeLine) (hc : X.calm = true := by rfl) (hN : X.N.Nodup := by assumption) (ok : BlkOk X.N X.env.scope scope [(x, j)] := by exact blkOk_by (by kernel_rfl))
    (hg : ∀ (s : Shared) (H : Hp) (C : Addr) (cl : List (Str × Addr)) (fp : List Addr), PG (X.blk s H scope (compEnvC scope cl C X.env) fp) (.Name x p) (gName j) := by intro _ _ _ _ _; exact pg_name (by assumption) (by rfl) (by first | exact .inl rfl | exact .inr rfl) (by first | exact .inl rfl | exact .inr rfl))
    (hs : ∀ x, foldedSetIterable it X.env x = pure x := by intro _; rfl) : ED X (.ListComp elt [⟨.Name x p, it, ifs, 0⟩] scope pos) ρ (.t ((xs.filter c).map f)) := by
  refine pe_imp (pe_lc (own := [(x, j)]) hc hN hi ok hg (fun s H C cl fp => pts_ex (c := fun d => d ∈ xs) (t := fun d => tT X.K (ρ.set j (some (enc d))) (c d)) fun d hd => ht d hd s H C cl fp)
    (fun s H C cl fp => pe_ex (c := fun d => d ∈ xs ∧ c d = true) (t := fun d => tE X.K (ρ.set j (some (enc d))) (.o (li (f d)))) fun d hd => he d hd.1 hd.2 s H C cl fp) hs) fun σ H Q ⟨G, s, o, q⟩ => ⟨G, s, o, fun J G1 H1 g ok => ?_⟩
  intro D0 nD
  have g1D : G1 D0 = none := g.s.free nD
  refine lc_go (wi := tIt X.K ρ (xs.map enc)) (j := j) (σ := σ) (Q := fun H => Q (.ref D0) H) (tt := fun σ H Q => ∃ d, d ∈ xs ∧ tT X.K (ρ.set j (some (enc d))) (c d) σ H Q) (te := fun σ H Q => ∃ d, (d ∈ xs ∧ c d = true) ∧ tE X.K (ρ.set j (some (enc d))) (.o (li (f d))) σ H Q) ok g.s nD
    (fun i G H => Same G H ∧ G D0 = none ∧ ∃ qs : List Addr, H D0 = some (.lst (qs.map V.ref)) ∧ (D0 :: qs).Nodup ∧ (∀ q ∈ qs, H1 q = none ∧ G q = none) ∧ Paired (fun q (l : List Int) => H q = some (.lst (l.map V.int))) qs (((xs.take i).filter c).map f)) ⟨(Grow.hid g.s nD).s, g1D, [], upd_same, by simp, (fun _ h => nomatch h), .nil⟩ ?_ (fun i G H z => z.1) ?_ ?_
  · rintro i d y G2 H2 e ⟨s2, n2, qs, a1, a2, a3, a4⟩ g2 r2
    rw [List.getElem?_map] at e
    obtain ⟨a, ea, rfl⟩ : ∃ a, xs[i]? = some a ∧ d = enc a := by
      cases q : xs[i]? with
      | none => rw [q] at e; cases e
      | some a => rw [q] at e; exact ⟨a, rfl, (Option.some.inj e).symm⟩
    have hd : a ∈ xs := List.mem_of_getElem? ea
    have ov : VOk X.K G2 (σ.set j (some y)) (ρ.set j (some (enc a))) := vok_set (o.mono (g.trans g2).g) r2
    have some2 : ∀ q ∈ qs, H2 q ≠ none := paired_some a4
    refine ⟨a, hd, G2, s2, ov, fun G3 H3 g3 => ?_⟩
    have n3 : G3 D0 = none := by rw [g3.o D0 (by rw [a1]; exact fun z => nomatch z)]; exact n2
    cases hcd : c a with
    | true =>
      refine iteT ?_
      refine ⟨a, ⟨hd, hcd⟩, G3, g3.s, ov.mono g3.g, fun v G4 H4 got => ?_⟩
      obtain ⟨g4, P, ⟨p, h, e1, hp, hp4, ow⟩, fresh⟩ := got
      cases e1
      have hh := own_li ow
      subst hh
      have nD4 : p ≠ D0 := fun z => by
        have := (fresh p hp).1
        rw [z, g3.h D0 _ a1] at this; cases this
      have nq : p ∉ qs := fun z => by
        have h1 := (fresh p hp).1
        exact some2 p z (g3.h.free h1)
      have g34 := g3.trans g4
      have gg := g2.trans g34
      have n4 : G4 D0 = none := by rw [g34.o D0 (by rw [a1]; exact fun z => nomatch z)]; exact n2
      refine ⟨qs.map V.ref, g34.h D0 _ a1, ?_, G4, ?_, ?_⟩
      · have h1 : qs.length = (((xs.take i).filter c).map f).length := Paired.length a4
        have h2 : (((xs.take i).filter c).map f).length ≤ i := by
          rw [List.length_map]
          refine Nat.le_trans (List.length_filter_le _ _) ?_
          rw [List.length_take]; omega
        have h3 : i < xs.length := (List.getElem?_eq_some_iff.mp ea).1
        rw [List.length_map]
        omega
      · refine ⟨fun b u hb => ?_, fun b u hb => ?_, gg.g, gg.o⟩
        · rw [upd_ne (ne_of_none hb nD)]; exact gg.h b u hb
        · rw [upd_ne (ne_of_none hb n4)]; exact g4.s b u hb
      · refine ⟨fun b u hb => ?_, n4, qs ++ [p], by rw [upd_same, List.map_append]; rfl, ?_, ?_, ?_⟩
        · rw [upd_ne (ne_of_none hb n4)]; exact g4.s b u hb
        · have := nodup_snoc a2 (x := p) (by
            intro z
            rcases List.mem_cons.mp z with z | z
            · exact nD4 z
            · exact nq z)
          simpa using this
        · intro q hq
          rcases List.mem_append.mp hq with hq | hq
          · exact ⟨(a3 q hq).1, by rw [g34.o q (some2 q hq)]; exact (a3 q hq).2⟩
          · have : q = p := by simpa using hq
            subst this
            exact ⟨(g2.h.trans g3.h).free (fresh q hp).1, (fresh q hp).2⟩
        · rw [take_filter ea, if_pos hcd, List.map_append]
          refine Paired.snoc (Paired.same a4 fun q hq l hl => ?_) ?_
          · have : q ≠ D0 := fun z => (List.nodup_cons.mp a2).1 (z ▸ hq)
            rw [upd_ne this]
            exact g34.h q _ hl
          · rw [upd_ne nD4]; exact hp4
    | false =>
      refine iteF ?_
      refine ⟨G3, g2.trans g3, g3.s, n3, qs, g3.h D0 _ a1, a2, fun q hq => ⟨(a3 q hq).1, by rw [g3.o q (some2 q hq)]; exact (a3 q hq).2⟩, ?_⟩
      rw [take_filter ea, if_neg (by rw [hcd]; exact Bool.false_ne_true), List.append_nil]
      exact Paired.same a4 fun q hq l hl => g3.h q _ hl
  · rintro i G2 H2 G3 H3 ⟨s2, n2, qs, a1, a2, a3, a4⟩ g3
    have some2 : ∀ q ∈ qs, H2 q ≠ none := paired_some a4
    exact ⟨g3.s, by rw [g3.o D0 (by rw [a1]; exact fun z => nomatch z)]; exact n2, qs, g3.h D0 _ a1, a2, fun q hq => ⟨(a3 q hq).1, by rw [g3.o q (some2 q hq)]; exact (a3 q hq).2⟩, Paired.same a4 fun q hq l hl => g3.h q _ hl⟩
  · rintro G2 H2 g2 ⟨s2, n2, qs, a1, a2, a3, a4⟩
    rw [List.length_map, List.take_length] at a4
    refine q _ G2 H2 ⟨g.trans g2, fun a => a = D0 ∨ a ∈ qs, ⟨D0, qs, rfl, .inl rfl, fun q hq => .inr hq, a2, a1, a4⟩, fun a ha => ?_⟩
    rcases ha with ha | ha
    · exact ha ▸ ⟨g.h.free nD, n2⟩
    · exact ⟨g.h.free (a3 a ha).1, (a3 a ha).2⟩
end

/-! ### defs -/
/-- a def's promise, by data: from the arguments' data to what comes -/
def spF (K : PySem.W.Frag) (F : List D → Sl → Prop) : Sp := fun vs H Q _ => ∃ G ds s, Same G H ∧ RepAll K G vs ds ∧ F ds s ∧ ∀ v G' H', Got K G H G' H' v s → Q v H'
structure Fn (P : Program) (w : World) (K : PySem.W.Frag) (mg : Str → Option Value) (base : Heap) (k : Nat) (x : Str) (F : List D → Sl → Prop) : Prop where
  ex : ∃ (f : Addr) (fd : FuncData) (ps : List Str), FnOk P w K mg base CX0 k f fd ps (spF K F) ∧ mg x = some (.ref f) ∧ PySem.W.keepIn K (.ref f) = true ∧ Binds K fd ps []
/-- a def of the text, as it stands behind the top -/
structure DefAt (K : PySem.W.Frag) (mg : Str → Option Value) (x : Str) (st : Stmt) (ps : List Str) : Prop where
  ex : ∃ (f : Addr) (fd : FuncData), Fun K x x st f fd ∧ mg x = some (.ref f) ∧ Binds K fd ps []
section
variable {X : Cx} {e : Expr} {es : List Expr} {ρ : VEnv} {ds : List D} {s : Sl} {pos p : Pos} {k : Nat} {x : Str} {F : List D → Sl → Prop}
theorem ed_call (Fx : Fn X.prog X.w X.K X.mg X.base k x F) (hr : Room k X.A) (ha : AD X (e :: es) ρ ds) (hf : F ds s) (hg : Gl X x := by rfl) (hdb : (x == ("__debug__" : Str)) = false := by decide)
    (he : starEach (e :: es) X.env = (false, eval e X.env) :: starEach es X.env := by rfl) (hpl : (backTo pos (starEach es X.env)).any (·.1) = false := by rfl) : ED X (.Call (.Name x p) (e :: es) [] pos) ρ s := by
  obtain ⟨f, fd, ps, ok, hm, hk, hb⟩ := Fx.ex
  refine pe_imp (pe_call (E := E0) ok hr hg hm hk hb .nil pass0 ha hdb he hpl) fun σ H Q ⟨G, sm, o, q⟩ => tA_of sm o fun vs G1 H1 g r => ⟨G1, ds, s, g.s, ?_, hf, fun v G' H' got => q v G' H' (got.pre g)⟩
  rw [List.append_nil]
  exact r
end
abbrev bX (P : Program) (w : World) (K : PySem.W.Frag) (mg : Str → Option Value) (base : Heap) (N : List Str) (x : Str) (st : Stmt) (f : Addr) (cdv : Value) (A : Around) (outer : List Env) (s : Shared) (H : Hp) (E : XK) : Cx :=
  (cxOf CX0 P w K mg base N x (defScope st) f cdv A outer s H E).nox
theorem RepAll.vok {H : Hp} : ∀ {vs : List V} {ds : List D}, RepAll K H vs ds → ∀ (i : Nat) (d : D), ds[i]? = some d → ∃ v, vs[i]? = some v ∧ Rep K H v d := fun r i d e => r.get' e
theorem env_start {G H : Hp} {N : List Str} {vs : List V} {ds : List D} (s : Same G H) (r : RepAll K G vs ds) (hl : vs.length ≤ N.length) : EnvOk K H G H (L2.start N vs) (ds.map Sl.v ++ List.replicate (N.length - ds.length) Sl.em) := by
  refine ⟨fun _ _ => False, fun _ _ h => h.elim, fun _ _ _ h => h.elim, fun i t e => ?_⟩
  have el := r.length
  by_cases hi : i < ds.length
  · rw [List.getElem?_append_left (by rw [List.length_map]; exact hi), List.getElem?_map, List.getElem?_eq_getElem hi] at e
    have e' : Sl.v ds[i] = t := Option.some.inj e
    subst e'
    obtain ⟨v, h1, h2⟩ := r.get' (List.getElem?_eq_getElem hi)
    refine ⟨some v, ?_, v, rfl, h2⟩
    unfold L2.start
    rw [List.getElem?_append_left (by rw [List.length_map, el]; exact hi), List.getElem?_map, h1]
    rfl
  · rw [List.getElem?_append_right (by rw [List.length_map]; omega)] at e
    obtain ⟨h1, h2⟩ := List.getElem?_eq_some_iff.mp e
    rw [List.length_replicate, List.length_map] at h1
    rw [List.getElem_replicate] at h2
    subst h2
    unfold L2.start
    refine ⟨none, ?_, trivial⟩
    rw [List.getElem?_append_right (by rw [List.length_map, el]; omega), List.length_map, el, List.getElem?_replicate, if_pos (by omega)]
theorem fnok_mk {P : Program} {w : World} {K : PySem.W.Frag} {mg : Str → Option Value} {base : Heap} {x : Str} {st : Stmt} {N ps : List Str} {k : Nat} {F : List D → Sl → Prop} {f : Addr} {fd : FuncData} (Fx : Fun K x x st f fd) (S : FnScope N ps (defScope st))
    (len : ∀ ds s, F ds s → ds.length = ps.length)
    (body : ∀ (f : Addr) (cdv : Value) (A : Around) (outer : List Env) (s : Shared) (H : Hp) (E : XK), Room k (bX P w K mg base N x st f cdv A outer s H E).A → ∀ ds t, F ds t →
      SD (bX P w K mg base N x st f cdv A outer s H E) (defBody st) (ds.map Sl.v ++ List.replicate (N.length - ds.length) Sl.em) { nx := fun _ => t = .v .none, rt := fun t' => t' = t }) : FnOk P w K mg base CX0 (k + 1) f fd ps (spF K F) := by
  have hps : ps.length ≤ N.length := by
    have := congrArg List.length S.pre
    rw [List.length_take] at this
    omega
  refine Fx.ok S ?_ ?_
  · rintro vs H Q E ⟨G, ds, t, _, r, hf, _⟩
    rw [r.length]
    exact len ds t hf
  · rintro cdv A outer s H vs Q E hr ⟨G, ds, t, sm, r, hf, q⟩
    refine ⟨_, body f cdv A outer s H E hr ds t hf, H, G, G, .refl sm, env_start sm r (by rw [r.length, len ds t hf]; exact hps), ?_⟩
    refine ⟨fun ρ σ G' H' e g o => ?_, fun t' v G' H' e g ret => ?_, fun _ _ _ _ z => z.elim, fun _ _ _ _ z => z.elim⟩
    · subst e
      exact q .non G' H' (.val g .non)
    · have e' : t' = t := e
      subst e'
      exact q v G' H' ⟨g, ret⟩
theorem fn_mk {P : Program} {w : World} {K : PySem.W.Frag} {mg : Str → Option Value} {base : Heap} {x : Str} {st : Stmt} {N ps : List Str} {k : Nat} {F : List D → Sl → Prop} (T : DefAt K mg x st ps) (S : FnScope N ps (defScope st))
    (len : ∀ ds s, F ds s → ds.length = ps.length)
    (body : ∀ (f : Addr) (cdv : Value) (A : Around) (outer : List Env) (s : Shared) (H : Hp) (E : XK), Room k (bX P w K mg base N x st f cdv A outer s H E).A → ∀ ds t, F ds t →
      SD (bX P w K mg base N x st f cdv A outer s H E) (defBody st) (ds.map Sl.v ++ List.replicate (N.length - ds.length) Sl.em) { nx := fun _ => t = .v .none, rt := fun t' => t' = t }) : Fn P w K mg base (k + 1) x F := by
  obtain ⟨f, fd, Fx, hm, hb⟩ := T.ex
  exact ⟨f, fd, ps, fnok_mk Fx S len body, hm, Fx.kp, hb⟩
end DL

/-! DL3: operators, comparisons, built-ins, by data -/
namespace DL
open PySem PySem.Spec PyProof.Rows L2
variable {K : PySem.W.Frag}
section
variable {X : Cx} {a b c e : Expr} {es : List Expr} {ρ : VEnv} {s : Sl} {d d1 d2 d3 : D} {ds : List D} {pos p : Pos} {n m : Int} {k : Nat}

/-! ### whole numbers -/
theorem got_int {G H : Hp} (s : Same G H) (i : Int) : Got X.K G H G H (.int i) (.v (.int i)) := .val (.refl s) (.int i)
theorem ed_add (ha : ED X a ρ (.v (.int n))) (hb : ED X b ρ (.v (.int m))) : ED X (.BinOp a .Add b pos) ρ (.v (.int (n + m))) :=
  ed_op op_add ha hb fun x y G H Q s r1 r2 q => ⟨n, m, r1.to_int, r2.to_int, q _ G H (got_int s _)⟩
theorem ed_sub (ha : ED X a ρ (.v (.int n))) (hb : ED X b ρ (.v (.int m))) : ED X (.BinOp a .Sub b pos) ρ (.v (.int (n - m))) :=
  ed_op op_sub ha hb fun x y G H Q s r1 r2 q => ⟨n, m, r1.to_int, r2.to_int, q _ G H (got_int s _)⟩
theorem ed_mul (ha : ED X a ρ (.v (.int n))) (hb : ED X b ρ (.v (.int m))) (h : CMul n m) : ED X (.BinOp a .Mult b pos) ρ (.v (.int (n * m))) :=
  ed_op op_mul ha hb fun x y G H Q s r1 r2 q => ⟨n, m, r1.to_int, r2.to_int, h, q _ G H (got_int s _)⟩
theorem ed_fdiv (ha : ED X a ρ (.v (.int n))) (hb : ED X b ρ (.v (.int m))) (h : CDiv n m) : ED X (.BinOp a .FloorDiv b pos) ρ (.v (.int (n / m))) :=
  ed_op op_fdiv ha hb fun x y G H Q s r1 r2 q => ⟨n, m, r1.to_int, r2.to_int, h, q _ G H (got_int s _)⟩
theorem ed_mod (ha : ED X a ρ (.v (.int n))) (hb : ED X b ρ (.v (.int m))) (h : 0 < m) : ED X (.BinOp a .Mod b pos) ρ (.v (.int (n % m))) :=
  ed_op op_mod ha hb fun x y G H Q s r1 r2 q => ⟨n, m, r1.to_int, r2.to_int, h, q _ G H (got_int s _)⟩
theorem ed_pow (ha : ED X a ρ (.v (.int n))) (hb : ED X b ρ (.v (.int m))) (h : CPow n m) : ED X (.BinOp a .Pow b pos) ρ (.v (.int (n ^ m.toNat))) :=
  ed_op op_pow ha hb fun x y G H Q s r1 r2 q => ⟨n, m, r1.to_int, r2.to_int, h, q _ G H (got_int s _)⟩
theorem ed_neg (ha : ED X a ρ (.v (.int n))) : ED X (.UnaryOp .USub a pos) ρ (.v (.int (-n))) :=
  ed_of (pe_un un_neg ha) fun σ H G Q s o q => tE_of s o fun v G1 H1 g r => ⟨n, r.to_int, q _ G1 H1 g (.int _)⟩
section
variable (ha : ED X a ρ (.v (.int n))) (hb : ED X b ρ (.v (.int m)))
include ha hb
theorem ed_lt : ED X (.Compare a [.Lt] [b] pos) ρ (.v (.bool (decide (n < m)))) := ed_cmp op_lt ha hb (nomark _) fun x y G H Q s r1 r2 q => ⟨n, m, r1.to_int, r2.to_int, q⟩
theorem ed_le : ED X (.Compare a [.LtE] [b] pos) ρ (.v (.bool (decide (n ≤ m)))) := ed_cmp op_le ha hb (nomark _) fun x y G H Q s r1 r2 q => ⟨n, m, r1.to_int, r2.to_int, q⟩
theorem td_lt : TD X (.Compare a [.Lt] [b] pos) ρ (decide (n < m)) := td_cmp op_lt ha hb (nomark _) fun x y G H Q s r1 r2 q => ⟨n, m, r1.to_int, r2.to_int, q⟩
theorem td_le : TD X (.Compare a [.LtE] [b] pos) ρ (decide (n ≤ m)) := td_cmp op_le ha hb (nomark _) fun x y G H Q s r1 r2 q => ⟨n, m, r1.to_int, r2.to_int, q⟩
theorem td_gt : TD X (.Compare a [.Gt] [b] pos) ρ (decide (m < n)) := td_cmp op_gt ha hb (nomark _) fun x y G H Q s r1 r2 q => ⟨n, m, r1.to_int, r2.to_int, q⟩
theorem td_ge : TD X (.Compare a [.GtE] [b] pos) ρ (decide (m ≤ n)) := td_cmp op_ge ha hb (nomark _) fun x y G H Q s r1 r2 q => ⟨n, m, r1.to_int, r2.to_int, q⟩
theorem ed_gt : ED X (.Compare a [.Gt] [b] pos) ρ (.v (.bool (decide (m < n)))) := ed_cmp op_gt ha hb (nomark _) fun x y G H Q s r1 r2 q => ⟨n, m, r1.to_int, r2.to_int, q⟩
theorem ed_ge : ED X (.Compare a [.GtE] [b] pos) ρ (.v (.bool (decide (m ≤ n)))) := ed_cmp op_ge ha hb (nomark _) fun x y G H Q s r1 r2 q => ⟨n, m, r1.to_int, r2.to_int, q⟩
end
/-- a op b op' c, of whole numbers -/
theorem td_chain {op op' : CmpOp} {f g : Int → Int → Bool} {i j l : Int} (ho : OpR X (compareOp op) (rI0 fun i j => .bl (f i j))) (ho' : OpR X (compareOp op') (rI0 fun i j => .bl (g i j)))
    (ha : ED X a ρ (.v (.int i))) (hb : ED X b ρ (.v (.int j))) (hc : ED X c ρ (.v (.int l))) (hm : lastMarks [op, op'] [b, c] = false := by with_unfolding_all rfl) : TD X (.Compare a [op, op'] [b, c] pos) ρ (f i j && g j l) :=
  pt_imp (pt_chain ho ho' ha hb hc hm) fun σ H Q ⟨G, s, o, q⟩ => tE_of s o fun x G1 H1 g1 r1 => tE_of g1.s (o.mono g1.g) fun y G2 H2 g2 r2 => by
    refine ⟨i, j, r1.to_int, r2.to_int, f i j, rfl, ?_⟩
    cases hf : f i j with
    | true =>
      rw [hf] at q
      refine iteT (tE_of g2.s (o.mono (g1.trans g2).g) fun z G3 H3 g3 r3 => ?_)
      exact ⟨j, l, r2.to_int, r3.to_int, _, rfl, q G3 H3 ((g1.trans g2).trans g3)⟩
    | false =>
      rw [hf] at q
      exact iteF ⟨_, rfl, q G2 H2 (g1.trans g2)⟩

/-! ### equality, membership, None -/
theorem td_eq {v : Bool} (hr : Room k X.A) (ha : ED X a ρ (.v d1)) (hb : ED X b ρ (.v d2)) (h1 : SeqAt.shaped d1 = true) (h2 : SeqAt.shaped d2 = true) (hv : PyData.eqv d1 d2 = v) : TD X (.Compare a [.Eq] [b] pos) ρ v :=
  td_cmp (op_eqD hr.units) ha hb (nomark _) fun x y G H Q s r1 r2 q => ⟨d1, d2, (r1.mono s).dp (Bool.and_eq_true_iff.mp h1).1, (r2.mono s).dp (Bool.and_eq_true_iff.mp h2).1, h1, h2, by rw [hv]; exact q⟩
theorem ed_eq {v : Bool} (hr : Room k X.A) (ha : ED X a ρ (.v d1)) (hb : ED X b ρ (.v d2)) (h1 : SeqAt.shaped d1 = true) (h2 : SeqAt.shaped d2 = true) (hv : PyData.eqv d1 d2 = v) : ED X (.Compare a [.Eq] [b] pos) ρ (.v (.bool v)) :=
  ed_cmp (op_eqD hr.units) ha hb (nomark _) fun x y G H Q s r1 r2 q => ⟨d1, d2, (r1.mono s).dp (Bool.and_eq_true_iff.mp h1).1, (r2.mono s).dp (Bool.and_eq_true_iff.mp h2).1, h1, h2, by rw [hv]; exact q⟩
theorem td_ne {v : Bool} (hr : Room k X.A) (ha : ED X a ρ (.v d1)) (hb : ED X b ρ (.v d2)) (h1 : SeqAt.shaped d1 = true) (h2 : SeqAt.shaped d2 = true) (hv : PyData.eqv d1 d2 = v) : TD X (.Compare a [.NotEq] [b] pos) ρ (!v) :=
  td_cmp (op_neD hr.units) ha hb (nomark _) fun x y G H Q s r1 r2 q => ⟨d1, d2, (r1.mono s).dp (Bool.and_eq_true_iff.mp h1).1, (r2.mono s).dp (Bool.and_eq_true_iff.mp h2).1, h1, h2, by rw [hv]; exact q⟩
theorem Room.u65 {A : Around} (hr : Room k A) : A.units + 65 < cLine := by have := hr.un; omega
theorem td_in {v : Bool} (hr : Room k X.A) (ha : ED X a ρ (.v d)) (hb : ED X b ρ (.v (.list ds))) (h1 : SeqAt.shaped d = true) (h2 : SeqAt.shaped (.list ds) = true) (hv : (ds.any fun z => PyData.eqv z d) = v) (hm : behindInMarks .In b = false := by rfl) : TD X (.Compare a [.In] [b] pos) ρ v :=
  td_cmp (op_inD (Room.u65 hr)) ha hb hm fun x y G H Q s r1 r2 q => ⟨d, ds, (r1.mono s).dp (Bool.and_eq_true_iff.mp h1).1, (r2.mono s).dp (Bool.and_eq_true_iff.mp h2).1, h1, h2, by rw [hv]; exact q⟩
theorem ed_in {v : Bool} (hr : Room k X.A) (ha : ED X a ρ (.v d)) (hb : ED X b ρ (.v (.list ds))) (h1 : SeqAt.shaped d = true) (h2 : SeqAt.shaped (.list ds) = true) (hv : (ds.any fun z => PyData.eqv z d) = v) (hm : behindInMarks .In b = false := by rfl) : ED X (.Compare a [.In] [b] pos) ρ (.v (.bool v)) :=
  ed_cmp (op_inD (Room.u65 hr)) ha hb hm fun x y G H Q s r1 r2 q => ⟨d, ds, (r1.mono s).dp (Bool.and_eq_true_iff.mp h1).1, (r2.mono s).dp (Bool.and_eq_true_iff.mp h2).1, h1, h2, by rw [hv]; exact q⟩
theorem td_nin {v : Bool} (hr : Room k X.A) (ha : ED X a ρ (.v d)) (hb : ED X b ρ (.v (.list ds))) (h1 : SeqAt.shaped d = true) (h2 : SeqAt.shaped (.list ds) = true) (hv : (ds.any fun z => PyData.eqv z d) = v) (hm : behindInMarks .NotIn b = false := by rfl) : TD X (.Compare a [.NotIn] [b] pos) ρ (!v) :=
  td_cmp (op_notInD (Room.u65 hr)) ha hb hm fun x y G H Q s r1 r2 q => ⟨d, ds, (r1.mono s).dp (Bool.and_eq_true_iff.mp h1).1, (r2.mono s).dp (Bool.and_eq_true_iff.mp h2).1, h1, h2, by rw [hv]; exact q⟩
/-- n in (i, j, ..) -/
theorem inV_ints (n : Int) : ∀ l : List Int, inV (.int n) (l.map V.int) = l.contains n
  | [] => rfl
  | x :: l => by
    have ih := inV_ints n l
    unfold inV at ih ⊢
    rw [List.map_cons, List.any_cons, ih, List.contains_cons]
    congr 1
    show (x == n) = (n == x)
    rw [Bool.eq_iff_iff, beq_iff_eq, beq_iff_eq]
    exact eq_comm
theorem flat_ints : ∀ l : List Int, (l.map V.int).all flatV = true
  | [] => rfl
  | _ :: l => by rw [List.map_cons, List.all_cons, flat_ints l]; rfl
theorem td_inT {l : List Int} (ha : ED X a ρ (.v (.int n))) (hb : ED X b ρ (.v (tI l))) (hm : behindInMarks .In b = false := by rfl) : TD X (.Compare a [.In] [b] pos) ρ (l.contains n) :=
  td_cmp op_in_seq ha hb hm fun x y G H Q s r1 r2 q => by
    obtain ⟨t, xs, rfl, ht, rx⟩ := r2.to_tup
    have ex := rx.ints
    subst ex
    have e1 := r1.to_int
    subst e1
    refine ⟨t, _, rfl, .inr (SqT.of (s _ _ ht)), rfl, flat_ints l, ?_⟩
    show Q (.bl (inV (.int n) (l.map V.int))) H
    rw [inV_ints]
    exact q
theorem inl_inj : ∀ {k l : List Int}, k.map (Sum.inl (β := Str)) = l.map Sum.inl → k = l
  | [], [], _ => rfl
  | [], _ :: _, h => by cases h
  | _ :: _, [], h => by cases h
  | x :: k, y :: l, h => by
    rw [List.map_cons, List.map_cons] at h
    injection h with h1 h2
    injection h1 with h1
    rw [h1, inl_inj h2]
theorem kdL_has (l : List Int) : ∀ ks : List (List Int), (valV (kdL ks) (l.map Sum.inl)).isSome = ks.contains l
  | [] => rfl
  | k :: ks => by
    show (valV ((k.map Sum.inl, V.bl true) :: kdL ks) (l.map Sum.inl)).isSome = _
    rw [List.contains_cons]
    by_cases h : k = l
    · subst h
      rw [valV_pos rfl]
      simp
    · rw [valV_neg (fun q => h (inl_inj q)), kdL_has l ks]
      have : (l == k) = false := beq_eq_false_iff_ne.mpr (Ne.symm h)
      rw [this, Bool.false_or]
theorem td_inK {ks : List (List Int)} {l : List Int} (hr : Room k X.A) (ha : ED X a ρ (.v (tI l))) (hb : ED X b ρ (.v (kd ks))) (hm : behindInMarks .In b = false := by rfl) : TD X (.Compare a [.In] [b] pos) ρ (ks.contains l) :=
  pt_imp (pt_cmp (pc_din (by have := hr.un; omega) ha hb) hm) fun σ H Q ⟨G, s, o, q⟩ => tE_of s o fun y G1 H1 g1 r1 => tE_of g1.s (o.mono g1.g) fun x G2 H2 g2 r2 => by
    obtain ⟨t, xs, rfl, ht, rx⟩ := r1.to_tup
    have ex := rx.ints
    subst ex
    obtain ⟨a, rfl, hx⟩ := r2.to_kd
    have e1 : H2 t = some (.tup ((l.map Sum.inl).map kV)) := by
      rw [g2.h _ _ (g1.s _ _ ht), List.map_map]
      rfl
    refine ⟨a, _, rfl, DGet.t (g2.s _ _ hx) e1, _, rfl, ?_⟩
    rw [kdL_has]
    exact q G2 H2 (g1.trans g2)
def isN : D → Bool
  | .none => true
  | _ => false
theorem rep_isN {H : Hp} {v : V} {d : D} (r : Rep X.K H v d) : decide (v = .non) = isN d := by
  cases r with
  | dct q _ => subst q; rfl
  | scr q _ => subst q; rfl
  | _ => rfl
theorem td_isN {j : Nat} {pos' : Pos} (ha : ED X a ρ (.v d)) : TD X (.Compare a [.Is] [.Constant .none j pos'] pos) ρ (isN d) :=
  pt_imp (pt_cmp (pc_isN ha)) fun σ H Q ⟨G, s, o, q⟩ => tE_of s o fun v G1 H1 g r => ⟨isN d, by rw [rep_isN r], q G1 H1 g⟩
theorem td_notN {j : Nat} {pos' : Pos} (ha : ED X a ρ (.v d)) : TD X (.Compare a [.IsNot] [.Constant .none j pos'] pos) ρ (!isN d) :=
  pt_imp (pt_cmp (pc_notN ha)) fun σ H Q ⟨G, s, o, q⟩ => tE_of s o fun v G1 H1 g r => ⟨!isN d, by rw [rep_isN r], q G1 H1 g⟩
theorem ed_isN {j : Nat} {pos' : Pos} (ha : ED X a ρ (.v d)) : ED X (.Compare a [.Is] [.Constant .none j pos'] pos) ρ (.v (.bool (isN d))) :=
  ed_of (pe_cmp (pc_isN ha)) fun σ H G Q s o q => tE_of s o fun v G1 H1 g r => by rw [rep_isN r]; exact q _ G1 H1 g (.bl _)
theorem ed_notN {j : Nat} {pos' : Pos} (ha : ED X a ρ (.v d)) : ED X (.Compare a [.IsNot] [.Constant .none j pos'] pos) ρ (.v (.bool (!isN d))) :=
  ed_of (pe_cmp (pc_notN ha)) fun σ H G Q s o q => tE_of s o fun v G1 H1 g r => by rw [rep_isN r]; exact q _ G1 H1 g (.bl _)

/-! ### and, or, not, if -/
abbrev WD (X : Cx) (e : Expr) (ρ : VEnv) (b : Bool) : Prop := PW X e (tT X.K ρ b)
theorem pw_imp {e : Expr} {t t' : TT} (h : PW X e t) (i : ∀ σ H Q, t' σ H Q → t σ H Q) : PW X e t' := ⟨fun wh pins s σ H Q I q => h.run wh pins s σ H Q I (i σ H Q q)⟩
theorem pw_if {e : Expr} {c : Prop} {t : TT} (h : c → PW X e t) : PW X e (fun σ H Q => c ∧ t σ H Q) := ⟨fun wh pins s σ H Q I q => (h q.1).run wh pins s σ H Q I q.2⟩
theorem pe_if {e : Expr} {c : Prop} {t : TE} (h : c → PE X e t) : PE X e (fun σ H Q => c ∧ t σ H Q) := ⟨fun pins s σ H Q I q => (h q.1).run pins s σ H Q I q.2⟩
variable {rest : List Expr} {x y : Bool}
theorem wd_and1 (h : TD X a ρ x) : WD X (.BoolOp .And [a] pos) ρ x := pw_and1 h
theorem wd_or1 (h : TD X a ρ x) : WD X (.BoolOp .Or [a] pos) ρ x := pw_or1 h
theorem wd_and (h : TD X a ρ x) (h2 : x = true → WD X (.BoolOp .And (b :: rest) pos) ρ y) : WD X (.BoolOp .And (a :: b :: rest) pos) ρ (x && y) :=
  pw_imp (pw_and h (pw_if h2)) fun σ H Q ⟨G, s, o, q⟩ => ⟨G, s, o, fun G1 H1 g => by
    cases x with
    | true => exact iteT ⟨rfl, G1, g.s, o.mono g.g, fun G2 H2 g2 => q G2 H2 (g.trans g2)⟩
    | false => exact iteF (q G1 H1 g)⟩
theorem wd_or (h : TD X a ρ x) (h2 : x = false → WD X (.BoolOp .Or (b :: rest) pos) ρ y) : WD X (.BoolOp .Or (a :: b :: rest) pos) ρ (x || y) :=
  pw_imp (pw_or h (pw_if h2)) fun σ H Q ⟨G, s, o, q⟩ => ⟨G, s, o, fun G1 H1 g => by
    cases x with
    | false => exact iteF ⟨rfl, G1, g.s, o.mono g.g, fun G2 H2 g2 => q G2 H2 (g.trans g2)⟩
    | true => exact iteT (q G1 H1 g)⟩
theorem td_w (h : WD X e ρ x) : TD X e ρ x := h.pt
theorem ed_one {op : BoolOp} (h : ED X a ρ s) : ED X (.BoolOp op [a] pos) ρ s := pe_one h
theorem ed_and (h : ED X a ρ (.v (.bool x))) (h2 : x = true → ED X (.BoolOp .And (b :: rest) pos) ρ (.v (.bool y))) : ED X (.BoolOp .And (a :: b :: rest) pos) ρ (.v (.bool (x && y))) :=
  ed_of (pe_and h (pe_if h2)) fun σ H G Q s o q => tE_of s o fun v G1 H1 g r => ⟨x, r.to_bl, by
    cases x with
    | true => exact iteT ⟨rfl, tE_of g.s (o.mono g.g) fun w G2 H2 g2 r2 => q w G2 H2 (g.trans g2) r2⟩
    | false => exact iteF (q _ G1 H1 g (.bl _))⟩
theorem ed_or (h : ED X a ρ (.v (.bool x))) (h2 : x = false → ED X (.BoolOp .Or (b :: rest) pos) ρ (.v (.bool y))) : ED X (.BoolOp .Or (a :: b :: rest) pos) ρ (.v (.bool (x || y))) :=
  ed_of (pe_or h (pe_if h2)) fun σ H G Q s o q => tE_of s o fun v G1 H1 g r => ⟨x, r.to_bl, by
    cases x with
    | false => exact iteF ⟨rfl, tE_of g.s (o.mono g.g) fun w G2 H2 g2 r2 => q w G2 H2 (g.trans g2) r2⟩
    | true => exact iteT (q _ G1 H1 g (.bl _))⟩
theorem ed_not (h : ED X a ρ (.v (.bool x))) : ED X (.UnaryOp .Not a pos) ρ (.v (.bool (!x))) :=
  ed_of (pe_not h) fun σ H G Q s o q => tE_of s o fun v G1 H1 g r => ⟨x, r.to_bl, q _ G1 H1 g (.bl _)⟩
theorem ed_ife (hc : TD X c ρ x) (ha : x = true → ED X a ρ s) (hb : x = false → ED X b ρ s) : ED X (.IfExp c a b pos) ρ s :=
  pe_imp (pe_ifExp hc (pe_if ha) (pe_if hb)) fun σ H Q ⟨G, sm, o, q⟩ => ⟨G, sm, o, fun G1 H1 g => by
    cases x with
    | true => exact iteT ⟨rfl, G1, g.s, o.mono g.g, fun v G2 H2 got => q v G2 H2 (got.pre g)⟩
    | false => exact iteF ⟨rfl, G1, g.s, o.mono g.g, fun v G2 H2 got => q v G2 H2 (got.pre g)⟩⟩

/-! ### displays -/
theorem got_new {G H : Hp} (s : Same G H) {p : Addr} (n : H p = none) {o : HO} {d : D} (x : OwnIs X.K G o d) : Got X.K G H G (upd H p o) (.ref p) (.o d) :=
  ⟨.hid s n, fun a => a = p, ⟨p, o, rfl, rfl, upd_same, x⟩, fun a h => h ▸ ⟨n, s.free n⟩⟩
theorem ed_lst (h : AD X es ρ ds) (hz : ds.length ≤ sizeLine := by first | decide | (simp only [List.length_cons, List.length_nil]; decide)) : ED X (.List es pos) ρ (.o (.list ds)) :=
  pe_imp (pe_lst h) fun σ H Q ⟨G, s, o, q⟩ => tA_of s o fun vs G1 H1 g r => ⟨by rw [r.length]; exact hz, fun p n => q _ G1 _ ((got_new g.s n (.inl ⟨vs, ds, rfl, rfl, r⟩)).pre g)⟩
theorem ed_tup {kk : Nat} (h : AD X es ρ ds) (hz : ds.length ≤ sizeLine := by first | decide | (simp only [List.length_cons, List.length_nil]; decide)) : ED X (.Tuple es kk pos) ρ (.v (.tuple ds)) :=
  pe_imp (pe_tup h) fun σ H Q ⟨G, s, o, q⟩ => tA_of s o fun vs G1 H1 g r => ⟨by rw [r.length]; exact hz, fun p n => q _ _ _ (.val (g.trans (.new g.s n)) (.tup upd_same (r.mono (Grow.new g.s n).g)))⟩
theorem ed_dict : ED X (.Dict [] [] pos) ρ (.o (kd [])) :=
  pe_imp pe_dnewT fun σ H Q ⟨G, s, o, q⟩ => fun p n => q _ G _ (got_new s n (.inr ⟨[], rfl, rfl⟩))

/-! ### built-ins by their names -/
theorem ed_callB {x : Str} {id : String} {r : List V → Hp → VK → Prop} (hc : CallR X (.builtin id) r) (hg : Gl X x) (hm : X.mg x = none) (hv : bootBuiltins x = some (.builtin id)) (ha : AD X (e :: es) ρ ds)
    (hr : ∀ vs G H (Q : VK), Same G H → RepAll X.K G vs ds → (∀ v G' H', Got X.K G H G' H' v s → Q v H') → r vs H Q) (hn : x ≠ "__name__" := by decide) (hdb : (x == ("__debug__" : Str)) = false := by decide)
    (he : starEach (e :: es) X.env = (false, eval e X.env) :: starEach es X.env := by rfl) (hpl : (backTo pos (starEach es X.env)).any (·.1) = false := by rfl) : ED X (.Call (.Name x p) (e :: es) [] pos) ρ s :=
  pe_imp (pe_callB hc hg hm hv ha hn hdb he hpl) fun σ H Q ⟨G, sm, o, q⟩ => tA_of sm o fun vs G1 H1 g r1 => hr vs G1 H1 Q g.s r1 fun v G' H' got => q v G' H' (got.pre g)
theorem ed_callTy {x : Str} {T : String} {r : List V → Hp → VK → Prop} (hc : CallR X (.type T) r) (hg : Gl X x) (hm : X.mg x = none) (hv : bootBuiltins x = some (.type T)) (ha : AD X (e :: es) ρ ds)
    (hr : ∀ vs G H (Q : VK), Same G H → RepAll X.K G vs ds → (∀ v G' H', Got X.K G H G' H' v s → Q v H') → r vs H Q) (hn : x ≠ "__name__" := by decide) (hdb : (x == ("__debug__" : Str)) = false := by decide)
    (he : starEach (e :: es) X.env = (false, eval e X.env) :: starEach es X.env := by rfl) (hpl : (backTo pos (starEach es X.env)).any (·.1) = false := by rfl) : ED X (.Call (.Name x p) (e :: es) [] pos) ρ s :=
  pe_imp (pe_callTy hc hg hm hv ha hn hdb he hpl) fun σ H Q ⟨G, sm, o, q⟩ => tA_of sm o fun vs G1 H1 g r1 => hr vs G1 H1 Q g.s r1 fun v G' H' got => q v G' H' (got.pre g)
theorem RepAll.one {H : Hp} {vs : List V} (r : RepAll X.K H vs [d]) : ∃ v, vs = [v] ∧ Rep X.K H v d := by
  cases r with
  | cons r t => cases t; exact ⟨_, rfl, r⟩
theorem RepAll.two {H : Hp} {vs : List V} (r : RepAll X.K H vs [d1, d2]) : ∃ v w, vs = [v, w] ∧ Rep X.K H v d1 ∧ Rep X.K H w d2 := by
  cases r with
  | cons r t =>
    cases t with
    | cons r2 t => cases t; exact ⟨_, _, rfl, r, r2⟩
/-! len -/
theorem ed_lenL (B : Bi X.mg) (h : ED X e ρ (.v (.list ds))) (hg : Gl X "len" := by rfl) (he : starEach (e :: []) X.env = (false, eval e X.env) :: starEach [] X.env := by rfl) : ED X (.Call (.Name "len" p) [e] [] pos) ρ (.v (.int (ds.length : Nat))) :=
  ed_callB call_len_seq hg B.len boot_len (ad_cons h ad_nil he) (fun vs G H Q s r q => by
    obtain ⟨v, rfl, r1⟩ := r.one
    obtain ⟨a, xs, rfl, hx, rx⟩ := r1.to_lst
    refine ⟨a, xs, rfl, .inl (SqL.of (s _ _ hx)), ?_⟩
    rw [rx.length]
    exact q _ G H (got_int s _)) (he := he) (hpl := by rfl)
theorem ed_lenK {ks : List (List Int)} (B : Bi X.mg) (h : ED X e ρ (.v (kd ks))) (hg : Gl X "len" := by rfl) (he : starEach (e :: []) X.env = (false, eval e X.env) :: starEach [] X.env := by rfl) : ED X (.Call (.Name "len" p) [e] [] pos) ρ (.v (.int (ks.length : Nat))) :=
  ed_callB call_len_dT hg B.len boot_len (ad_cons h ad_nil he) (fun vs G H Q s r q => by
    obtain ⟨v, rfl, r1⟩ := r.one
    obtain ⟨a, rfl, hx⟩ := r1.to_kd
    refine ⟨a, _, rfl, s _ _ hx, ?_⟩
    have : (kdL ks).length = ks.length := by unfold kdL; rw [List.length_map]
    rw [this]
    exact q _ G H (got_int s _)) (he := he) (hpl := by rfl)
theorem ed_lenS {z : Str} (B : Bi X.mg) (h : ED X e ρ (.v (.str z))) (hz : z.length ≤ sizeLine) (hg : Gl X "len" := by rfl) (he : starEach (e :: []) X.env = (false, eval e X.env) :: starEach [] X.env := by rfl) : ED X (.Call (.Name "len" p) [e] [] pos) ρ (.v (.int (z.length : Nat))) :=
  ed_callB call_len_str hg B.len boot_len (ad_cons h ad_nil he) (fun vs G H Q s r q => by
    obtain ⟨v, rfl, r1⟩ := r.one
    exact ⟨z, by rw [r1.to_str], hz, q _ G H (got_int s _)⟩) (he := he) (hpl := by rfl)
/-! list(xs), tuple(xs) -/
theorem ed_listL (B : Bi X.mg) (h : ED X e ρ (.v (.list ds))) (hg : Gl X "list" := by rfl) (he : starEach (e :: []) X.env = (false, eval e X.env) :: starEach [] X.env := by rfl) : ED X (.Call (.Name "list" p) [e] [] pos) ρ (.o (.list ds)) :=
  ed_callTy call_list_of hg B.list PyProof.Rows.boot_list (ad_cons h ad_nil he) (fun vs G H Q s r q => by
    obtain ⟨v, rfl, r1⟩ := r.one
    obtain ⟨a, xs, rfl, hx, rx⟩ := r1.to_lst
    exact ⟨a, xs, rfl, .inl (SqL.of (s _ _ hx)), fun l n => q _ G _ (got_new s n (.inl ⟨xs, ds, rfl, rfl, rx⟩))⟩) (he := he) (hpl := by rfl)
theorem ed_listT (B : Bi X.mg) (h : ED X e ρ (.v (.tuple ds))) (hg : Gl X "list" := by rfl) (he : starEach (e :: []) X.env = (false, eval e X.env) :: starEach [] X.env := by rfl) : ED X (.Call (.Name "list" p) [e] [] pos) ρ (.o (.list ds)) :=
  ed_callTy call_list_of hg B.list PyProof.Rows.boot_list (ad_cons h ad_nil he) (fun vs G H Q s r q => by
    obtain ⟨v, rfl, r1⟩ := r.one
    obtain ⟨a, xs, rfl, hx, rx⟩ := r1.to_tup
    exact ⟨a, xs, rfl, .inr (SqT.of (s _ _ hx)), fun l n => q _ G _ (got_new s n (.inl ⟨xs, ds, rfl, rfl, rx⟩))⟩) (he := he) (hpl := by rfl)
theorem ed_tupleL (B : Bi X.mg) (h : ED X e ρ (.v (.list ds))) (hg : Gl X "tuple" := by rfl) (he : starEach (e :: []) X.env = (false, eval e X.env) :: starEach [] X.env := by rfl) : ED X (.Call (.Name "tuple" p) [e] [] pos) ρ (.v (.tuple ds)) :=
  ed_callTy call_tuple_of hg B.tuple PyProof.Rows.boot_tuple (ad_cons h ad_nil he) (fun vs G H Q s r q => by
    obtain ⟨v, rfl, r1⟩ := r.one
    obtain ⟨a, xs, rfl, hx, rx⟩ := r1.to_lst
    exact ⟨a, xs, rfl, .inl ⟨SqL.of (s _ _ hx), fun l n => q _ _ _ (.val (.new s n) (.tup upd_same (rx.mono (Grow.new s n).g)))⟩⟩) (he := he) (hpl := by rfl)
end
end DL

/-! DL4: stores into one's own things; places, slices, sorting, sums; by data -/
namespace DL
open PySem PySem.Spec PyProof.Rows L2
variable {K : PySem.W.Frag}
section
variable {X : Cx} {a b c e o : Expr} {es : List Expr} {ρ : SEnv} {s : Sl} {d d1 d2 d3 : D} {ds : List D} {pos p : Pos} {n m : Int} {k : Nat} {kt : Kt} {rest : List Stmt}

theorem tyL {K : PySem.W.Frag} {H : Hp} {p : Addr} {xs : List V} (h : H p = some (.lst xs)) : tyV K "list" (.ref p) H := .inl ⟨rfl, xs, SqL.of h⟩
theorem own_lst {G : Hp} {h : HO} (x : OwnIs X.K G h (.list ds)) : ∃ xs, h = .lst xs ∧ RepAll X.K G xs ds := by
  rcases x with ⟨xs, ds', h1, h2, h3⟩ | ⟨ks, _, h2⟩
  · injection h2 with h2
    subst h2
    exact ⟨xs, h1, h3⟩
  · unfold kd at h2; cases h2
theorem own_kd {G : Hp} {h : HO} {ks : List (List Int)} (x : OwnIs X.K G h (kd ks)) : h = .dT (kdL ks) := by
  rcases x with ⟨xs, ds', h1, h2, h3⟩ | ⟨ks', h1, h2⟩
  · unfold kd at h2; cases h2
  · rw [h1, kd_inj h2]
/-- a method of one's own list, with one argument: the list becomes es -/
theorem sq_meth {i : Nat} {x : Str} {name : Str} {id : String} {apos cpos pos' : Pos} {args : List D} {es' : List D} {r : V → List V → Hp → VK → Prop} (slot : Slot "list" name id) (hty : typeOf (.builtin id) = pure (.type "method_descriptor")) (hm : MtR X id r)
    (hN : X.N[i]? = some x) (hv : Vis X.env.scope x) (hd : ρ[i]? = some (.o (.list ds))) (ha : AD X (e :: es) (cl ρ) args) (hr : SD X rest (ρ.set i (.o (.list es'))) kt)
    (run : ∀ p xs vs G H (Q : VK), Same G H → H p = some (.lst xs) → RepAll X.K G xs ds → RepAll X.K G vs args → (∀ w xs', RepAll X.K G xs' es' → Q w (upd H p (.lst xs'))) → r (.ref p) vs H Q)
    (hbase : attributeBase (.Name x pos') name X.env (eval (.Name x pos') X.env) = eval (.Name x pos') X.env := by rfl)
    (hfew : ((backTo cpos (starEach (e :: es) X.env)).all (fun x => !x.1) && (backToKw cpos (keywordEach [] X.env)).all (fun x => x.1.isSome)
      && decide ((e :: es).length + ([] : List Keyword).length + (if ([] : List Keyword).isEmpty then 0 else 1) < 30)) = true := by rfl)
    (hline : (apos.endLine == cpos.line) = true := by rfl) (hs : starEach (e :: es) X.env = (false, eval e X.env) :: starEach es X.env := by rfl) (hplain : (backTo cpos (starEach es X.env)).any (·.1) = false := by rfl)
    (hsw : swapsWith (.Call (.Attribute (.Name x pos') name apos) (e :: es) [] cpos) none pos.line X.env = pure false := by rfl) (h1 : (x == ("__debug__" : Str)) = false := by decide) (h2 : (x == ("__classdict__" : Str)) = false := by decide) :
    SD X (.Expr (.Call (.Attribute (.Name x pos') name apos) (e :: es) [] cpos) pos :: rest) ρ kt :=
  sq_mk (M := fun ρ' => ρ' = ρ.set i (.o (.list es'))) (ps_expr (pe_bm PySem.F.plainAttrs_list slot hty hm (pe_var hN hv h1 h2) ha hbase hfew hline hs hplain) hsw) (fun ρ' m => m ▸ hr) fun E σ H H0 G0 G g ok f F q => by
    obtain ⟨p, x, w1, w2, w3, w4, w5, _⟩ := ok.own hd
    obtain ⟨xs, rfl, rx⟩ := own_lst w3
    refine ⟨_, w1, tyL w2, tA_of g.s ok.cl fun vs G1 H1 g1 r1 => ?_⟩
    have ok1 := ok.mono g1
    obtain ⟨p', x', v1, v2, v3, v4, v5, upd⟩ := ok1.own hd
    rw [w1] at v1; cases v1
    have e2 : H1 p = some (.lst xs) := g1.h _ _ w2
    refine run p xs vs G1 H1 _ g1.s e2 (rx.mono g1.g) r1 fun w xs' r' => ?_
    have gg := g.trans g1
    refine q _ σ G1 _ rfl ⟨fun b u hb => ?_, fun b u hb => ?_, gg.g, gg.o⟩ (upd _ _ (.inl ⟨xs', _, rfl, rfl, r'⟩))
    · rw [upd_ne (ne_of_none hb v4)]; exact gg.h b u hb
    · rw [upd_ne (ne_of_none hb v5)]; exact gg.s b u hb
/-- x.append(e) -/
theorem sq_append (i : Nat) {x : Str} {apos cpos pos' : Pos} (ha : ED X e (cl ρ) (.v d)) (hz : ds.length < sizeLine) (hr : SD X rest (ρ.set i (.o (.list (ds ++ [d])))) kt) (hd : ρ[i]? = some (.o (.list ds)) := by rfl) (hN : X.N[i]? = some x := by rfl) (hv : Vis X.env.scope x := by first | exact .inl rfl | exact .inr (.inl rfl) | exact .inr (.inr rfl))
    (hbase : attributeBase (.Name x pos') ("append" : Str) X.env (eval (.Name x pos') X.env) = eval (.Name x pos') X.env := by rfl)
    (hfew : ((backTo cpos (starEach (e :: []) X.env)).all (fun x => !x.1) && (backToKw cpos (keywordEach [] X.env)).all (fun x => x.1.isSome)
      && decide ((e :: []).length + ([] : List Keyword).length + (if ([] : List Keyword).isEmpty then 0 else 1) < 30)) = true := by rfl)
    (hline : (apos.endLine == cpos.line) = true := by rfl) (hs : starEach (e :: []) X.env = (false, eval e X.env) :: starEach [] X.env := by rfl)
    (hsw : swapsWith (.Call (.Attribute (.Name x pos') ("append" : Str) apos) (e :: []) [] cpos) none pos.line X.env = pure false := by rfl) (h1 : (x == ("__debug__" : Str)) = false := by decide) (h2 : (x == ("__classdict__" : Str)) = false := by decide) :
    SD X (.Expr (.Call (.Attribute (.Name x pos') ("append" : Str) apos) [e] [] cpos) pos :: rest) ρ kt :=
  sq_meth (id := "list.append") (r := rAppend) PySem.F.slot_list_append PySem.F.type_list_append mt_append hN hv hd (ad_cons ha ad_nil hs) hr (fun p xs vs G H Q sm hp rx rv q => by
    obtain ⟨v, rfl, r⟩ := rv.one
    refine ⟨p, xs, v, rfl, rfl, hp, by rw [rx.length]; exact hz, q _ _ (rx.append (.cons r .nil))⟩) hbase hfew hline hs (by rfl) hsw h1 h2
/-- x.insert(n, e), n not below nought -/
theorem sq_insert (i : Nat) {x : Str} {apos cpos pos' : Pos} (ha : ED X a (cl ρ) (.v (.int n))) (hb : ED X e (cl ρ) (.v d)) (hz : ds.length < sizeLine) (h0 : 0 ≤ n) (h63 : n < 2 ^ 63)
    (hr : SD X rest (ρ.set i (.o (.list (ds.take n.toNat ++ [d] ++ ds.drop n.toNat)))) kt) (hd : ρ[i]? = some (.o (.list ds)) := by rfl) (hN : X.N[i]? = some x := by rfl) (hv : Vis X.env.scope x := by first | exact .inl rfl | exact .inr (.inl rfl) | exact .inr (.inr rfl))
    (hbase : attributeBase (.Name x pos') ("insert" : Str) X.env (eval (.Name x pos') X.env) = eval (.Name x pos') X.env := by rfl)
    (hfew : ((backTo cpos (starEach (a :: [e]) X.env)).all (fun x => !x.1) && (backToKw cpos (keywordEach [] X.env)).all (fun x => x.1.isSome)
      && decide ((a :: [e]).length + ([] : List Keyword).length + (if ([] : List Keyword).isEmpty then 0 else 1) < 30)) = true := by rfl)
    (hline : (apos.endLine == cpos.line) = true := by rfl) (hs : starEach (a :: [e]) X.env = (false, eval a X.env) :: starEach [e] X.env := by rfl) (hs2 : starEach (e :: []) X.env = (false, eval e X.env) :: starEach [] X.env := by rfl)
    (hpl : (backTo cpos (starEach [e] X.env)).any (·.1) = false := by rfl)
    (hsw : swapsWith (.Call (.Attribute (.Name x pos') ("insert" : Str) apos) (a :: [e]) [] cpos) none pos.line X.env = pure false := by rfl) (h1 : (x == ("__debug__" : Str)) = false := by decide) (h2 : (x == ("__classdict__" : Str)) = false := by decide) :
    SD X (.Expr (.Call (.Attribute (.Name x pos') ("insert" : Str) apos) [a, e] [] cpos) pos :: rest) ρ kt :=
  sq_meth (id := "list.insert") PySem.F.slot_list_insert PySem.F.type_list_insert mt_insert hN hv hd (ad_cons ha (ad_cons hb ad_nil hs2) hs) hr (fun p xs vs G H Q sm hp rx rv q => by
    obtain ⟨v, w, rfl, r1, r2⟩ := rv.two
    refine ⟨p, xs, n, w, rfl, by rw [r1.to_int], hp, by rw [rx.length]; exact hz, h0, h63, q _ _ (((rx.take _).append (.cons r2 .nil)).append (rx.drop _))⟩) hbase hfew hline hs hpl hsw h1 h2
/-- x[tuple] = True, x one's own dict -/
def addK (ks : List (List Int)) (l : List Int) : List (List Int) := if ks.contains l then ks else ks ++ [l]
theorem kdL_put (l : List Int) : ∀ ks : List (List Int), putK (kdL ks) (l.map Sum.inl) (V.bl true) = kdL (addK ks l) := by
  intro ks
  have hs := kdL_has l ks
  unfold addK
  by_cases h : ks.contains l = true
  · rw [if_pos h]
    rw [h] at hs
    have key : ∀ ks : List (List Int), ((kdL ks).map fun kv => if kv.1 = l.map Sum.inl then (kv.1, V.bl true) else kv) = kdL ks := by
      intro ks
      unfold kdL
      rw [List.map_map]
      refine List.map_congr_left fun k _ => ?_
      show (if k.map Sum.inl = l.map Sum.inl then (k.map Sum.inl, V.bl true) else (k.map Sum.inl, V.bl true)) = _
      by_cases q : k.map (Sum.inl (β := Str)) = l.map Sum.inl
      · rw [if_pos q]
      · rw [if_neg q]
    have : (kdL ks).any (fun kv => decide (kv.1 = l.map Sum.inl)) = true := by rw [valV_any]; exact hs
    unfold putK
    rw [if_pos this]
    exact key ks
  · have h' : ks.contains l = false := by simpa using h
    rw [if_neg h]
    rw [h'] at hs
    have : valV (kdL ks) (l.map Sum.inl) = none := by
      cases q : valV (kdL ks) (l.map Sum.inl) with
      | none => rfl
      | some v => rw [q] at hs; cases hs
    rw [putK_new _ this]
    unfold kdL
    rw [List.map_append]
    rfl
theorem sq_dput (i : Nat) {x : Str} {pos' pos2 : Pos} {j : Nat} {ks : List (List Int)} {l : List Int} (hroom : Room k X.A) (he : ED X e (cl ρ) (.v (tI l))) (hz : ks.length < sizeLine)
    (hr : SD X rest (ρ.set i (.o (kd (addK ks l)))) kt) (hd : ρ[i]? = some (.o (kd ks)) := by rfl) (hN : X.N[i]? = some x := by rfl) (hv : Vis X.env.scope x := by first | exact .inl rfl | exact .inr (.inl rfl) | exact .inr (.inr rfl)) (hs : swapsWith (.Constant (.bool true) j pos) (some (.Subscript (.Name x pos2) e pos')) p.line X.env = pure false := by rfl) (h1 : (x == ("__debug__" : Str)) = false := by decide) (h2 : (x == ("__classdict__" : Str)) = false := by decide) :
    SD X (.Assign [.Subscript (.Name x pos2) e pos'] (.Constant (.bool true) j pos) p :: rest) ρ kt :=
  sq_mk (M := fun ρ' => ρ' = ρ.set i (.o (kd (addK ks l)))) (ps_dput (by have := hroom.un; omega) (pe_var hN hv h1 h2) he pe_bl hs) (fun ρ' m => m ▸ hr) fun E σ H H0 G0 G g ok f F q => by
    obtain ⟨p, x, w1, w2, w3, w4, w5, _⟩ := ok.own hd
    have hx := own_kd w3
    subst hx
    refine ⟨_, w1, tE_of g.s ok.cl fun y G1 H1 g1 r1 => ?_⟩
    have ok1 := ok.mono g1
    obtain ⟨p', x', v1, v2, v3, v4, v5, upd⟩ := ok1.own hd
    rw [w1] at v1; cases v1
    obtain ⟨t, xs, rfl, ht, rx⟩ := r1.to_tup
    have ex := rx.ints
    subst ex
    have e1 : H1 t = some (.tup ((l.map Sum.inl).map kV)) := by
      rw [g1.s _ _ ht, List.map_map]
      rfl
    have gg := g.trans g1
    refine ⟨p, _, rfl, DPut.t (v := V.bl true) (g1.h _ _ w2) e1 (by unfold kdL; rw [List.length_map]; exact hz), ?_⟩
    rw [kdL_put]
    refine q _ σ G1 _ rfl ⟨fun b u hb => ?_, fun b u hb => ?_, gg.g, gg.o⟩ (upd _ _ (.inr ⟨_, rfl, rfl⟩))
    · rw [upd_ne (ne_of_none hb v4)]; exact gg.h b u hb
    · rw [upd_ne (ne_of_none hb v5)]; exact gg.s b u hb
end
section
variable {X : Cx} {a b c e o : Expr} {es : List Expr} {ρ : VEnv} {s : Sl} {d d1 d2 d3 : D} {ds ds2 : List D} {pos p : Pos} {n m : Int} {k : Nat}
/-! ### places -/
theorem rep_at {H : Hp} {xs : List V} (r : RepAll X.K H xs ds) (e : atI ds n = some d) : ∃ v, atI xs n = some v ∧ Rep X.K H v d := by
  unfold atI at e ⊢
  rw [r.length]
  cases h : ixN ds.length n with
  | none => rw [h] at e; cases e
  | some j =>
    rw [h] at e
    obtain ⟨v, h1, h2⟩ := r.get' (i := j) e
    exact ⟨v, h1, h2⟩
theorem ed_ixL (ha : ED X a ρ (.v (.list ds))) (hb : ED X b ρ (.v (.int n))) (h : atI ds n = some d) (hp : PlainIx b := by exact fun _ _ => rfl) : ED X (.Subscript a b pos) ρ (.v d) :=
  ed_of (pe_ix ix_list ha hb hp) fun σ H G Q s o q => tE_of s o fun x G1 H1 g1 r1 => tE_of g1.s (o.mono g1.g) fun y G2 H2 g2 r2 => by
    obtain ⟨t, xs, rfl, ht, rx⟩ := r1.to_lst
    obtain ⟨v, h1, h2⟩ := rep_at rx h
    exact ⟨t, xs, n, v, rfl, r2.to_int, SqL.of (g2.h _ _ (g1.s _ _ ht)), h1, q v G2 H2 (g1.trans g2) (h2.mono g2.g)⟩
theorem ed_ixT (ha : ED X a ρ (.v (.tuple ds))) (hb : ED X b ρ (.v (.int n))) (h : atI ds n = some d) (hp : PlainIx b := by exact fun _ _ => rfl) : ED X (.Subscript a b pos) ρ (.v d) :=
  ed_of (pe_ix ix_tup ha hb hp) fun σ H G Q s o q => tE_of s o fun x G1 H1 g1 r1 => tE_of g1.s (o.mono g1.g) fun y G2 H2 g2 r2 => by
    obtain ⟨t, xs, rfl, ht, rx⟩ := r1.to_tup
    obtain ⟨v, h1, h2⟩ := rep_at rx h
    exact ⟨t, xs, n, v, rfl, r2.to_int, SqT.of (g2.h _ _ (g1.s _ _ ht)), h1, q v G2 H2 (g1.trans g2) (h2.mono g2.g)⟩
theorem ed_ixS {z : Str} {cc : Nat} (ha : ED X a ρ (.v (.str z))) (hb : ED X b ρ (.v (.int n))) (hz : z.length ≤ sizeLine) (h : atI z.cps.toList n = some cc) (hp : PlainIx b := by exact fun _ _ => rfl) : ED X (.Subscript a b pos) ρ (.v (.str ⟨#[cc]⟩)) :=
  ed_of (pe_ix ix_str ha hb hp) fun σ H G Q s o q => tE_of s o fun x G1 H1 g1 r1 => tE_of g1.s (o.mono g1.g) fun y G2 H2 g2 r2 =>
    ⟨z, n, cc, r1.to_str, r2.to_int, hz, h, q _ G2 H2 (g1.trans g2) (.str _)⟩
/-! the script -/
theorem ed_ixR {ns : List Int} (ha : ED X a ρ (.v (scrD ns))) (hb : ED X b ρ (.v (.int n))) (h : atI ns n = some m) (hp : PlainIx b := by exact fun _ _ => rfl) : ED X (.Subscript a b pos) ρ (.v (.int m)) :=
  ed_of (pe_ix ix_list ha hb hp) fun σ H G Q s o q => tE_of s o fun x G1 H1 g1 r1 => tE_of g1.s (o.mono g1.g) fun y G2 H2 g2 r2 => by
    obtain ⟨t, rfl, ht⟩ := r1.to_scr
    have h1 : atI (ns.map V.int) n = some (.int m) := by
      unfold atI at h ⊢
      rw [List.length_map]
      cases q : ixN ns.length n with
      | none => rw [q] at h; cases h
      | some j =>
        rw [q] at h
        have h' : ns[j]? = some m := h
        show (ns.map V.int)[j]? = _
        rw [List.getElem?_map, h']
        rfl
    exact ⟨t, _, n, _, rfl, r2.to_int, g2.h.seq (g1.s.seq ht), h1, q _ G2 H2 (g1.trans g2) (.int m)⟩
theorem ed_lenR {ns : List Int} (B : Bi X.mg) (h : ED X e ρ (.v (scrD ns))) (hg : Gl X "len" := by rfl) (he : starEach (e :: []) X.env = (false, eval e X.env) :: starEach [] X.env := by rfl) : ED X (.Call (.Name "len" p) [e] [] pos) ρ (.v (.int (ns.length : Nat))) :=
  ed_callB call_len_seq hg B.len boot_len (ad_cons h ad_nil he) (fun vs G H Q s r q => by
    obtain ⟨v, rfl, r1⟩ := r.one
    obtain ⟨t, rfl, ht⟩ := r1.to_scr
    refine ⟨t, _, rfl, .inl (s.seq ht), ?_⟩
    rw [List.length_map]
    exact q _ G H (got_int s _)) (he := he) (hpl := by rfl)
/-! slices -/
def cutA {α : Type} (xs : List α) (lo hi : Option Int) : List α := (xs.drop (HT.sIx xs.length 0 lo)).take (HT.sIx xs.length xs.length hi - HT.sIx xs.length 0 lo)
theorem sIx_toNat (n d : Nat) (i : Int) (h : 0 ≤ i) : HT.sIx n d (some i) = min i.toNat n := by
  obtain ⟨k, rfl⟩ := Int.eq_ofNat_of_zero_le h
  rw [HT.sIx_nat]
  simp
theorem cutA_to {α : Type} (xs : List α) {i : Int} (h : 0 ≤ i) : cutA xs none (some i) = xs.take i.toNat := by
  unfold cutA
  rw [sIx_toNat _ _ _ h, HT.sIx_none, List.drop_zero, Nat.sub_zero, List.take_eq_take_iff]
  omega
theorem cutA_from {α : Type} (xs : List α) {i : Int} (h : 0 ≤ i) : cutA xs (some i) none = xs.drop i.toNat := by
  unfold cutA
  rw [sIx_toNat _ _ _ h, HT.sIx_none]
  have : xs.drop (min i.toNat xs.length) = xs.drop i.toNat := by
    by_cases q : i.toNat ≤ xs.length
    · rw [Nat.min_eq_left q]
    · rw [List.drop_eq_nil_of_le (by omega), List.drop_eq_nil_of_le (by omega)]
  rw [this]
  refine List.take_of_length_le ?_
  rw [List.length_drop]
  omega
theorem cutA_mid {α : Type} (xs : List α) {i j : Int} (h : 0 ≤ i) (h2 : i ≤ j) : cutA xs (some i) (some j) = (xs.drop i.toNat).take (j.toNat - i.toNat) := by
  unfold cutA
  rw [sIx_toNat _ _ _ h, sIx_toNat _ _ _ (by omega)]
  have : xs.drop (min i.toNat xs.length) = xs.drop i.toNat := by
    by_cases q : i.toNat ≤ xs.length
    · rw [Nat.min_eq_left q]
    · rw [List.drop_eq_nil_of_le (by omega), List.drop_eq_nil_of_le (by omega)]
  rw [this, List.take_eq_take_iff, List.length_drop]
  omega
def tO (K : PySem.W.Frag) (ρ : VEnv) (i : Option Int) : TO := fun σ H Q => ∃ G, Same G H ∧ VOk K G σ ρ ∧ ∀ G' H', Grow G H G' H' → Q i H'
abbrev OD (X : Cx) (e : Option Expr) (ρ : VEnv) (i : Option Int) : Prop := PO X e (tO X.K ρ i)
theorem po_imp {e : Option Expr} {t t' : TO} (h : PO X e t) (i : ∀ σ H Q, t' σ H Q → t σ H Q) : PO X e t' := ⟨fun pins s σ H Q I q => h.run pins s σ H Q I (i σ H Q q)⟩
theorem od_none : OD X none ρ none := po_imp po_none fun σ H Q ⟨G, s, o, q⟩ => q G H (.refl s)
theorem od_some (h : ED X e ρ (.v (.int n))) : OD X (some e) ρ (some n) := po_imp (po_some h) fun σ H Q ⟨G, s, o, q⟩ => tE_of s o fun v G1 H1 g r => ⟨n, r.to_int, q G1 H1 g⟩
theorem RepAll.cut {H : Hp} {xs : List V} {lo hi : Option Int} (r : RepAll X.K H xs ds) : RepAll X.K H (cutV xs lo hi) (cutA ds lo hi) := by
  unfold cutV cutA
  rw [r.length]
  exact (r.drop _).take _
theorem ed_slL {p2 : Pos} {lo hi : Option Expr} {i j : Option Int} (ha : ED X a ρ (.v (.list ds))) (hl : OD X lo ρ i) (hh : OD X hi ρ j) : ED X (.Subscript a (.Slice lo hi none p2) pos) ρ (.o (.list (cutA ds i j))) :=
  pe_imp (pe_slice sl_list ha hl hh) fun σ H Q ⟨G, s, o, q⟩ => tE_of s o fun x G1 H1 g1 r1 => ⟨G1, g1.s, o.mono g1.g, fun G2 H2 g2 => ⟨G2, g2.s, o.mono (g1.trans g2).g, fun G3 H3 g3 => by
    obtain ⟨t, xs, rfl, ht, rx⟩ := r1.to_lst
    have gg := (g1.trans g2).trans g3
    have g23 := g2.trans g3
    refine ⟨t, xs, rfl, SqL.of (g23.h _ _ (g1.s _ _ ht)), fun p n => q _ G3 _ ((got_new g3.s n (.inl ⟨_, _, rfl, rfl, (rx.mono g23.g).cut⟩)).pre gg)⟩⟩⟩
theorem ed_slS {p2 : Pos} {lo hi : Option Expr} {i j : Option Int} {z : Str} (ha : ED X a ρ (.v (.str z))) (hl : OD X lo ρ i) (hh : OD X hi ρ j) (hz : z.length ≤ sizeLine) : ED X (.Subscript a (.Slice lo hi none p2) pos) ρ (.v (.str (cutS z i j))) :=
  ed_of (pe_slice sl_str ha hl hh) fun σ H G Q s o q => tE_of s o fun x G1 H1 g1 r1 => ⟨G1, g1.s, o.mono g1.g, fun G2 H2 g2 => ⟨G2, g2.s, o.mono (g1.trans g2).g, fun G3 H3 g3 => ⟨z, r1.to_str, hz, q _ G3 H3 ((g1.trans g2).trans g3) (.str _)⟩⟩⟩
/-! xs + ys, s + t -/
theorem ed_cat (ha : ED X a ρ (.v (.list ds))) (hb : ED X b ρ (.v (.list ds2))) (hz : ds.length + ds2.length ≤ sizeLine) : ED X (.BinOp a .Add b pos) ρ (.o (.list (ds ++ ds2))) :=
  ed_op op_cat ha hb fun x y G H Q s r1 r2 q => by
    obtain ⟨t, xs, rfl, ht, rx⟩ := r1.to_lst
    obtain ⟨u, ys, rfl, hu, ry⟩ := r2.to_lst
    exact ⟨t, u, xs, ys, rfl, rfl, s _ _ ht, s _ _ hu, by rw [rx.length, ry.length]; exact hz, fun p n => q _ G _ (got_new s n (.inl ⟨_, _, rfl, rfl, rx.append ry⟩))⟩
theorem ed_addS {z w : Str} (ha : ED X a ρ (.v (.str z))) (hb : ED X b ρ (.v (.str w))) (hz : z.length + w.length ≤ sizeLine) : ED X (.BinOp a .Add b pos) ρ (.v (.str (z ++ w))) :=
  ed_op op_add_str ha hb fun x y G H Q s r1 r2 q => ⟨z, w, r1.to_str, r2.to_str, hz, q _ G H (.val (.refl s) (.str _))⟩
/-! ### sums, tests of all -/
theorem rep_bls {H : Hp} {v : V} {bs : List Bool} (r : Rep X.K H v (.list (bs.map .bool))) : ∃ a, v = .ref a ∧ H a = some (.lst (bs.map V.bl)) := by
  obtain ⟨a, xs, h1, h2, h3⟩ := r.to_lst
  rw [h3.bls] at h2
  exact ⟨a, h1, h2⟩
theorem rep_li {H : Hp} {v : V} {l : List Int} (r : Rep X.K H v (li l)) : ∃ a, v = .ref a ∧ H a = some (.lst (l.map V.int)) := by
  obtain ⟨a, xs, h1, h2, h3⟩ := r.to_lst
  rw [h3.ints] at h2
  exact ⟨a, h1, h2⟩
theorem ed_all {bs : List Bool} (B : Bi X.mg) (h : ED X e ρ (.v (.list (bs.map .bool)))) (hc : X.calm = true := by rfl) (hg : Gl X "all" := by rfl) (he : starEach (e :: []) X.env = (false, eval e X.env) :: starEach [] X.env := by rfl) : ED X (.Call (.Name "all" p) [e] [] pos) ρ (.v (.bool (bs.all id))) :=
  ed_callB (cr_all hc) hg B.all boot_all (ad_cons h ad_nil he) (fun vs G H Q s r q => by
    obtain ⟨v, rfl, r1⟩ := r.one
    obtain ⟨t, rfl, ht⟩ := rep_bls r1
    exact ⟨t, bs, rfl, SqL.of (s _ _ ht), q _ G H (.val (.refl s) (.bl _))⟩) (he := he) (hpl := by rfl)
theorem ed_sum {l : List Int} (B : Bi X.mg) (h : ED X e ρ (.v (li l))) (hc : X.calm = true := by rfl) (hg : Gl X "sum" := by rfl) (he : starEach (e :: []) X.env = (false, eval e X.env) :: starEach [] X.env := by rfl) : ED X (.Call (.Name "sum" p) [e] [] pos) ρ (.v (.int l.sum)) :=
  ed_callB (cr_sum hc) hg B.sum boot_sum (ad_cons h ad_nil he) (fun vs G H Q s r q => by
    obtain ⟨v, rfl, r1⟩ := r.one
    obtain ⟨t, rfl, ht⟩ := rep_li r1
    exact ⟨t, l, rfl, SqL.of (s _ _ ht), q _ G H (got_int s _)⟩) (he := he) (hpl := by rfl)
theorem ed_max2 (B : Bi X.mg) (h : AD X [a, b] ρ [.int n, .int m]) (hc : X.calm = true := by rfl) (hg : Gl X "max" := by rfl) (he : starEach (a :: [b]) X.env = (false, eval a X.env) :: starEach [b] X.env := by rfl) (hpl : (backTo pos (starEach [b] X.env)).any (·.1) = false := by rfl) :
    ED X (.Call (.Name "max" p) [a, b] [] pos) ρ (.v (.int (max n m))) :=
  ed_callB (call_max2 hc) hg B.max boot_max h (fun vs G H Q s r q => by
    obtain ⟨v, w, rfl, r1, r2⟩ := r.two
    refine ⟨n, m, by rw [r1.to_int, r2.to_int], ?_⟩
    have : (if m > n then m else n) = max n m := by omega
    rw [this]
    exact q _ G H (got_int s _)) (he := he) (hpl := hpl)
theorem ed_min2 (B : Bi X.mg) (h : AD X [a, b] ρ [.int n, .int m]) (hc : X.calm = true := by rfl) (hg : Gl X "min" := by rfl) (he : starEach (a :: [b]) X.env = (false, eval a X.env) :: starEach [b] X.env := by rfl) (hpl : (backTo pos (starEach [b] X.env)).any (·.1) = false := by rfl) :
    ED X (.Call (.Name "min" p) [a, b] [] pos) ρ (.v (.int (min n m))) :=
  ed_callB (call_min2 hc) hg B.min boot_min h (fun vs G H Q s r q => by
    obtain ⟨v, w, rfl, r1, r2⟩ := r.two
    refine ⟨n, m, by rw [r1.to_int, r2.to_int], ?_⟩
    have : (if m < n then m else n) = min n m := by omega
    rw [this]
    exact q _ G H (got_int s _)) (he := he) (hpl := hpl)
/-! list(range(n)) -/
theorem rgV_ints (n : Int) : rgV 0 n = ((List.range n.toNat).map fun i => ((i : Nat) : Int)).map V.int := by
  unfold rgV
  rw [List.map_map, Int.sub_zero]
  refine List.map_congr_left fun i _ => ?_
  show V.int (0 + (i : Int)) = _
  rw [Int.zero_add]
  rfl
def rngL (n : Int) : List Int := (List.range n.toNat).map fun i => ((i : Nat) : Int)
theorem ed_listRg {p1 p2 : Pos} (B : Bi X.mg) (h : ED X e ρ (.v (.int n))) (hn : RgOk 0 n) (hc : X.calm = true := by rfl) (hg : Gl X "list" := by rfl) (hg2 : Gl X "range" := by rfl)
    (na : starEach [e] X.env = (false, eval e X.env) :: starEach [] X.env := by rfl) (na2 : starEach [(.Call (.Name "range" p1) [e] [] p2 : Expr)] X.env = (false, eval (.Call (.Name "range" p1) [e] [] p2) X.env) :: starEach [] X.env := by rfl) :
    ED X (.Call (.Name "list" p) [.Call (.Name "range" p1) [e] [] p2] [] pos) ρ (.o (li (rngL n))) :=
  pe_imp (pe_listRg hc hg B.list (prg_1 hg2 B.range h na) na2) fun σ H Q ⟨G, s, o, q⟩ => tE_of s o fun v G1 H1 g r => ⟨n, r.to_int, hn, fun p np => by
    rw [rgV_ints]
    exact q _ G1 _ ((got_new g.s np (.inl ⟨_, _, rfl, rfl, RepAll.of_ints _⟩)).pre g)⟩
end
end DL

/-! DL5: isinstance, sorted, a dict's keys; by data -/
namespace DL
open PySem PySem.Spec PyProof.Rows L2
variable {K : PySem.W.Frag}
section
variable {X : Cx} {a b c e o : Expr} {es : List Expr} {ρ : VEnv} {s : Sl} {d d1 d2 d3 : D} {ds ds2 : List D} {pos p : Pos} {n m : Int} {k : Nat}
/-! ### isinstance(x, T), T a built-in class -/
def tyD : D → String
  | .none => "NoneType"
  | .bool _ => "bool"
  | .int _ => "int"
  | .str _ => "str"
  | .list _ => "list"
  | .tuple _ => "tuple"
  | .dict _ => "dict"
theorem rep_ty {K : PySem.W.Frag} {H : Hp} {v : V} (r : Rep X.K H v d) (h : ∀ ns, d ≠ scrD ns) : TyX K H v (.type (tyD d)) := by
  cases r with
  | non => exact .base .non
  | bl b => exact .base (.bl b)
  | int i => exact .base (.int i)
  | str x => exact .base (.str x)
  | lst h' _ => exact .base (.lst h')
  | tup h' _ => exact .base (.tup h')
  | dct q h' => subst q; exact .base (.dT h')
  | scr q _ => exact (h _ q).elim
theorem isi_kd {ks : List (List Int)} : ∀ ns, kd ks ≠ scrD ns := fun ns h => kd_scr h
theorem ed_isi {x : Str} {T : String} {v : Bool} {px : Pos} (B : Bi X.mg) (ha : ED X a ρ (.v d)) (hmT : X.mg x = none) (hvT : bootBuiltins x = some (.type T)) (hs : ∀ ns, d ≠ scrD ns) (hk : kitB (tyD d) T = some v) (hg : Gl X "isinstance" := by rfl) (hgT : Gl X x := by rfl) (hnx : x ≠ "__name__" := by decide)
    (hdx : (x == ("__debug__" : Str)) = false := by decide) (he : starEach (a :: [(.Name x px : Expr)]) X.env = (false, eval a X.env) :: starEach [(.Name x px : Expr)] X.env := by rfl) (he2 : starEach ((.Name x px : Expr) :: []) X.env = (false, eval (.Name x px) X.env) :: starEach [] X.env := by rfl)
    (hpl : (backTo pos (starEach [(.Name x px : Expr)] X.env)).any (·.1) = false := by rfl) : ED X (.Call (.Name "isinstance" p) [a, .Name x px] [] pos) ρ (.v (.bool v)) :=
  ed_of (pe_callB call_isi hg B.isinstance PyProof.Rows.boot_isinstance (pa_cons ha (pa_cons (pe_bltn (v := .ty T) hgT hmT hvT rfl hnx hdx) pa_nil he2) he) (by decide) (by decide) he hpl) fun σ H G Q s o q =>
    tE_of s o fun w G1 H1 g r => ⟨w, .ty T, .type (tyD d), .type T, v, rfl, .ty T, rep_ty (r.mono g.s) hs, kit_ty hk, q _ G1 H1 g (.bl _)⟩
/-! ### sorted(xs) of data that are alike -/
def sortD (ds : List D) : List D := ds.mergeSort (fun x y => !PySem.W.dataLt y x)
theorem zip_each {H : Hp} {h : Heap} : ∀ {xs : List V} {ds : List D} {us : List Value}, RepAll X.K H xs ds → Vals xs us → PySem.W.EachIs (fun (v : Value) (b : V × D) => RelV b.1 v) us (xs.zip ds)
  | _, _, _, .nil, .nil => .nil
  | _, _, _, .cons _ t, .cons r r' => .cons r (zip_each (h := h) t r')
theorem zip_reads {X : Cx} {pins : List (Addr × Obj)} {σ : L2.St} {H : Hp} {s : Shared} (I : Inv X pins σ H s) : ∀ {xs : List V} {ds : List D} {us : List Value}, DpAll X.K H xs ds → Vals xs us → PySem.W.EachIs (fun (v : Value) (b : V × D) => ∃ as, Reads s.heap v b.2 as) us (xs.zip ds)
  | _, _, _, .nil, .nil => .nil
  | _, _, _, .cons h t, .cons r r' => .cons (Dp.reads I _ _ _ h r) (zip_reads I t r')
theorem each_vals : ∀ {us : List Value} {bs : List (V × D)}, PySem.W.EachIs (fun (v : Value) (b : V × D) => RelV b.1 v) us bs → Vals (bs.map (·.1)) us
  | _, _, .nil => .nil
  | _, _, .cons r t => .cons r (each_vals t)
theorem zip_snd : ∀ {xs : List V} {ds : List D}, xs.length = ds.length → (xs.zip ds).map (·.2) = ds
  | [], [], _ => rfl
  | [], _ :: _, h => by cases h
  | _ :: _, [], h => by cases h
  | _ :: xs, d :: ds, h => by
    rw [List.zip_cons_cons, List.map_cons, zip_snd (by simpa using h)]
theorem repAll_zip {H : Hp} : ∀ {xs : List V} {ds : List D}, RepAll X.K H xs ds → ∀ b ∈ xs.zip ds, Rep X.K H b.1 b.2
  | _, _, .nil, _, hb => by cases hb
  | _, _, .cons h t, b, hb => by
    rw [List.zip_cons_cons] at hb
    rcases List.mem_cons.mp hb with e | hb
    · subst e; exact h
    · exact repAll_zip t b hb
theorem repAll_of {H : Hp} : ∀ {bs : List (V × D)}, (∀ b ∈ bs, Rep X.K H b.1 b.2) → RepAll X.K H (bs.map (·.1)) (bs.map (·.2))
  | [], _ => .nil
  | b :: bs, h => .cons (h b List.mem_cons_self) (repAll_of fun c hc => h c (List.mem_cons_of_mem _ hc))
def rSortD (K : PySem.W.Frag) : List V → Hp → VK → Prop := fun vs H Q => ∃ (a : Addr) (xs : List V) (ds : List D), vs = [.ref a] ∧ H a = some (.lst xs) ∧ RepAll K H xs ds ∧ PyData.canLayAll0 ds = true ∧ PySem.W.AllAlike ds ∧ PySem.W.Sortable ds ∧ (∀ d ∈ ds, d.depth ≤ 60) ∧
  ∀ p, H p = none → Q (.ref p) (upd H p (.lst (((xs.zip ds).mergeSort (fun x y => !PySem.W.dataLt y.2 x.2)).map (·.1))))
theorem cr_sortedD (hr : Room k X.A) : CallR X (.builtin "sorted") (rSortD X.K) := by
  intro pins s σ H vs us Q I r h
  obtain ⟨a, xs, ds, rfl, hx, rx, hl, hal, hk, hd, q⟩ := h
  obtain ⟨u, rfl, ru⟩ := vals1 r
  obtain rfl : u = .ref a := ru
  obtain ⟨its, rv, pl, hz⟩ := I.list (SqL.of hx)
  have el := rx.length
  have e2 : (xs.zip ds).map (·.2) = ds := zip_snd el
  refine PySem.W.sorted_data (bs := xs.zip ds) (enc := (·.2)) (R := fun v b => RelV b.1 v) pl.isList (zip_each (h := s.heap) rx rv) (zip_reads I (rx.dp hl) rv) (by rw [e2]; exact hal) (by rw [e2]; exact hk) (by rw [List.length_zip, el, Nat.min_self]; rw [el] at hz; exact hz) ?_ ?_
  · intro b hb
    have : b.2 ∈ ds := by rw [← e2]; exact List.mem_map_of_mem hb
    have h1 := hd _ this
    have h2 := hr.un
    omega
  · intro out ol eo
    obtain ⟨c, hc⟩ := sortedAll_at s.heap its out.toArray
    have hv : Vals (((xs.zip ds).mergeSort (fun x y => !PySem.W.dataLt y.2 x.2)).map (·.1)) out := each_vals eo
    have hlen : (((xs.zip ds).mergeSort (fun x y => !PySem.W.dataLt y.2 x.2)).map (·.1)).length ≤ sizeLine := by
      rw [List.length_map, List.length_mergeSort, List.length_zip, el, Nat.min_self]; rw [el] at hz; exact hz
    exact ⟨.ref _, _, I.laid (t' := s.toks) (o := .lst _) (fun b ob q => sortedAll_old q) (Nat.le_succ _) ⟨hlen, out, c, hv, hc⟩, rfl, q _ (I.hok.fresh (Nat.le_succ _))⟩
theorem ed_sorted (B : Bi X.mg) (hr : Room k X.A) (h : ED X e ρ (.v (.list ds))) (hl : PyData.canLayAll0 ds = true) (hal : PySem.W.AllAlike ds) (hk : PySem.W.Sortable ds) (hd : ∀ d ∈ ds, d.depth ≤ 60) (hg : Gl X "sorted" := by rfl)
    (he : starEach (e :: []) X.env = (false, eval e X.env) :: starEach [] X.env := by rfl) : ED X (.Call (.Name "sorted" p) [e] [] pos) ρ (.o (.list (sortD ds))) :=
  ed_callB (cr_sortedD hr) hg B.sorted boot_sorted (ad_cons h ad_nil he) (fun vs G H Q s r q => by
    obtain ⟨v, rfl, r1⟩ := r.one
    obtain ⟨t, xs, rfl, ht, rx⟩ := r1.to_lst
    refine ⟨t, xs, ds, rfl, s _ _ ht, rx.mono s, hl, hal, hk, hd, fun p n => q _ G _ (got_new s n (.inl ⟨_, _, rfl, rfl, ?_⟩))⟩
    have h1 : RepAll X.K G (((xs.zip ds).mergeSort (fun x y => !PySem.W.dataLt y.2 x.2)).map (·.1)) (((xs.zip ds).mergeSort (fun x y => !PySem.W.dataLt y.2 x.2)).map (·.2)) :=
      repAll_of fun b hb => repAll_zip rx b (List.mem_mergeSort.mp hb)
    have h2 : ((xs.zip ds).mergeSort (fun x y => !PySem.W.dataLt y.2 x.2)).map (·.2) = sortD ds := by
      have := PySem.W.sort_maps (r := fun (x y : V × D) => !PySem.W.dataLt y.2 x.2) (s := fun x y => !PySem.W.dataLt y x) Prod.snd (l := xs.zip ds) (fun _ _ _ _ => rfl)
      exact this.trans (congrArg (fun l => List.mergeSort l (fun x y => !PySem.W.dataLt y x)) (zip_snd rx.length))
    rw [h2] at h1
    exact h1) (he := he) (hpl := by rfl)
/-! of whole numbers -/
def sortI (l : List Int) : List Int := l.mergeSort (fun x y => decide (x ≤ y))
theorem sortD_ints (l : List Int) : sortD (l.map .int) = (sortI l).map .int := by
  unfold sortD sortI
  refine (PySem.W.sort_maps (r := fun (x y : Int) => decide (x ≤ y)) (s := fun x y => !PySem.W.dataLt y x) PyData.int ?_).symm
  intro x _ y _
  have h := congrFun (congrFun (PySem.W.dataLe_int (β := Int) id) x) y
  exact h.symm
theorem lay_ints : ∀ l : List Int, PyData.canLayAll0 (l.map .int) = true
  | [] => by simp [PyData.canLayAll0]
  | _ :: l => by rw [List.map_cons]; simp [PyData.canLayAll0, PyData.canLay0, lay_ints l]
theorem ed_sortI {l : List Int} (B : Bi X.mg) (hr : Room k X.A) (h : ED X e ρ (.v (li l))) (hg : Gl X "sorted" := by rfl)
    (he : starEach (e :: []) X.env = (false, eval e X.env) :: starEach [] X.env := by rfl) : ED X (.Call (.Name "sorted" p) [e] [] pos) ρ (.o (li (sortI l))) := by
  have := ed_sorted (p := p) (pos := pos) B hr h (lay_ints l) (PySem.W.AllAlike.of fun _ _ => by simp [PySem.W.alike]) (PySem.W.Sortable.others fun b => ⟨(fun z => nomatch z), fun xs z => nomatch z⟩) (fun d hd => by
    obtain ⟨x, _, rfl⟩ := List.mem_map.mp hd
    simp [PyData.depth]) hg he
  rw [sortD_ints] at this
  exact this
/-! ### what is read in the whole heap -/
def tF (K : PySem.W.Frag) (ρ : VEnv) (s : Sl) : TE := fun σ H Q => VOk K H σ ρ ∧ ∀ v G' H', Got K H H G' H' v s → Q v H'
abbrev FD (X : Cx) (e : Expr) (ρ : VEnv) (s : Sl) : Prop := PE X e (tF X.K ρ s)
theorem fd_of (h : ED X e ρ s) : FD X e ρ s := pe_imp h fun σ H Q ⟨o, q⟩ => ⟨H, Same.refl _, o, q⟩
theorem ed_full (hp : s.port) (h : FD X e ρ s) : ED X e ρ s := pe_imp h fun σ H Q ⟨G, sm, o, q⟩ => ⟨o.mono sm, fun v G' H' got => q v G H' (got.port sm hp)⟩
theorem keys_rep {H : Hp} : ∀ {ks : List (List Int)} {bs : List Addr}, IsKeys H (kdL ks) bs → RepAll X.K H (bs.map V.ref) (ks.map tI)
  | [], _, h => by
    have h' : Paired (fun (p : List Key × V) b => H b = some (.tup (p.1.map kV))) [] _ := h
    cases h'
    exact .nil
  | k :: ks, _, h => by
    have h' : Paired (fun (p : List Key × V) b => H b = some (.tup (p.1.map kV))) ((k.map Sum.inl, V.bl true) :: kdL ks) _ := h
    cases h' with
    | cons r t =>
      refine .cons (.tup r ?_) (keys_rep t)
      show RepAll X.K H ((k.map Sum.inl).map kV) (k.map .int)
      rw [List.map_map]
      exact RepAll.of_ints k
/-- list(d), d a dict -/
theorem fd_listK {ks : List (List Int)} (B : Bi X.mg) (h : FD X e ρ (.v (kd ks))) (hc : X.calm = true := by rfl) (hg : Gl X "list" := by rfl) (he : starEach (e :: []) X.env = (false, eval e X.env) :: starEach [] X.env := by rfl) : FD X (.Call (.Name "list" p) [e] [] pos) ρ (.o (.list (ks.map tI))) :=
  pe_imp (pe_callTy (call_list_dT hc) hg B.list PyProof.Rows.boot_list (pa_cons h pa_nil he) (by decide) (by decide) he (by rfl)) fun σ H Q ⟨o, q⟩ => ⟨o, fun v G1 H1 got => by
    obtain ⟨g, r⟩ := got.rep
    obtain ⟨t, rfl, ht⟩ := r.to_kd
    refine ⟨t, _, rfl, .inl (g.s _ _ ht), fun p bs n hb => q _ H1 _ ?_⟩
    exact (got_new (Same.refl _) n (.inl ⟨_, _, rfl, rfl, keys_rep hb⟩)).pre ⟨g.h, Same.refl _, g.h, fun a ha => by
      cases e : H a with
      | none => exact absurd e ha
      | some x => exact (g.h _ _ e).trans rfl⟩⟩
end
end DL

/-! DL6: the end of a law -/
namespace DL
open PySem PySem.Spec PyProof.Rows L2
/-- a def as it stands in the written part -/
structure DefIn (K : PySem.W.Frag) (x : Str) (st : Stmt) : Prop where
  ex : ∃ (f : Addr) (oc : Value) (od : Option Addr) (osl : Array (Option Value)) (kV doc pm : Value) (an : Option Addr) (cdv ct : Value), PySem.W.nsIn K mainGlobals x = some (some (.ref f)) ∧
    K.lookup f = some ⟨oc, od, .func (PySem.W.fnOf x x (defArgs st) (defBody st) (defScope st) .none kV doc pm an cdv ct), osl⟩ ∧ PySem.W.codeIn K cdv x = true ∧ PySem.W.keepIn K (.ref f) = true
theorem defIn_mk {K : PySem.W.Frag} {x : Str} {st : Stmt} {f : Addr} {oc : Value} {od : Option Addr} {osl : Array (Option Value)} {kV doc pm : Value} {an : Option Addr} {cdv ct : Value} (a : PySem.W.nsIn K mainGlobals x = some (some (.ref f)))
    (l : K.lookup f = some ⟨oc, od, .func (PySem.W.fnOf x x (defArgs st) (defBody st) (defScope st) .none kV doc pm an cdv ct), osl⟩) (c : PySem.W.codeIn K cdv x = true) (k : PySem.W.keepIn K (.ref f) = true) : DefIn K x st :=
  ⟨f, oc, od, osl, kV, doc, pm, an, cdv, ct, a, l, c, k⟩
theorem DefIn.at {K : PySem.W.Frag} {h : Heap} {mg : Str → Option Value} {x : Str} {st : Stmt} {ps : List Str} (X : K.In h) (G : h.Ns mainGlobals mg) (d : DefIn K x st)
    (hb : ∀ (kV doc pm : Value) (an : Option Addr) (cdv ct : Value) (us : List Value), us.length = ps.length → bindArgs (PySem.W.fnOf x x (defArgs st) (defBody st) (defScope st) .none kV doc pm an cdv ct) ⟨us, []⟩ = pure (ps.zip us)) : DefAt K mg x st ps := by
  obtain ⟨f, oc, od, osl, kV, doc, pm, an, cdv, ct, a, l, c, k⟩ := d.ex
  have F := fun_mk (st := st) l c k
  exact ⟨f, _, F, PySem.W.mg_of X G a, F.binds hb⟩
/-- the law's promise: True, at any script -/
def F_law (n : Nat) : List D → Sl → Prop := fun ds s => ∃ ns : List Int, ns.length ≤ n ∧ ds = [scrD ns] ∧ s = .v (.bool true)
theorem walk {l : PySem.W.OpenLaw} {q : Program} {loose : List Str} {XP : (Str → Option Value) → Heap → Prop} {YP : World → Heap → Prop} {d : DefRec} {K : Params → PySem.W.Frag} {st : Stmt} {k : Nat} (hn : l.most = some 63) (hdf : d.params.defaults = []) (hr : Room k callerA)
    (hY : ∀ (w : World) (h : Heap), YP w h → (K w.params).In h) (hd : d.name = ("law" : Str))
    (hb : ∀ (kV doc pm : Value) (an : Option Addr) (cdv ct : Value) (us : List Value), us.length = 1 → bindArgs (PySem.W.fnOf "law" "law" (defArgs st) (defBody st) (defScope st) .none kV doc pm an cdv ct) ⟨us, []⟩ = pure ((["script"] : List Str).zip us))
    (F : ∀ (w : World) (mg : Str → Option Value) (h : Heap), (K w.params).In h → h.Ns mainGlobals mg → DefIn (K w.params) "law" st ∧ ∀ (base : Heap) (f : Addr) (fd : FuncData), Fun (K w.params) "law" "law" st f fd → FnOk l.prog w (K w.params) mg base CX0 k f fd ["script"] (spF (K w.params) (F_law 63))) :
    PySem.W.WalkO q loose XP YP l.row.toRowW d [] (fun f vs => PySem.call f vs) :=
  L2.walk_of (n := 63) (k := k) (x := "script") (CX := fun _ => CX0) (sp := fun w => spF (K w.params) (F_law 63)) hn (by decide) hdf hr hY (fun w mg fa h KX G hmg => by
    obtain ⟨dI, hF⟩ := F w mg h KX G
    obtain ⟨f, oc, od, osl, kV, doc, pm, an, cdv, ct, a, l', c, kk⟩ := dI.ex
    have e1 := PySem.W.mg_of KX G a
    rw [hd] at hmg
    rw [hmg] at e1
    cases e1
    refine ⟨PySem.W.fnOf "law" "law" (defArgs st) (defBody st) (defScope st) .none kV doc pm an cdv ct, fun s u => .of_eq (hb kV doc pm an cdv ct [u] rfl), fun base hK hG => ?_⟩
    exact hF base _ _ (fun_mk (st := st) l' c kk)) (fun w H a ns h1 h2 h3 => ⟨H, [scrD ns], _, Same.refl _, .cons (.scr rfl h3) .nil, ⟨ns, h1, rfl, rfl⟩, fun v G' H' g => by
      obtain ⟨_, r⟩ := g.rep
      exact r.to_bl⟩) fun _ _ _ _ _ z => z
end DL

namespace PK
open PySem PySem.Spec PyProof.Rows L2 DL
def topS (i : Nat) : Stmt := PySem.Challenge.pw_pickhouse_k06_bounds.main.body.getD i (.Pass ⟨0, 0, 0, 0⟩)
abbrev s_bound : Stmt := topS 1
theorem sc_bound : FnScope ["many", "most", "total", "row", "size"] ["many", "most"] (defScope s_bound) := ⟨rfl, rfl, rfl, by decide +kernel, rfl, by decide +kernel, by decide +kernel⟩
abbrev s__law_cell_at : Stmt := topS 3
theorem sc__law_cell_at : FnScope ["script", "k"] ["script", "k"] (defScope s__law_cell_at) := ⟨rfl, rfl, rfl, by decide +kernel, rfl, by decide +kernel, by decide +kernel⟩
abbrev s__law_whole : Stmt := topS 4
theorem sc__law_whole : FnScope ["found"] ["found"] (defScope s__law_whole) := ⟨rfl, rfl, rfl, by decide +kernel, rfl, by decide +kernel, by decide +kernel⟩
abbrev s_law : Stmt := topS 5
theorem sc_law : FnScope ["script", "many", "most", "line", "k", "found", "j"] ["script"] (defScope s_law) := ⟨rfl, rfl, rfl, by decide +kernel, rfl, by decide +kernel, by decide +kernel⟩
/-! ### _law_cell_at -/
def cellAt (ns : List Int) (k : Nat) : Int := ns.getD k 0
def F__law_cell_at : List D → Sl → Prop := fun ds s => ∃ ns k, ds = [scrD ns, .int ((k : Nat) : Int)] ∧ s = .v (.int (cellAt ns k))
section
variable {P : Program} {w : World} {K : PySem.W.Frag} {mg : Str → Option Value} {base : Heap}
theorem fn__law_cell_at (T : DefAt K mg "_law_cell_at" s__law_cell_at ["script", "k"]) (B : Bi mg) : Fn P w K mg base 1 "_law_cell_at" F__law_cell_at := by
  refine fn_mk T sc__law_cell_at (fun ds s ⟨n, l, h, _⟩ => by rw [h]; rfl) ?_
  rintro f cdv A outer s H E hr ds t ⟨ns, k, rfl, rfl⟩
  refine sq_ifr (td_lt (ed_var 1) (ed_lenR B (ed_var 0))) (fun h => ?_) fun h => ?_
  · have hk : k < ns.length := by have := of_decide_eq_true h; omega
    refine sq_ret (ed_ixR (ed_var 0) (ed_var 1) (atI_nat (List.getElem?_eq_getElem hk))) ?_
    show Sl.v (.int ns[k]) = Sl.v (.int (cellAt ns k))
    unfold cellAt
    rw [List.getD_eq_getElem?_getD, List.getElem?_eq_getElem hk]
    rfl
  · have hk : ¬ k < ns.length := by have := of_decide_eq_false h; omega
    refine sq_ret ed_int ?_
    show Sl.v (.int 0) = Sl.v (.int (cellAt ns k))
    unfold cellAt
    rw [List.getD_eq_getElem?_getD, List.getElem?_eq_none (by omega)]
    rfl
end

/-! ### _law_whole -/
def isWhole : D → Bool
  | .int _ => true
  | _ => false
def F__law_whole : List D → Sl → Prop := fun ds s => ∃ d, ds = [d] ∧ (d = .none ∨ ∃ n, d = .int n) ∧ s = .v (.bool (isWhole d))
section
variable {P : Program} {w : World} {K : PySem.W.Frag} {mg : Str → Option Value} {base : Heap}
theorem fn__law_whole (T : DefAt K mg "_law_whole" s__law_whole ["found"]) (B : Bi mg) : Fn P w K mg base 1 "_law_whole" F__law_whole := by
  refine fn_mk T sc__law_whole (fun ds s ⟨d, h, _⟩ => by rw [h]; rfl) ?_
  rintro f cdv A outer s H E hr ds t ⟨d, rfl, hd, rfl⟩
  rcases hd with rfl | ⟨n, rfl⟩
  · refine sq_ret (s := .v (.bool (false && true))) (ed_and (ed_isi B (ed_var (d := .none) 0) B.int boot_int (by intro _ z; cases z) (show kitB "NoneType" "int" = some false by decide +kernel)) fun h => nomatch h) ?_
    rfl
  · refine sq_ret (s := .v (.bool (true && !false))) (ed_and (ed_isi B (ed_var (d := .int n) 0) B.int boot_int (by intro _ z; cases z) (show kitB "int" "int" = some true by decide +kernel)) fun h => ed_one (ed_not (ed_isi B (ed_var (d := .int n) 0) B.bool boot_bool (by intro _ z; cases z) (show kitB "int" "bool" = some false by decide +kernel)))) ?_
    rfl
end

/-! ### bound -/
def ch : Nat → Nat → Nat
  | _, 0 => 1
  | 0, _ + 1 => 0
  | n + 1, k + 1 => ch n k + ch n (k + 1)
theorem ch_zero (n : Nat) : ch n 0 = 1 := by cases n <;> rfl
theorem ch_gt : ∀ (n k : Nat), n < k → ch n k = 0
  | 0, _ + 1, _ => rfl
  | n + 1, k + 1, h => by
    show ch n k + ch n (k + 1) = 0
    rw [ch_gt n k (by omega), ch_gt n (k + 1) (by omega)]
theorem ch_self : ∀ n : Nat, ch n n = 1
  | 0 => rfl
  | n + 1 => by
    show ch n n + ch n (n + 1) = 1
    rw [ch_self n, ch_gt n (n + 1) (by omega)]
/-- (k + 1) C(n + 1, k + 1) = (n + 1) C(n, k) -/
theorem ch_absorb : ∀ n k : Nat, (k + 1) * ch (n + 1) (k + 1) = (n + 1) * ch n k
  | 0, 0 => rfl
  | 0, k + 1 => by
    rw [ch_gt 1 (k + 1 + 1) (by omega), ch_gt 0 (k + 1) (by omega)]
    simp
  | n + 1, 0 => by
    have h := ch_absorb n 0
    show (0 + 1) * (ch (n + 1) 0 + ch (n + 1) (0 + 1)) = (n + 1 + 1) * ch (n + 1) 0
    rw [ch_zero] at h ⊢
    omega
  | n + 1, k + 1 => by
    have h1 := ch_absorb n k
    have h2 := ch_absorb n (k + 1)
    have e1 : ch (n + 1 + 1) (k + 1 + 1) = ch (n + 1) (k + 1) + ch (n + 1) (k + 1 + 1) := rfl
    have e2 : ch (n + 1) (k + 1) = ch n k + ch n (k + 1) := rfl
    rw [e1, Nat.mul_add, h2]
    have e3 : (k + 1 + 1) * ch (n + 1) (k + 1) = (k + 1) * ch (n + 1) (k + 1) + ch (n + 1) (k + 1) := Nat.succ_mul ..
    rw [e3, h1]
    have e4 : (n + 1 + 1) * ch (n + 1) (k + 1) = (n + 1) * ch (n + 1) (k + 1) + ch (n + 1) (k + 1) := Nat.succ_mul ..
    rw [e4, e2, Nat.mul_add]
    omega
theorem ch_step (n k : Nat) (h : k ≤ n) : (k + 1) * ch n (k + 1) = ch n k * (n - k) := by
  cases n with
  | zero =>
    have : k = 0 := by omega
    subst this
    rfl
  | succ n =>
    have h1 := ch_absorb n k
    have e : ch (n + 1) (k + 1) = ch n k + ch n (k + 1) := rfl
    by_cases hk : k = n + 1
    · subst hk
      rw [ch_gt (n + 1) (n + 1 + 1) (by omega), Nat.sub_self]
      simp
    · -- C(n+1,k) (n+1-k) = C(n+1,k+1)(k+1)
      cases k with
      | zero => rw [h1, ch_zero, ch_zero]; omega
      | succ k =>
        have h2 := ch_absorb n k
        have e2 : ch (n + 1) (k + 1) = ch n k + ch n (k + 1) := rfl
        have ih := ch_step n k (by omega)
        have ih2 := ch_step n (k + 1) (by omega)
        -- (k+2) C(n+1,k+2) = (n+1) C(n,k+1);  C(n+1,k+1) (n-k) = ?
        rw [h1]
        have e5 : (k + 1) * (ch (n + 1) (k + 1) * (n + 1 - (k + 1))) = (k + 1) * ((n + 1) * ch n (k + 1)) := by
          rw [← Nat.mul_assoc, h2]
          have : n + 1 - (k + 1) = n - k := by omega
          rw [this, Nat.mul_assoc, ← ih, Nat.mul_left_comm]
        exact (Nat.eq_of_mul_eq_mul_left (by omega) e5).symm
def sumCh (n : Nat) : Nat → Nat
  | 0 => 0
  | m + 1 => sumCh n m + ch n m
/-- how many sets of n things have at most m -/
def boundN (n m : Nat) : Nat := sumCh n (min n m + 1)
def F_bound : List D → Sl → Prop := fun ds s => ∃ n m : Nat, n ≤ 60 ∧ m ≤ 60 ∧ ds = [.int (n : Int), .int (m : Int)] ∧ s = .v (.int (boundN n m : Nat))
theorem get_range {n i a : Nat} (h : (List.range n)[i]? = some a) : a = i ∧ i < n := by
  obtain ⟨h1, h2⟩ := List.getElem?_eq_some_iff.mp h
  rw [List.length_range] at h1
  rw [List.getElem_range] at h2
  exact ⟨h2.symm, h1⟩
section
variable {P : Program} {w : World} {K : PySem.W.Frag} {mg : Str → Option Value} {base : Heap}
theorem fn_bound (T : DefAt K mg "bound" s_bound ["many", "most"]) (B : Bi mg) : Fn P w K mg base 1 "bound" F_bound := by
  refine fn_mk T sc_bound (fun ds s ⟨n, m, _, _, h, _⟩ => by rw [h]; rfl) ?_
  rintro f cdv A outer s H E hr ds t ⟨n, m, hn, hm, rfl, rfl⟩
  have nd := sc_bound.nd
  refine sq_set 2 ed_int (sq_set 3 ed_int ?_)
  refine sq_for (enc := fun i : Nat => .int (i : Int)) (xs := List.range (min (n : Int) m + 1).toNat) 4 (fun i ρ => ∃ z, ρ = [.v (.int (n : Int)), .v (.int (m : Int)), .v (.int (sumCh n i : Nat)), .v (.int (ch n i : Nat)), z])
    (id_range B (ed_add (ed_min2 B (ad_cons (ed_var 0) (ad_cons (ed_var 1) ad_nil))) ed_int) (by omega) (by omega)) ⟨.em, by rw [ch_zero]; rfl⟩ ?_ ?_
  · rintro i a ρ' e ⟨z, rfl⟩
    obtain ⟨rfl, hi⟩ := get_range e
    have hle : a ≤ n := by omega
    refine sq_set 2 (ed_add (ed_var 2) (ed_var 3)) ?_
    refine sq_set 3 (ed_fdiv (ed_mul (ed_var 3) (ed_sub (ed_var 0) (ed_var 4)) (.inr ⟨by omega, by omega⟩)) (ed_add (ed_var 4) ed_int) ⟨by omega, by omega⟩) (sq_nil ⟨.v (.int (a : Int)), ?_⟩)
    have h1 := ch_step n a hle
    have h2 : ((ch n a : Nat) : Int) * ((n : Int) - a) / ((a : Int) + 1) = ((ch n (a + 1) : Nat) : Int) := by
      have e1 : ((n : Int) - a) = ((n - a : Nat) : Int) := by omega
      have e2 : ((a : Int) + 1) = ((a + 1 : Nat) : Int) := by omega
      rw [e1, e2, ← Int.natCast_mul, ← h1, Int.natCast_mul]
      exact Int.mul_ediv_cancel_left _ (by omega)
    show [Sl.v (.int (n : Int)), Sl.v (.int (m : Int)), Sl.v (.int ((sumCh n a : Nat) + (ch n a : Nat))), Sl.v (.int (((ch n a : Nat) : Int) * ((n : Int) - a) / ((a : Int) + 1))), Sl.v (.int (a : Int))] = _
    rw [h2]
    rfl
  · rintro ρ' ⟨z, rfl⟩
    refine sq_ret (ed_var 2) ?_
    show Sl.v (.int (sumCh n (List.range (min (n : Int) m + 1).toNat).length : Nat)) = Sl.v (.int (sumCh n (min n m + 1) : Nat))
    rw [List.length_range]
    have : (min (n : Int) m + 1).toNat = min n m + 1 := by omega
    rw [this]
end

/-! ### the law -/
def chRow (n : Nat) : List Int := (List.range (n + 1)).map fun j => ((ch n j : Nat) : Int)
theorem chRow_succ (n : Nat) : chRow (n + 1) = [1] ++ (List.range n).map (fun j => (((ch n j : Nat) : Int) + ((ch n (j + 1) : Nat) : Int))) ++ [1] := by
  unfold chRow
  rw [List.range_succ, List.map_append, List.range_succ_eq_map, List.map_cons, List.map_map]
  have e1 : ((ch (n + 1) 0 : Nat) : Int) = 1 := by rw [ch_zero]; rfl
  have e2 : ((ch (n + 1) (n + 1) : Nat) : Int) = 1 := by rw [ch_self]; rfl
  rw [e1, List.map_cons, List.map_nil, e2]
  congr 2
theorem sum_range (f : Nat → Nat) : ∀ m : Nat, ((List.range m).map fun j => ((f j : Nat) : Int)).sum = (((List.range m).map f).sum : Nat)
  | 0 => rfl
  | m + 1 => by
    rw [List.range_succ, List.map_append, List.map_append, List.sum_append, List.sum_append, sum_range f m]
    simp
theorem sumCh_eq (n : Nat) : ∀ m : Nat, ((List.range m).map (ch n)).sum = sumCh n m
  | 0 => rfl
  | m + 1 => by
    rw [List.range_succ, List.map_append, List.sum_append, sumCh_eq n m]
    simp [sumCh]
theorem chRow_sum (n m : Nat) : ((chRow n).take (m + 1)).sum = (boundN n m : Nat) := by
  unfold chRow boundN
  rw [← List.map_take, List.take_range, sum_range, sumCh_eq]
  congr 2
  omega
theorem chRow_get {n j : Nat} (h : j ≤ n) : (chRow n)[j]? = some ((ch n j : Nat) : Int) := by
  unfold chRow
  rw [List.getElem?_map, List.getElem?_range (by omega)]
  rfl
section
variable {P : Program} {w : World} {K : PySem.W.Frag} {mg : Str → Option Value} {base : Heap}
theorem mod_nat (a : Int) {n : Nat} (h : 0 < n) : ∃ k : Nat, a % (n : Int) = (k : Int) ∧ k < n := by
  have h1 := Int.emod_nonneg a (b := (n : Int)) (by omega)
  have h2 := Int.emod_lt_of_pos a (b := (n : Int)) (by omega)
  exact ⟨(a % (n : Int)).toNat, by omega, by omega⟩
theorem at_li {l : List Int} {n : Int} {x : Int} {j : Nat} (hn : n = (j : Int)) (h : l[j]? = some x) : atI (l.map PyData.int) n = some (.int x) := by
  subst hn
  refine atI_nat ?_
  rw [List.getElem?_map, h]
  rfl
theorem fn_law {f : Addr} {fd : FuncData} (Fx : Fun K "law" "law" s_law f fd) (B : Bi mg) (f1 : Fn P w K mg base 1 "_law_cell_at" F__law_cell_at) (f2 : Fn P w K mg base 1 "_law_whole" F__law_whole) (f3 : Fn P w K mg base 1 "bound" F_bound) :
    FnOk P w K mg base CX0 2 f fd ["script"] (spF K (F_law 63)) := by
  refine fnok_mk Fx sc_law (fun ds s ⟨n, _, h, _⟩ => by rw [h]; rfl) ?_
  rintro f cdv A outer s H E hr ds t ⟨ns, hl, rfl, rfl⟩
  have nd := sc_law.nd
  obtain ⟨n, en, hn⟩ := mod_nat (cellAt ns 0) (n := 61) (by decide)
  obtain ⟨m0, em0, hm0⟩ := mod_nat (cellAt ns 1) (n := 61) (by decide)
  refine sq_set 1 (s := .v (.int (n : Int))) (ed_isv (ed_mod (ed_call f1 hr (ad_cons (ed_var 0) (ad_cons ed_int ad_nil)) ⟨ns, 0, rfl, rfl⟩) ed_int (by decide)) (by rw [← en]; rfl)) ?_
  refine sq_set 2 (s := .v (.int (m0 : Int))) (ed_isv (ed_mod (ed_call f1 hr (ad_cons (ed_var 0) (ad_cons ed_int ad_nil)) ⟨ns, 1, rfl, rfl⟩) ed_int (by decide)) (by rw [← em0]; rfl)) ?_
  obtain ⟨m1, em1, hm1⟩ := mod_nat (m0 : Int) (n := n + 3) (by omega)
  refine sq_if (M := fun ρ => ∃ m : Nat, m ≤ 60 ∧ ρ = [.v (scrD ns), .v (.int (n : Int)), .v (.int (m : Int)), .em, .em, .em, .em])
    (td_eq hr (ed_mod (ed_call f1 hr (ad_cons (ed_var 0) (ad_cons ed_int ad_nil)) ⟨ns, 2, rfl, rfl⟩) ed_int (by decide)) ed_int rfl rfl rfl) (fun _ => ?_) (fun _ => sq_nil ⟨m0, by omega, rfl⟩) ?_
  · refine sq_set 2 (s := .v (.int (m1 : Int))) (ed_isv (ed_mod (ed_var 2) (ed_add (ed_var 1) ed_int) (by omega)) (by rw [← em1]; rfl)) (sq_nil ⟨m1, ?_, rfl⟩)
    have : m1 ≤ m0 ∨ n + 3 ≤ m0 := by
      by_cases q : n + 3 ≤ m0
      · exact .inr q
      · left
        have : (m0 : Int) % ((n + 3 : Nat) : Int) = m0 := Int.emod_eq_of_lt (by omega) (by omega)
        omega
    omega
  · rintro ρ' ⟨m, hm, rfl⟩
    refine sq_set 3 (s := .o (li (chRow 0))) (ed_lst (ad_cons ed_int ad_nil)) ?_
    refine sq_rel 3 ?_
    refine sq_for (enc := fun i : Nat => .int (i : Int)) (xs := List.range ((n : Int)).toNat) 4 (fun i ρ => ∃ z, ρ = [.v (scrD ns), .v (.int (n : Int)), .v (.int (m : Int)), .v (li (chRow i)), z, .em, .em]) (id_range B (ed_var 1) (by omega) (by omega)) ⟨.em, rfl⟩ ?_ ?_
    · rintro i a ρ' e ⟨z, rfl⟩
      obtain ⟨rfl, hi⟩ := get_range e
      refine sq_set 3 (s := .o (li (chRow (a + 1)))) (ed_is (ed_cat (ed_w (ed_cat (ed_w (ed_lst (ad_cons ed_int ad_nil)))
        (ed_w (ed_lc (enc := fun i : Nat => (.int (i : Int) : D)) (xs := List.range ((a : Int)).toNat) 6 (fun _ => true) (fun j => .int (((ch a j : Nat) : Int) + ((ch a (j + 1) : Nat) : Int))) (id_range B (ed_var 4) (by omega) (by omega)) (fun _ _ _ _ _ _ _ => td_pts0) ?_ ?_)) ?_)) (ed_w (ed_lst (ad_cons ed_int ad_nil))) ?_) ?_) (sq_rel 3 (sq_nil ⟨_, rfl⟩))
      · rintro j hj - s H C cl fp
        have hja : j < a := by
          have := List.mem_range.mp hj
          omega
        exact ed_add (ed_ixL (ed_var 3) (ed_var 6) (at_li rfl (chRow_get (by omega)))) (ed_ixL (ed_var 3) (ed_add (ed_var 6) ed_int) (at_li (j := j + 1) (by omega) (chRow_get (by omega))))
      · rw [List.length_range]
        have : sizeLine = 16777216 := sizeLine_eq
        omega
      · rw [List.length_map, List.length_filter_eq_length_iff.mpr (fun _ _ => rfl), List.length_range]
        have : sizeLine = 16777216 := sizeLine_eq
        show 1 + (a : Int).toNat ≤ sizeLine
        omega
      · rw [List.length_append, List.length_map, List.length_filter_eq_length_iff.mpr (fun _ _ => rfl), List.length_range]
        have : sizeLine = 16777216 := sizeLine_eq
        show 1 + (a : Int).toNat + 1 ≤ sizeLine
        omega
      · rw [List.filter_eq_self.mpr (fun _ _ => rfl), chRow_succ]
        show Sl.o (.list _) = Sl.o (.list _)
        rw [List.map_append, List.map_append, List.map_map]
        rfl
    · rintro ρ' ⟨z, rfl⟩
      rw [List.length_range]
      refine sq_set 5 (s := .v (.int (boundN n m : Nat))) (ed_call f3 hr (ad_cons (ed_var 1) (ad_cons (ed_var 2) ad_nil)) ⟨n, m, by omega, hm, rfl, rfl⟩) ?_
      refine sq_ret (ed_isv (ed_and (ed_call f2 hr (ad_cons (ed_var (d := .int (boundN n m : Nat)) 5) ad_nil) ⟨_, rfl, .inr ⟨_, rfl⟩, rfl⟩) fun _ => ed_one (ed_eq hr (ed_var (d := .int (boundN n m : Nat)) 5) (ed_sum (l := (chRow n).take (m + 1)) B (ed_w (ed_is (ed_slL (ed_var (d := li (chRow n)) 3) od_none (od_some (ed_add (ed_var 2) ed_int))) ?_))) rfl rfl rfl)) ?_) rfl
      · rw [cutA_to _ (by omega)]
        show Sl.o (.list _) = Sl.o (.list _)
        rw [List.map_take]
        congr 3
      · show PyData.bool (true && (((boundN n m : Nat) : Int) == ((chRow n).take (m + 1)).sum)) = _
        rw [chRow_sum]
        simp
end

theorem main {w : World} {K : PySem.W.Frag} {h : Heap} {mg : Str → Option Value} (KX : K.In h) (G : h.Ns mainGlobals mg)
    (d_bound : DL.DefIn K "bound" s_bound)
    (d__law_cell_at : DL.DefIn K "_law_cell_at" s__law_cell_at)
    (d__law_whole : DL.DefIn K "_law_whole" s__law_whole)
    (d_law : DL.DefIn K "law" s_law)
    (z_len : PySem.W.nsIn K mainGlobals "len" = some none)
    (z_list : PySem.W.nsIn K mainGlobals "list" = some none)
    (z_tuple : PySem.W.nsIn K mainGlobals "tuple" = some none)
    (z_range : PySem.W.nsIn K mainGlobals "range" = some none)
    (z_sorted : PySem.W.nsIn K mainGlobals "sorted" = some none)
    (z_all : PySem.W.nsIn K mainGlobals "all" = some none)
    (z_sum : PySem.W.nsIn K mainGlobals "sum" = some none)
    (z_min : PySem.W.nsIn K mainGlobals "min" = some none)
    (z_max : PySem.W.nsIn K mainGlobals "max" = some none)
    (z_isinstance : PySem.W.nsIn K mainGlobals "isinstance" = some none)
    (z_enumerate : PySem.W.nsIn K mainGlobals "enumerate" = some none)
    (z_reversed : PySem.W.nsIn K mainGlobals "reversed" = some none)
    (z_str : PySem.W.nsIn K mainGlobals "str" = some none)
    (z_int : PySem.W.nsIn K mainGlobals "int" = some none)
    (z_bool : PySem.W.nsIn K mainGlobals "bool" = some none)
    (z_set : PySem.W.nsIn K mainGlobals "set" = some none)
    : DL.DefIn K "law" s_law ∧ ∀ (base : Heap) (f : Addr) (fd : FuncData), Fun K "law" "law" s_law f fd → FnOk PySem.Challenge.rw_pickhouse_k06_bounds.prog w K mg base CX0 2 f fd ["script"] (spF K (F_law 63)) := by
  have B : DL.Bi mg := ⟨PySem.W.mg_none_of KX G z_len, PySem.W.mg_none_of KX G z_list, PySem.W.mg_none_of KX G z_tuple, PySem.W.mg_none_of KX G z_range, PySem.W.mg_none_of KX G z_sorted, PySem.W.mg_none_of KX G z_all, PySem.W.mg_none_of KX G z_sum, PySem.W.mg_none_of KX G z_min, PySem.W.mg_none_of KX G z_max, PySem.W.mg_none_of KX G z_isinstance, PySem.W.mg_none_of KX G z_enumerate, PySem.W.mg_none_of KX G z_reversed, PySem.W.mg_none_of KX G z_str, PySem.W.mg_none_of KX G z_int, PySem.W.mg_none_of KX G z_bool, PySem.W.mg_none_of KX G z_set⟩
  refine ⟨d_law, fun base f fd Fl => ?_⟩
  have at_bound := DL.DefIn.at (ps := ["many", "most"]) KX G d_bound (fun _ _ _ _ _ _ us hl => match us, hl with | [_, _], _ => rfl)
  have at__law_cell_at := DL.DefIn.at (ps := ["script", "k"]) KX G d__law_cell_at (fun _ _ _ _ _ _ us hl => match us, hl with | [_, _], _ => rfl)
  have at__law_whole := DL.DefIn.at (ps := ["found"]) KX G d__law_whole (fun _ _ _ _ _ _ us hl => match us, hl with | [_], _ => rfl)
  have f__law_cell_at := fn__law_cell_at (w := w) (P := PySem.Challenge.rw_pickhouse_k06_bounds.prog) (base := base) at__law_cell_at B
  have f__law_whole := fn__law_whole (w := w) (P := PySem.Challenge.rw_pickhouse_k06_bounds.prog) (base := base) at__law_whole B
  have f_bound := fn_bound (w := w) (P := PySem.Challenge.rw_pickhouse_k06_bounds.prog) (base := base) at_bound B
  exact fn_law Fl B f__law_cell_at f__law_whole f_bound
end PK
open PySem PySem.W PyProof.Rows in
set_option maxRecDepth 100000 in
set_option maxHeartbeats 0 in
theorem PySem.Challenge.cw_pickhouse_k06_bounds_holds : PySem.Challenge.rw_pickhouse_k06_bounds.Holds := by
  w_on; o_law; k_head; (case hw => w_witness2)
  k_fill
  refine DL.walk (l := PySem.Challenge.rw_pickhouse_k06_bounds) (st := PK.s_law) (k := 2) rfl rfl ⟨rfl, by decide, by decide⟩ (fun w h Y => PySem.W.kIn_of Y) rfl (fun _ _ _ _ _ _ us hl => match us, hl with | [_], _ => rfl) ?F
  case F =>
    intro w mg h KX G
    refine' PK.main KX G ?d_bound ?d__law_cell_at ?d__law_whole ?d_law ?z_len ?z_list ?z_tuple ?z_range ?z_sorted ?z_all ?z_sum ?z_min ?z_max ?z_isinstance ?z_enumerate ?z_reversed ?z_str ?z_int ?z_bool ?z_set 
    case d_bound => (refine' DL.defIn_mk ?a ?l ?c ?k; (case a => k_is); (case l => k_is); (case c => k_is); (case k => k_is))
    case d__law_cell_at => (refine' DL.defIn_mk ?a ?l ?c ?k; (case a => k_is); (case l => k_is); (case c => k_is); (case k => k_is))
    case d__law_whole => (refine' DL.defIn_mk ?a ?l ?c ?k; (case a => k_is); (case l => k_is); (case c => k_is); (case k => k_is))
    case d_law => (refine' DL.defIn_mk ?a ?l ?c ?k; (case a => k_is); (case l => k_is); (case c => k_is); (case k => k_is))
    case z_len => k_is
    case z_list => k_is
    case z_tuple => k_is
    case z_range => k_is
    case z_sorted => k_is
    case z_all => k_is
    case z_sum => k_is
    case z_min => k_is
    case z_max => k_is
    case z_isinstance => k_is
    case z_enumerate => k_is
    case z_reversed => k_is
    case z_str => k_is
    case z_int => k_is
    case z_bool => k_is
    case z_set => k_is
#print axioms PySem.Challenge.cw_pickhouse_k06_bounds_holds
