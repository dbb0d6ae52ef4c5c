import PyProof.Rows.All
import Wide.All
import OpenK.AllK
import Wide.FinOn
import HandS.ForMost
import HandS.Zip
import HandS.Wide
import HandS.IsInst
import HandS.TupAny
import HandS.TupMul
import HandS.Conv
import HandS.RaiseMore
import HandS.Style
import PyProof.ReprRoads
import HandS.Defaults
import HandS.Ends
import HandS.HeadEnd
import PySem.Challenge.RW_tiesums_k84_whole_many_fractions_put_tog
import HandS.Head0
import HandS.Head1
import HandS.Head2
import HandS.HeadHook1
import HandS.HeadHook2
import HandS.HeadHook3
import HandS.HeadHook4
set_option Elab.async false
set_option linter.all false
set_option maxRecDepth 100000
/-! MP: plain data over the hand layer: data D, what represents it, readings that give a value. -/
namespace MP
open PySem L2

/-- plain data; cel k: the k-th cell of the store -/
inductive D where
  | non | bl (b : Bool) | int (i : Int) | str (x : Str) | ty (n : String)
  | tup (ds : List D) | lst (ds : List D)
  | obj (C : Addr) (fs : List (Str × D))
  | cel (k : Nat)
inductive Cell where
  | lst (ds : List D) | ins (C : Addr) (fs : List (Str × D))
abbrev Store := List Cell
/-- what is laid down for good; where the cells stand -/
structure Wd where
  Hf : Hp
  al : List Addr
inductive Slot where
  | emp | d (x : D) | own (ds : List D)
abbrev Env := List Slot

section
variable (K : PySem.W.Frag)
mutual
inductive Rep (w : Wd) : V → D → Prop
  | non : Rep w .non .non
  | bl {b} : Rep w (.bl b) (.bl b)
  | int {i} : Rep w (.int i) (.int i)
  | str {x} : Rep w (.str x) (.str x)
  | ty {n} : Rep w (.ty n) (.ty n)
  | tup {a xs ds} : SqT K w.Hf a xs → Reps w xs ds → Rep w (.ref a) (.tup ds)
  | lst {a xs ds} : SqL K w.Hf a xs → Reps w xs ds → Rep w (.ref a) (.lst ds)
  | obj {a C dx} {vs : List (Str × V)} {fs : List (Str × D)} : w.Hf a = some (.ins C dx vs) → vs.map (·.1) = fs.map (·.1) → Reps w (vs.map (·.2)) (fs.map (·.2)) → Rep w (.ref a) (.obj C fs)
  | cel {a k} : w.al[k]? = some a → Rep w (.ref a) (.cel k)
inductive Reps (w : Wd) : List V → List D → Prop
  | nil : Reps w [] []
  | cons {v d vs ds} : Rep w v d → Reps w vs ds → Reps w (v :: vs) (d :: ds)
end
end

structure LeW (w w' : Wd) : Prop where
  hf : ∀ a o, w.Hf a = some o → w'.Hf a = some o
  al : ∃ r, w'.al = w.al ++ r
theorem LeW.refl (w : Wd) : LeW w w := ⟨fun _ _ h => h, [], by simp⟩
theorem LeW.trans {w w1 w2 : Wd} (a : LeW w w1) (b : LeW w1 w2) : LeW w w2 :=
  ⟨fun x o h => b.hf x o (a.hf x o h), by
    obtain ⟨r, e⟩ := a.al
    obtain ⟨q, f⟩ := b.al
    exact ⟨r ++ q, by rw [f, e, List.append_assoc]⟩⟩
theorem LeW.get {w w' : Wd} (h : LeW w w') {k : Nat} {a : Addr} (e : w.al[k]? = some a) : w'.al[k]? = some a := by
  obtain ⟨r, q⟩ := h.al
  rw [q, List.getElem?_append_left (List.getElem?_eq_some_iff.mp e).1]
  exact e

section
variable {K : PySem.W.Frag} {w w' w1 w2 : Wd} {H H' H1 H2 : Hp}
theorem rd_mono {a : Addr} {u : HO} (e : ∀ a o, H a = some o → H' a = some o) (h : Rd H a u) : Rd H' a u := by
  rcases h with h | ⟨o, h⟩
  · exact .inl (e _ _ h)
  · exact .inr ⟨o, e _ _ h⟩
theorem sqT_mono {a : Addr} {xs : List V} (e : ∀ a o, H a = some o → H' a = some o) (h : SqT K H a xs) : SqT K H' a xs := by
  rcases h with h | h
  · exact .inl (rd_mono e h)
  · exact .inr h
theorem sqL_mono {a : Addr} {xs : List V} (e : ∀ a o, H a = some o → H' a = some o) (h : SqL K H a xs) : SqL K H' a xs := by
  rcases h with h | h
  · exact .inl (rd_mono e h)
  · exact .inr h
mutual
theorem Rep.mono (e : LeW w w') : ∀ {v : V} {d : D}, Rep K w v d → Rep K w' v d
  | _, _, .non => .non
  | _, _, .bl => .bl
  | _, _, .int => .int
  | _, _, .str => .str
  | _, _, .ty => .ty
  | _, _, .tup h r => .tup (sqT_mono e.hf h) (Reps.mono e r)
  | _, _, .lst h r => .lst (sqL_mono e.hf h) (Reps.mono e r)
  | _, _, .obj h n r => .obj (e.hf _ _ h) n (Reps.mono e r)
  | _, _, .cel h => .cel (e.get h)
theorem Reps.mono (e : LeW w w') : ∀ {vs : List V} {ds : List D}, Reps K w vs ds → Reps K w' vs ds
  | _, _, .nil => .nil
  | _, _, .cons h r => .cons (Rep.mono e h) (Reps.mono e r)
end
theorem Reps.length : ∀ {vs : List V} {ds : List D}, Reps K w vs ds → vs.length = ds.length
  | _, _, .nil => rfl
  | _, _, .cons _ r => by simp [Reps.length r]
theorem Reps.get : ∀ {vs : List V} {ds : List D} {i : Nat} {d : D}, Reps K w vs ds → ds[i]? = some d → ∃ v, vs[i]? = some v ∧ Rep K w v d
  | _, _, _, _, .nil, e => by simp at e
  | _, _, 0, _, .cons h _, e => by simp at e; subst e; exact ⟨_, rfl, h⟩
  | _, _, i + 1, d, .cons _ r, e => by
    obtain ⟨v, a, b⟩ := Reps.get (i := i) (d := d) r (by simpa using e)
    exact ⟨v, by simpa using a, b⟩
theorem Reps.getV : ∀ {vs : List V} {ds : List D} {i : Nat} {v : V}, Reps K w vs ds → vs[i]? = some v → ∃ d, ds[i]? = some d ∧ Rep K w v d
  | _, _, _, _, .nil, e => by simp at e
  | _, _, 0, _, .cons h _, e => by simp at e; subst e; exact ⟨_, rfl, h⟩
  | _, _, i + 1, v, .cons _ r, e => by
    obtain ⟨d, a, b⟩ := Reps.getV (i := i) (v := v) r (by simpa using e)
    exact ⟨d, by simpa using a, b⟩
theorem Reps.append : ∀ {vs : List V} {ds : List D} {us : List V} {es : List D}, Reps K w vs ds → Reps K w us es → Reps K w (vs ++ us) (ds ++ es)
  | _, _, _, _, .nil, s => s
  | _, _, _, _, .cons h r, s => .cons h (Reps.append r s)
theorem Reps.one {v : V} {d : D} (h : Rep K w v d) : Reps K w [v] [d] := .cons h .nil
theorem Reps.take : ∀ {vs : List V} {ds : List D} (n : Nat), Reps K w vs ds → Reps K w (vs.take n) (ds.take n)
  | _, _, 0, _ => .nil
  | _, _, _ + 1, .nil => .nil
  | _, _, n + 1, .cons h r => .cons h (Reps.take n r)
theorem Reps.drop : ∀ {vs : List V} {ds : List D} (n : Nat), Reps K w vs ds → Reps K w (vs.drop n) (ds.drop n)
  | _, _, 0, r => r
  | _, _, _ + 1, .nil => .nil
  | _, _, n + 1, .cons _ r => Reps.drop n r
theorem Reps.reverse : ∀ {vs : List V} {ds : List D}, Reps K w vs ds → Reps K w vs.reverse ds.reverse
  | _, _, .nil => .nil
  | _, _, .cons h r => by
    rw [List.reverse_cons, List.reverse_cons]
    exact Reps.append (Reps.reverse r) (.one h)
theorem Reps.set {v : V} {d : D} (h : Rep K w v d) : ∀ {vs : List V} {ds : List D} (i : Nat), Reps K w vs ds → Reps K w (vs.set i v) (ds.set i d)
  | _, _, _, .nil => .nil
  | _, _, 0, .cons _ r => .cons h r
  | _, _, i + 1, .cons q r => .cons q (Reps.set h i r)
/-- what an evaluation leaves of the heap -/
structure Ext (w : Wd) (H : Hp) (w' : Wd) (H' : Hp) : Prop where
  le : LeW w w'
  fr : ∀ a o, H a = some o → a ∉ w.al → H' a = some o
  kp : ∀ a, H' a = none → H a = none
  nw : ∀ a, H a ≠ none → w.Hf a = none → w'.Hf a = none
  na : ∀ a, a ∈ w'.al → a ∈ w.al ∨ H a = none
theorem Ext.refl (w : Wd) (H : Hp) : Ext w H w H := ⟨LeW.refl w, fun _ _ h _ => h, fun _ h => h, fun _ _ h => h, fun _ h => .inl h⟩
theorem Ext.trans (a : Ext w H w1 H1) (b : Ext w1 H1 w2 H2) : Ext w H w2 H2 where
  le := a.le.trans b.le
  fr := fun x o h n => b.fr x o (a.fr x o h n) fun m => by
    rcases a.na x m with q | q
    · exact n q
    · rw [h] at q; cases q
  kp := fun x h => a.kp x (b.kp x h)
  nw := fun x h e => b.nw x (fun z => h (a.kp x z)) (a.nw x h e)
  na := fun x m => by
    rcases b.na x m with q | q
    · exact a.na x q
    · exact .inr (a.kp x q)
def Sub (w : Wd) (H : Hp) : Prop := ∀ a o, w.Hf a = some o → H a = some o
def CellOk (K : PySem.W.Frag) (w : Wd) (H : Hp) (a : Addr) : Cell → Prop
  | .lst ds => ∃ xs, H a = some (.lst xs) ∧ Reps K w xs ds
  | .ins C fs => ∃ (dx : Addr) (vs : List (Str × V)), H a = some (.ins C dx vs) ∧ vs.map (·.1) = fs.map (·.1) ∧ Reps K w (vs.map (·.2)) (fs.map (·.2))
structure Good (K : PySem.W.Frag) (w : Wd) (H : Hp) (st : Store) : Prop where
  sub : Sub w H
  len : w.al.length = st.length
  nd : w.al.Nodup
  cell : ∀ (k : Nat) (c : Cell) (a : Addr), st[k]? = some c → w.al[k]? = some a → w.Hf a = none ∧ CellOk K w H a c
theorem CellOk.has {a : Addr} {c : Cell} (h : CellOk K w H a c) : H a ≠ none := by
  cases c with
  | lst ds => obtain ⟨xs, e, _⟩ := h; rw [e]; simp
  | ins C fs => obtain ⟨dx, vs, e, _⟩ := h; rw [e]; simp
theorem CellOk.mono {a : Addr} {c : Cell} (h : CellOk K w H a c) (e : LeW w w') (q : H' a = H a) : CellOk K w' H' a c := by
  cases c with
  | lst ds => obtain ⟨xs, f, r⟩ := h; exact ⟨xs, q.trans f, r.mono e⟩
  | ins C fs => obtain ⟨dx, vs, f, n, r⟩ := h; exact ⟨dx, vs, q.trans f, n, r.mono e⟩
variable {st st' : Store}
theorem Good.alSome (G : Good K w H st) {a : Addr} (h : a ∈ w.al) : w.Hf a = none ∧ H a ≠ none := by
  obtain ⟨k, hk, e⟩ := List.mem_iff_getElem.mp h
  have hk2 : k < st.length := by rw [← G.len]; exact hk
  have q := G.cell k st[k] a (List.getElem?_eq_getElem hk2) (by rw [List.getElem?_eq_getElem hk, e])
  exact ⟨q.1, q.2.has⟩
theorem Good.notAl (G : Good K w H st) {a : Addr} (h : H a = none) : a ∉ w.al := fun m => (G.alSome m).2 h
theorem Good.free (G : Good K w H st) {a : Addr} (h : H a = none) : w.Hf a = none := by
  cases q : w.Hf a with
  | none => rfl
  | some o => rw [G.sub a o q] at h; cases h

/-- a fresh object laid down for good -/
def Wd.lay (w : Wd) (a : Addr) (o : HO) : Wd := ⟨upd w.Hf a o, w.al⟩
theorem LeW.lay {a : Addr} {o : HO} (h : w.Hf a = none) : LeW w (w.lay a o) :=
  ⟨fun b u e => by
    show upd w.Hf a o b = some u
    rw [upd_ne (ne_of_none e h)]
    exact e, [], by simp [Wd.lay]⟩
theorem Good.lay (G : Good K w H st) {a : Addr} {o : HO} (h : H a = none) : Good K (w.lay a o) (upd H a o) st where
  sub := fun b u e => by
    have e : upd w.Hf a o b = some u := e
    by_cases z : b = a
    · subst z
      rw [upd_same] at e ⊢
      exact e
    · rw [upd_ne z] at e ⊢
      exact G.sub b u e
  len := G.len
  nd := G.nd
  cell := fun k c b hc hb => by
    have hb : w.al[k]? = some b := hb
    obtain ⟨q1, q2⟩ := G.cell k c b hc hb
    have z : b ≠ a := fun z => q2.has (by rw [z]; exact h)
    refine ⟨?_, q2.mono (LeW.lay (G.free h)) (upd_ne z)⟩
    show upd w.Hf a o b = none
    rw [upd_ne z]
    exact q1
theorem Ext.lay (G : Good K w H st) {a : Addr} {o : HO} (h : H a = none) : Ext w H (w.lay a o) (upd H a o) where
  le := LeW.lay (G.free h)
  fr := fun b u e _ => by rw [upd_ne (ne_of_none e h)]; exact e
  kp := fun b e => by
    by_cases z : b = a
    · subst z; exact h
    · rw [upd_ne z] at e; exact e
  nw := fun b e q => by
    have z : b ≠ a := fun z => e (by rw [z]; exact h)
    show upd w.Hf a o b = none
    rw [upd_ne z]
    exact q
  na := fun b e => .inl e
/-- a fresh object that is not laid down: someone's own -/
theorem Good.new (G : Good K w H st) {a : Addr} {o : HO} (h : H a = none) : Good K w (upd H a o) st where
  sub := fun b u e => by
    have z : b ≠ a := fun z => by rw [z, G.free h] at e; cases e
    rw [upd_ne z]
    exact G.sub b u e
  len := G.len
  nd := G.nd
  cell := fun k c b hc hb => by
    obtain ⟨q1, q2⟩ := G.cell k c b hc hb
    have z : b ≠ a := fun z => q2.has (by rw [z]; exact h)
    exact ⟨q1, q2.mono (LeW.refl w) (upd_ne z)⟩
theorem Ext.new {a : Addr} {o : HO} (h : H a = none) : Ext w H w (upd H a o) where
  le := LeW.refl w
  fr := fun b u e _ => by rw [upd_ne (ne_of_none e h)]; exact e
  kp := fun b e => by
    by_cases z : b = a
    · subst z; exact h
    · rw [upd_ne z] at e; exact e
  nw := fun b e q => q
  na := fun b e => .inl e
/-- what is there already is laid down for good -/
theorem Good.frz (G : Good K w H st) {a : Addr} {o : HO} (h : w.Hf a = none) (n : a ∉ w.al) (e : H a = some o) : Good K (w.lay a o) H st where
  sub := fun b u q => by
    have q : upd w.Hf a o b = some u := q
    by_cases z : b = a
    · subst z
      rw [upd_same] at q
      rw [e]; exact q
    · rw [upd_ne z] at q
      exact G.sub b u q
  len := G.len
  nd := G.nd
  cell := fun k c b hc hb => by
    have hb : w.al[k]? = some b := hb
    obtain ⟨q1, q2⟩ := G.cell k c b hc hb
    have z : b ≠ a := fun z => n (by rw [← z]; exact List.mem_of_getElem? hb)
    refine ⟨?_, q2.mono (LeW.lay h) rfl⟩
    show upd w.Hf a o b = none
    rw [upd_ne z]
    exact q1
theorem Ext.frz {w0 : Wd} {H0 : Hp} (E : Ext w0 H0 w H) {a : Addr} {o : HO} (h : w.Hf a = none) (n : H0 a = none) : Ext w0 H0 (w.lay a o) H where
  le := E.le.trans (LeW.lay h)
  fr := E.fr
  kp := E.kp
  nw := fun b e q => by
    have z : b ≠ a := fun z => e (by rw [z]; exact n)
    show upd w.Hf a o b = none
    rw [upd_ne z]
    exact E.nw b e q
  na := E.na
end
end MP

set_option Elab.async false
set_option linter.all false
set_option maxRecDepth 100000
set_option autoImplicit false
namespace MP
open PySem L2

/-! ### slots -/
def SlotR (K : PySem.W.Frag) (w : Wd) (H : Hp) : Option V → Slot → Prop
  | _, .emp => True
  | some v, .d x => Rep K w v x
  | some (.ref a), .own ds => w.Hf a = none ∧ a ∉ w.al ∧ ∃ xs, H a = some (.lst xs) ∧ Reps K w xs ds
  | _, _ => False
structure EnvR (K : PySem.W.Frag) (σ : L2.St) (H : Hp) (w : Wd) (ρ : Env) : Prop where
  len : σ.length = ρ.length
  at_ : ∀ (i : Nat) (s : Slot), ρ[i]? = some s → ∃ o, σ[i]? = some o ∧ SlotR K w H o s
  ap : ∀ (i j : Nat) (ds es : List D) (a : Addr), i ≠ j → ρ[i]? = some (.own ds) → ρ[j]? = some (.own es) → σ[i]? = some (some (.ref a)) → σ[j]? = some (some (.ref a)) → False
section
variable {K : PySem.W.Frag} {w w' w1 w2 w0 : Wd} {H H' H1 H2 H0 : Hp} {σ σ' : L2.St} {ρ ρ' : Env} {st st' : Store}
theorem SlotR.ext {o : Option V} {s : Slot} (h : SlotR K w H o s) (e : Ext w H w' H') : SlotR K w' H' o s := by
  cases s with
  | emp => cases o <;> trivial
  | d x => cases o with
    | none => exact h.elim
    | some v => exact Rep.mono e.le h
  | own ds => cases o with
    | none => exact h.elim
    | some v => cases v with
      | ref a =>
        obtain ⟨h1, h2, xs, h3, h4⟩ := h
        refine ⟨e.nw a (by rw [h3]; simp) h1, fun m => ?_, xs, e.fr a _ h3 h2, h4.mono e.le⟩
        rcases e.na a m with q | q
        · exact h2 q
        · rw [h3] at q; cases q
      | _ => exact h.elim
theorem EnvR.ext (h : EnvR K σ H w ρ) (e : Ext w H w' H') : EnvR K σ H' w' ρ :=
  ⟨h.len, fun i s q => let ⟨o, a, b⟩ := h.at_ i s q; ⟨o, a, b.ext e⟩, h.ap⟩
theorem EnvR.val (h : EnvR K σ H w ρ) {i : Nat} {x : D} (e : ρ[i]? = some (.d x)) : ∃ v, σ[i]? = some (some v) ∧ Rep K w v x := by
  obtain ⟨o, a, b⟩ := h.at_ i _ e
  cases o with
  | none => exact b.elim
  | some v => exact ⟨v, a, b⟩
theorem EnvR.own (h : EnvR K σ H w ρ) {i : Nat} {ds : List D} (e : ρ[i]? = some (.own ds)) : ∃ a xs, σ[i]? = some (some (.ref a)) ∧ w.Hf a = none ∧ a ∉ w.al ∧ H a = some (.lst xs) ∧ Reps K w xs ds := by
  obtain ⟨o, a, b⟩ := h.at_ i _ e
  cases o with
  | none => exact b.elim
  | some v => cases v with
    | ref p => obtain ⟨b1, b2, xs, b3, b4⟩ := b; exact ⟨p, xs, a, b1, b2, b3, b4⟩
    | _ => exact b.elim
/-- slots of σ', ρ' whose own lists are those of σ, ρ -/
def OwnSub (σ : L2.St) (ρ : Env) (σ' : L2.St) (ρ' : Env) : Prop := ∀ (i : Nat) (ds : List D), ρ'[i]? = some (.own ds) → ρ[i]? = some (.own ds) ∧ σ'[i]? = σ[i]?
theorem OwnSub.refl : OwnSub σ ρ σ ρ := fun _ _ h => ⟨h, rfl⟩
theorem EnvR.setD (h : EnvR K σ H w ρ) {i : Nat} {v : V} {x : D} (r : Rep K w v x) : EnvR K (σ.set i (some v)) H w (ρ.set i (.d x)) ∧ OwnSub σ ρ (σ.set i (some v)) (ρ.set i (.d x)) := by
  have key : ∀ (j : Nat) (s : Slot), (ρ.set i (.d x))[j]? = some s → (j = i ∧ s = .d x ∧ j < σ.length) ∨ (j ≠ i ∧ ρ[j]? = some s) := fun j s e => by
    by_cases z : i = j
    · subst z
      by_cases hl : i < ρ.length
      · rw [List.getElem?_set_self hl] at e
        exact .inl ⟨rfl, (Option.some.inj e).symm, by rw [h.len]; exact hl⟩
      · rw [List.getElem?_eq_none (by rw [List.length_set]; omega)] at e
        cases e
    · rw [List.getElem?_set_ne z] at e
      exact .inr ⟨fun q => z q.symm, e⟩
  have os : OwnSub σ ρ (σ.set i (some v)) (ρ.set i (.d x)) := fun j ds e => by
    rcases key j _ e with ⟨_, q, _⟩ | ⟨z, q⟩
    · cases q
    · exact ⟨q, List.getElem?_set_ne (fun y => z y.symm)⟩
  refine ⟨⟨by simp [h.len], fun j s e => ?_, fun j k ds es a n e1 e2 f1 f2 => ?_⟩, os⟩
  · rcases key j s e with ⟨rfl, rfl, hl⟩ | ⟨z, q⟩
    · exact ⟨some v, List.getElem?_set_self hl, r⟩
    · obtain ⟨o, a, b⟩ := h.at_ j s q
      exact ⟨o, by rw [List.getElem?_set_ne (fun y => z y.symm)]; exact a, b⟩
  · obtain ⟨g1, k1⟩ := os j ds e1
    obtain ⟨g2, k2⟩ := os k es e2
    exact h.ap j k ds es a n g1 g2 (k1.symm.trans f1) (k2.symm.trans f2)
theorem EnvR.weak (h : EnvR K σ H w ρ) (hl : σ'.length = ρ'.length) (hk : ∀ (i : Nat) (s : Slot), ρ'[i]? = some s → s = .emp ∧ (∃ o, σ'[i]? = some o) ∨ ρ[i]? = some s ∧ σ'[i]? = σ[i]?) : EnvR K σ' H w ρ' ∧ OwnSub σ ρ σ' ρ' := by
  have os : OwnSub σ ρ σ' ρ' := fun j ds e => by
    rcases hk j _ e with ⟨q, _⟩ | q
    · cases q
    · exact q
  refine ⟨⟨hl, fun j s e => ?_, fun j k ds es a n e1 e2 f1 f2 => ?_⟩, os⟩
  · rcases hk j s e with ⟨rfl, o, q⟩ | ⟨q, q2⟩
    · exact ⟨o, q, by cases o <;> trivial⟩
    · rw [q2]
      exact h.at_ j s q
  · obtain ⟨g1, k1⟩ := os j ds e1
    obtain ⟨g2, k2⟩ := os k es e2
    exact h.ap j k ds es a n g1 g2 (k1.symm.trans f1) (k2.symm.trans f2)
end

/-! ### expressions -/
def SoundE (K : PySem.W.Frag) (te : TE) (ev : Env → Store → Option (D × Store)) : Prop := ∀ σ H w ρ st, EnvR K σ H w ρ → Good K w H st → ∀ d st', ev ρ st = some (d, st') →
  ∀ Q : VK, (∀ v H' w', Ext w H w' H' → Good K w' H' st' → Rep K w' v d → Q v H') → te σ H Q
def SoundA (K : PySem.W.Frag) (ta : TA) (ev : Env → Store → Option (List D × Store)) : Prop := ∀ σ H w ρ st, EnvR K σ H w ρ → Good K w H st → ∀ d st', ev ρ st = some (d, st') →
  ∀ Q : List V → Hp → Prop, (∀ v H' w', Ext w H w' H' → Good K w' H' st' → Reps K w' v d → Q v H') → ta σ H Q
def SoundT (K : PySem.W.Frag) (tt : TT) (ev : Env → Store → Option (Bool × Store)) : Prop := ∀ σ H w ρ st, EnvR K σ H w ρ → Good K w H st → ∀ b st', ev ρ st = some (b, st') →
  ∀ Q : Bool → Hp → Prop, (∀ H' w', Ext w H w' H' → Good K w' H' st' → Q b H') → tt σ H Q
/-- a new list that is nobody's yet -/
def SoundF (K : PySem.W.Frag) (te : TE) (ev : Env → Store → Option (List D × Store)) : Prop := ∀ σ H w ρ st, EnvR K σ H w ρ → Good K w H st → ∀ ds st', ev ρ st = some (ds, st') →
  ∀ Q : VK, (∀ a xs H' w', Ext w H w' H' → Good K w' H' st' → H a = none → w'.Hf a = none → a ∉ w'.al → H' a = some (.lst xs) → Reps K w' xs ds → Q (.ref a) H') → te σ H Q
structure Ex (K : PySem.W.Frag) where
  den : TE
  ev : Env → Store → Option (D × Store)
  ok : SoundE K den ev
structure Ar (K : PySem.W.Frag) where
  den : TA
  ev : Env → Store → Option (List D × Store)
  ok : SoundA K den ev
structure Tx (K : PySem.W.Frag) where
  den : TT
  ev : Env → Store → Option (Bool × Store)
  ok : SoundT K den ev
structure Fx (K : PySem.W.Frag) where
  den : TE
  ev : Env → Store → Option (List D × Store)
  ok : SoundF K den ev
/-- an operation on values -/
structure Pr (K : PySem.W.Frag) where
  r : List V → Hp → VK → Prop
  f : List D → Store → Option (D × Store)
  ok : ∀ w H st vs ds d st', Good K w H st → Reps K w vs ds → f ds st = some (d, st') → ∀ Q : VK, (∀ v H' w', Ext w H w' H' → Good K w' H' st' → Rep K w' v d → Q v H') → r vs H Q
/-- one that gives a new list -/
structure Pf (K : PySem.W.Frag) where
  r : List V → Hp → VK → Prop
  f : List D → Store → Option (List D × Store)
  ok : ∀ w H st vs ds es st', Good K w H st → Reps K w vs ds → f ds st = some (es, st') → ∀ Q : VK,
    (∀ a xs H' w', Ext w H w' H' → Good K w' H' st' → H a = none → w'.Hf a = none → a ∉ w'.al → H' a = some (.lst xs) → Reps K w' xs es → Q (.ref a) H') → r vs H Q

section
variable {K : PySem.W.Frag}
def evVar (i : Nat) (ρ : Env) (st : Store) : Option (D × Store) := match ρ[i]? with
  | some (.d x) => some (x, st)
  | _ => none
def Ex.var (i : Nat) : Ex K := ⟨tVar i, evVar i, fun σ H w ρ st E G d st' h Q q => by
  unfold evVar at h
  split at h
  · rename_i x e
    cases h
    obtain ⟨v, a, b⟩ := E.val e
    exact ⟨v, a, q v H w (Ext.refl _ _) G b⟩
  · cases h⟩
def Ex.cst (v : V) (d : D) (h : ∀ w, Rep K w v d) : Ex K := ⟨tC v, fun _ st => some (d, st), fun σ H w ρ st E G d' st' e Q q => by
  cases e
  exact q v H w (Ext.refl _ _) G (h w)⟩
def Ex.int (i : Int) : Ex K := .cst (.int i) (.int i) fun _ => .int
def Ex.str (x : Str) : Ex K := .cst (.str x) (.str x) fun _ => .str
def Ex.bl (b : Bool) : Ex K := .cst (.bl b) (.bl b) fun _ => .bl
def Ex.non : Ex K := .cst .non .non fun _ => .non
def Ex.ty (n : String) : Ex K := .cst (.ty n) (.ty n) fun _ => .ty
def Ar.nil : Ar K := ⟨tNil, fun _ st => some ([], st), fun σ H w ρ st E G d st' e Q q => by
  cases e
  exact q [] H w (Ext.refl _ _) G .nil⟩
def Ar.cons (a : Ex K) (r : Ar K) : Ar K := ⟨tCons a.den r.den, fun ρ st => (a.ev ρ st).bind fun p => (r.ev ρ p.2).bind fun q => some (p.1 :: q.1, q.2), fun σ H w ρ st E G d st' e Q q => by
  obtain ⟨⟨x, s1⟩, e1, e⟩ := Option.bind_eq_some_iff.mp e
  obtain ⟨⟨xs, s2⟩, e2, e⟩ := Option.bind_eq_some_iff.mp e
  cases e
  exact a.ok σ H w ρ st E G _ _ e1 _ fun v H1 w1 E1 G1 r1 => r.ok σ H1 w1 ρ s1 (E.ext E1) G1 _ _ e2 _ fun vs H2 w2 E2 G2 r2 => q _ H2 w2 (E1.trans E2) G2 (.cons (r1.mono E2.le) r2)⟩
def Ar.l1 (a : Ex K) : Ar K := .cons a .nil
def Ar.l2 (a b : Ex K) : Ar K := .cons a (.cons b .nil)
def Ar.l3 (a b c : Ex K) : Ar K := .cons a (.cons b (.cons c .nil))
def Ex.app (p : Pr K) (a : Ar K) : Ex K := ⟨fun σ H Q => a.den σ H fun vs H1 => p.r vs H1 Q, fun ρ st => (a.ev ρ st).bind fun q => p.f q.1 q.2, fun σ H w ρ st E G d st' e Q q => by
  obtain ⟨⟨xs, s1⟩, e1, e⟩ := Option.bind_eq_some_iff.mp e
  exact a.ok σ H w ρ st E G _ _ e1 _ fun vs H1 w1 E1 G1 r1 => p.ok w1 H1 s1 vs xs d st' G1 r1 e Q fun v H2 w2 E2 G2 r2 => q v H2 w2 (E1.trans E2) G2 r2⟩
def Fx.app (p : Pf K) (a : Ar K) : Fx K := ⟨fun σ H Q => a.den σ H fun vs H1 => p.r vs H1 Q, fun ρ st => (a.ev ρ st).bind fun q => p.f q.1 q.2, fun σ H w ρ st E G d st' e Q q => by
  obtain ⟨⟨xs, s1⟩, e1, e⟩ := Option.bind_eq_some_iff.mp e
  exact a.ok σ H w ρ st E G _ _ e1 _ fun vs H1 w1 E1 G1 r1 => p.ok w1 H1 s1 vs xs d st' G1 r1 e Q fun v xs H2 w2 E2 G2 h1 h2 h3 h4 r2 => q v xs H2 w2 (E1.trans E2) G2 (E1.kp _ h1) h2 h3 h4 r2⟩
/-- a new list laid down -/
def Ex.ofF (f : Fx K) : Ex K := ⟨f.den, fun ρ st => (f.ev ρ st).bind fun p => some (.lst p.1, p.2), fun σ H w ρ st E G d st' e Q q => by
  obtain ⟨⟨xs, s1⟩, e1, e⟩ := Option.bind_eq_some_iff.mp e
  cases e
  exact f.ok σ H w ρ st E G _ _ e1 _ fun a ys H1 w1 E1 G1 h1 h2 h3 h4 r1 => q (.ref a) H1 (w1.lay a (.lst ys)) (E1.frz h2 h1) (G1.frz h2 h3 h4) (.lst (.inl (.inl upd_same)) (r1.mono (LeW.lay h2)))⟩
def Ex.tup (a : Ar K) : Ex K := ⟨tTup a.den, fun ρ st => (a.ev ρ st).bind fun p => if p.1.length ≤ 100000 then some (.tup p.1, p.2) else none, fun σ H w ρ st E G d st' e Q q => by
  obtain ⟨⟨xs, s1⟩, e1, e⟩ := Option.bind_eq_some_iff.mp e
  split at e
  · rename_i hl
    cases e
    refine a.ok σ H w ρ st E G _ _ e1 _ fun vs H1 w1 E1 G1 r1 => ⟨by rw [r1.length]; exact Nat.le_trans hl (by decide), fun p hp => ?_⟩
    exact q (.ref p) _ _ (E1.trans (Ext.lay G1 hp)) (G1.lay hp) (.tup (.inl (.inl upd_same)) (r1.mono (LeW.lay (G1.free hp))))
  · cases e⟩
def Fx.lst (a : Ar K) : Fx K := ⟨tLst a.den, fun ρ st => (a.ev ρ st).bind fun p => if p.1.length ≤ 100000 then some p else none, fun σ H w ρ st E G d st' e Q q => by
  obtain ⟨⟨xs, s1⟩, e1, e⟩ := Option.bind_eq_some_iff.mp e
  split at e
  · rename_i hl
    cases e
    refine a.ok σ H w ρ st E G _ _ e1 _ fun vs H1 w1 E1 G1 r1 => ⟨by rw [r1.length]; exact Nat.le_trans hl (by decide), fun p hp => ?_⟩
    exact q p vs _ w1 (E1.trans (Ext.new hp)) (G1.new hp) (E1.kp _ hp) (G1.free hp) (G1.notAl hp) upd_same r1
  · cases e⟩
/-! tests -/
def Tx.val (a : Ex K) : Tx K := ⟨tB a.den, fun ρ st => (a.ev ρ st).bind fun p => match p.1 with | .bl b => some (b, p.2) | _ => none, fun σ H w ρ st E G b st' e Q q => by
  obtain ⟨⟨x, s1⟩, e1, e⟩ := Option.bind_eq_some_iff.mp e
  cases x with
  | bl c =>
    cases e
    exact a.ok σ H w ρ st E G _ _ e1 _ fun v H1 w1 E1 G1 r1 => by
      cases r1
      exact ⟨_, rfl, q H1 w1 E1 G1⟩
  | _ => cases e⟩
def Tx.and (a b : Tx K) : Tx K := ⟨tAnd a.den b.den, fun ρ st => (a.ev ρ st).bind fun p => if p.1 then b.ev ρ p.2 else some (false, p.2), fun σ H w ρ st E G d st' e Q q => by
  obtain ⟨⟨x, s1⟩, e1, e⟩ := Option.bind_eq_some_iff.mp e
  refine a.ok σ H w ρ st E G _ _ e1 _ fun H1 w1 E1 G1 => ?_
  cases x with
  | true => exact iteT (b.ok σ H1 w1 ρ s1 (E.ext E1) G1 _ _ e _ fun H2 w2 E2 G2 => q H2 w2 (E1.trans E2) G2)
  | false =>
    cases e
    exact iteF (q H1 w1 E1 G1)⟩
def Tx.or (a b : Tx K) : Tx K := ⟨tOr a.den b.den, fun ρ st => (a.ev ρ st).bind fun p => if p.1 then some (true, p.2) else b.ev ρ p.2, fun σ H w ρ st E G d st' e Q q => by
  obtain ⟨⟨x, s1⟩, e1, e⟩ := Option.bind_eq_some_iff.mp e
  refine a.ok σ H w ρ st E G _ _ e1 _ fun H1 w1 E1 G1 => ?_
  cases x with
  | false => exact iteF (b.ok σ H1 w1 ρ s1 (E.ext E1) G1 _ _ e _ fun H2 w2 E2 G2 => q H2 w2 (E1.trans E2) G2)
  | true =>
    cases e
    exact iteT (q H1 w1 E1 G1)⟩
def Tx.not (a : Tx K) : Tx K := ⟨tNot a.den, fun ρ st => (a.ev ρ st).bind fun p => some (!p.1, p.2), fun σ H w ρ st E G d st' e Q q => by
  obtain ⟨⟨x, s1⟩, e1, e⟩ := Option.bind_eq_some_iff.mp e
  cases e
  exact a.ok σ H w ρ st E G _ _ e1 _ fun H1 w1 E1 G1 => q H1 w1 E1 G1⟩
/-! and, or, not as values -/
def Ex.andV (a b : Ex K) : Ex K := ⟨tAndV a.den b.den, fun ρ st => (a.ev ρ st).bind fun p => match p.1 with | .bl true => b.ev ρ p.2 | .bl false => some (.bl false, p.2) | _ => none, fun σ H w ρ st E G d st' e Q q => by
  obtain ⟨⟨x, s1⟩, e1, e⟩ := Option.bind_eq_some_iff.mp e
  cases x with
  | bl c =>
    refine a.ok σ H w ρ st E G _ _ e1 _ fun v H1 w1 E1 G1 r1 => ?_
    cases r1
    refine ⟨c, rfl, ?_⟩
    cases c with
    | true => exact iteT (b.ok σ H1 w1 ρ s1 (E.ext E1) G1 _ _ e _ fun v H2 w2 E2 G2 r2 => q v H2 w2 (E1.trans E2) G2 r2)
    | false =>
      cases e
      exact iteF (q _ H1 w1 E1 G1 .bl)
  | _ => cases e⟩
def Ex.orV (a b : Ex K) : Ex K := ⟨tOrV a.den b.den, fun ρ st => (a.ev ρ st).bind fun p => match p.1 with | .bl true => some (.bl true, p.2) | .bl false => b.ev ρ p.2 | _ => none, fun σ H w ρ st E G d st' e Q q => by
  obtain ⟨⟨x, s1⟩, e1, e⟩ := Option.bind_eq_some_iff.mp e
  cases x with
  | bl c =>
    refine a.ok σ H w ρ st E G _ _ e1 _ fun v H1 w1 E1 G1 r1 => ?_
    cases r1
    refine ⟨c, rfl, ?_⟩
    cases c with
    | false => exact iteF (b.ok σ H1 w1 ρ s1 (E.ext E1) G1 _ _ e _ fun v H2 w2 E2 G2 r2 => q v H2 w2 (E1.trans E2) G2 r2)
    | true =>
      cases e
      exact iteT (q _ H1 w1 E1 G1 .bl)
  | _ => cases e⟩
def Ex.notV (a : Ex K) : Ex K := ⟨tNotV a.den, fun ρ st => (a.ev ρ st).bind fun p => match p.1 with | .bl b => some (.bl (!b), p.2) | _ => none, fun σ H w ρ st E G d st' e Q q => by
  obtain ⟨⟨x, s1⟩, e1, e⟩ := Option.bind_eq_some_iff.mp e
  cases x with
  | bl c =>
    cases e
    refine a.ok σ H w ρ st E G _ _ e1 _ fun v H1 w1 E1 G1 r1 => ?_
    cases r1
    exact ⟨c, rfl, q _ H1 w1 E1 G1 .bl⟩
  | _ => cases e⟩
def Ex.ite (t : Tx K) (a b : Ex K) : Ex K := ⟨tIf t.den a.den b.den, fun ρ st => (t.ev ρ st).bind fun p => if p.1 then a.ev ρ p.2 else b.ev ρ p.2, fun σ H w ρ st E G d st' e Q q => by
  obtain ⟨⟨x, s1⟩, e1, e⟩ := Option.bind_eq_some_iff.mp e
  refine t.ok σ H w ρ st E G _ _ e1 _ fun H1 w1 E1 G1 => ?_
  cases x with
  | true => exact iteT (a.ok σ H1 w1 ρ s1 (E.ext E1) G1 _ _ e _ fun v H2 w2 E2 G2 r2 => q v H2 w2 (E1.trans E2) G2 r2)
  | false => exact iteF (b.ok σ H1 w1 ρ s1 (E.ext E1) G1 _ _ e _ fun v H2 w2 E2 G2 r2 => q v H2 w2 (E1.trans E2) G2 r2)⟩
end
end MP

set_option Elab.async false
set_option linter.all false
set_option maxRecDepth 100000
set_option autoImplicit false
namespace MP
open PySem L2

/-! ### targets -/
structure Tg (K : PySem.W.Frag) where
  g : TG
  bind : D → Env → Option Env
  vars : List Nat
  ok : ∀ σ H w ρ st v x ρ', EnvR K σ H w ρ → Good K w H st → Rep K w v x → bind x ρ = some ρ' → ∀ Q : L2.St → Hp → Prop,
    (∀ σ', EnvR K σ' H w ρ' → OwnSub σ ρ σ' ρ' → σ'.length = σ.length → (∀ i : Nat, i ∉ vars → σ'[i]? = σ[i]?) → Q σ' H) → g v σ H Q
structure Tgs (K : PySem.W.Frag) where
  g : TGs
  bind : List D → Env → Option Env
  vars : List Nat
  ok : ∀ σ H w ρ st vs xs ρ', EnvR K σ H w ρ → Good K w H st → Reps K w vs xs → bind xs ρ = some ρ' → ∀ Q : L2.St → Hp → Prop,
    (∀ σ', EnvR K σ' H w ρ' → OwnSub σ ρ σ' ρ' → σ'.length = σ.length → (∀ i : Nat, i ∉ vars → σ'[i]? = σ[i]?) → Q σ' H) → g vs σ H Q
section
variable {K : PySem.W.Frag}
theorem OwnSub.trans {σ σ' σ2 : L2.St} {ρ ρ' ρ2 : Env} (a : OwnSub σ ρ σ' ρ') (b : OwnSub σ' ρ' σ2 ρ2) : OwnSub σ ρ σ2 ρ2 := fun i ds h => by
  obtain ⟨h1, h2⟩ := b i ds h
  obtain ⟨h3, h4⟩ := a i ds h1
  exact ⟨h3, h2.trans h4⟩
def Tg.name (i : Nat) : Tg K := ⟨gName i, fun x ρ => some (ρ.set i (.d x)), [i], fun σ H w ρ st v x ρ' E G r e Q q => by
  cases e
  obtain ⟨a, b⟩ := E.setD (i := i) r
  exact q _ a b (by simp) fun j hj => List.getElem?_set_ne (fun z => hj (by simp [z]))⟩
def Tgs.nil : Tgs K := ⟨gNil, fun xs ρ => match xs with | [] => some ρ | _ => none, [], fun σ H w ρ st vs xs ρ' E G r e Q q => by
  cases r with
  | nil =>
    cases e
    exact ⟨rfl, q σ E OwnSub.refl rfl fun _ _ => rfl⟩
  | cons => cases e⟩
def Tgs.cons (t : Tg K) (u : Tgs K) : Tgs K := ⟨gCons t.g u.g, fun xs ρ => match xs with | x :: xs => (t.bind x ρ).bind fun ρ1 => u.bind xs ρ1 | [] => none, t.vars ++ u.vars, fun σ H w ρ st vs xs ρ' E G r e Q q => by
  cases r with
  | nil => cases e
  | cons r rr =>
    obtain ⟨ρ1, e1, e⟩ := Option.bind_eq_some_iff.mp e
    refine ⟨_, _, rfl, t.ok σ H w ρ st _ _ ρ1 E G r e1 _ fun σ1 E1 o1 l1 k1 => u.ok σ1 H w ρ1 st _ _ ρ' E1 G rr e _ fun σ2 E2 o2 l2 k2 => q σ2 E2 (o1.trans o2) (l2.trans l1) fun i hi => ?_⟩
    rw [List.mem_append] at hi
    exact (k2 i fun z => hi (.inr z)).trans (k1 i fun z => hi (.inl z))⟩
def Tg.tup (n : Nat) (u : Tgs K) : Tg K := ⟨gTup K n u.g, fun x ρ => match x with | .tup ds => if ds.length = n then u.bind ds ρ else none | _ => none, u.vars, fun σ H w ρ st v x ρ' E G r e Q q => by
  cases x with
  | tup ds =>
    have e : (if ds.length = n then u.bind ds ρ else none) = some ρ' := e
    split at e
    · rename_i hn
      cases r with
      | tup h rr => exact ⟨_, _, rfl, sqT_mono G.sub h, by rw [rr.length, hn], u.ok σ H w ρ st _ _ ρ' E G rr e Q q⟩
    · cases e
  | _ => cases e⟩

/-! ### what is walked -/
def Yields (K : PySem.W.Frag) (J : It) (w : Wd) (ds : List D) : Prop := ∀ w1 H1 st1 (i : Nat), LeW w w1 → Good K w1 H1 st1 →
  (∀ d, ds[i]? = some d → J.go i H1 ∧ ∀ x H2, J.yld i H1 x H2 → ∃ w2, Ext w1 H1 w2 H2 ∧ Good K w2 H2 st1 ∧ Rep K w2 x d) ∧ (ds.length ≤ i → J.stop i H1)
structure Itb (K : PySem.W.Frag) where
  wi : TI
  ev : Env → Store → Option (List D × Store)
  ok : ∀ σ H w ρ st, EnvR K σ H w ρ → Good K w H st → ∀ ds st', ev ρ st = some (ds, st') → ∀ R : It → Hp → Prop,
    (∀ J H' w', Ext w H w' H' → Good K w' H' st' → Yields K J w' ds → R J H') → wi σ H R
theorem sqL_inj {w : Wd} {a : Addr} {xs ys : List V} {H : Hp} (h : SqL K w.Hf a xs) : True := trivial
def Itb.lst (e : Ex K) : Itb K := ⟨iList K e.den, fun ρ st => (e.ev ρ st).bind fun p => match p.1 with | .lst ds => some (ds, p.2) | _ => none, fun σ H w ρ st E G ds st' h R q => by
  obtain ⟨⟨x, s1⟩, e1, h⟩ := Option.bind_eq_some_iff.mp h
  cases x with
  | lst es =>
    cases h
    refine e.ok σ H w ρ st E G _ _ e1 _ fun v H1 w1 E1 G1 r => ?_
    cases r with
    | lst hs rr =>
      refine ⟨_, rfl, ⟨_, sqL_mono G1.sub hs⟩, q _ H1 w1 E1 G1 fun w2 H2 st2 i le G2 => ⟨fun d hd => ?_, fun hi => ?_⟩⟩
      · obtain ⟨x, hx, rx⟩ := rr.get hd
        have hq := sqL_mono G2.sub (sqL_mono le.hf hs)
        exact ⟨⟨_, x, hq, hx⟩, fun y H3 hy => by
          obtain ⟨rfl, hy⟩ := hy
          have z : y = x := Option.some.inj ((hy _ hq).symm.trans hx)
          subst z
          exact ⟨w2, Ext.refl _ _, G2, rx.mono le⟩⟩
      · exact ⟨_, sqL_mono G2.sub (sqL_mono le.hf hs), by rw [rr.length]; exact hi⟩
  | _ => cases h⟩
def Itb.tup (e : Ex K) : Itb K := ⟨iTup K e.den, fun ρ st => (e.ev ρ st).bind fun p => match p.1 with | .tup ds => some (ds, p.2) | _ => none, fun σ H w ρ st E G ds st' h R q => by
  obtain ⟨⟨x, s1⟩, e1, h⟩ := Option.bind_eq_some_iff.mp h
  cases x with
  | tup es =>
    cases h
    refine e.ok σ H w ρ st E G _ _ e1 _ fun v H1 w1 E1 G1 r => ?_
    cases r with
    | tup hs rr =>
      refine ⟨_, rfl, ⟨_, sqT_mono G1.sub hs⟩, q _ H1 w1 E1 G1 fun w2 H2 st2 i le G2 => ⟨fun d hd => ?_, fun hi => ?_⟩⟩
      · obtain ⟨x, hx, rx⟩ := rr.get hd
        have hq := sqT_mono G2.sub (sqT_mono le.hf hs)
        exact ⟨⟨_, x, hq, hx⟩, fun y H3 hy => by
          obtain ⟨rfl, hy⟩ := hy
          have z : y = x := Option.some.inj ((hy _ hq).symm.trans hx)
          subst z
          exact ⟨w2, Ext.refl _ _, G2, rx.mono le⟩⟩
      · exact ⟨_, sqT_mono G2.sub (sqT_mono le.hf hs), by rw [rr.length]; exact hi⟩
  | _ => cases h⟩
def rngD (lo : Int) (n : Nat) : List D := (List.range n).map fun (i : Nat) => .int (lo + (i : Int))
def Itb.range1 (e : Ex K) : Itb K := ⟨iRng1 (Ar.l1 e).den, fun ρ st => (e.ev ρ st).bind fun p => match p.1 with | .int j => if -(2 ^ 62) ≤ j ∧ j < 2 ^ 62 then some (rngD 0 j.toNat, p.2) else none | _ => none, fun σ H w ρ st E G ds st' h R q => by
  obtain ⟨⟨x, s1⟩, e1, h⟩ := Option.bind_eq_some_iff.mp h
  cases x with
  | int j =>
    have h : (if -(2 ^ 62) ≤ j ∧ j < 2 ^ 62 then some (rngD 0 j.toNat, s1) else none) = some (ds, st') := h
    split at h
    · rename_i hj
      cases h
      refine e.ok σ H w ρ st E G _ _ e1 _ fun v H1 w1 E1 G1 r => ?_
      cases r
      refine ⟨j, rfl, hj.1, hj.2, q _ H1 w1 E1 G1 fun w2 H2 st2 i le G2 => ⟨fun d hd => ?_, fun hi => ?_⟩⟩
      · have hi : i < j.toNat := by
          have := (List.getElem?_eq_some_iff.mp hd).1
          simpa [rngD] using this
        refine ⟨hi, fun y H3 hy => ?_⟩
        obtain ⟨rfl, rfl⟩ := hy
        have ed : d = .int (0 + (i : Int)) := by
          simp [rngD, hi] at hd
          rw [← hd]
          simp
        subst ed
        exact ⟨w2, Ext.refl _ _, G2, .int⟩
      · simpa [Itr, rngD] using hi
    · cases h
  | _ => cases h⟩
def Itb.zipT (a b : Ex K) : Itb K := ⟨RZ.iZipA K (Ar.l2 a b).den, fun ρ st => ((Ar.l2 a b).ev ρ st).bind fun p => match p.1 with | [.tup xs, .tup ys] => some (List.zipWith (fun x y => .tup [x, y]) xs ys, p.2) | [.lst xs, .lst ys] => some (List.zipWith (fun x y => .tup [x, y]) xs ys, p.2) | _ => none, fun σ H w ρ st E G ds st' h R q => by
  obtain ⟨⟨x, s1⟩, e1, h⟩ := Option.bind_eq_some_iff.mp h
  simp only at h
  refine (Ar.l2 a b).ok σ H w ρ st E G _ _ e1 _ fun v H1 w1 E1 G1 r => ?_
  split at h
  · rename_i xs ys
    cases h
    cases r with
    | cons r1 r =>
      cases r with
      | cons r2 r =>
        cases r
        cases r1 with
        | tup h1 rr1 =>
          cases r2 with
          | tup h2 rr2 =>
            refine ⟨_, _, _, _, rfl, .inr ⟨sqT_mono G1.sub h1, sqT_mono G1.sub h2, q _ H1 w1 E1 G1 fun w2 H2 st2 i le G2 => ⟨fun d hd => ?_, fun hi => ?_⟩⟩⟩
            · have hl := (List.getElem?_eq_some_iff.mp hd).1
              rw [List.length_zipWith] at hl
              have g1 : xs[i]? = some xs[i] := List.getElem?_eq_getElem (by omega)
              have g2 : ys[i]? = some ys[i] := List.getElem?_eq_getElem (by omega)
              obtain ⟨x, hx, rx⟩ := rr1.get g1
              obtain ⟨y, hy, ry⟩ := rr2.get g2
              have q1 := sqT_mono G2.sub (sqT_mono le.hf h1)
              have q2 := sqT_mono G2.sub (sqT_mono le.hf h2)
              refine ⟨⟨_, _, x, y, q1, q2, hx, hy⟩, fun z H3 hz => ?_⟩
              obtain ⟨T, x', y', rfl, nT, rfl, f1, f2⟩ := hz
              have ex : x' = x := Option.some.inj ((f1 _ q1).symm.trans hx)
              have ey : y' = y := Option.some.inj ((f2 _ q2).symm.trans hy)
              subst ex ey
              have ed : d = .tup [xs[i], ys[i]] := by
                rw [List.getElem?_zipWith, g1, g2] at hd
                exact (Option.some.inj hd).symm
              subst ed
              exact ⟨_, Ext.lay G2 nT, G2.lay nT, .tup (.inl (.inl upd_same)) (.cons ((rx.mono le).mono (LeW.lay (G2.free nT))) (.cons ((ry.mono le).mono (LeW.lay (G2.free nT))) .nil))⟩
            · rw [List.length_zipWith] at hi
              refine ⟨_, _, sqT_mono G2.sub (sqT_mono le.hf h1), sqT_mono G2.sub (sqT_mono le.hf h2), ?_⟩
              rw [rr1.length, rr2.length]
              omega
  · rename_i xs ys
    cases h
    cases r with
    | cons r1 r =>
      cases r with
      | cons r2 r =>
        cases r
        cases r1 with
        | lst h1 rr1 =>
          cases r2 with
          | lst h2 rr2 =>
            refine ⟨_, _, _, _, rfl, .inl ⟨sqL_mono G1.sub h1, sqL_mono G1.sub h2, q _ H1 w1 E1 G1 fun w2 H2 st2 i le G2 => ⟨fun d hd => ?_, fun hi => ?_⟩⟩⟩
            · have hl := (List.getElem?_eq_some_iff.mp hd).1
              rw [List.length_zipWith] at hl
              have g1 : xs[i]? = some xs[i] := List.getElem?_eq_getElem (by omega)
              have g2 : ys[i]? = some ys[i] := List.getElem?_eq_getElem (by omega)
              obtain ⟨x, hx, rx⟩ := rr1.get g1
              obtain ⟨y, hy, ry⟩ := rr2.get g2
              have q1 := sqL_mono G2.sub (sqL_mono le.hf h1)
              have q2 := sqL_mono G2.sub (sqL_mono le.hf h2)
              refine ⟨⟨_, _, x, y, q1, q2, hx, hy⟩, fun z H3 hz => ?_⟩
              obtain ⟨T, x', y', rfl, nT, rfl, f1, f2⟩ := hz
              have ex : x' = x := Option.some.inj ((f1 _ q1).symm.trans hx)
              have ey : y' = y := Option.some.inj ((f2 _ q2).symm.trans hy)
              subst ex ey
              have ed : d = .tup [xs[i], ys[i]] := by
                rw [List.getElem?_zipWith, g1, g2] at hd
                exact (Option.some.inj hd).symm
              subst ed
              exact ⟨_, Ext.lay G2 nT, G2.lay nT, .tup (.inl (.inl upd_same)) (.cons ((rx.mono le).mono (LeW.lay (G2.free nT))) (.cons ((ry.mono le).mono (LeW.lay (G2.free nT))) .nil))⟩
            · rw [List.length_zipWith] at hi
              refine ⟨_, _, sqL_mono G2.sub (sqL_mono le.hf h1), sqL_mono G2.sub (sqL_mono le.hf h2), ?_⟩
              rw [rr1.length, rr2.length]
              omega
  · cases h⟩
end

/-! ### statements -/
inductive Out where
  | nx (ρ : Env) (st : Store) | brk (ρ : Env) (st : Store) | cont (ρ : Env) (st : Store) | ret (d : D) (st : Store)
structure Fr (K : PySem.W.Frag) (w0 : Wd) (H0 : Hp) (σ : L2.St) (H : Hp) (w : Wd) (ρ : Env) (st : Store) : Prop where
  ext : Ext w0 H0 w H
  env : EnvR K σ H w ρ
  good : Good K w H st
  fresh : ∀ (i : Nat) (ds : List D) (a : Addr), ρ[i]? = some (.own ds) → σ[i]? = some (some (.ref a)) → H0 a = none
def Fin (K : PySem.W.Frag) (w0 : Wd) (H0 : Hp) (w : Wd) (D : Ends) : Out → Prop
  | .nx ρ st => ∀ σ H w', LeW w w' → Fr K w0 H0 σ H w' ρ st → D.nx σ H
  | .brk ρ st => ∀ σ H w', LeW w w' → Fr K w0 H0 σ H w' ρ st → D.bk σ H
  | .cont ρ st => ∀ σ H w', LeW w w' → Fr K w0 H0 σ H w' ρ st → D.ct σ H
  | .ret d st => ∀ v H w', Ext w0 H0 w' H → Good K w' H st → Rep K w' v d → D.rt v H
def SoundS (K : PySem.W.Frag) (ts : TS) (run : Env → Store → Option Out) : Prop := ∀ w0 H0 σ H w ρ st, Fr K w0 H0 σ H w ρ st → ∀ out, run ρ st = some out → ∀ D : Ends, Fin K w0 H0 w D out → ts D σ H
structure Sx (K : PySem.W.Frag) where
  den : TS
  run : Env → Store → Option Out
  ok : SoundS K den run
section
variable {K : PySem.W.Frag} {w w' w1 w2 w0 : Wd} {H H' H1 H2 H0 : Hp} {σ σ' : L2.St} {ρ ρ' : Env} {st st' : Store}
theorem Fr.step (F : Fr K w0 H0 σ H w ρ st) (E : Ext w H w' H') (G : Good K w' H' st') : Fr K w0 H0 σ H' w' ρ st' := ⟨F.ext.trans E, F.env.ext E, G, F.fresh⟩
theorem Fr.sub (F : Fr K w0 H0 σ H w ρ st) (E : EnvR K σ' H w ρ') (o : OwnSub σ ρ σ' ρ') : Fr K w0 H0 σ' H w ρ' st := ⟨F.ext, E, F.good, fun i ds a h1 h2 => by
  obtain ⟨g1, g2⟩ := o i ds h1
  exact F.fresh i ds a g1 (g2.symm.trans h2)⟩
theorem Fin.le {D : Ends} {o : Out} (h : LeW w w') (f : Fin K w0 H0 w D o) : Fin K w0 H0 w' D o := by
  cases o with
  | nx ρ st => exact fun σ H w2 l F => f σ H w2 (h.trans l) F
  | brk ρ st => exact fun σ H w2 l F => f σ H w2 (h.trans l) F
  | cont ρ st => exact fun σ H w2 l F => f σ H w2 (h.trans l) F
  | ret d st => exact f
def Sx.skip : Sx K := ⟨tNext, fun ρ st => some (.nx ρ st), fun w0 H0 σ H w ρ st F out e Z f => by
  cases e
  exact f σ H w (LeW.refl _) F⟩
def seqRun (a b : Env → Store → Option Out) (ρ : Env) (st : Store) : Option Out := (a ρ st).bind fun o => match o with
  | .nx ρ1 st1 => b ρ1 st1
  | o => some o
def Sx.seq (a b : Sx K) : Sx K := ⟨tSeq a.den b.den, seqRun a.run b.run, fun w0 H0 σ H w ρ st F out e Z f => by
  obtain ⟨o, e1, e⟩ := Option.bind_eq_some_iff.mp e
  refine a.ok w0 H0 σ H w ρ st F o e1 _ ?_
  cases o with
  | nx ρ1 st1 => exact fun σ1 H1 w1 l F1 => b.ok w0 H0 σ1 H1 w1 ρ1 st1 F1 out e Z (f.le l)
  | brk ρ1 st1 => cases e; exact f
  | cont ρ1 st1 => cases e; exact f
  | ret d st1 => cases e; exact f⟩
def Sx.asg (e : Ex K) (t : Tg K) : Sx K := ⟨tAsg e.den t.g, fun ρ st => (e.ev ρ st).bind fun p => (t.bind p.1 ρ).bind fun ρ1 => some (.nx ρ1 p.2), fun w0 H0 σ H w ρ st F out h Z f => by
  obtain ⟨⟨x, s1⟩, e1, h⟩ := Option.bind_eq_some_iff.mp h
  obtain ⟨ρ1, e2, h⟩ := Option.bind_eq_some_iff.mp h
  cases h
  exact e.ok σ H w ρ st F.env F.good _ _ e1 _ fun v H1 w1 E1 G1 r => t.ok σ H1 w1 ρ s1 v x ρ1 (F.env.ext E1) G1 r e2 _ fun σ2 E2 o2 _ _ => f σ2 H1 w1 E1.le ((F.step E1 G1).sub E2 o2)⟩
def Sx.set (i : Nat) (e : Ex K) : Sx K := .asg e (.name i)
/-- a name for a new list of one's own -/
def Sx.setF (i : Nat) (e : Fx K) : Sx K := ⟨tAsg e.den (gName i), fun ρ st => (e.ev ρ st).bind fun p => if i < ρ.length then some (.nx (ρ.set i (.own p.1)) p.2) else none, fun w0 H0 σ H w ρ st F out h Z f => by
  obtain ⟨⟨x, s1⟩, e1, h⟩ := Option.bind_eq_some_iff.mp h
  have h : (if i < ρ.length then some (Out.nx (ρ.set i (.own x)) s1) else none) = some out := h
  split at h
  · rename_i hi
    cases h
    refine e.ok σ H w ρ st F.env F.good _ _ e1 _ fun a xs H1 w1 E1 G1 h1 h2 h3 h4 r => f _ H1 w1 E1.le ?_
    have F1 := F.step E1 G1
    have key : ∀ (j : Nat) (s : Slot), (ρ.set i (.own x))[j]? = some s → (j = i ∧ s = .own x) ∨ (j ≠ i ∧ ρ[j]? = some s) := fun j s e => by
      by_cases z : i = j
      · subst z
        rw [List.getElem?_set_self hi] at e
        exact .inl ⟨rfl, (Option.some.inj e).symm⟩
      · rw [List.getElem?_set_ne z] at e
        exact .inr ⟨fun q => z q.symm, e⟩
    have old : ∀ (j : Nat) (ds : List D) (b : Addr), ρ[j]? = some (.own ds) → σ[j]? = some (some (.ref b)) → b ≠ a := fun j ds b q q2 z => by
      obtain ⟨b', ys, g1, g2, g3, g4, g5⟩ := F.env.own q
      rw [g1] at q2
      cases q2
      rw [z, h1] at g4
      cases g4
    have hl : i < σ.length := by rw [F.env.len]; exact hi
    refine ⟨F1.ext, ⟨by simp [F.env.len], fun j s q => ?_, fun j k ds es b n q1 q2 q3 q4 => ?_⟩, G1, fun j ds b q q2 => ?_⟩
    · rcases key j s q with ⟨rfl, rfl⟩ | ⟨z, q⟩
      · exact ⟨_, List.getElem?_set_self hl, h2, h3, xs, h4, r⟩
      · obtain ⟨o, g1, g2⟩ := F1.env.at_ j s q
        exact ⟨o, by rw [List.getElem?_set_ne (fun y => z y.symm)]; exact g1, g2⟩
    · rcases key j _ q1 with ⟨y1, z1⟩ | ⟨y1, p1⟩
      · rcases key k _ q2 with ⟨y2, _⟩ | ⟨y2, p2⟩
        · exact n (y1.trans y2.symm)
        · rw [y1, List.getElem?_set_self hl] at q3
          rw [List.getElem?_set_ne (fun y => y2 y.symm)] at q4
          cases q3
          exact old k es _ p2 q4 rfl
      · rw [List.getElem?_set_ne (fun y => y1 y.symm)] at q3
        rcases key k _ q2 with ⟨y2, _⟩ | ⟨y2, p2⟩
        · rw [y2, List.getElem?_set_self hl] at q4
          cases q4
          exact old j ds _ p1 q3 rfl
        · rw [List.getElem?_set_ne (fun y => y2 y.symm)] at q4
          exact F.env.ap j k ds es b n p1 p2 q3 q4
    · rcases key j _ q with ⟨rfl, _⟩ | ⟨z, q⟩
      · rw [List.getElem?_set_self hl] at q2
        cases q2
        exact F.ext.kp _ h1
      · rw [List.getElem?_set_ne (fun y => z y.symm)] at q2
        exact F.fresh j ds b q q2
  · cases h⟩
def Sx.ret (e : Ex K) : Sx K := ⟨tRet e.den, fun ρ st => (e.ev ρ st).bind fun p => some (.ret p.1 p.2), fun w0 H0 σ H w ρ st F out h Z f => by
  obtain ⟨⟨x, s1⟩, e1, h⟩ := Option.bind_eq_some_iff.mp h
  cases h
  exact e.ok σ H w ρ st F.env F.good _ _ e1 _ fun v H1 w1 E1 G1 r => f v H1 w1 (F.ext.trans E1) G1 r⟩
def Sx.retN : Sx K := ⟨tRetN, fun ρ st => some (.ret .non st), fun w0 H0 σ H w ρ st F out h Z f => by
  cases h
  exact f _ H w F.ext F.good .non⟩
def Sx.drop (e : Ex K) : Sx K := ⟨tDrop e.den, fun ρ st => (e.ev ρ st).bind fun p => some (.nx ρ p.2), fun w0 H0 σ H w ρ st F out h Z f => by
  obtain ⟨⟨x, s1⟩, e1, h⟩ := Option.bind_eq_some_iff.mp h
  cases h
  exact e.ok σ H w ρ st F.env F.good _ _ e1 _ fun v H1 w1 E1 G1 r => f σ H1 w1 E1.le (F.step E1 G1)⟩
def Sx.ite (t : Tx K) (a b : Sx K) : Sx K := ⟨tIfS t.den a.den b.den, fun ρ st => (t.ev ρ st).bind fun p => if p.1 then a.run ρ p.2 else b.run ρ p.2, fun w0 H0 σ H w ρ st F out h Z f => by
  obtain ⟨⟨x, s1⟩, e1, h⟩ := Option.bind_eq_some_iff.mp h
  refine t.ok σ H w ρ st F.env F.good _ _ e1 _ fun H1 w1 E1 G1 => ?_
  cases x with
  | true => exact iteT (a.ok w0 H0 σ H1 w1 ρ s1 (F.step E1 G1) out h Z (f.le E1.le))
  | false => exact iteF (b.ok w0 H0 σ H1 w1 ρ s1 (F.step E1 G1) out h Z (f.le E1.le))⟩
def Sx.never : Sx K := ⟨tNever, fun _ _ => none, fun _ _ _ _ _ _ _ _ _ h => nomatch h⟩
def Sx.brk : Sx K := ⟨tBreak, fun ρ st => some (.brk ρ st), fun w0 H0 σ H w ρ st F out e Z f => by
  cases e
  exact f σ H w (LeW.refl _) F⟩
def Sx.cont : Sx K := ⟨tCont, fun ρ st => some (.cont ρ st), fun w0 H0 σ H w ρ st F out e Z f => by
  cases e
  exact f σ H w (LeW.refl _) F⟩
def Sx.par (i j : Nat) (a b : Ex K) : Sx K := ⟨tPar i j (Ar.l2 a b).den, fun ρ st => (a.ev ρ st).bind fun p => (b.ev ρ p.2).bind fun q => some (.nx ((ρ.set i (.d p.1)).set j (.d q.1)) q.2), fun w0 H0 σ H w ρ st F out h Z f => by
  obtain ⟨⟨x, s1⟩, e1, h⟩ := Option.bind_eq_some_iff.mp h
  obtain ⟨⟨y, s2⟩, e2, h⟩ := Option.bind_eq_some_iff.mp h
  cases h
  refine a.ok σ H w ρ st F.env F.good _ _ e1 _ fun v H1 w1 E1 G1 r1 => b.ok σ H1 w1 ρ s1 (F.env.ext E1) G1 _ _ e2 _ fun u H2 w2 E2 G2 r2 => ⟨v, u, rfl, ?_⟩
  have F2 := (F.step E1 G1).step E2 G2
  obtain ⟨g1, o1⟩ := F2.env.setD (i := i) (r1.mono E2.le)
  obtain ⟨g2, o2⟩ := g1.setD (i := j) r2
  exact f _ H2 w2 (E1.trans E2).le (F2.sub g2 (o1.trans o2))⟩
/-- a list of one's own is laid down for good, ahead of a statement -/
def frzE (i : Nat) (ρ : Env) : Env := match ρ[i]? with
  | some (.own ds) => ρ.set i (.d (.lst ds))
  | _ => ρ
theorem Fr.frz (F : Fr K w0 H0 σ H w ρ st) (i : Nat) : ∃ w', LeW w w' ∧ Fr K w0 H0 σ H w' (frzE i ρ) st := by
  unfold frzE
  split
  · rename_i ds e
    obtain ⟨a, xs, g1, g2, g3, g4, g5⟩ := F.env.own e
    have hf := F.fresh i ds a e g1
    have le := LeW.lay (o := .lst xs) g2
    have key : ∀ (j : Nat) (s : Slot), (ρ.set i (.d (.lst ds)))[j]? = some s → (j = i ∧ s = .d (.lst ds)) ∨ (j ≠ i ∧ ρ[j]? = some s) := fun j s e' => by
      by_cases z : i = j
      · subst z
        rw [List.getElem?_set_self (List.getElem?_eq_some_iff.mp e).1] at e'
        exact .inl ⟨rfl, (Option.some.inj e').symm⟩
      · rw [List.getElem?_set_ne z] at e'
        exact .inr ⟨fun q => z q.symm, e'⟩
    have own' : ∀ (j : Nat) (es : List D), (ρ.set i (.d (.lst ds)))[j]? = some (.own es) → j ≠ i ∧ ρ[j]? = some (.own es) := fun j es q => by
      rcases key j _ q with ⟨_, z⟩ | z
      · cases z
      · exact z
    refine ⟨w.lay a (.lst xs), le, F.ext.frz g2 hf, ⟨by simp [F.env.len], fun j s q => ?_, fun j k es fs b n q1 q2 q3 q4 => ?_⟩, F.good.frz g2 g3 g4, fun j es b q q2 => F.fresh j es b (own' j es q).2 q2⟩
    · rcases key j s q with ⟨rfl, rfl⟩ | ⟨z, q⟩
      · exact ⟨_, g1, .lst (.inl (.inl upd_same)) (g5.mono le)⟩
      · obtain ⟨o, h1, h2⟩ := F.env.at_ j s q
        refine ⟨o, h1, ?_⟩
        cases s with
        | emp => cases o <;> trivial
        | d x => cases o with
          | none => exact h2.elim
          | some v => exact Rep.mono le h2
        | own es => cases o with
          | none => exact h2.elim
          | some v => cases v with
            | ref b =>
              obtain ⟨k1, k2, ys, k3, k4⟩ := h2
              refine ⟨?_, k2, ys, k3, k4.mono le⟩
              have nb : b ≠ a := fun z' => F.env.ap j i es ds a z q e (by rw [h1, z']) g1
              show upd w.Hf a (.lst xs) b = none
              rw [upd_ne nb]
              exact k1
            | _ => exact h2.elim
    · exact F.env.ap j k es fs b n (own' j es q1).2 (own' k fs q2).2 q3 q4
  · exact ⟨w, LeW.refl w, F⟩
def Sx.frz (i : Nat) (s : Sx K) : Sx K := ⟨s.den, fun ρ st => s.run (frzE i ρ) st, fun w0 H0 σ H w ρ st F out h Z f => by
  obtain ⟨w', l, F'⟩ := F.frz i
  exact s.ok w0 H0 σ H w' _ st F' out h Z (f.le l)⟩
/-- found.append(e) -/
def appE (i : Nat) (x : D) (ρ : Env) : Option Env := match ρ[i]? with
  | some (.own ds) => if ds.length < 100000 then some (ρ.set i (.own (ds ++ [x]))) else none
  | _ => none
theorem Fr.setOwn (F : Fr K w0 H0 σ H w ρ st) {i : Nat} {ds es : List D} {a : Addr} {xs ys : List V} (e : ρ[i]? = some (.own ds)) (g1 : σ[i]? = some (some (.ref a))) (g2 : w.Hf a = none) (g3 : a ∉ w.al) (g4 : H a = some (.lst xs)) (r : Reps K w ys es) :
    Fr K w0 H0 σ (upd H a (.lst ys)) w (ρ.set i (.own es)) st := by
  have hf := F.fresh i ds a e g1
  have key : ∀ (j : Nat) (s : Slot), (ρ.set i (.own es))[j]? = some s → (j = i ∧ s = .own es) ∨ (j ≠ i ∧ ρ[j]? = some s) := fun j s e' => by
    by_cases z : i = j
    · subst z
      rw [List.getElem?_set_self (List.getElem?_eq_some_iff.mp e).1] at e'
      exact .inl ⟨rfl, (Option.some.inj e').symm⟩
    · rw [List.getElem?_set_ne z] at e'
      exact .inr ⟨fun q => z q.symm, e'⟩
  have own' : ∀ (j : Nat) (fs : List D), (ρ.set i (.own es))[j]? = some (.own fs) → ∃ fs', ρ[j]? = some (.own fs') := fun j fs q => by
    rcases key j _ q with ⟨rfl, z⟩ | ⟨_, z⟩
    · exact ⟨ds, e⟩
    · exact ⟨fs, z⟩
  refine ⟨⟨F.ext.le, fun b o q n => ?_, fun b q => ?_, F.ext.nw, F.ext.na⟩, ⟨by simp [F.env.len], fun j s q => ?_, fun j k fs gs b n q1 q2 q3 q4 => ?_⟩, ⟨fun b o q => ?_, F.good.len, F.good.nd, fun k c b q1 q2 => ?_⟩, fun j fs b q q2 => ?_⟩
  · have z : b ≠ a := fun z => by rw [z, hf] at q; cases q
    rw [upd_ne z]
    exact F.ext.fr b o q n
  · by_cases z : b = a
    · rw [z, upd_same] at q; cases q
    · rw [upd_ne z] at q
      exact F.ext.kp b q
  · rcases key j s q with ⟨rfl, rfl⟩ | ⟨z, q⟩
    · exact ⟨_, g1, g2, g3, ys, upd_same, r⟩
    · obtain ⟨o, h1, h2⟩ := F.env.at_ j s q
      refine ⟨o, h1, ?_⟩
      cases s with
      | emp => cases o <;> trivial
      | d x => cases o with
        | none => exact h2.elim
        | some v => exact h2
      | own fs => cases o with
        | none => exact h2.elim
        | some v => cases v with
          | ref b =>
            obtain ⟨k1, k2, zs, k3, k4⟩ := h2
            have nb : b ≠ a := fun z' => F.env.ap j i fs ds a z q e (by rw [h1, z']) g1
            exact ⟨k1, k2, zs, by rw [upd_ne nb]; exact k3, k4⟩
          | _ => exact h2.elim
  · obtain ⟨fs', q1⟩ := own' j fs q1
    obtain ⟨gs', q2⟩ := own' k gs q2
    exact F.env.ap j k fs' gs' b n q1 q2 q3 q4
  · have z : b ≠ a := fun z => by rw [z, g2] at q; cases q
    rw [upd_ne z]
    exact F.good.sub b o q
  · obtain ⟨k1, k2⟩ := F.good.cell k c b q1 q2
    have z : b ≠ a := fun z => g3 (by rw [← z]; exact List.mem_of_getElem? q2)
    exact ⟨k1, k2.mono (LeW.refl w) (upd_ne z)⟩
  · obtain ⟨fs', q⟩ := own' j fs q
    exact F.fresh j fs' b q q2
def Sx.app (i : Nat) (e : Ex K) : Sx K := ⟨tDrop (tBM K "list" rAppend (tVar i) (tCons e.den tNil)), fun ρ st => (e.ev ρ st).bind fun p => (appE i p.1 ρ).bind fun ρ1 => some (.nx ρ1 p.2), fun w0 H0 σ H w ρ st F out h Z f => by
  obtain ⟨⟨x, s1⟩, e1, h⟩ := Option.bind_eq_some_iff.mp h
  obtain ⟨ρ1, e2, h⟩ := Option.bind_eq_some_iff.mp h
  cases h
  unfold appE at e2
  split at e2
  · rename_i ds hi
    split at e2
    · rename_i hz
      cases e2
      obtain ⟨l, xs, g1, g2, g3, g4, g5⟩ := F.env.own hi
      refine ⟨.ref l, g1, .inl ⟨rfl, xs, .inl (.inl g4)⟩, e.ok σ H w ρ st F.env F.good _ _ e1 _ fun v H1 w1 E1 G1 r => ?_⟩
      have F1 := F.step E1 G1
      obtain ⟨l', ys, k1, k2, k3, k4, k5⟩ := F1.env.own hi
      rw [g1] at k1
      cases k1
      refine ⟨l, ys, v, rfl, rfl, k4, by rw [k5.length]; exact Nat.lt_of_lt_of_le hz (by decide), f σ _ w1 E1.le (F1.setOwn hi g1 k2 k3 k4 (k5.append (.one r)))⟩
    · cases e2
  · cases e2⟩
/-! loops -/
def forRun (bind : D → Env → Option Env) (body : Env → Store → Option Out) : List D → Env → Store → Option Out
  | [], ρ, st => some (.nx ρ st)
  | x :: xs, ρ, st => (bind x ρ).bind fun ρ1 => (body ρ1 st).bind fun o => match o with
    | .nx ρ2 st2 => forRun bind body xs ρ2 st2
    | .cont ρ2 st2 => forRun bind body xs ρ2 st2
    | .brk ρ2 st2 => some (.nx ρ2 st2)
    | .ret d st2 => some (.ret d st2)
def Sx.for (it : Itb K) (tg : Tg K) (b : Sx K) : Sx K := ⟨tFor it.wi tg.g b.den, fun ρ st => (it.ev ρ st).bind fun p => forRun tg.bind b.run p.1 ρ p.2, fun w0 H0 σ H w ρ st F out h Z f => by
  obtain ⟨⟨ds, s1⟩, e1, h⟩ := Option.bind_eq_some_iff.mp h
  refine it.ok σ H w ρ st F.env F.good _ _ e1 _ fun J H1 w1 E1 G1 Y => ?_
  refine ⟨fun i m σ H => m = ds.length - i ∧ i ≤ ds.length ∧ ∃ ρ st w2, LeW w1 w2 ∧ Fr K w0 H0 σ H w2 ρ st ∧ forRun tg.bind b.run (ds.drop i) ρ st = some out,
    ⟨ds.length, rfl, Nat.zero_le _, ρ, s1, w1, LeW.refl _, F.step E1 G1, h⟩, ?_⟩
  rintro i m σ H ⟨rfl, hi, ρ, st, w2, l2, F2, h⟩
  obtain ⟨Y1, Y2⟩ := Y w2 H st i l2 F2.good
  by_cases hl : i < ds.length
  · have hd : ds[i]? = some ds[i] := List.getElem?_eq_getElem hl
    rw [List.drop_eq_getElem_cons hl] at h
    obtain ⟨go, st4⟩ := Y1 _ hd
    obtain ⟨ρ1, e2, h⟩ := Option.bind_eq_some_iff.mp h
    obtain ⟨o, e3, h⟩ := Option.bind_eq_some_iff.mp h
    refine .inr ⟨go, fun σ' H' => ∃ m', m' < ds.length - i ∧ (m' = ds.length - (i + 1) ∧ i + 1 ≤ ds.length ∧ ∃ ρ st w2, LeW w1 w2 ∧ Fr K w0 H0 σ' H' w2 ρ st ∧ forRun tg.bind b.run (ds.drop (i + 1)) ρ st = some out), fun σ' H' q => q, fun x H3 hx => ?_⟩
    obtain ⟨w3, E3, G3, r3⟩ := st4 x H3 hx
    refine tg.ok σ H3 w3 ρ st x _ ρ1 (F2.env.ext E3) G3 r3 e2 _ fun σ4 E4 o4 _ _ => ?_
    have F4 := (F2.step E3 G3).sub E4 o4
    refine b.ok w0 H0 σ4 H3 w3 ρ1 st F4 o e3 _ ?_
    have le := l2.trans E3.le
    cases o with
    | nx ρ2 st2 => exact fun σ5 H5 w5 l5 F5 => ⟨_, by omega, rfl, hl, ρ2, st2, w5, le.trans l5, F5, h⟩
    | cont ρ2 st2 => exact fun σ5 H5 w5 l5 F5 => ⟨_, by omega, rfl, hl, ρ2, st2, w5, le.trans l5, F5, h⟩
    | brk ρ2 st2 =>
      cases h
      exact fun σ5 H5 w5 l5 F5 => f σ5 H5 w5 (E1.le.trans (le.trans l5)) F5
    | ret d st2 =>
      cases h
      exact f
  · rw [List.drop_eq_nil_of_le (by omega)] at h
    cases h
    exact .inl ⟨Y2 (by omega), f σ H w2 (E1.le.trans l2) F2⟩⟩
def whileRun (c : Env → Store → Option (Bool × Store)) (body : Env → Store → Option Out) : Nat → Env → Store → Option Out
  | 0, _, _ => none
  | n + 1, ρ, st => (c ρ st).bind fun p => if p.1 then (body ρ p.2).bind fun o => match o with
      | .nx ρ2 st2 => whileRun c body n ρ2 st2
      | .cont ρ2 st2 => whileRun c body n ρ2 st2
      | .brk ρ2 st2 => some (.nx ρ2 st2)
      | .ret d st2 => some (.ret d st2)
    else some (.nx ρ p.2)
def Sx.whil (fuel : Env → Nat) (t : Tx K) (b : Sx K) : Sx K := ⟨tWhile t.den b.den, fun ρ st => whileRun t.ev b.run (fuel ρ) ρ st, fun w0 H0 σ H w ρ st F out h Z f => by
  refine ⟨fun m σ H => ∃ ρ st w2, LeW w w2 ∧ Fr K w0 H0 σ H w2 ρ st ∧ whileRun t.ev b.run m ρ st = some out, ⟨fuel ρ, ρ, st, w, LeW.refl _, F, h⟩, ?_⟩
  rintro m σ H ⟨ρ, st, w2, l2, F2, h⟩
  cases m with
  | zero => cases h
  | succ m =>
    obtain ⟨⟨x, s1⟩, e1, h⟩ := Option.bind_eq_some_iff.mp h
    refine t.ok σ H w2 ρ st F2.env F2.good _ _ e1 _ fun H1 w3 E1 G1 => ?_
    have F3 := F2.step E1 G1
    cases x with
    | true =>
      obtain ⟨o, e2, h⟩ := Option.bind_eq_some_iff.mp h
      refine iteT ⟨fun σ' H' => ∃ m', m' < m + 1 ∧ ∃ ρ st w2, LeW w w2 ∧ Fr K w0 H0 σ' H' w2 ρ st ∧ whileRun t.ev b.run m' ρ st = some out, fun σ' H' q => q, b.ok w0 H0 σ H1 w3 ρ s1 F3 o e2 _ ?_⟩
      have le := l2.trans E1.le
      cases o with
      | nx ρ2 st2 => exact fun σ5 H5 w5 l5 F5 => ⟨m, by omega, ρ2, st2, w5, le.trans l5, F5, h⟩
      | cont ρ2 st2 => exact fun σ5 H5 w5 l5 F5 => ⟨m, by omega, ρ2, st2, w5, le.trans l5, F5, h⟩
      | brk ρ2 st2 =>
        cases h
        exact fun σ5 H5 w5 l5 F5 => f σ5 H5 w5 (le.trans l5) F5
      | ret d st2 =>
        cases h
        exact f
    | false =>
      cases h
      exact iteF (f σ H1 w3 (l2.trans E1.le) F3)⟩
end
end MP

set_option Elab.async false
set_option linter.all false
set_option maxRecDepth 100000
set_option autoImplicit false
namespace MP
open PySem L2

section
variable {K : PySem.W.Frag} {w w' w1 w2 w0 : Wd} {H H' H1 H2 H0 : Hp} {σ σ' : L2.St} {ρ ρ' : Env} {st st' : Store}
/-! ### comprehensions -/
def wipeE (ρ : Env) : List Nat → Env
  | [] => ρ
  | v :: vs => (wipeE ρ vs).set v .emp
theorem wipe_get (σ : L2.St) : ∀ (vs : List Nat) (i : Nat), (wipe σ vs)[i]? = if i ∈ vs ∧ i < σ.length then some none else σ[i]?
  | [], i => by simp [wipe]
  | v :: vs, i => by
    unfold wipe
    by_cases h : v = i
    · subst h
      by_cases hl : v < σ.length
      · rw [List.getElem?_set_self (by rw [wipe_length]; exact hl), if_pos ⟨by simp, hl⟩]
      · rw [if_neg (fun z => hl z.2), List.getElem?_eq_none (by rw [List.length_set, wipe_length]; omega), List.getElem?_eq_none (by omega)]
    · rw [List.getElem?_set_ne h, wipe_get σ vs i]
      by_cases m : i ∈ vs ∧ i < σ.length
      · rw [if_pos m, if_pos ⟨List.mem_cons_of_mem _ m.1, m.2⟩]
      · rw [if_neg m, if_neg (fun z => m ⟨by
          rcases List.mem_cons.mp z.1 with q | q
          · exact absurd q.symm h
          · exact q, z.2⟩)]
theorem wipe_eq {σ σ2 : L2.St} {vs : List Nat} (hl : σ2.length = σ.length) (h : ∀ i : Nat, i ∉ vs → σ2[i]? = (wipe σ vs)[i]?) : wipe σ2 vs = wipe σ vs := by
  apply List.ext_getElem?
  intro i
  rw [wipe_get σ2, wipe_get σ]
  by_cases m : i ∈ vs ∧ i < σ.length
  · rw [if_pos m, if_pos ⟨m.1, by rw [hl]; exact m.2⟩]
  · rw [if_neg m, if_neg (fun z => m ⟨z.1, by rw [← hl]; exact z.2⟩)]
    by_cases n : i ∈ vs
    · have : ¬ i < σ.length := fun z => m ⟨n, z⟩
      rw [List.getElem?_eq_none (by omega), List.getElem?_eq_none (by omega)]
    · rw [h i n, wipe_get σ, if_neg (fun z => n z.1)]
theorem EnvR.setEmp (h : EnvR K σ H w ρ) (i : Nat) : EnvR K (σ.set i none) H w (ρ.set i .emp) ∧ OwnSub σ ρ (σ.set i none) (ρ.set i .emp) := by
  refine h.weak (by simp [h.len]) fun j s e => ?_
  by_cases z : i = j
  · subst z
    by_cases hl : i < ρ.length
    · rw [List.getElem?_set_self hl] at e
      exact .inl ⟨(Option.some.inj e).symm, none, List.getElem?_set_self (by rw [h.len]; exact hl)⟩
    · rw [List.getElem?_eq_none (by rw [List.length_set]; omega)] at e
      cases e
  · rw [List.getElem?_set_ne z] at e
    exact .inr ⟨e, List.getElem?_set_ne z⟩
theorem EnvR.wipe (h : EnvR K σ H w ρ) : ∀ vs : List Nat, EnvR K (L2.wipe σ vs) H w (wipeE ρ vs)
  | [] => h
  | v :: vs => ((EnvR.wipe h vs).setEmp v).1
def compGo (bind : D → Env → Option Env) (tt : Env → Store → Option (Bool × Store)) (te : Env → Store → Option (D × Store)) (ρ : Env) : List D → Store → Option (List D × Store)
  | [], st => some ([], st)
  | x :: xs, st => (bind x ρ).bind fun ρ1 => (tt ρ1 st).bind fun p => if p.1 then (te ρ1 p.2).bind fun q => (compGo bind tt te ρ xs q.2).bind fun r => some (q.1 :: r.1, r.2) else compGo bind tt te ρ xs p.2
def Tx.yes : Tx K := ⟨tYes, fun _ st => some (true, st), fun σ H w ρ st E G d st' e Q q => by
  cases e
  exact q H w (Ext.refl _ _) G⟩
def Fx.comp (it : Itb K) (tg : Tg K) (tt : Tx K) (te : Ex K) (vs : List Nat) (hv : ∀ i ∈ tg.vars, i ∈ vs) : Fx K := ⟨tLc it.wi tg.g tt.den te.den vs,
    fun ρ st => (it.ev ρ st).bind fun p => (compGo tg.bind tt.ev te.ev (wipeE ρ vs) p.1 p.2).bind fun r => if r.1.length ≤ 100000 then some r else none, fun σ H w ρ st E G out st' h Q q => by
  obtain ⟨⟨ds, s1⟩, e1, h⟩ := Option.bind_eq_some_iff.mp h
  obtain ⟨⟨rs, s2⟩, e2, h⟩ := Option.bind_eq_some_iff.mp h
  simp only at e2 h
  split at h
  · rename_i hz
    cases h
    refine it.ok σ H w ρ st E G _ _ e1 _ fun J H1 w1 E1 G1 Y D hD => ?_
    refine ⟨fun i m H' => m = ds.length - i ∧ i ≤ ds.length ∧ ∃ st w2 ys acc rest, LeW w1 w2 ∧ Ext w1 H1 w2 H' ∧ Good K w2 H' st ∧ H' D = some (.lst ys) ∧ w2.Hf D = none ∧ D ∉ w2.al ∧ Reps K w2 ys acc ∧ compGo tg.bind tt.ev te.ev (wipeE ρ vs) (ds.drop i) st = some (rest, st') ∧ out = acc ++ rest,
      ⟨ds.length, rfl, Nat.zero_le _, s1, w1, [], [], out, LeW.refl _, Ext.new hD, G1.new hD, upd_same, G1.free hD, G1.notAl hD, .nil, e2, rfl⟩, ?_⟩
    rintro i m H' ⟨rfl, hi, st2, w2, ys, acc, rest, l2, E2, G2, h1, h2, h3, r2, e7, eo⟩
    obtain ⟨Y1, Y2⟩ := Y w2 H' st2 i l2 G2
    by_cases hl : i < ds.length
    · have hd : ds[i]? = some ds[i] := List.getElem?_eq_getElem hl
      rw [List.drop_eq_getElem_cons hl] at e7
      obtain ⟨go, st4⟩ := Y1 _ hd
      obtain ⟨ρ1, e3, e7⟩ := Option.bind_eq_some_iff.mp e7
      obtain ⟨⟨b, s3⟩, e4, e7⟩ := Option.bind_eq_some_iff.mp e7
      simp only at e7
      refine .inr ⟨go, fun H'' => ∃ m', m' < ds.length - i ∧ (m' = ds.length - (i + 1) ∧ i + 1 ≤ ds.length ∧ ∃ st w2 ys acc2 rest2, LeW w1 w2 ∧ Ext w1 H1 w2 H'' ∧ Good K w2 H'' st ∧ H'' D = some (.lst ys) ∧ w2.Hf D = none ∧ D ∉ w2.al ∧ Reps K w2 ys acc2 ∧ compGo tg.bind tt.ev te.ev (wipeE ρ vs) (ds.drop (i + 1)) st = some (rest2, st') ∧ out = acc2 ++ rest2), fun H'' q => q, fun x H3 hx => ?_⟩
      obtain ⟨w3, E3, G3, r3⟩ := st4 x H3 hx
      have env3 : EnvR K (L2.wipe σ vs) H3 w3 (wipeE ρ vs) := ((E.ext (E1.trans E2)).ext E3).wipe vs
      -- the list made so far stays
      have stay : ∀ {wa wb : Wd} {Ha Hb : Hp}, Ext wa Ha wb Hb → Ha D = some (.lst ys) → wa.Hf D = none → D ∉ wa.al → Hb D = some (.lst ys) ∧ wb.Hf D = none ∧ D ∉ wb.al := fun Ee a b c =>
        ⟨Ee.fr D _ a c, Ee.nw D (by rw [a]; simp) b, fun m => by
          rcases Ee.na D m with z | z
          · exact c z
          · rw [a] at z; cases z⟩
      obtain ⟨k1, k2, k3⟩ := stay E3 h1 h2 h3
      refine tg.ok _ H3 w3 _ st2 x _ ρ1 env3 G3 r3 e3 _ fun σ4 E4 o4 l4 v4 => ⟨?_, ?_⟩
      · refine wipe_eq (by rw [l4, wipe_length]) fun i hi => v4 i fun z => hi (hv i z)
      · refine tt.ok σ4 H3 w3 ρ1 st2 E4 G3 _ _ e4 _ fun H5 w5 E5 G5 => ?_
        obtain ⟨k4, k5, k6⟩ := stay E5 k1 k2 k3
        cases b with
        | true =>
          obtain ⟨⟨y, s4⟩, e5, e7⟩ := Option.bind_eq_some_iff.mp e7
          obtain ⟨⟨rs, s5⟩, e6, e7⟩ := Option.bind_eq_some_iff.mp e7
          cases e7
          refine iteT (te.ok σ4 H5 w5 ρ1 s3 (E4.ext E5) G5 _ _ e5 _ fun v H6 w6 E6 G6 r6 => ?_)
          obtain ⟨k7, k8, k9⟩ := stay E6 k4 k5 k6
          have le : LeW w2 w6 := (E3.le.trans E5.le).trans E6.le
          have dn : D ∉ w6.al := k9
          refine ⟨ys, k7, ?_, _, by omega, rfl, hl, s4, w6, ys ++ [v], acc ++ [y], rs, l2.trans le, ?_, ⟨fun b o q => ?_, G6.len, G6.nd, fun k c b q1 q2 => ?_⟩, upd_same, k8, k9, (r2.mono le).append (.one r6), e6, by rw [eo]; simp⟩
          · rw [r2.length]
            have : acc.length + (rs.length + 1) ≤ 100000 := by simpa [eo] using hz
            exact Nat.lt_of_lt_of_le (show acc.length < 100000 by omega) (by decide)
          · have Ea := ((E2.trans E3).trans E5).trans E6
            refine ⟨Ea.le, fun b o q n => ?_, fun b q => ?_, Ea.nw, Ea.na⟩
            · rw [upd_ne (ne_of_none q hD)]
              exact Ea.fr b o q n
            · by_cases z : b = D
              · rw [z]; exact hD
              · rw [upd_ne z] at q
                exact Ea.kp b q
          · have z : b ≠ D := fun z => by rw [z, k8] at q; cases q
            rw [upd_ne z]
            exact G6.sub b o q
          · obtain ⟨c1, c2⟩ := G6.cell k c b q1 q2
            have z : b ≠ D := fun z => k9 (by rw [← z]; exact List.mem_of_getElem? q2)
            exact ⟨c1, c2.mono (LeW.refl _) (upd_ne z)⟩
        | false =>
          refine iteF ⟨_, by omega, rfl, hl, s3, w5, ys, acc, rest, l2.trans (E3.le.trans E5.le), (E2.trans E3).trans E5, G5, k4, k5, k6, r2.mono (E3.le.trans E5.le), e7, eo⟩
    · rw [List.drop_eq_nil_of_le (by omega)] at e7
      cases e7
      refine .inl ⟨Y2 (by omega), ?_⟩
      rw [List.append_nil] at eo
      subst eo
      exact q D ys H' w2 (E1.trans E2) G2 (E1.kp _ hD) h2 h3 h1 r2
  · cases h⟩

/-! ### cells -/
theorem Good.setCell (G : Good K w H st) {k : Nat} {a : Addr} {c : Cell} {o : HO} (hk : k < st.length) (ha : w.al[k]? = some a) (hc : CellOk K w (upd H a o) a c) : Good K w (upd H a o) (st.set k c) where
  sub := fun b u q => by
    have hm := (G.alSome (List.mem_of_getElem? ha)).1
    have z : b ≠ a := fun z => by rw [z, hm] at q; cases q
    rw [upd_ne z]
    exact G.sub b u q
  len := by rw [List.length_set]; exact G.len
  nd := G.nd
  cell := fun j d b q1 q2 => by
    by_cases z : k = j
    · subst z
      rw [ha] at q2
      cases q2
      rw [List.getElem?_set_self hk] at q1
      cases q1
      exact ⟨(G.alSome (List.mem_of_getElem? ha)).1, hc⟩
    · rw [List.getElem?_set_ne z] at q1
      obtain ⟨p1, p2⟩ := G.cell j d b q1 q2
      have nb : b ≠ a := fun y => by
        subst y
        have l1 := (List.getElem?_eq_some_iff.mp ha).1
        have l2 := (List.getElem?_eq_some_iff.mp q2).1
        have e1 := (List.getElem?_eq_some_iff.mp ha).2
        have e2 := (List.getElem?_eq_some_iff.mp q2).2
        exact z ((List.getElem_inj G.nd).mp (e1.trans e2.symm))
      exact ⟨p1, p2.mono (LeW.refl _) (upd_ne nb)⟩
theorem Ext.setCell (G : Good K w H st) {k : Nat} {a : Addr} {o : HO} (ha : w.al[k]? = some a) : Ext w H w (upd H a o) where
  le := LeW.refl w
  fr := fun b u q n => by
    have z : b ≠ a := fun z => n (by rw [z]; exact List.mem_of_getElem? ha)
    rw [upd_ne z]
    exact q
  kp := fun b q => by
    by_cases z : b = a
    · rw [z, upd_same] at q; cases q
    · rw [upd_ne z] at q; exact q
  nw := fun _ _ h => h
  na := fun _ h => .inl h
/-- o[i] = e, o a cell that is a list -/
def setIx (ds : List D) (i : Int) (x : D) : Option (List D) := match ixN ds.length i with
  | some j => some (ds.set j x)
  | none => none
def putIx (o : D) (i : D) (x : D) (st : Store) : Option Store := match o, i with
  | .cel k, .int n => match st[k]? with
    | some (.lst ds) => (setIx ds n x).bind fun es => some (st.set k (.lst es))
    | _ => none
  | _, _ => none
def Sx.putIx (o i e : Ex K) : Sx K := ⟨tAsg e.den (gSub o.den i.den rSetL), fun ρ st => (e.ev ρ st).bind fun p => (o.ev ρ p.2).bind fun q => (i.ev ρ q.2).bind fun r => (MP.putIx q.1 r.1 p.1 r.2).bind fun s => some (.nx ρ s), fun w0 H0 σ H w ρ st F out h Z f => by
  obtain ⟨⟨x, s1⟩, e1, h⟩ := Option.bind_eq_some_iff.mp h
  obtain ⟨⟨y, s2⟩, e2, h⟩ := Option.bind_eq_some_iff.mp h
  obtain ⟨⟨z, s3⟩, e3, h⟩ := Option.bind_eq_some_iff.mp h
  obtain ⟨s4, e4, h⟩ := Option.bind_eq_some_iff.mp h
  cases h
  simp only at e4
  cases y with
  | cel k =>
    cases z with
    | int n =>
      have e4 : (match s3[k]? with | some (.lst ds) => (setIx ds n x).bind fun es => some (s3.set k (.lst es)) | _ => none) = some s4 := e4
      cases hk : s3[k]? with
      | none => rw [hk] at e4; cases e4
      | some c =>
        cases c with
        | ins => rw [hk] at e4; cases e4
        | lst ds =>
          rw [hk] at e4
          obtain ⟨es, e5, e4⟩ := Option.bind_eq_some_iff.mp e4
          cases e4
          unfold setIx at e5
          cases hj : ixN ds.length n with
          | none => rw [hj] at e5; cases e5
          | some j =>
            rw [hj] at e5
            cases e5
            refine e.ok σ H w ρ st F.env F.good _ _ e1 _ fun v H1 w1 E1 G1 r1 => o.ok σ H1 w1 ρ s1 (F.env.ext E1) G1 _ _ e2 _ fun u H2 w2 E2 G2 r2 => i.ok σ H2 w2 ρ s2 ((F.env.ext E1).ext E2) G2 _ _ e3 _ fun t H3 w3 E3 G3 r3 => ?_
            cases r3
            cases r2 with
            | cel ha =>
              have ha := E3.le.get ha
              obtain ⟨c1, ys, c2, c3⟩ := G3.cell k _ _ hk ha
              have F3 := (F.step E1 G1).step E2 G2 |>.step E3 G3
              refine ⟨_, ys, n, j, rfl, rfl, c2, by rw [c3.length]; exact hj, f σ _ w3 ((E1.trans E2).trans E3).le (F3.step (Ext.setCell G3 ha) (G3.setCell (List.getElem?_eq_some_iff.mp hk).1 ha ⟨_, upd_same, c3.set (r1.mono (E2.le.trans E3.le)) j⟩))⟩
    | _ => cases e4
  | _ => cases e4⟩
/-- a new list becomes a cell -/
theorem Good.alloc (G : Good K w H st) {a : Addr} {xs : List V} {ds : List D} (h2 : w.Hf a = none) (h3 : a ∉ w.al) (h4 : H a = some (.lst xs)) (r : Reps K w xs ds) : Good K ⟨w.Hf, w.al ++ [a]⟩ H (st ++ [.lst ds]) where
  sub := G.sub
  len := by simp [G.len]
  nd := by
    show (w.al ++ [a]).Nodup
    rw [List.nodup_append]
    exact ⟨G.nd, by simp, fun x hx y hy z => h3 (by simp at hy; rw [← hy, ← z]; exact hx)⟩
  cell := fun k c b q1 q2 => by
    have le : LeW w ⟨w.Hf, w.al ++ [a]⟩ := ⟨fun _ _ h => h, [a], rfl⟩
    have q2 : (w.al ++ [a])[k]? = some b := q2
    by_cases hk : k < st.length
    · rw [List.getElem?_append_left hk] at q1
      rw [List.getElem?_append_left (by rw [G.len]; exact hk)] at q2
      obtain ⟨p1, p2⟩ := G.cell k c b q1 q2
      exact ⟨p1, p2.mono le rfl⟩
    · rw [List.getElem?_append_right (by omega)] at q1
      rw [List.getElem?_append_right (by rw [G.len]; omega), G.len] at q2
      have z : k - st.length = 0 := by
        have := (List.getElem?_eq_some_iff.mp q1).1
        simp at this
        omega
      rw [z] at q1 q2
      cases q1
      cases q2
      exact ⟨h2, xs, h4, r.mono le⟩
def Ex.alloc (f : Fx K) : Ex K := ⟨f.den, fun ρ st => (f.ev ρ st).bind fun p => some (.cel p.2.length, p.2 ++ [.lst p.1]), fun σ H w ρ st E G d st' e Q q => by
  obtain ⟨⟨xs, s1⟩, e1, e⟩ := Option.bind_eq_some_iff.mp e
  cases e
  refine f.ok σ H w ρ st E G _ _ e1 _ fun a ys H1 w1 E1 G1 h1 h2 h3 h4 r1 => q (.ref a) H1 ⟨w1.Hf, w1.al ++ [a]⟩ ⟨⟨E1.le.hf, ?_⟩, E1.fr, E1.kp, E1.nw, fun b m => ?_⟩ (G1.alloc h2 h3 h4 r1) (.cel ?_)
  · obtain ⟨r, e⟩ := E1.le.al
    exact ⟨r ++ [a], by rw [e, List.append_assoc]⟩
  · rcases List.mem_append.mp m with m | m
    · exact E1.na b m
    · simp at m
      rw [m]
      exact .inr h1
  · show (w1.al ++ [a])[s1.length]? = some a
    rw [List.getElem?_append_right (by rw [G1.len]; exact Nat.le_refl _), G1.len, Nat.sub_self]
    rfl⟩

/-! ### defs -/
def EffSp (K : PySem.W.Frag) (f : List D → Store → Option (D × Store)) : Sp := fun vs H Q _ => ∃ w st ds d st', Good K w H st ∧ Reps K w vs ds ∧ f ds st = some (d, st') ∧ ∀ v H' w', Ext w H w' H' → Good K w' H' st' → Rep K w' v d → Q v H'
/-- what a def with np parameters and n slots gives -/
def fnRun (n np : Nat) (run : Env → Store → Option Out) (ds : List D) (st : Store) : Option (D × Store) :=
  if ds.length = np then (run (ds.map .d ++ List.replicate (n - np) .emp) st).bind fun o => match o with
    | .ret d s => some (d, s)
    | .nx _ s => some (.non, s)
    | _ => none
  else none
theorem EffSp.len {n np : Nat} {run : Env → Store → Option Out} {vs : List V} {Q : VK} {E : XK} (h : EffSp K (fnRun n np run) vs H Q E) : vs.length = np := by
  obtain ⟨w, st, ds, d, st', G, r, e, q⟩ := h
  unfold fnRun at e
  split at e
  · rename_i hl
    rw [r.length, hl]
  · cases e
theorem EnvR.start {N : List Str} {vs : List V} {ds : List D} (r : Reps K w vs ds) : EnvR K (start N vs) H w (ds.map .d ++ List.replicate (N.length - ds.length) .emp) where
  len := by simp [L2.start, r.length]
  at_ := fun i s e => by
    unfold L2.start
    by_cases hi : i < ds.length
    · rw [List.getElem?_append_left (by simpa using hi)] at e
      rw [List.getElem?_map, List.getElem?_eq_getElem hi] at e
      obtain ⟨v, h1, h2⟩ := r.get (List.getElem?_eq_getElem hi)
      cases e
      exact ⟨some v, by rw [List.getElem?_append_left (by simpa [r.length] using hi), List.getElem?_map, h1]; rfl, h2⟩
    · rw [List.getElem?_append_right (by simpa using hi)] at e
      rw [List.getElem?_replicate] at e
      split at e
      · rename_i hl
        cases e
        refine ⟨none, ?_, trivial⟩
        rw [List.getElem?_append_right (by simp [r.length]; omega), List.getElem?_replicate, if_pos (by simpa [r.length] using hl)]
      · cases e
  ap := fun i j es fs a n e1 => by
    exfalso
    by_cases hi : i < ds.length
    · rw [List.getElem?_append_left (by simpa using hi), List.getElem?_map, List.getElem?_eq_getElem hi] at e1
      cases e1
    · rw [List.getElem?_append_right (by simpa using hi), List.getElem?_replicate] at e1
      split at e1
      · cases e1
      · cases e1
/-- the reading of a def's body from what it gives -/
theorem Sx.fn (s : Sx K) {N : List Str} {n np : Nat} (hN : N.length = n) {vs : List V} {Q : VK} {E : XK} (h : EffSp K (fnRun n np s.run) vs H Q E) : s.den { nx := fun _ H' => Q .non H', rt := Q } (L2.start N vs) H := by
  obtain ⟨w, st, ds, d, st', G, r, e, q⟩ := h
  unfold fnRun at e
  split at e
  · rename_i hl
    obtain ⟨o, e1, e⟩ := Option.bind_eq_some_iff.mp e
    subst hl
    subst hN
    refine s.ok w H _ H w _ st ⟨Ext.refl _ _, EnvR.start r, G, fun i es a e1 => ?_⟩ o e1 _ ?_
    · exfalso
      by_cases hi : i < ds.length
      · rw [List.getElem?_append_left (by simpa using hi), List.getElem?_map, List.getElem?_eq_getElem hi] at e1
        cases e1
      · rw [List.getElem?_append_right (by simpa using hi), List.getElem?_replicate] at e1
        split at e1
        · cases e1
        · cases e1
    · cases o with
      | ret d s => cases e; exact fun v H' w' E' G' r' => q v H' w' E' G' r'
      | nx ρ s =>
        cases e
        exact fun σ' H' w' l F' => q _ H' w' F'.ext F'.good .non
      | brk => cases e
      | cont => cases e
  · cases e
/-- a call of a def -/
def Pr.call (f : List D → Store → Option (D × Store)) (dvs : List V) (dds : List D) (hd : ∀ w, Reps K w dvs dds) (E : XK) : Pr K := ⟨fun vs H Q => EffSp K f (vs ++ dvs) H Q E, fun ds st => f (ds ++ dds) st,
  fun w H st vs ds d st' G r e Q q => ⟨w, st, _, d, st', G, r.append (hd w), e, q⟩⟩
end
end MP

set_option Elab.async false
set_option linter.all false
set_option maxRecDepth 100000
set_option autoImplicit false
namespace MP
open PySem L2

/-! ### operations on values -/
/-- r gives z at once, the heap as it is -/
structure P1 (K : PySem.W.Frag) where
  r : V → Hp → VK → Prop
  f : D → Store → Option D
  ok : ∀ w H st x d z, Good K w H st → Rep K w x d → f d st = some z → ∀ Q : VK, (∀ v, Rep K w v z → Q v H) → r x H Q
structure P2 (K : PySem.W.Frag) where
  r : R2
  f : D → D → Store → Option D
  ok : ∀ w H st x y d e z, Good K w H st → Rep K w x d → Rep K w y e → f d e st = some z → ∀ Q : VK, (∀ v, Rep K w v z → Q v H) → r x y H Q
structure Pn (K : PySem.W.Frag) where
  r : List V → Hp → VK → Prop
  f : List D → Store → Option D
  ok : ∀ w H st xs ds z, Good K w H st → Reps K w xs ds → f ds st = some z → ∀ Q : VK, (∀ v, Rep K w v z → Q v H) → r xs H Q
section
variable {K : PySem.W.Frag}
def Ex.op1 (o : P1 K) (a : Ex K) : Ex K := ⟨tUn o.r a.den, fun ρ st => (a.ev ρ st).bind fun p => (o.f p.1 p.2).bind fun z => some (z, p.2), fun σ H w ρ st E G d st' h Q q => by
  obtain ⟨⟨x, s1⟩, e1, h⟩ := Option.bind_eq_some_iff.mp h
  obtain ⟨z, e2, h⟩ := Option.bind_eq_some_iff.mp h
  cases h
  exact a.ok σ H w ρ st E G _ _ e1 _ fun v H1 w1 E1 G1 r1 => o.ok w1 H1 s1 v x _ G1 r1 e2 Q fun u r => q u H1 w1 E1 G1 r⟩
def Ex.op2 (o : P2 K) (a b : Ex K) : Ex K := ⟨tOp o.r a.den b.den, fun ρ st => (a.ev ρ st).bind fun p => (b.ev ρ p.2).bind fun q => (o.f p.1 q.1 q.2).bind fun z => some (z, q.2), fun σ H w ρ st E G d st' h Q q => by
  obtain ⟨⟨x, s1⟩, e1, h⟩ := Option.bind_eq_some_iff.mp h
  obtain ⟨⟨y, s2⟩, e2, h⟩ := Option.bind_eq_some_iff.mp h
  obtain ⟨z, e3, h⟩ := Option.bind_eq_some_iff.mp h
  cases h
  exact a.ok σ H w ρ st E G _ _ e1 _ fun v H1 w1 E1 G1 r1 => b.ok σ H1 w1 ρ s1 (E.ext E1) G1 _ _ e2 _ fun u H2 w2 E2 G2 r2 => o.ok w2 H2 s2 v u x y _ G2 (r1.mono E2.le) r2 e3 Q fun t r => q t H2 w2 (E1.trans E2) G2 r⟩
def Ex.cb (o : Pn K) (a : Ar K) : Ex K := ⟨tCB o.r a.den, fun ρ st => (a.ev ρ st).bind fun p => (o.f p.1 p.2).bind fun z => some (z, p.2), fun σ H w ρ st E G d st' h Q q => by
  obtain ⟨⟨x, s1⟩, e1, h⟩ := Option.bind_eq_some_iff.mp h
  obtain ⟨z, e2, h⟩ := Option.bind_eq_some_iff.mp h
  cases h
  exact a.ok σ H w ρ st E G _ _ e1 _ fun v H1 w1 E1 G1 r1 => o.ok w1 H1 s1 v x _ G1 r1 e2 Q fun u r => q u H1 w1 E1 G1 r⟩
/-- a builtin that lays something new -/
def Ex.cbx (o : Pr K) (a : Ar K) : Ex K := ⟨tCB o.r a.den, fun ρ st => (a.ev ρ st).bind fun p => o.f p.1 p.2, fun σ H w ρ st E G d st' h Q q => by
  obtain ⟨⟨x, s1⟩, e1, h⟩ := Option.bind_eq_some_iff.mp h
  exact a.ok σ H w ρ st E G _ _ e1 _ fun v H1 w1 E1 G1 r1 => o.ok w1 H1 s1 v x d st' G1 r1 h Q fun u H2 w2 E2 G2 r => q u H2 w2 (E1.trans E2) G2 r⟩
/-- a call of a def by its name -/
def Ex.call (f : List D → Store → Option (D × Store)) (dvs : List V) (dds : List D) (hd : ∀ w, Reps K w dvs dds) (a : Ar K) : Ex K := ⟨tCall (EffSp K f) dvs E0 a.den, fun ρ st => (a.ev ρ st).bind fun p => f (p.1 ++ dds) p.2, fun σ H w ρ st E G d st' h Q q => by
  obtain ⟨⟨x, s1⟩, e1, h⟩ := Option.bind_eq_some_iff.mp h
  exact a.ok σ H w ρ st E G _ _ e1 _ fun v H1 w1 E1 G1 r1 => ⟨w1, s1, _, d, st', G1, r1.append (hd w1), h, fun u H2 w2 E2 G2 r => q u H2 w2 (E1.trans E2) G2 r⟩⟩
def Ex.call' (f : List D → Store → Option (D × Store)) (a : Ar K) : Ex K := .call f [] [] (fun _ => .nil) a

/-! ints -/
def iop (g : Int → Int → Option D) : D → D → Store → Option D := fun x y _ => match x, y with
  | .int i, .int j => g i j
  | _, _ => none
theorem iop_some {g : Int → Int → Option D} {x y z : D} {st : Store} (h : iop g x y st = some z) : ∃ i j, x = .int i ∧ y = .int j ∧ g i j = some z := by
  unfold iop at h
  split at h
  · exact ⟨_, _, rfl, rfl, h⟩
  · cases h
theorem iop_int (g : Int → Int → Option D) (i j : Int) (st : Store) : iop g (.int i) (.int j) st = g i j := rfl
def P2.I (C : Int → Int → Prop) [∀ i j, Decidable (C i j)] (g : Int → Int → V) (gd : Int → Int → D) (hg : ∀ w i j, Rep K w (g i j) (gd i j)) : P2 K := ⟨rI C g, iop fun i j => if C i j then some (gd i j) else none, fun w H st x y d e z G rx ry h Q q => by
  obtain ⟨i, j, rfl, rfl, h2⟩ := iop_some h
  split at h2
  · rename_i hc
    cases h2
    cases rx
    cases ry
    exact ⟨i, j, rfl, rfl, hc, q _ (hg w i j)⟩
  · cases h2⟩
def P2.I0 (g : Int → Int → V) (gd : Int → Int → D) (hg : ∀ w i j, Rep K w (g i j) (gd i j)) : P2 K := ⟨rI0 g, iop fun i j => some (gd i j), fun w H st x y d e z G rx ry h Q q => by
  obtain ⟨i, j, rfl, rfl, h2⟩ := iop_some h
  cases h2
  cases rx
  cases ry
  exact ⟨i, j, rfl, rfl, q _ (hg w i j)⟩⟩
instance (i j : Int) : Decidable (CMulW i j) := inferInstanceAs (Decidable (_ < _))
instance (i j : Int) : Decidable (CDivW i j) := inferInstanceAs (Decidable (_ ∧ _))
instance (i j : Int) : Decidable (CPow i j) := inferInstanceAs (Decidable (_ ∧ _))
def oAdd : P2 K := .I0 (fun i j => .int (i + j)) (fun i j => .int (i + j)) fun _ _ _ => .int
def oSub : P2 K := .I0 (fun i j => .int (i - j)) (fun i j => .int (i - j)) fun _ _ _ => .int
def oMul : P2 K := .I CMulW (fun i j => .int (i * j)) (fun i j => .int (i * j)) fun _ _ _ => .int
def oDiv : P2 K := .I CDivW (fun i j => .int (i / j)) (fun i j => .int (i / j)) fun _ _ _ => .int
def oMod : P2 K := .I (fun _ j => j ≠ 0) (fun i j => .int (i.fmod j)) (fun i j => .int (i.fmod j)) fun _ _ _ => .int
def oPow : P2 K := .I CPow (fun i j => .int (i ^ j.toNat)) (fun i j => .int (i ^ j.toNat)) fun _ _ _ => .int
def oLt : P2 K := .I0 (fun i j => .bl (decide (i < j))) (fun i j => .bl (decide (i < j))) fun _ _ _ => .bl
def oLe : P2 K := .I0 (fun i j => .bl (decide (i ≤ j))) (fun i j => .bl (decide (i ≤ j))) fun _ _ _ => .bl
def oGt : P2 K := .I0 (fun i j => .bl (decide (j < i))) (fun i j => .bl (decide (j < i))) fun _ _ _ => .bl
def oGe : P2 K := .I0 (fun i j => .bl (decide (j ≤ i))) (fun i j => .bl (decide (j ≤ i))) fun _ _ _ => .bl
def oNeg : P1 K := ⟨rU fun i => .int (-i), fun d _ => match d with | .int i => some (.int (-i)) | _ => none, fun w H st x d z G r h Q q => by
  cases d with
  | int i => cases h; cases r; exact ⟨i, rfl, q _ .int⟩
  | _ => cases h⟩
/-! == of ints, texts, bools, None -/
def eqS : D → D → Option Bool
  | .int i, .int j => some (decide (i = j))
  | .str i, .str j => some (decide (i = j))
  | .bl i, .bl j => some (decide (i = j))
  | .non, .non => some true
  | _, _ => none
theorem eqS_ok {w : Wd} {x y : V} {d e : D} {b : Bool} (rx : Rep K w x d) (ry : Rep K w y e) (h : eqS d e = some b) : scal x y = true ∧ decide (x = y) = b := by
  unfold eqS at h
  split at h
  · cases h; cases rx; cases ry; exact ⟨rfl, by simp⟩
  · cases h; cases rx; cases ry; exact ⟨rfl, by simp⟩
  · cases h; cases rx; cases ry; exact ⟨rfl, by simp⟩
  · cases h; cases rx; cases ry; exact ⟨rfl, by simp⟩
  · cases h
def oEq : P2 K := ⟨rEq, fun d e _ => (eqS d e).map .bl, fun w H st x y d e z G rx ry h Q q => by
  obtain ⟨b, h1, rfl⟩ := Option.map_eq_some_iff.mp h
  obtain ⟨h2, h3⟩ := eqS_ok rx ry h1
  exact ⟨h2, by rw [h3]; exact q _ .bl⟩⟩
def oNe : P2 K := ⟨rNe, fun d e _ => (eqS d e).map fun b => .bl (!b), fun w H st x y d e z G rx ry h Q q => by
  obtain ⟨b, h1, rfl⟩ := Option.map_eq_some_iff.mp h
  obtain ⟨h2, h3⟩ := eqS_ok rx ry h1
  exact ⟨h2, by rw [h3]; exact q _ .bl⟩⟩
def isNon : D → Bool
  | .non => true
  | _ => false
theorem isNon_ok {w : Wd} {x : V} {d : D} (r : Rep K w x d) : decide (x = .non) = isNon d := by
  cases r <;> simp [isNon]
def oIsN : P2 K := ⟨fun x y H Q => y = .non ∧ Q (.bl (decide (x = .non))) H, fun d e _ => match e with | .non => some (.bl (isNon d)) | _ => none, fun w H st x y d e z G rx ry h Q q => by
  cases e with
  | non => cases h; cases ry; exact ⟨rfl, by rw [isNon_ok rx]; exact q _ .bl⟩
  | _ => cases h⟩
def oNotN : P2 K := ⟨fun x y H Q => y = .non ∧ Q (.bl (!decide (x = .non))) H, fun d e _ => match e with | .non => some (.bl (!isNon d)) | _ => none, fun w H st x y d e z G rx ry h Q q => by
  cases e with
  | non => cases h; cases ry; exact ⟨rfl, by rw [isNon_ok rx]; exact q _ .bl⟩
  | _ => cases h⟩
/-! items -/
theorem Reps.atI {w : Wd} {xs : List V} {ds : List D} {i : Int} {d : D} (r : Reps K w xs ds) (h : L2.atI ds i = some d) : ∃ v, L2.atI xs i = some v ∧ Rep K w v d := by
  unfold L2.atI at h ⊢
  rw [r.length]
  obtain ⟨j, h1, h2⟩ := Option.bind_eq_some_iff.mp h
  obtain ⟨v, h3, h4⟩ := r.get h2
  exact ⟨v, by rw [h1]; exact h3, h4⟩
def ixD : D → D → Store → Option D := fun d e st => match e with
  | .int i => (match d with
    | .tup ds => L2.atI ds i
    | .lst ds => L2.atI ds i
    | .cel k => (match st[k]? with
      | some (.lst ds) => L2.atI ds i
      | _ => none)
    | _ => none)
  | _ => none
theorem Good.cellL {w : Wd} {H : Hp} {st : Store} (G : Good K w H st) {a : Addr} {k : Nat} {ds : List D} (ha : w.al[k]? = some a) (h : st[k]? = some (.lst ds)) : ∃ xs, SqL K H a xs ∧ Reps K w xs ds := by
  obtain ⟨_, xs, h1, h2⟩ := G.cell k _ a h ha
  exact ⟨xs, .inl (.inl h1), h2⟩
def oIx : P2 K := ⟨rIx K, ixD, fun w H st x y d e z G rx ry h Q q => by
  cases e with
  | int i =>
    cases ry
    cases d with
    | tup ds =>
      cases rx with
      | tup hs r =>
        obtain ⟨v, h1, h2⟩ := r.atI (show L2.atI ds i = some z from h)
        exact .inr (.inl ⟨_, _, i, v, rfl, rfl, sqT_mono G.sub hs, h1, q v h2⟩)
    | lst ds =>
      cases rx with
      | lst hs r =>
        obtain ⟨v, h1, h2⟩ := r.atI (show L2.atI ds i = some z from h)
        exact .inl ⟨_, _, i, v, rfl, rfl, sqL_mono G.sub hs, h1, q v h2⟩
    | cel k =>
      cases rx with
      | cel ha =>
        have h : (match st[k]? with | some (.lst ds) => L2.atI ds i | _ => none) = some z := h
        cases e : st[k]? with
        | none => rw [e] at h; cases h
        | some c =>
          rw [e] at h
          cases c with
          | ins => cases h
          | lst ds =>
            obtain ⟨xs, h1, h2⟩ := G.cellL ha e
            obtain ⟨v, h3, h4⟩ := h2.atI (show L2.atI ds i = some z from h)
            exact .inl ⟨_, xs, i, v, rfl, rfl, h1, h3, q v h4⟩
    | _ => cases h
  | _ => cases h⟩
/-! built-ins -/
def one1 (g : D → Store → Option D) : List D → Store → Option D := fun ds st => match ds with
  | [d] => g d st
  | _ => none
def lenD : D → Store → Option D := fun d st => match d with
  | .tup ds => some (.int ds.length)
  | .lst ds => some (.int ds.length)
  | .str x => if x.length ≤ 100000 then some (.int x.length) else none
  | .cel k => (match st[k]? with
    | some (.lst ds) => some (.int ds.length)
    | _ => none)
  | _ => none
def oLen : Pn K := ⟨fun xs H Q => ∃ x n, xs = [x] ∧ LenV K x H n ∧ Q (.int n) H, one1 lenD, fun w H st xs ds z G r h Q q => by
  cases r with
  | nil => cases h
  | cons r1 r =>
    cases r with
    | cons => cases h
    | nil =>
      rename_i x d
      have h : lenD d st = some z := h
      cases d with
      | tup ds =>
        cases h
        cases r1 with
        | tup hs rr => exact ⟨_, ds.length, rfl, .inr ⟨_, sqT_mono G.sub hs, rr.length.symm⟩, q _ .int⟩
      | lst ds =>
        cases h
        cases r1 with
        | lst hs rr => exact ⟨_, ds.length, rfl, .inl ⟨_, sqL_mono G.sub hs, rr.length.symm⟩, q _ .int⟩
      | str y =>
        have h : (if y.length ≤ 100000 then some (D.int y.length) else none) = some z := h
        split at h
        · rename_i hl
          cases h
          cases r1
          exact ⟨_, y.length, rfl, ⟨Nat.le_trans hl (by decide), rfl⟩, q _ .int⟩
        · cases h
      | cel k =>
        have h : (match st[k]? with | some (.lst ds) => some (D.int ds.length) | _ => none) = some z := h
        cases r1 with
        | cel ha =>
          cases e : st[k]? with
          | none => rw [e] at h; cases h
          | some c =>
            rw [e] at h
            cases c with
            | ins => cases h
            | lst ds =>
              cases h
              obtain ⟨ys, h1, h2⟩ := G.cellL ha e
              exact ⟨_, ds.length, rfl, .inl ⟨ys, h1, h2.length.symm⟩, q _ .int⟩
      | _ => cases h⟩
def absD : D → Store → Option D := fun d _ => match d with
  | .int i => some (.int (if i < 0 then -i else i))
  | _ => none
def oAbs : Pn K := ⟨fun xs H Q => ∃ i, xs = [.int i] ∧ Q (.int (if i < 0 then -i else i)) H, one1 absD, fun w H st xs ds z G r h Q q => by
  cases r with
  | nil => cases h
  | cons r1 r =>
    cases r with
    | cons => cases h
    | nil =>
      rename_i x d
      have h : absD d st = some z := h
      cases d with
      | int i => cases h; cases r1; exact ⟨i, rfl, q _ .int⟩
      | _ => cases h⟩
def intD : D → Store → Option D := fun d _ => match d with
  | .int i => some (.int i)
  | .bl k => some (.int (if k then 1 else 0))
  | _ => none
def oInt : Pn K := ⟨fun xs H Q => (∃ i, xs = [.int i] ∧ Q (.int i) H) ∨ ∃ k, xs = [.bl k] ∧ Q (.int (if k then 1 else 0)) H, one1 intD, fun w H st xs ds z G r h Q q => by
  cases r with
  | nil => cases h
  | cons r1 r =>
    cases r with
    | cons => cases h
    | nil =>
      rename_i x d
      have h : intD d st = some z := h
      cases d with
      | int i => cases h; cases r1; exact .inl ⟨i, rfl, q _ .int⟩
      | bl k => cases h; cases r1; exact .inr ⟨k, rfl, q _ .int⟩
      | _ => cases h⟩
def two2 (g : Int → Int → Int) : List D → Store → Option D := fun ds _ => match ds with
  | [.int i, .int j] => some (.int (g i j))
  | _ => none
theorem two2_ok {w : Wd} {st : Store} {g : Int → Int → Int} {xs : List V} {ds : List D} {z : D} (r : Reps K w xs ds) (h : two2 g ds st = some z) : ∃ i j, xs = [.int i, .int j] ∧ z = .int (g i j) := by
  unfold two2 at h
  split at h
  · cases h
    cases r with
    | cons r1 r =>
      cases r with
      | cons r2 r => cases r; cases r1; cases r2; exact ⟨_, _, rfl, rfl⟩
  · cases h
def oMax : Pn K := ⟨fun xs H Q => ∃ i j, xs = [.int i, .int j] ∧ Q (.int (if j > i then j else i)) H, two2 fun i j => if j > i then j else i, fun w H st xs ds z G r h Q q => by
  obtain ⟨i, j, rfl, rfl⟩ := two2_ok r h
  exact ⟨i, j, rfl, q _ .int⟩⟩
def oMin : Pn K := ⟨fun xs H Q => ∃ i j, xs = [.int i, .int j] ∧ Q (.int (if j < i then j else i)) H, two2 fun i j => if j < i then j else i, fun w H st xs ds z G r h Q q => by
  obtain ⟨i, j, rfl, rfl⟩ := two2_ok r h
  exact ⟨i, j, rfl, q _ .int⟩⟩
/-- isinstance(x, int | bool | tuple | str) -/
def tyD : D → Option String
  | .non => some "NoneType"
  | .bl _ => some "bool"
  | .int _ => some "int"
  | .str _ => some "str"
  | .tup _ => some "tuple"
  | .lst _ => some "list"
  | _ => none
theorem tyD_ok {w : Wd} {H : Hp} {st : Store} (G : Good K w H st) {x : V} {d : D} {t : String} (r : Rep K w x d) (h : tyD d = some t) : TyX K H x (.type t) := by
  cases r with
  | non => cases h; exact .base .non
  | bl => cases h; exact .base (.bl _)
  | int => cases h; exact .base (.int _)
  | str => cases h; exact .base (.str _)
  | ty => cases h
  | tup hs rr =>
    cases h
    rcases sqT_mono G.sub hs with (e | ⟨o, e⟩) | ⟨o, its, n, e, c, _⟩
    · exact .base (.tup e)
    · exact .fTuple e
    · exact .kTuple e c
  | lst hs rr =>
    cases h
    rcases sqL_mono G.sub hs with (e | ⟨o, e⟩) | ⟨o, its, n, e, c, _⟩
    · exact .base (.lst e)
    · exact .base (.frz e)
    · exact .kList e c
  | obj => cases h
  | cel => cases h
def isiD : List D → Store → Option D := fun ds _ => match ds with
  | [d, .ty n] => (tyD d).bind fun t => (kitB t n).map .bl
  | _ => none
def oIsi : Pn K := ⟨rIsi K, isiD, fun w H st xs ds z G r h Q q => by
  unfold isiD at h
  split at h
  · obtain ⟨t, h1, h⟩ := Option.bind_eq_some_iff.mp h
    obtain ⟨b, h2, rfl⟩ := Option.map_eq_some_iff.mp h
    cases r with
    | cons r1 r =>
      cases r with
      | cons r2 r =>
        cases r
        cases r2
        exact ⟨_, _, _, _, b, rfl, .ty _, tyD_ok G r1 h1, kit_ty h2, q _ .bl⟩
  · cases h⟩
/-- all(a list of bools) -/
def blsD : List D → Option (List Bool)
  | [] => some []
  | .bl b :: r => (blsD r).map (b :: ·)
  | _ => none
theorem blsD_ok {w : Wd} : ∀ {xs : List V} {ds : List D} {bs : List Bool}, Reps K w xs ds → blsD ds = some bs → xs = bs.map V.bl
  | [], [], bs, _, h => by
    cases h
    rfl
  | x :: xs, d :: ds, bs, .cons r1 r, h => by
    cases d with
    | bl b =>
      obtain ⟨cs, h1, rfl⟩ := Option.map_eq_some_iff.mp (show (blsD ds).map (b :: ·) = some bs from h)
      cases r1
      rw [blsD_ok r h1]
      rfl
    | _ => cases h
def allD : D → Store → Option D := fun d _ => match d with
  | .lst ds => (blsD ds).map fun bs => .bl (bs.all id)
  | _ => none
def oAll : Pn K := ⟨rAll K, one1 allD, fun w H st xs ds z G r h Q q => by
  cases r with
  | nil => cases h
  | cons r1 r =>
    cases r with
    | cons => cases h
    | nil =>
      rename_i x d
      have h : allD d st = some z := h
      cases d with
      | lst es =>
        obtain ⟨bs, h1, rfl⟩ := Option.map_eq_some_iff.mp (show (blsD es).map (fun bs => D.bl (bs.all id)) = some z from h)
        cases r1 with
        | lst hs rr =>
          have e := blsD_ok rr h1
          subst e
          exact ⟨_, bs, rfl, sqL_mono G.sub hs, q _ .bl⟩
      | _ => cases h⟩
/-- tuple(a list | a tuple) -/
def oTuple : Pr K := ⟨fun xs H Q => ∃ p ys, xs = [.ref p] ∧ ((SqL K H p ys ∧ ∀ l, H l = none → Q (.ref l) (upd H l (.tup ys))) ∨ (SqT K H p ys ∧ Q (.ref p) H)), fun ds st => match ds with
  | [.lst es] => some (.tup es, st)
  | [.tup es] => some (.tup es, st)
  | _ => none, fun w H st xs ds z st' G r h Q q => by
  split at h
  · cases h
    cases r with
    | cons r1 r =>
      cases r
      cases r1 with
      | lst hs rr => exact ⟨_, _, rfl, .inl ⟨sqL_mono G.sub hs, fun l hl => q _ _ _ (Ext.lay G hl) (G.lay hl) (.tup (.inl (.inl upd_same)) (rr.mono (LeW.lay (G.free hl))))⟩⟩
  · cases h
    cases r with
    | cons r1 r =>
      cases r
      cases r1 with
      | tup hs rr => exact ⟨_, _, rfl, .inr ⟨sqT_mono G.sub hs, q _ H w (Ext.refl _ _) G (.tup hs rr)⟩⟩
  · cases h⟩
/-- list(range(n)) -/
def Fx.listRange (a : Ex K) : Fx K := ⟨tLstRg (tRg1 a.den), fun ρ st => (a.ev ρ st).bind fun p => match p.1 with
  | .int n => if 0 ≤ n ∧ n ≤ 100000 then some (rngD 0 n.toNat, p.2) else none
  | _ => none, fun σ H w ρ st E G out st' h Q q => by
  obtain ⟨⟨x, s1⟩, e1, h⟩ := Option.bind_eq_some_iff.mp h
  cases x with
  | int n =>
    have h : (if 0 ≤ n ∧ n ≤ 100000 then some (rngD 0 n.toNat, s1) else none) = some (out, st') := h
    split at h
    · rename_i hn
      cases h
      refine a.ok σ H w ρ st E G _ _ e1 _ fun v H1 w1 E1 G1 r1 => ?_
      cases r1
      refine ⟨n, rfl, RgOk.of_le (Int.le_refl 0) (by omega) (by omega) hn.1, fun p hp => ?_⟩
      refine q p _ _ w1 (E1.trans (Ext.new hp)) (G1.new hp) (E1.kp _ hp) (G1.free hp) (G1.notAl hp) upd_same ?_
      unfold rgV rngD
      have e : (n - 0).toNat = n.toNat := by simp
      rw [e]
      generalize List.range n.toNat = l
      induction l with
      | nil => exact .nil
      | cons i l ih => exact .cons .int ih
    · cases h
  | _ => cases h⟩
/-- t[lo:hi] of a tuple -/
structure Po (K : PySem.W.Frag) where
  den : TO
  ev : Env → Store → Option (Option Int × Store)
  ok : ∀ σ H w ρ st, EnvR K σ H w ρ → Good K w H st → ∀ o st', ev ρ st = some (o, st') → ∀ Q : Option Int → Hp → Prop, (∀ H' w', Ext w H w' H' → Good K w' H' st' → Q o H') → den σ H Q
def Po.no : Po K := ⟨tNoPart, fun _ st => some (none, st), fun σ H w ρ st E G o st' h Q q => by
  cases h
  exact q H w (Ext.refl _ _) G⟩
def Po.some (a : Ex K) : Po K := ⟨tPart a.den, fun ρ st => (a.ev ρ st).bind fun p => match p.1 with | .int i => Option.some (Option.some i, p.2) | _ => none, fun σ H w ρ st E G o st' h Q q => by
  obtain ⟨⟨x, s1⟩, e1, h⟩ := Option.bind_eq_some_iff.mp h
  cases x with
  | int i =>
    cases h
    refine a.ok σ H w ρ st E G _ _ e1 _ fun v H1 w1 E1 G1 r1 => ?_
    cases r1
    exact ⟨i, rfl, q H1 w1 E1 G1⟩
  | _ => cases h⟩
def cutD (xs : List D) (lo hi : Option Int) : List D := (xs.drop (HT.sIx xs.length 0 lo)).take (HT.sIx xs.length xs.length hi - HT.sIx xs.length 0 lo)
def Ex.sliceT (a : Ex K) (lo hi : Po K) : Ex K := ⟨tSl (rSlA K) a.den lo.den hi.den, fun ρ st => (a.ev ρ st).bind fun p => (lo.ev ρ p.2).bind fun q => (hi.ev ρ q.2).bind fun r => match p.1 with
  | .tup ds => some (.tup (cutD ds q.1 r.1), r.2)
  | _ => none, fun σ H w ρ st E G d st' h Q q => by
  obtain ⟨⟨x, s1⟩, e1, h⟩ := Option.bind_eq_some_iff.mp h
  obtain ⟨⟨l, s2⟩, e2, h⟩ := Option.bind_eq_some_iff.mp h
  obtain ⟨⟨u, s3⟩, e3, h⟩ := Option.bind_eq_some_iff.mp h
  cases x with
  | tup ds =>
    cases h
    refine a.ok σ H w ρ st E G _ _ e1 _ fun v H1 w1 E1 G1 r1 => lo.ok σ H1 w1 ρ s1 (E.ext E1) G1 _ _ e2 _ fun H2 w2 E2 G2 => hi.ok σ H2 w2 ρ s2 ((E.ext E1).ext E2) G2 _ _ e3 _ fun H3 w3 E3 G3 => ?_
    have le := E2.le.trans E3.le
    have Ea := (E1.trans E2).trans E3
    cases r1 with
    | tup hs rr =>
      rename_i a xs
      have hq := sqT_mono G3.sub (sqT_mono le.hf hs)
      have ex : ∀ p, H3 p = none → Reps K (w3.lay p (.tup (cutV xs l u))) (cutV xs l u) (cutD ds l u) := fun p hp => by
        unfold cutV cutD
        rw [rr.length]
        exact ((rr.drop _).take _).mono (le.trans (LeW.lay (G3.free hp)))
      refine ⟨a, xs, rfl, hq, fun hw => ?_, fun _ p hp => q _ _ _ (Ea.trans (Ext.lay G3 hp)) (G3.lay hp) (.tup (.inl (.inl upd_same)) (ex p hp))⟩
      refine q _ H3 w3 Ea G3 (.tup (sqT_mono le.hf hs) ?_)
      have e : cutD ds l u = ds := by
        unfold cutD
        rw [← rr.length, hw.1, hw.2, List.drop_zero, Nat.sub_zero, rr.length, List.take_length]
      rw [e]
      exact rr.mono le
  | _ => cases h⟩
/-- an own list read where it stands is not here: it is laid down first (Sx.frz) -/
def Itb.seq (e : Ex K) : Itb K := ⟨fun σ H R => iList K e.den σ H R ∨ iTup K e.den σ H R, fun ρ st => (e.ev ρ st).bind fun p => match p.1 with | .lst ds => some (ds, p.2) | .tup ds => some (ds, p.2) | _ => none, fun σ H w ρ st E G ds st' h R q => by
  obtain ⟨⟨x, s1⟩, e1, h⟩ := Option.bind_eq_some_iff.mp h
  cases x with
  | lst es => exact .inl ((Itb.lst e).ok σ H w ρ st E G ds st' (by show (e.ev ρ st).bind _ = _; rw [e1]; exact h) R q)
  | tup es => exact .inr ((Itb.tup e).ok σ H w ρ st E G ds st' (by show (e.ev ρ st).bind _ = _; rw [e1]; exact h) R q)
  | _ => cases h⟩
end
/-- what is walked may be of one kind or another -/
theorem pi_or {X : Cx} {tg e : Expr} {a b : TI} (h1 : PI X tg e a) (h2 : PI X tg e b) : PI X tg e (fun σ H R => a σ H R ∨ b σ H R) := ⟨fun pins s σ H R I h => by
  rcases h with h | h
  · exact h1.run pins s σ H R I h
  · exact h2.run pins s σ H R I h⟩
theorem pi_seq {X : Cx} {tg l : Expr} {tl : TE} (hl : PE X l tl) : PI X tg l (fun σ H R => iList X.K tl σ H R ∨ iTup X.K tl σ H R) := pi_or (pi_list hl) (pi_tup hl)
end MP

set_option Elab.async false
set_option linter.all false
set_option maxRecDepth 100000
set_option autoImplicit false
set_option maxHeartbeats 1000000
/-! rules that the layer lacks -/
namespace RM
open PySem PySem.Spec PyProof.Rows L2 MP

/-! ### t[::-1] of a tuple -/
section
variable {prog : Program} {w : World} {A : Around} {E : Value → Shared → Prop} {s : Shared}
theorem rev_places (n : Nat) : Builtin.Slice.slicePlaces ((n : Int) - 1) (-1) (-1) = n := by
  unfold Builtin.Slice.slicePlaces
  rw [if_neg (by decide)]
  by_cases h : (n : Int) - 1 > -1
  · rw [if_pos h, show (-(-1) : Int) = 1 by decide, Int.ediv_one]
    omega
  · rw [if_neg h]
    omega
theorem rev_applied {sl : Addr} {vk : Value} {n : Nat} {Q : Int × Int × Nat → Shared → Prop} (hs : s.heap.IsSliceOf sl .none .none vk) (pk : IsPart vk (some (-1)))
    (h : Q ((n : Int) - 1, -1, n) s) : wpAny (model prog w) A (Builtin.Slice.sliceApplied (.ref sl) (pure (n : Int))) Q E s := by
  obtain ⟨o, e1, e2, e3⟩ := hs
  unfold Builtin.Slice.sliceApplied Builtin.Slice.sliceFields
  apply wpAny_bind
  apply wpAny_bind
  apply wpAny_field e1 e3 (x := .none) rfl
  apply wpAny_bind
  apply wpAny_field e1 e3 (x := .none) rfl
  apply wpAny_bind
  apply wpAny_field e1 e3 (x := vk) rfl
  apply wpAny_pure
  apply wpAny_bind
  refine HT.slicePart_ pk ?_
  show wpAny _ _ (if (((some (-1) : Option Int).getD 1) == 0) = true then _ else _) _ _ s
  rw [if_neg (by decide)]
  apply wpAny_bind
  apply PyProof.Rows.slicePart_none
  apply wpAny_bind
  apply PyProof.Rows.slicePart_none
  apply wpAny_bind
  apply wpAny_pure
  have e : Builtin.Slice.sliceAdjust none none (-1) (n : Int) = ((n : Int) - 1, -1) := rfl
  show wpAny _ _ (match Builtin.Slice.sliceAdjust none none (-1) (n : Int) with | (a, b) => pure (a, (-1 : Int), Builtin.Slice.slicePlaces a b (-1))) _ _ s
  rw [e]
  show wpAny _ _ (pure ((n : Int) - 1, (-1 : Int), Builtin.Slice.slicePlaces ((n : Int) - 1) (-1) (-1))) _ _ s
  rw [rev_places]
  exact wpAny_pure h
theorem fm_congr {α β : Type} {f g : α → Option β} : ∀ {l : List α}, (∀ k ∈ l, f k = g k) → l.filterMap f = l.filterMap g
  | [], _ => rfl
  | a :: l, h => by
    rw [List.filterMap_cons, List.filterMap_cons, h a List.mem_cons_self, fm_congr fun k hk => h k (List.mem_cons_of_mem _ hk)]
theorem rev_pick (xs : Array Value) : ((List.range xs.size).filterMap fun (k : Nat) => xs[((xs.size : Int) - 1 + (k : Int) * (-1)).toNat]?).toArray = xs.toList.reverse.toArray := by
  congr 1
  have e : (List.range xs.size).filterMap (fun (k : Nat) => xs[((xs.size : Int) - 1 + (k : Int) * (-1)).toNat]?) = ((List.range xs.size).map fun k => xs.size - 1 - k).filterMap (xs[·]?) := by
    rw [List.filterMap_map]
    apply fm_congr
    intro k hk
    have hk := List.mem_range.mp hk
    show xs[((xs.size : Int) - 1 + (k : Int) * (-1)).toNat]? = xs[xs.size - 1 - k]?
    congr 1
    omega
  rw [e, PySem.W.krv_range, List.filterMap_reverse, PySem.W.krv_all]
theorem getItem_tuple_rev {t sl : Addr} {items : Array Value} {vk : Value} {Q : Value → Shared → Prop} (ht : IsTup s.heap t items) (hs : s.heap.IsSliceOf sl .none .none vk) (pk : IsPart vk (some (-1)))
    (h : Q (.ref s.heap.objs.size) { s with heap := s.heap.push { cls := .type "tuple", data := .seq items.toList.reverse.toArray } }) (hsz : items.size ≤ sizeLine) : wpAny (model prog w) A (getItem (.ref t) (.ref sl)) Q E s := by
  have room : sizeOk (.seq items.toList.reverse.toArray) := by
    show items.toList.reverse.toArray.size ≤ sizeLine
    simpa using hsz
  have isS : s.TypeIs (.ref sl) "slice" := let ⟨o, a, b, _⟩ := hs; ⟨o, a, b⟩
  unfold getItem
  try with_reducible refine wpAny_holding ?_
  try refine wpAny_bind (wpAny_pure ?_)
  apply wpAny_bind
  refine wpAny_sequenceKey ht.typeIs (by decide) ?_
  apply wpAny_bind
  refine wpAny_callSpecial?_slot (name := Str.ofString "__getitem__") ht.typeIs slot_tuple_getitem (wpAny_call_entry slot_tuple_getitem ht.typeIs entry_tuple_getitem ?_ (args_tuple_getitem _ _))
  show wpAny _ _ (Builtin.Tuple.tupleItemsOf (.ref t) >>= _) _ _ s
  apply wpAny_bind
  refine tupleItemsOf_ ht ?_
  apply wpAny_bind
  refine wpAny_typeOf isS ?_
  rw [if_pos (by decide)]
  apply wpAny_bind
  refine rev_applied hs pk ?_
  have no : ¬ ((((items.size : Int) - 1) == 0 && ((-1 : Int) == 1) && (items.size == items.size)) = true) := by
    rw [show ((-1 : Int) == 1) = false by decide, Bool.and_false, Bool.false_and]
    exact Bool.false_ne_true
  show wpAny _ _ (if (((items.size : Int) - 1) == 0 && ((-1 : Int) == 1) && (items.size == items.size)) = true then _ else _) _ _ s
  rw [if_neg no, rev_pick]
  first
    | exact wpAny_bind (m := Builtin.Tuple.tupleExact _) (wpAny_newObj_type (wpAny_pure ⟨_, rfl, wpAny_pure h⟩) room)
    | exact wpAny_bind (m := Builtin.Tuple.tupleExact _) (wpAny_newObj_type (wpAny_bind (wpAny_pure (wpAny_pure ⟨_, rfl, wpAny_pure h⟩))) room)
    | exact wpAny_bind (wpAny_bind (m := Builtin.Tuple.tupleExact _) (wpAny_newObj_type (wpAny_pure (wpAny_pure ⟨_, rfl, wpAny_pure h⟩)) room))
    | exact wpAny_bind (wpAny_bind (m := Builtin.Tuple.tupleExact _) (wpAny_newObj_type (wpAny_pure ⟨_, rfl, wpAny_pure h⟩) room))
end
section
variable {X : Cx}
def tRevT (K : PySem.W.Frag) (te : TE) : TE := fun σ H Q => te σ H fun x H1 => ∃ a xs, x = .ref a ∧ SqT K H1 a xs ∧ ∀ p, H1 p = none → Q (.ref p) (upd H1 p (.tup xs.reverse))
theorem pe_revT {e : Expr} {te : TE} {k : Nat} {p1 p2 p3 pos : Pos} (he : PE X e te) : PE X (.Subscript e (.Slice none none (some (.UnaryOp .USub (.Constant (.int 1) k p1) p2)) p3) pos) (tRevT X.K te) := by
  have step : PO X (some (.UnaryOp .USub (.Constant (.int 1) k p1) p2)) (tPart (tUn (rU fun i => .int (-i)) (tC (.int 1)))) := po_some (pe_un un_neg pe_int)
  constructor
  intro pins s σ H Q I h
  apply Subscript_
  refine thn (he.run pins s σ H _ I h) fun v s1 ⟨x, H1, I1, r1, a, xs, ex, hx, q⟩ => ?_
  subst ex
  cases r1
  apply wpAny_Slice
  refine thn (po_none.run pins s1 σ H1 (fun o Z => o = none ∧ Z = H1) I1 ⟨rfl, rfl⟩) fun va sa ⟨oa, Ha, Ia, pa, ea, ea2⟩ => ?_
  subst ea ea2
  refine thn (po_none.run pins sa σ Ha (fun o Z => o = none ∧ Z = Ha) Ia ⟨rfl, rfl⟩) fun vb sb ⟨ob, Hb, Ib, pb, eb, eb2⟩ => ?_
  subst eb eb2
  refine thn (step.run pins sb σ Hb (fun o Z => o = some (-1) ∧ Z = Hb) Ib ⟨1, rfl, -1, rfl, rfl, rfl⟩) fun vc sc ⟨oc, Hc, Ic, pc, ec, ec2⟩ => ?_
  subst ec ec2
  obtain rfl : va = .none := by cases pa; rfl
  obtain rfl : vb = .none := by cases pb; rfl
  have Id : Inv X pins σ Hc { sc with heap := sc.heap.push { cls := .type "slice", data := .fields #[.none, .none, vc] } } := Ic.kept (t' := sc.toks) fun b o z => Heap.get?_push_of_some _ z
  obtain ⟨its, r, ht, hz⟩ := Id.tuple hx
  show wpAny (model X.prog X.w) X.A (subscriptTail e (.Slice none none (some (.UnaryOp .USub (.Constant (.int 1) k p1) p2)) p3) (.ref a) (.ref sc.heap.objs.size)) (EP X pins σ Q) X.xe { sc with heap := sc.heap.push { cls := .type "slice", data := .fields #[.none, .none, vc] } }
  refine tail_any (ops := [.ref a, .ref sc.heap.objs.size]) ht.typeIs slot_tuple_getitem.lookup ?_ (by with_unfolding_all rfl)
  refine getItem_tuple_rev ht (Heap.IsSliceOf.new _ .none .none vc) pc ?_ (by rw [List.size_toArray, ← r.length]; exact hz)
  refine ⟨.ref _, _, Id.laid (t' := sc.toks) (o := .tup xs.reverse) (fun b o z => Heap.get?_push_of_some _ z) (Nat.le_refl _) ?_, rfl, q _ (Id.hok.fresh (Nat.le_refl _))⟩
  refine ⟨by rw [List.length_reverse]; exact hz, its.reverse, r.reverse, ?_⟩
  exact IsTup.new _ _
/-! ### powers of great ints -/
def CPowW (i j : Int) : Prop := 0 ≤ j ∧ (Builtin.Int.intBits i : Int) * j ≤ 2 ^ 27
instance (i j : Int) : Decidable (CPowW i j) := inferInstanceAs (Decidable (_ ∧ _))
theorem op_powW : OpR X (binaryOp .Pow) (rI CPowW fun i j => .int (i ^ j.toNat)) := opI fun _ _ _ _ _ _ _ hc q => PyProof.Rows.pow_int hc.1 hc.2 q
/-! ### tuple * int, the few -/
theorem mul_one_code (l : Addr) (items : Array Value) (n : Nat) (dd : Option Addr) (sl : Array (Option Value)) (x : Int) (u : Tok) (hx : x = 1) :
    Meets (Builtin.«tuple.__mul__» ⟨[.ref l, .int x u], []⟩) (fun _ R s => s.heap.get? l = some { cls := .type "tuple", dict := dd, data := .seq items n, slots := sl } ∧ R (.ok (.ret (.ref l))) s) :=
  .of_wp fun prog w A R s h => by
    subst hx
    obtain ⟨hp, g, d, tk, os⟩ := s
    obtain ⟨hl, h⟩ := h
    have f1 := AutoSeq1.idx_int
    wp_walk using wpAny_loadPart' hl
    exact ⟨_, rfl, h⟩
theorem mul_zero_code (l : Addr) (items : Array Value) (n : Nat) (dd : Option Addr) (sl : Array (Option Value)) (x : Int) (u : Tok) (hx : x = 0) (hi : items.isEmpty = false) :
    Meets (Builtin.«tuple.__mul__» ⟨[.ref l, .int x u], []⟩) (fun _ R s => s.heap.get? l = some { cls := .type "tuple", dict := dd, data := .seq items n, slots := sl } ∧
      R (.ok (.ret (Value.ref s.heap.objs.size))) { s with heap := s.heap.push { cls := Value.type "tuple", data := Data.seq #[] }, toks := s.toks }) :=
  .of_wp fun prog w A R s h => by
    subst hx
    obtain ⟨hp, g, d, tk, os⟩ := s
    obtain ⟨hl, h⟩ := h
    have f1 := AutoSeq1.idx_int
    wp_walk using wpAny_loadPart' hl
    exact ⟨_, rfl, h⟩
/-- t * k, k from 0 on, t not empty -/
def rRepA (K : PySem.W.Frag) : R2 := fun x y H Q => ∃ l k xs, x = .ref l ∧ y = .int k ∧ SqT K H l xs ∧ xs ≠ [] ∧ 0 ≤ k ∧ k ≤ 1000 ∧ xs.length ≤ 1000 ∧
  (k = 1 → Q (.ref l) H) ∧ (k ≠ 1 → ∀ p, H p = none → Q (.ref p) (upd H p (.tup (List.replicate k.toNat xs).flatten)))
theorem op_repA : OpR X (binaryOp .Mult) (rRepA X.K) := by
  intro pins s σ H x y v u Q I rx ry h
  obtain ⟨l, k, xs, e1, e2, hT, hne, h0, h1, hz, q1, q2⟩ := h
  by_cases hk : 2 ≤ k
  · exact op_repT pins s σ H x y v u Q I rx ry ⟨l, k, xs, e1, e2, hT, hne, hk, h1, hz, q2 (by omega)⟩
  · subst e1 e2
    cases rx
    obtain ⟨t, rfl⟩ := ry
    obtain ⟨its, r, ⟨⟨cls, dd, data, sl⟩, ho, hc, n, hd⟩, hs⟩ := I.tuple hT
    simp only at hc hd
    subst hc hd
    have ne : its.toArray.isEmpty = false := by
      cases its with
      | nil =>
        cases r
        exact absurd rfl hne
      | cons a b => rfl
    by_cases k1 : k = 1
    · refine wpAny_binaryOp_repeat_ref (T := "tuple") (U := "int") (by decide) ⟨_, ho, rfl⟩ (fun z => typeIs_int z k t) noFill_tuple_mul F.fills_int_mul F.slot_int_rmul repeat_tuple F.slot_int_index.lookup
        (call_meets F.slot_int_rmul (typeIs_int s k t) F.entry_int_rmul (F.args_int_rmul_2 _ _) (int_rmul_tuple k t l its.toArray n dd sl) ⟨ho, rfl, ⟨_, ho, rfl⟩, ?_⟩)
      exact call_meets F.slot_tuple_mul ⟨_, ho, rfl⟩ F.entry_tuple_mul (F.args_tuple_mul_2 _ _) (mul_one_code l its.toArray n dd sl k t k1) ⟨ho, .ref l, H, I, rfl, q1 k1⟩
    · have k0 : k = 0 := by omega
      refine wpAny_binaryOp_repeat_ref (T := "tuple") (U := "int") (by decide) ⟨_, ho, rfl⟩ (fun z => typeIs_int z k t) noFill_tuple_mul F.fills_int_mul F.slot_int_rmul repeat_tuple F.slot_int_index.lookup
        (call_meets F.slot_int_rmul (typeIs_int s k t) F.entry_int_rmul (F.args_int_rmul_2 _ _) (int_rmul_tuple k t l its.toArray n dd sl) ⟨ho, rfl, ⟨_, ho, rfl⟩, ?_⟩)
      refine call_meets F.slot_tuple_mul ⟨_, ho, rfl⟩ F.entry_tuple_mul (F.args_tuple_mul_2 _ _) (mul_zero_code l its.toArray n dd sl k t k0 ne) ⟨ho, ?_⟩
      have e : (List.replicate k.toNat xs).flatten = [] := by
        rw [k0]
        rfl
      refine ⟨.ref s.heap.objs.size, _, I.laid (t' := s.toks) (o := .tup (List.replicate k.toNat xs).flatten) (fun b ob z => Heap.get?_push_of_some _ z) (Nat.le_refl _) ?_, rfl, q2 k1 _ (I.hok.fresh (Nat.le_refl _))⟩
      rw [e]
      exact ⟨Nat.zero_le _, [], .nil, IsTup.new _ _⟩
/-! ### repr, where no repr is under way -/
def rRepr (K : PySem.W.Frag) : List V → Hp → VK → Prop := fun vs H Q => ∃ x d, vs = [x] ∧ (∃ a, x = .ref a) ∧ Dp K H x d ∧ d.showable = true ∧ d.hasDict = false ∧ d.depth ≤ 60 ∧ d.shown.length ≤ sizeLine ∧ Q (.str d.shown) H
theorem cr_repr (hg : X.A.guards = some []) (hu : X.A.units + 64 < cLine) : CallR X (.builtin "repr") (rRepr X.K) := by
  intro pins s σ H xs us Q I r h
  obtain ⟨x, d, rfl, ⟨a, rfl⟩, hd, h1, h2, h3, h4, q⟩ := h
  obtain ⟨u, rfl, ru⟩ := vals1 r
  cases ru
  obtain ⟨as, rd⟩ := Dp.reads I d _ _ hd rfl
  refine PySem.repr_of_reads' rd h1 (fun z => by rw [h2] at z; cases z) hg (by omega) (fun _ _ e => e) (fun h' t tk hk => ?_) h4
  exact ⟨.str d.shown, H, I.kept (t' := tk) hk, ⟨t, rfl⟩, q⟩
end
end RM

set_option Elab.async false
set_option linter.all false
set_option maxRecDepth 100000
set_option autoImplicit false
set_option maxHeartbeats 1000000
/-! defs that are called where no repr is under way (repr asks that) -/
namespace RM
open PySem PySem.Spec PyProof.Rows L2 MP
structure FnG (P : Program) (w : World) (K : PySem.W.Frag) (mg : Str → Option Value) (base : Heap) (CX : CXT) (k : Nat) (f : Addr) (fd : FuncData) (ps : List Str) (sp : Sp) : Prop where
  ln : ∀ vs H Q E, sp vs H Q E → vs.length = ps.length
  go : ∀ (A : Around) (outer : List PySem.Env) (s : Shared) (H : Hp) (args : Args) (us : List Value) (vs : List V) (Q : VK) (E : XK), A.guards = some [] → Room k A → Env0 P w K mg base A outer s H → BindsTo s fd args (ps.zip us) →
    Vals vs us → sp vs H Q E → codeAny (model P w) A (.call (.ref f) args) (CR CX outer P w H s Q E) s
theorem FnOk.g {P : Program} {w : World} {K : PySem.W.Frag} {mg : Str → Option Value} {base : Heap} {CX : CXT} {k : Nat} {f : Addr} {fd : FuncData} {ps : List Str} {sp : Sp} (F : FnOk P w K mg base CX k f fd ps sp) : FnG P w K mg base CX k f fd ps sp :=
  ⟨F.len, fun A outer s H args us vs Q E _ hr => F.run A outer s H args us vs Q E hr⟩
theorem FnG.imp {P : Program} {w : World} {K : PySem.W.Frag} {mg : Str → Option Value} {base : Heap} {CX : CXT} {k : Nat} {f : Addr} {fd : FuncData} {ps : List Str} {sp sp' : Sp} (F : FnG P w K mg base CX k f fd ps sp) (h : ∀ vs H Q E, sp' vs H Q E → sp vs H Q E) :
    FnG P w K mg base CX k f fd ps sp' := ⟨fun vs H Q E q => F.ln vs H Q E (h _ _ _ _ q), fun A outer s H args us vs Q E g r e b v q => F.go A outer s H args us vs Q E g r e b v (h _ _ _ _ q)⟩
section
variable {P : Program} {w : World} {K : PySem.W.Frag} {mg : Str → Option Value} {base : Heap}
/-- a def by its body -/
theorem fnG_of {CX : CXT} {x qual : Str} {params : Arguments} {body : List Stmt} {scope : Scope} {dvs : List V} {kws : List (Str × V)} {f : Addr} {fd : FuncData} {N ps : List Str} {k : Nat} {sp : Sp} (F : FunD K x qual params body scope dvs kws f fd) (S : FnScope N ps scope)
    (ln : ∀ vs H Q E, sp vs H Q E → vs.length = ps.length)
    (hb : ∀ (cdv : Value) (A : Around) (outer : List PySem.Env) (s : Shared) (H : Hp) (vs : List V) (Q : VK) (E : XK), A.guards = some [] → Room k (A.deeper (envOfC qual scope s.heap.objs.size f cdv)) → sp vs H Q E →
      ∃ t, PSs (cxOf CX P w K mg base N qual scope f cdv A outer s H E) body t ∧ t { nx := fun _ H' => Q .non H', rt := Q } (start N vs) H) : FnG P w K mg base CX (k + 1) f fd ps sp := by
  obtain ⟨oc, od, dV, kV, doc, pm, an, cdv, ct, osl, rfl, lk, hcd, _, _⟩ := F.ex
  refine ⟨ln, fun A outer s H args us vs Q E hg hr e0 bd rv hsp => ?_⟩
  have inK : K.In s.heap := e0.mod.kin.keeps fun b o e => (e0.bs b o e).1
  have nolim : s.heap.NoLimit := e0.mod.nolimit.keeps fun b o e => (e0.bs b o e).1
  have kinds : ∀ y ∈ ps.zip us, scope.names.lookup y.1 = some .local ∨ (scope.names.lookup y.1 = some .cell ∧ ((cellsFrom (s.heap.objs.size + 1) scope.names []).lookup y.1).isSome = true) := by
    rintro ⟨n, v⟩ hy
    exact (S.par n (List.of_mem_zip hy).1).imp id fun q => ⟨q, PySem.W.cellsFrom_some _ _ _ (.inl q)⟩
  apply codeAny_call_function hr.depth (inK _ _ lk) rfl S.co S.gen rfl (PySem.W.codeRec_of inK hcd)
  apply bd
  refine wpAny_newFunctionEnv_cells S.kind kinds fun env he s1 x => ?_
  subst he
  refine ⟨nolim.keeps x.toInCall.keep, codeAny_func ?_⟩
  obtain ⟨t, ht, hq⟩ := hb cdv A outer s H vs Q E hg (hr.deeper _) hsp
  have I := inv_start (CX := CX) (P := P) (mg := mg) (base := base) (E := E) (qual := qual) (f := f) (cd := cdv) S hr.hd e0 (ln _ _ _ _ hsp) rv x
  refine wpAny_mono (ht.run [] s1 (start N vs) H _ I hq) (fun fl s' hs => ?_) fun e s' hs => hs
  cases fl with
  | ret u => exact let ⟨v, σ', H', J, r2, q⟩ := hs; ⟨v, H', J.os, J.bare, J.base, J.hok, r2, q⟩
  | next => exact let ⟨σ', H', J, q⟩ := hs; ⟨V.non, H', J.os, J.bare, J.base, J.hok, rfl, q⟩
  | brk => exact let ⟨_, _, _, q⟩ := hs; q.elim
  | cont => exact let ⟨_, _, _, q⟩ := hs; q.elim
end
section
variable {X : Cx} {CX : CXT} {k : Nat} {f : Addr} {fd : FuncData} {ps : List Str} {sp : Sp} {dvs : List V} {ds : List Value} {E : XK} {x : Str} {p pos : Pos} {e : Expr} {es : List Expr} {t : TA}
theorem pe_callG (F : FnG X.prog X.w X.K X.mg X.base CX k f fd ps sp) (hgd : X.A.guards = some []) (hr : Room k X.A) (hg : Gl X x) (hm : X.mg x = some (.ref f)) (hk : PySem.W.keepIn X.K (.ref f) = true) (hb : Binds X.K fd ps ds) (hd : Vals dvs ds) (hx : Passes CX X E)
    (ha : PA X (e :: es) t) (hdb : (x == ("__debug__" : Str)) = false := by decide) (he : starEach (e :: es) X.env = (false, eval e X.env) :: starEach es X.env := by rfl) (hpl : (backTo pos (starEach es X.env)).any (·.1) = false := by rfl) :
    PE X (.Call (.Name x p) (e :: es) [] pos) (tCall sp dvs E t) := by
  constructor
  intro pins s σ H Q I h
  apply wpAny_Call_Name_kw
  refine ld_glob I hg hm ?_ hdb
  refine PySem.W.callWith_K (h₀ := X.base) I.ok.mod.kin hk (thn (ha.run pos pins s σ H _ I h) fun us s1 ⟨vs, H1, I1, r, q⟩ => ⟨I1.kIn, ?_⟩) he hpl
  have r2 : Vals (vs ++ dvs) (us ++ ds) := r.append hd
  have hl : (us ++ ds).length = ps.length := by rw [← r2.length]; exact F.ln _ _ _ _ q
  apply wpAny_call
  refine codeAny_mono (F.go X.A X.stack s1 H1 ⟨us, []⟩ (us ++ ds) (vs ++ dvs) Q E hgd hr I1.env0 (hb s1 us I1.kIn hl) r2 q) fun r s' hq => ?_
  cases r with
  | error e => exact hx pins σ H1 s1 e s' I1 hq
  | ok fl => cases fl with
    | ret u => exact I1.after hq
    | next => exact hq.elim
    | brk => exact hq.elim
    | cont => exact hq.elim
end
/-- a law's end, its def called where no repr is under way -/
theorem walk_G {l : PySem.W.OpenLaw} {n k : Nat} {q : Program} {loose : List Str} {XP : (Str → Option Value) → Heap → Prop} {YP : World → Heap → Prop} {d : DefRec} {CX : CXT} {x : Str}
    (hn : l.most = some n) (hn2 : n ≤ sizeLine) (hdf : d.params.defaults = []) (hr : Room k callerA)
    (F : ∀ (w : World) (mg : Str → Option Value) (fa : Addr) (h : Heap), YP w h → h.Ns mainGlobals mg → mg d.name = some (.ref fa) →
      ∃ (K : PySem.W.Frag) (fd : FuncData) (sp : Sp), K.In h ∧ (∀ (s : Shared) (u : Value), BindsTo s fd ⟨[u], []⟩ [(x, u)]) ∧
        (∀ (H : Hp) (a : Addr) (ns : List Int), ns.length ≤ n → Only H → SqL K H a (ns.map V.int) → sp [.ref a] H (fun v _ => v = .bl true) fun _ _ _ => False) ∧
        ∀ base : Heap, K.In base → base.Ns mainGlobals mg → FnG l.prog w K mg base CX k fa fd [x] sp)
    (hCX : ∀ (H : Hp) (s : Shared) (e : Value) (s' : Shared), CX [] H s (fun _ _ _ => False) e s' → False) :
    PySem.W.WalkO q loose XP YP l.row.toRowW d [] (fun f vs => PySem.call f vs) := by
  refine Att.attach_call hn hdf fun w s₀ s₁ mg mb fa o pm cd doc a vs ns G Y ho hd hcd hmg hobj hints hlen hgen => ?_
  obtain ⟨K, fd, sp, KX, hb, hsp, hF⟩ := F w mg fa _ Y G.T.g hmg
  -- the only thing tracked at first: the script, if it is no object of the module
  obtain ⟨H, hO, hS, hok, hA⟩ : ∃ H : Hp, Only H ∧ SqL K H a (ns.map V.int) ∧ HOk l.prog w H s₁.heap ∧ ∀ b, H b ≠ none → b = a ∧ K.lookup a = none := by
    have rv := vals_ints hints
    have room : (ns.map V.int).length ≤ sizeLine := by rw [List.length_map]; exact Nat.le_trans hlen hn2
    cases hk : K.lookup a with
    | some o2 =>
      have e := (KX a o2 hk).symm.trans hobj
      cases e
      exact ⟨fun _ => none, fun _ => .inl rfl, .inr ⟨_, vs.toArray, _, hk, rfl, rfl, rfl, by rw [List.size_toArray, ← rv.length]; exact room, by simpa using rv⟩, fun b u z => (by cases (show (none : Option HO) = some u from z)), fun b z => absurd rfl z⟩
    | none =>
      refine ⟨upd (fun _ => none) a (.frz { cls := .type "list", data := .seq vs.toArray } (.lst (ns.map V.int))), fun b => ?_, .inl (.inr ⟨_, upd_same⟩), fun b u z => ?_, fun b z => ?_⟩
      · by_cases e : b = a
        · exact .inr ⟨_, _, by rw [e]; exact upd_same⟩
        · exact .inl (upd_ne e)
      · by_cases e : b = a
        · subst e
          rw [upd_same] at z
          cases z
          exact ⟨hobj, room, vs, _, rv, hobj⟩
        · rw [upd_ne e] at z
          cases z
      · by_cases e : b = a
        · exact ⟨e, rfl⟩
        · exact absurd (upd_ne e) z
  have seen : ∀ {b : Addr} {o : Obj}, s₁.heap.get? b = some o → H b = none → (hidT s₁.heap H).get? b = some o := fun e n => hidT_get e n
  have out : ∀ {b : Addr} {o : Obj} {es : Array DictEntry} {ep : Nat}, s₁.heap.get? b = some o → o.data = .dict es ep → H b = none := fun {b o es ep} e dd => by
    cases z : H b with
    | none => rfl
    | some u =>
      have := (hA b (by rw [z]; exact Option.some_ne_none _)).1
      subst this
      rw [hobj] at e
      cases e
      cases dd
  have ns' : ∀ {b : Addr} {m : Str → Option Value}, s₁.heap.Ns b m → (hidT s₁.heap H).Ns b m := fun ⟨o, es, ep, e, dd, r⟩ => ⟨o, es, ep, seen e (out e dd), dd, r⟩
  have kin : K.In (hidT s₁.heap H) := fun b o e => seen (KX b o e) (by
    cases z : H b with
    | none => rfl
    | some u =>
      obtain ⟨z1, z2⟩ := hA b (by rw [z]; exact Option.some_ne_none _)
      rw [z1, z2] at e
      cases e)
  have e0 : Env0 l.prog w K mg (hidT s₁.heap H) callerA [] s₁ H := ⟨rfl, ⟨kin, ns' G.T.g, ⟨mb, ns' G.T.b, G.T.builtins⟩, let ⟨mc, h1, h2⟩ := G.T.nolimit; ⟨mc, ns' h1, h2⟩⟩, fun b o e => of_hidT e, Nat.le_of_eq (hidT_size _ _), trivial, fun b hb => absurd (show b ∈ ([] : List Addr) from hb) List.not_mem_nil, hok, .of_eq hgen⟩
  refine codeAny_mono ((hF _ kin (ns' G.T.g)).go callerA [] s₁ H ⟨[.ref a], []⟩ [.ref a] [.ref a] _ _ rfl hr e0 (hb s₁ (.ref a)) (.cons rfl .nil) (hsp H a ns hlen hO hS)) fun r s' h => ?_
  cases r with
  | error e => exact (hCX H s₁ e s' h).elim
  | ok fl => cases fl with
    | next => exact h.elim
    | brk => exact h.elim
    | cont => exact h.elim
    | ret u =>
      obtain ⟨v, H', os, bare, un, hok', r', q⟩ := h
      subst q
      cases r'
      refine ⟨rfl, OldK.of_keep fun b o e => ?_, os, bare⟩
      cases z : H b with
      | none => exact un.keep b o e z (fun y => by cases y) (fun y => by cases y)
      | some u =>
        rcases hO b with y | ⟨ob, xs, y⟩
        · rw [y] at z; cases z
        · obtain ⟨a1, _⟩ := hok b _ y
          obtain ⟨a2, _⟩ := hok' b _ (un.frzs b ob _ y)
          rw [a1] at e
          cases e
          exact a2
end RM

set_option Elab.async false
set_option linter.all false
set_option maxRecDepth 100000
set_option autoImplicit false
namespace MP
open PySem L2 RM
/-- an operation that lays something new -/
structure P2x (K : PySem.W.Frag) where
  r : R2
  f : D → D → Store → Option (D × Store)
  ok : ∀ w H st x y d e z st', Good K w H st → Rep K w x d → Rep K w y e → f d e st = some (z, st') → ∀ Q : VK, (∀ v H' w', Ext w H w' H' → Good K w' H' st' → Rep K w' v z → Q v H') → r x y H Q
section
variable {K : PySem.W.Frag}
def Ex.op2x (o : P2x K) (a b : Ex K) : Ex K := ⟨tOp o.r a.den b.den, fun ρ st => (a.ev ρ st).bind fun p => (b.ev ρ p.2).bind fun q => o.f p.1 q.1 q.2, fun σ H w ρ st E G d st' h Q q => by
  obtain ⟨⟨x, s1⟩, e1, h⟩ := Option.bind_eq_some_iff.mp h
  obtain ⟨⟨y, s2⟩, e2, h⟩ := Option.bind_eq_some_iff.mp h
  exact a.ok σ H w ρ st E G _ _ e1 _ fun v H1 w1 E1 G1 r1 => b.ok σ H1 w1 ρ s1 (E.ext E1) G1 _ _ e2 _ fun u H2 w2 E2 G2 r2 => o.ok w2 H2 s2 v u x y d st' G2 (r1.mono E2.le) r2 h Q fun t H3 w3 E3 G3 r => q t H3 w3 ((E1.trans E2).trans E3) G3 r⟩
theorem Reps.rep {w : Wd} {vs : List V} {ds : List D} (r : Reps K w vs ds) : ∀ n : Nat, Reps K w (List.replicate n vs).flatten (List.replicate n ds).flatten
  | 0 => .nil
  | n + 1 => by
    rw [List.replicate_succ, List.replicate_succ, List.flatten_cons, List.flatten_cons]
    exact r.append (Reps.rep r n)
def oRep : P2x K := ⟨rRepA K, fun d e st => match d, e with
  | .tup ds, .int k => if ds ≠ [] ∧ 0 ≤ k ∧ k ≤ 1000 ∧ ds.length ≤ 1000 then some (.tup (List.replicate k.toNat ds).flatten, st) else none
  | _, _ => none, fun w H st x y d e z st' G rx ry h Q q => by
  cases d with
  | tup ds =>
    cases e with
    | int k =>
      have h : (if ds ≠ [] ∧ 0 ≤ k ∧ k ≤ 1000 ∧ ds.length ≤ 1000 then some (D.tup (List.replicate k.toNat ds).flatten, st) else none) = some (z, st') := h
      split at h
      · rename_i hc
        cases h
        cases ry
        cases rx with
        | tup hs rr =>
          rename_i a xs
          refine ⟨a, k, xs, rfl, rfl, sqT_mono G.sub hs, fun e => ?_, hc.2.1, hc.2.2.1, by rw [rr.length]; exact hc.2.2.2, fun hk => ?_, fun hk p hp => ?_⟩
          · subst e
            cases rr
            exact hc.1 rfl
          · refine q _ H w (Ext.refl _ _) G (.tup hs ?_)
            subst hk
            show Reps K w xs (List.replicate 1 ds).flatten
            simpa using rr
          · exact q _ _ _ (Ext.lay G hp) (G.lay hp) (.tup (.inl (.inl upd_same)) ((rr.rep _).mono (LeW.lay (G.free hp))))
      · cases h
    | _ => cases h
  | _ => cases h⟩
def oPowW : P2 K := .I CPowW (fun i j => .int (i ^ j.toNat)) (fun i j => .int (i ^ j.toNat)) fun _ _ _ => .int
def Ex.revT (a : Ex K) : Ex K := ⟨tRevT K a.den, fun ρ st => (a.ev ρ st).bind fun p => match p.1 with
  | .tup ds => some (.tup ds.reverse, p.2)
  | _ => none, fun σ H w ρ st E G d st' h Q q => by
  obtain ⟨⟨x, s1⟩, e1, h⟩ := Option.bind_eq_some_iff.mp h
  cases x with
  | tup ds =>
    cases h
    refine a.ok σ H w ρ st E G _ _ e1 _ fun v H1 w1 E1 G1 r1 => ?_
    cases r1 with
    | tup hs rr => exact ⟨_, _, rfl, sqT_mono G1.sub hs, fun p hp => q _ _ _ (E1.trans (Ext.lay G1 hp)) (G1.lay hp) (.tup (.inl (.inl upd_same)) (rr.reverse.mono (LeW.lay (G1.free hp))))⟩
  | _ => cases h⟩
/-! data that repr and == know -/
mutual
def D.py : D → Option PyData
  | .non => some .none
  | .bl b => some (.bool b)
  | .int i => some (.int i)
  | .str x => some (.str x)
  | .tup ds => (D.pys ds).map .tuple
  | .lst ds => (D.pys ds).map .list
  | _ => none
def D.pys : List D → Option (List PyData)
  | [] => some []
  | d :: ds => (D.py d).bind fun p => (D.pys ds).map (p :: ·)
end
mutual
theorem Rep.dp {w : Wd} {H : Hp} (hs : ∀ a o, w.Hf a = some o → H a = some o) : ∀ {v : V} {d : D} {p : PyData}, Rep K w v d → d.py = some p → Dp K H v p
  | _, _, p, .non, e => by unfold D.py at e; cases e; exact .non
  | _, _, p, .bl, e => by unfold D.py at e; cases e; exact .bl _
  | _, _, p, .int, e => by unfold D.py at e; cases e; exact .int _
  | _, _, p, .str, e => by unfold D.py at e; cases e; exact .str _
  | _, _, p, .ty, e => by unfold D.py at e; cases e
  | _, _, p, .tup h r, e => by
    unfold D.py at e
    obtain ⟨ps, e1, rfl⟩ := Option.map_eq_some_iff.mp e
    exact .tup (sqT_mono hs h) (Reps.dp hs r e1)
  | _, _, p, .lst h r, e => by
    unfold D.py at e
    obtain ⟨ps, e1, rfl⟩ := Option.map_eq_some_iff.mp e
    exact .lst (sqL_mono hs h) (Reps.dp hs r e1)
  | _, _, p, .obj .., e => by unfold D.py at e; cases e
  | _, _, p, .cel .., e => by unfold D.py at e; cases e
theorem Reps.dp {w : Wd} {H : Hp} (hs : ∀ a o, w.Hf a = some o → H a = some o) : ∀ {vs : List V} {ds : List D} {ps : List PyData}, Reps K w vs ds → D.pys ds = some ps → DpAll K H vs ps
  | _, _, ps, .nil, e => by unfold D.pys at e; cases e; exact .nil
  | _, _, ps, .cons h r, e => by
    unfold D.pys at e
    obtain ⟨p, e1, e⟩ := Option.bind_eq_some_iff.mp e
    obtain ⟨qs, e2, rfl⟩ := Option.map_eq_some_iff.mp e
    exact .cons (Rep.dp hs h e1) (Reps.dp hs r e2)
end
/-- repr of a tuple, a list -/
def reprD : D → Store → Option D := fun d _ => match d with
  | .tup ds => (D.pys ds).bind fun ps => if (PyData.tuple ps).showable = true ∧ (PyData.tuple ps).hasDict = false ∧ (PyData.tuple ps).depth ≤ 60 ∧ (PyData.tuple ps).shown.length ≤ sizeLine then some (.str (PyData.tuple ps).shown) else none
  | _ => none
def oRepr : Pn K := ⟨rRepr K, one1 reprD, fun w H st xs ds z G r h Q q => by
  cases r with
  | nil => cases h
  | cons r1 r =>
    cases r with
    | cons => cases h
    | nil =>
      rename_i x d
      have h : reprD d st = some z := h
      cases d with
      | tup es =>
        obtain ⟨ps, e1, h⟩ := Option.bind_eq_some_iff.mp (show ((D.pys es).bind fun ps => if (PyData.tuple ps).showable = true ∧ (PyData.tuple ps).hasDict = false ∧ (PyData.tuple ps).depth ≤ 60 ∧ (PyData.tuple ps).shown.length ≤ sizeLine then some (D.str (PyData.tuple ps).shown) else none) = some z from h)
        split at h
        · rename_i hc
          cases h
          have hd : Dp K H x (.tuple ps) := r1.dp G.sub (by unfold D.py; rw [e1]; rfl)
          cases r1 with
          | tup hs rr => exact ⟨_, _, rfl, ⟨_, rfl⟩, hd, hc.1, hc.2.1, hc.2.2.1, hc.2.2.2, q _ .str⟩
        · cases h
      | _ => cases h⟩
end
end MP

set_option Elab.async false
set_option linter.all false
set_option maxRecDepth 100000
set_option autoImplicit false
namespace MP
open PySem L2 RM
/-- a def that stands: called by x, its level, what it gives; dvs: the defaults that fill up -/
structure Cal (P : Program) (w : World) (K : PySem.W.Frag) (mg : Str → Option Value) (base : Heap) (x : Str) (k : Nat) (ps : List Str) (dvs : List V) (f : List D → Store → Option (D × Store)) : Prop where
  ex : ∃ (a : Addr) (fd : FuncData) (ds : List Value), mg x = some (.ref a) ∧ PySem.W.keepIn K (.ref a) = true ∧ Binds K fd ps ds ∧ Vals dvs ds ∧ FnOk P w K mg base CX0 k a fd ps (EffSp K f)
structure CalG (P : Program) (w : World) (K : PySem.W.Frag) (mg : Str → Option Value) (base : Heap) (x : Str) (k : Nat) (ps : List Str) (dvs : List V) (f : List D → Store → Option (D × Store)) : Prop where
  ex : ∃ (a : Addr) (fd : FuncData) (ds : List Value), mg x = some (.ref a) ∧ PySem.W.keepIn K (.ref a) = true ∧ Binds K fd ps ds ∧ Vals dvs ds ∧ FnG P w K mg base CX0 k a fd ps (EffSp K f)
section
variable {X : Cx} {k : Nat} {x : Str} {ps : List Str} {dvs : List V} {f : List D → Store → Option (D × Store)} {p pos : Pos} {e : Expr} {es : List Expr} {t : TA}
theorem pe_cal (c : Cal X.prog X.w X.K X.mg X.base x k ps dvs f) (hr : Room k X.A) (hg : Gl X x) (ha : PA X (e :: es) t) (hdb : (x == ("__debug__" : Str)) = false := by decide)
    (he : starEach (e :: es) X.env = (false, eval e X.env) :: starEach es X.env := by rfl) (hpl : (backTo pos (starEach es X.env)).any (·.1) = false := by rfl) : PE X (.Call (.Name x p) (e :: es) [] pos) (tCall (EffSp X.K f) dvs E0 t) := by
  obtain ⟨a, fd, ds, h1, h2, h3, h4, h5⟩ := c.ex
  exact pe_call h5 hr hg h1 h2 h3 h4 pass0 ha hdb he hpl
theorem pe_calG (c : CalG X.prog X.w X.K X.mg X.base x k ps dvs f) (hgd : X.A.guards = some []) (hr : Room k X.A) (hg : Gl X x) (ha : PA X (e :: es) t) (hdb : (x == ("__debug__" : Str)) = false := by decide)
    (he : starEach (e :: es) X.env = (false, eval e X.env) :: starEach es X.env := by rfl) (hpl : (backTo pos (starEach es X.env)).any (·.1) = false := by rfl) : PE X (.Call (.Name x p) (e :: es) [] pos) (tCall (EffSp X.K f) dvs E0 t) := by
  obtain ⟨a, fd, ds, h1, h2, h3, h4, h5⟩ := c.ex
  exact pe_callG h5 hgd hr hg h1 h2 h3 h4 pass0 ha hdb he hpl
end
theorem vsOk {K : PySem.W.Frag} {tg : Tg K} {vs : List Nat} (h : (tg.vars.all fun i => vs.contains i) = true) : ∀ i ∈ tg.vars, i ∈ vs := fun i hi => by
  simpa using List.all_eq_true.mp h i hi
/-- laps of a while that counts the int in a slot down -/
def fuelAt (i : Nat) (ρ : Env) : Nat := match ρ[i]? with
  | some (.d (.int j)) => j.natAbs + 1
  | _ => 0
theorem guards_deeper {A : Around} {env : PySem.Env} (h : A.guards = some []) : (A.deeper env).guards = some [] := h
theorem bb_len : bootBuiltins "len" = some (.builtin "len") := by decide +kernel
theorem bb_abs : bootBuiltins "abs" = some (.builtin "abs") := by decide +kernel
theorem bb_max : bootBuiltins "max" = some (.builtin "max") := by decide +kernel
theorem bb_min : bootBuiltins "min" = some (.builtin "min") := by decide +kernel
theorem bb_isinstance : bootBuiltins "isinstance" = some (.builtin "isinstance") := by decide +kernel
theorem bb_all : bootBuiltins "all" = some (.builtin "all") := by decide +kernel
theorem bb_repr : bootBuiltins "repr" = some (.builtin "repr") := by decide +kernel
theorem bb_int : bootBuiltins "int" = some (.type "int") := by decide +kernel
theorem bb_bool : bootBuiltins "bool" = some (.type "bool") := by decide +kernel
theorem bb_tuple : bootBuiltins "tuple" = some (.type "tuple") := by decide +kernel
theorem bb_list : bootBuiltins "list" = some (.type "list") := by decide +kernel
theorem bb_str : bootBuiltins "str" = some (.type "str") := by decide +kernel
end MP

set_option Elab.async false
set_option linter.all false
set_option maxRecDepth 100000
set_option autoImplicit false
/-! the rules again, over the terms of MP -/
namespace MP
open PySem PySem.Spec L2 RM
section
variable {X : Cx} {pos p : Pos} {e a b c : Expr} {es : List Expr} {x y : Str}
/-! expressions -/
theorem d_var (i : Nat) (hN : X.N[i]? = some x := by rfl) (hv : Vis X.env.scope x := by first | exact Or.inl rfl | exact Or.inr (Or.inl rfl) | exact Or.inr (Or.inr rfl)) (hd : (x == ("__debug__" : Str)) = false := by decide)
    (hcd : (x == ("__classdict__" : Str)) = false := by decide) : PE X (.Name x pos) (Ex.var (K := X.K) i).den := pe_var hN hv hd hcd
theorem d_int {i : Int} {j} : PE X (.Constant (.int i) j pos) (Ex.int (K := X.K) i).den := pe_int
theorem d_bl {i : Bool} {j} : PE X (.Constant (.bool i) j pos) (Ex.bl (K := X.K) i).den := pe_bl
theorem d_non {j} : PE X (.Constant .none j pos) (Ex.non (K := X.K)).den := pe_non
theorem d_str {i : Str} {j} : PE X (.Constant (.str i) j pos) (Ex.str (K := X.K) i).den := pe_str
theorem d_glob {v : V} {d : D} {h : ∀ w, Rep X.K w v d} {u : Value} (hg : Gl X x) (hm : X.mg x = some u) (r : RelV v u) (hd : (x == ("__debug__" : Str)) = false := by decide) : PE X (.Name x pos) (Ex.cst v d h).den := pe_glob hg hm r hd
theorem d_gint {i : Int} {t : Tok} (hg : Gl X x) (hm : X.mg x = some (.int i t)) (hd : (x == ("__debug__" : Str)) = false := by decide) : PE X (.Name x pos) (Ex.int (K := X.K) i).den := pe_glob hg hm ⟨t, rfl⟩ hd
theorem d_gstr {i : Str} {t : Tok} (hg : Gl X x) (hm : X.mg x = some (.str i t)) (hd : (x == ("__debug__" : Str)) = false := by decide) : PE X (.Name x pos) (Ex.str (K := X.K) i).den := pe_glob hg hm ⟨t, rfl⟩ hd
theorem d_ty {n : String} (hg : Gl X x) (hm : X.mg x = none) (hv : bootBuiltins x = some (.type n)) (hn : x ≠ "__name__" := by decide) (hd : (x == ("__debug__" : Str)) = false := by decide) : PE X (.Name x pos) (Ex.ty (K := X.K) n).den := pe_bltn (v := .ty n) hg hm hv rfl hn hd
theorem d_nil : PA X [] (Ar.nil (K := X.K)).den := pa_nil
theorem d_cons {A : Ex X.K} {R : Ar X.K} (ha : PE X e A.den) (hr : PA X es R.den) (hs : starEach (e :: es) X.env = (false, eval e X.env) :: starEach es X.env := by rfl) : PA X (e :: es) (Ar.cons A R).den := pa_cons ha hr hs
theorem d_op1 {op : UnaryOp} {o : P1 X.K} {A : Ex X.K} (ho : UnR X (unaryOp op) o.r) (ha : PE X a A.den) : PE X (.UnaryOp op a pos) (Ex.op1 o A).den := pe_un (r := o.r) (ta := A.den) ho ha
theorem d_op2 {op : Operator} {o : P2 X.K} {A B : Ex X.K} (ho : OpR X (binaryOp op) o.r) (ha : PE X a A.den) (hb : PE X b B.den) : PE X (.BinOp a op b pos) (Ex.op2 o A B).den := pe_op (r := o.r) (ta := A.den) (tb := B.den) ho ha hb
theorem d_op2x {op : Operator} {o : P2x X.K} {A B : Ex X.K} (ho : OpR X (binaryOp op) o.r) (ha : PE X a A.den) (hb : PE X b B.den) : PE X (.BinOp a op b pos) (Ex.op2x o A B).den := pe_op (r := o.r) (ta := A.den) (tb := B.den) ho ha hb
theorem d_cmp {op : CmpOp} {o : P2 X.K} {A B : Ex X.K} (ho : OpR X (compareOp op) o.r) (ha : PE X a A.den) (hb : PE X b B.den) (hm : behindInMarks op b = false) : PE X (.Compare a [op] [b] pos) (Ex.op2 o A B).den := pe_cmpR (r := o.r) (ta := A.den) (tb := B.den) ho ha hb hm
theorem d_cb {o : Pn X.K} {id : String} {R : Ar X.K} (hc : CallR X (.builtin id) o.r) (hg : Gl X x) (hm : X.mg x = none) (hv : bootBuiltins x = some (.builtin id)) (ha : PA X (e :: es) R.den) (hn : x ≠ "__name__" := by decide) (hd : (x == ("__debug__" : Str)) = false := by decide)
    (hs : starEach (e :: es) X.env = (false, eval e X.env) :: starEach es X.env := by rfl) (hpl : (backTo pos (starEach es X.env)).any (·.1) = false := by rfl) : PE X (.Call (.Name x p) (e :: es) [] pos) (Ex.cb o R).den := pe_callB (r := o.r) hc hg hm hv ha hn hd hs hpl
theorem d_cty {o : Pn X.K} {T : String} {R : Ar X.K} (hc : CallR X (.type T) o.r) (hg : Gl X x) (hm : X.mg x = none) (hv : bootBuiltins x = some (.type T)) (ha : PA X (e :: es) R.den) (hn : x ≠ "__name__" := by decide) (hd : (x == ("__debug__" : Str)) = false := by decide)
    (hs : starEach (e :: es) X.env = (false, eval e X.env) :: starEach es X.env := by rfl) (hpl : (backTo pos (starEach es X.env)).any (·.1) = false := by rfl) : PE X (.Call (.Name x p) (e :: es) [] pos) (Ex.cb o R).den := pe_callTy (r := o.r) hc hg hm hv ha hn hd hs hpl
theorem d_ctyx {o : Pr X.K} {T : String} {R : Ar X.K} (hc : CallR X (.type T) o.r) (hg : Gl X x) (hm : X.mg x = none) (hv : bootBuiltins x = some (.type T)) (ha : PA X (e :: es) R.den) (hn : x ≠ "__name__" := by decide) (hd : (x == ("__debug__" : Str)) = false := by decide)
    (hs : starEach (e :: es) X.env = (false, eval e X.env) :: starEach es X.env := by rfl) (hpl : (backTo pos (starEach es X.env)).any (·.1) = false := by rfl) : PE X (.Call (.Name x p) (e :: es) [] pos) (Ex.cbx o R).den := pe_callTy (r := o.r) hc hg hm hv ha hn hd hs hpl
theorem d_call {k : Nat} {ps : List Str} {dvs : List V} {dds : List D} {hd0 : ∀ w, Reps X.K w dvs dds} {f : List D → Store → Option (D × Store)} {R : Ar X.K} (c : Cal X.prog X.w X.K X.mg X.base x k ps dvs f) (hr : Room k X.A) (hg : Gl X x) (ha : PA X (e :: es) R.den) (hdb : (x == ("__debug__" : Str)) = false := by decide)
    (he : starEach (e :: es) X.env = (false, eval e X.env) :: starEach es X.env := by rfl) (hpl : (backTo pos (starEach es X.env)).any (·.1) = false := by rfl) : PE X (.Call (.Name x p) (e :: es) [] pos) (Ex.call f dvs dds hd0 R).den := pe_cal c hr hg ha hdb he hpl
theorem d_callG {k : Nat} {ps : List Str} {dvs : List V} {dds : List D} {hd0 : ∀ w, Reps X.K w dvs dds} {f : List D → Store → Option (D × Store)} {R : Ar X.K} (c : CalG X.prog X.w X.K X.mg X.base x k ps dvs f) (hgd : X.A.guards = some []) (hr : Room k X.A) (hg : Gl X x) (ha : PA X (e :: es) R.den) (hdb : (x == ("__debug__" : Str)) = false := by decide)
    (he : starEach (e :: es) X.env = (false, eval e X.env) :: starEach es X.env := by rfl) (hpl : (backTo pos (starEach es X.env)).any (·.1) = false := by rfl) : PE X (.Call (.Name x p) (e :: es) [] pos) (Ex.call f dvs dds hd0 R).den := pe_calG c hgd hr hg ha hdb he hpl
theorem d_andV {A B : Ex X.K} {rest : List Expr} (ha : PE X a A.den) (hb : PE X (.BoolOp .And (b :: rest) pos) B.den) : PE X (.BoolOp .And (a :: b :: rest) pos) (Ex.andV A B).den := pe_and ha hb
theorem d_orV {A B : Ex X.K} {rest : List Expr} (ha : PE X a A.den) (hb : PE X (.BoolOp .Or (b :: rest) pos) B.den) : PE X (.BoolOp .Or (a :: b :: rest) pos) (Ex.orV A B).den := pe_or ha hb
theorem d_one {op : BoolOp} {A : Ex X.K} (ha : PE X a A.den) : PE X (.BoolOp op [a] pos) A.den := pe_one ha
theorem d_notV {A : Ex X.K} (ha : PE X a A.den) : PE X (.UnaryOp .Not a pos) (Ex.notV A).den := pe_not ha
theorem d_ifE {T : Tx X.K} {A B : Ex X.K} (hc : PT X c T.den) (ha : PE X a A.den) (hb : PE X b B.den) : PE X (.IfExp c a b pos) (Ex.ite T A B).den := pe_ifExp hc ha hb
theorem d_tup {R : Ar X.K} {k} (h : PA X es R.den) : PE X (.Tuple es k pos) (Ex.tup R).den := pe_tup h
theorem d_ofF {F : Fx X.K} (h : PE X e F.den) : PE X e (Ex.ofF F).den := h
theorem d_alloc {F : Fx X.K} (h : PE X e F.den) : PE X e (Ex.alloc F).den := h
theorem d_lst {R : Ar X.K} (h : PA X es R.den) : PE X (.List es pos) (Fx.lst R).den := pe_lst h
theorem d_ix {A B : Ex X.K} (ha : PE X a A.den) (hb : PE X b B.den) (hs : PlainIx b) : PE X (.Subscript a b pos) (Ex.op2 oIx A B).den := pe_ix (r := rIx X.K) ix_seq ha hb hs
theorem d_sliceT {lo hi : Option Expr} {p2 : Pos} {A : Ex X.K} {L U : Po X.K} (ha : PE X a A.den) (hl : PO X lo L.den) (hu : PO X hi U.den) : PE X (.Subscript a (.Slice lo hi none p2) pos) (Ex.sliceT A L U).den := pe_slice sl_tupA ha hl hu
theorem d_pno : PO X none (Po.no (K := X.K)).den := po_none
theorem d_psome {A : Ex X.K} (h : PE X e A.den) : PO X (some e) (Po.some A).den := po_some h
theorem d_revT {A : Ex X.K} {k : Nat} {p1 p2 p3 : Pos} (h : PE X e A.den) : PE X (.Subscript e (.Slice none none (some (.UnaryOp .USub (.Constant (.int 1) k p1) p2)) p3) pos) (Ex.revT A).den := pe_revT h
theorem d_listRange {A : Ex X.K} {p1 p2 pos2 : Pos} (hc : X.calm = true) (hg : Gl X "list") (hm : X.mg "list" = none) (hg2 : Gl X "range") (hm2 : X.mg "range" = none) (h : PE X a A.den) (na : starEach [a] X.env = (false, eval a X.env) :: starEach [] X.env := by rfl)
    (na2 : starEach [.Call (.Name "range" p2) [a] [] pos2] X.env = (false, eval (.Call (.Name "range" p2) [a] [] pos2) X.env) :: starEach [] X.env := by rfl) : PE X (.Call (.Name "list" p1) [.Call (.Name "range" p2) [a] [] pos2] [] pos) (Fx.listRange A).den := pe_listRg hc hg hm (prg_1 hg2 hm2 h na) na2
/-! tests -/
theorem d_val {A : Ex X.K} (h : PE X e A.den) (he : ∀ whole, isTrue e X.env whole = (do let v ← whole; standAt e.pos; holding [v] (truthy v)) := by intro _; rfl) : PT X e (Tx.val A).den := pt_val h he
theorem d_valC {op : CmpOp} {o : P2 X.K} {A B : Ex X.K} (ho : OpR X (compareOp op) o.r) (ha : PE X a A.den) (hb : PE X b B.den) (hm : behindInMarks op b = false) : PT X (.Compare a [op] [b] pos) (Tx.val (Ex.op2 o A B)).den := pt_cmpR (r := o.r) (ta := A.den) (tb := B.den) ho ha hb hm
theorem d_not {T : Tx X.K} (h : PT X a T.den) : PT X (.UnaryOp .Not a pos) (Tx.not T).den := pt_not h
theorem d_pw {T : Tx X.K} (h : PW X e T.den) : PT X e T.den := h.pt
theorem d_and1 {T : Tx X.K} (h : PT X a T.den) : PW X (.BoolOp .And [a] pos) T.den := pw_and1 h
theorem d_or1 {T : Tx X.K} (h : PT X a T.den) : PW X (.BoolOp .Or [a] pos) T.den := pw_or1 h
theorem d_and {T U : Tx X.K} {rest : List Expr} (ha : PT X a T.den) (hb : PW X (.BoolOp .And (b :: rest) pos) U.den) : PW X (.BoolOp .And (a :: b :: rest) pos) (Tx.and T U).den := pw_and ha hb
theorem d_or {T U : Tx X.K} {rest : List Expr} (ha : PT X a T.den) (hb : PW X (.BoolOp .Or (b :: rest) pos) U.den) : PW X (.BoolOp .Or (a :: b :: rest) pos) (Tx.or T U).den := pw_or ha hb
/-! targets, walks -/
theorem d_name {i : Nat} (hN : X.N.Nodup) (hi : X.N[i]? = some x) (hx : Loc X.env.scope x) (hf : X.fn x = true ∨ X.env.scope.names.lookup x = some .local := by first | exact .inl rfl | exact .inr rfl | assumption) : PG X (.Name x pos) (Tg.name (K := X.K) i).g := pg_name hN hi hx hf
theorem d_gnil : PGs X [] (Tgs.nil (K := X.K)).g := pgs_nil
theorem d_gcons {T : Tg X.K} {U : Tgs X.K} (h1 : PG X e T.g) (h2 : PGs X es U.g) (hs : (assignEach (e :: es) X.env).map (·.2) = assign e X.env :: (assignEach es X.env).map (·.2) := by rfl) : PGs X (e :: es) (Tgs.cons T U).g := pgs_cons h1 h2 hs
theorem d_gtup {U : Tgs X.K} {k n : Nat} (hc : X.calm = true) (h : PGs X es U.g) (hn : (assignEach es X.env).length = n := by rfl) (hst : (assignEach es X.env).findIdx? (·.1) = none := by rfl) : PG X (.Tuple es k pos) (Tg.tup n U).g := pg_tup hc h hn hst
theorem d_seqI {A : Ex X.K} {tg : Expr} (h : PE X e A.den) : PI X tg e (Itb.seq A).wi := pi_seq h
theorem d_rng1 {A : Ex X.K} {tg : Expr} (hg : Gl X "range") (hm : X.mg "range" = none) (h : PE X a A.den) (hs : starEach [a] X.env = [(false, eval a X.env)] := by rfl) : PI X tg (.Call (.Name "range" p) [a] [] pos) (Itb.range1 A).wi := pi_range1 hg hm (pa_cons h pa_nil hs) hs
theorem d_zip {A B : Ex X.K} {elts : List Expr} {kk : Nat} {tpos : Pos} (hg : Gl X "zip") (hm : X.mg "zip" = none) (ha : PE X a A.den) (hb : PE X b B.den)
    (hs : starEach [a, b] X.env = (false, eval a X.env) :: starEach [b] X.env := by rfl) (hs2 : starEach [b] X.env = (false, eval b X.env) :: starEach [] X.env := by rfl) (hpl : (backTo pos (starEach [b] X.env)).any (·.1) = false := by rfl) :
    PI X (.Tuple elts kk tpos) (.Call (.Name "zip" p) [a, b] [] pos) (Itb.zipT A B).wi := RZ.pi_zipA hg hm (pa_cons ha (pa_cons hb pa_nil hs2) hs) hs hpl
theorem d_tyes : PTs X [] (Tx.yes (K := X.K)).den := pts_nil
theorem d_tone {T : Tx X.K} (h : PT X c T.den) : PTs X [c] T.den := pts_one h
theorem d_comp {I : Itb X.K} {G : Tg X.K} {T : Tx X.K} {A : Ex X.K} {vs : List Nat} {hv : ∀ i ∈ G.vars, i ∈ vs} {elt tg iter : Expr} {ifs : List Expr} {scope : Scope} (own : List (Str × Nat)) (ho : own.map (·.2) = vs) (hc : X.calm = true) (hN : X.N.Nodup) (hi : PI X tg iter I.wi) (ok : BlkOk X.N X.env.scope scope own)
    (hg : ∀ (s : Shared) (H : Hp) (C : Addr) (cl : List (Str × Addr)) (fp : List Addr), PG (X.blk s H scope (compEnvC scope cl C X.env) fp) tg G.g) (ht : ∀ (s : Shared) (H : Hp) (C : Addr) (cl : List (Str × Addr)) (fp : List Addr), PTs (X.blk s H scope (compEnvC scope cl C X.env) fp) ifs T.den)
    (he : ∀ (s : Shared) (H : Hp) (C : Addr) (cl : List (Str × Addr)) (fp : List Addr), PE (X.blk s H scope (compEnvC scope cl C X.env) fp) elt A.den) (hs : ∀ x, foldedSetIterable iter X.env x = pure x := by intro _; rfl) :
    PE X (.ListComp elt [⟨tg, iter, ifs, 0⟩] scope pos) (Fx.comp I G T A vs hv).den := by
  subst ho
  exact pe_lc hc hN hi ok hg ht he hs
end
section
variable {X : Cx} {pos p : Pos} {e a b c tg iter : Expr} {es : List Expr} {x y : Str} {st : Stmt} {rest body orelse : List Stmt}
/-! statements -/
theorem d_skip : PSs X [] (Sx.skip (K := X.K)).den := pss_nil
theorem d_seq {A B : Sx X.K} (h1 : PS X st A.den) (h2 : PSs X rest B.den) : PSs X (st :: rest) (Sx.seq A B).den := pss_cons (t := A.den) (u := B.den) h1 h2
theorem d_last {A : Sx X.K} (h : PS X st A.den) : PSs X [st] A.den := pss_one h
theorem d_set {A : Ex X.K} {i : Nat} {pos' : Pos} (hN : X.N.Nodup) (hi : X.N[i]? = some x) (hx : Loc X.env.scope x) (he : PE X e A.den) (hs : swapsWith e (some (.Name x pos')) pos.line X.env = pure false := by rfl) (hf : X.fn x = true ∨ X.env.scope.names.lookup x = some .local := by first | exact .inl rfl | exact .inr rfl | assumption) :
    PS X (.Assign [.Name x pos'] e pos) (Sx.set i A).den := ps_set hN hi hx he hs hf
theorem d_setF {A : Fx X.K} {i : Nat} {pos' : Pos} (hN : X.N.Nodup) (hi : X.N[i]? = some x) (hx : Loc X.env.scope x) (he : PE X e A.den) (hs : swapsWith e (some (.Name x pos')) pos.line X.env = pure false := by rfl) (hf : X.fn x = true ∨ X.env.scope.names.lookup x = some .local := by first | exact .inl rfl | exact .inr rfl | assumption) :
    PS X (.Assign [.Name x pos'] e pos) (Sx.setF i A).den := ps_set hN hi hx he hs hf
theorem d_setC {I : Itb X.K} {G : Tg X.K} {T : Tx X.K} {A : Ex X.K} {vs : List Nat} {hv : ∀ i ∈ G.vars, i ∈ vs} {elt : Expr} {ifs : List Expr} {scope : Scope} {i : Nat} {py spos : Pos} (own : List (Str × Nat)) (ho : own.map (·.2) = vs) (hc : X.calm = true) (hN : X.N.Nodup) (hy : X.N[i]? = some y) (hyl : X.env.scope.names.lookup y = some .local)
    (hsw : swapsWith (.ListComp elt [⟨tg, iter, ifs, 0⟩] scope pos) (some (.Name y py)) spos.line X.env = pure true) (hi : PI X tg iter I.wi) (ok : BlkOk X.N X.env.scope scope own)
    (hg : ∀ (s : Shared) (H : Hp) (C : Addr) (cl : List (Str × Addr)) (fp : List Addr), PG (X.blk s H scope (compEnvC scope cl C X.env) fp) tg G.g) (ht : ∀ (s : Shared) (H : Hp) (C : Addr) (cl : List (Str × Addr)) (fp : List Addr), PTs (X.blk s H scope (compEnvC scope cl C X.env) fp) ifs T.den)
    (he : ∀ (s : Shared) (H : Hp) (C : Addr) (cl : List (Str × Addr)) (fp : List Addr), PE (X.blk s H scope (compEnvC scope cl C X.env) fp) elt A.den) (hs : ∀ x, foldedSetIterable iter X.env x = pure x := by intro _; rfl) :
    PS X (.Assign [.Name y py] (.ListComp elt [⟨tg, iter, ifs, 0⟩] scope pos) spos) (Sx.set i (.ofF (Fx.comp I G T A vs hv))).den := by
  subst ho
  exact ps_setLc hc hN hy hyl hsw hi ok hg ht he hs
theorem d_asg {A : Ex X.K} {G : Tg X.K} (he : PE X e A.den) (hg : PG X tg G.g) (hs : swapsWithSole [tg] e pos.line X.env = pure false := by rfl) (hw : swappedStores [tg] e X.env = pure none := by rfl)
    (h1 : (assignEach [tg] X.env).map (·.2) = [assign tg X.env] := by rfl) : PS X (.Assign [tg] e pos) (Sx.asg A G).den := ps_asg he hg hs hw h1
theorem d_par {A B : Ex X.K} {i j : Nat} {px py pt : Pos} {kt k2 pt2} (hc : X.calm = true) (hN : X.N.Nodup) (hi : X.N[i]? = some x) (hj : X.N[j]? = some y) (hij : i ≠ j) (hx : X.env.scope.names.lookup x = some .local) (hy : X.env.scope.names.lookup y = some .local) (ha : PE X a A.den) (hb : PE X b B.den)
    (hw : swappedStores [.Tuple [.Name x px, .Name y py] kt pt] (.Tuple [a, b] k2 pt2) X.env = pure (some [x, y])) (hs : swapsWithSole [.Tuple [.Name x px, .Name y py] kt pt] (.Tuple [a, b] k2 pt2) pos.line X.env = pure false := by rfl)
    (s1 : starEach [a, b] X.env = (false, eval a X.env) :: starEach [b] X.env := by rfl) (s2 : starEach [b] X.env = (false, eval b X.env) :: starEach [] X.env := by rfl) :
    PS X (.Assign [.Tuple [.Name x px, .Name y py] kt pt] (.Tuple [a, b] k2 pt2) pos) (Sx.par i j A B).den := ps_par hc hN hi hj hij hx hy (pa_cons ha (pa_cons hb pa_nil s2) s1) hw hs
theorem d_ret {A : Ex X.K} (h : PE X e A.den) : PS X (.Return (some e) pos) (Sx.ret A).den := ps_ret h
theorem d_retN : PS X (.Return none pos) (Sx.retN (K := X.K)).den := ps_retN
theorem d_never : PS X st (Sx.never (K := X.K)).den := ps_never
theorem d_if {T : Tx X.K} {A B : Sx X.K} (hc : PT X c T.den) (h1 : PSs X body A.den) (h2 : PSs X orelse B.den) : PS X (.If c body orelse pos) (Sx.ite T A B).den := ps_if hc h1 h2
theorem d_while {T : Tx X.K} {A : Sx X.K} {fuel : Env → Nat} (hp : PassesOwn (model X.prog X.w) X.A X.env X.xe) (hc : PT X c T.den) (hb : PSs X body A.den) : PS X (.While c body [] pos) (Sx.whil fuel T A).den := ps_while hp hc hb
theorem d_for {I : Itb X.K} {G : Tg X.K} {A : Sx X.K} (hp : PassesOwn (model X.prog X.w) X.A X.env X.xe) (hc : X.calm = true) (hi : PI X tg iter I.wi) (hg : PG X tg G.g) (hb : PSs X body A.den) (hs : ∀ x, foldedSetIterable iter X.env x = pure x := by intro _; rfl) :
    PS X (.For tg iter body [] pos) (Sx.for I G A).den := ps_for hp hc hi hg hb hs
theorem d_drop {A : Ex X.K} (he : PE X e A.den) (hs : swapsWith e none pos.line X.env = pure false := by rfl) : PS X (.Expr e pos) (Sx.drop A).den := ps_expr he hs
theorem d_frz {A : Sx X.K} {i : Nat} (h : PS X st A.den) : PS X st (Sx.frz i A).den := h
theorem d_app {A : Ex X.K} {i : Nat} {o : Expr} {apos cpos : Pos} (ho : PE X o (tVar i)) (ha : PE X e A.den) (hbase : attributeBase o "append" X.env (eval o X.env) = eval o X.env := by rfl) (hline : (apos.endLine == cpos.line) = true := by rfl)
    (hs : starEach [e] X.env = (false, eval e X.env) :: starEach [] X.env := by rfl) (hfew : (((backTo cpos (starEach [e] X.env)).all fun z => !z.1) && ((backToKw cpos (keywordEach [] X.env)).all fun z => z.1.isSome) && decide ([e].length + ([] : List Keyword).length + (if ([] : List Keyword).isEmpty = true then 0 else 1) < 30)) = true := by rfl)
    (hw : swapsWith (.Call (.Attribute o "append" apos) [e] [] cpos) none pos.line X.env = pure false := by rfl) :
    PS X (.Expr (.Call (.Attribute o "append" apos) [e] [] cpos) pos) (Sx.app i A).den :=
  ps_expr (pe_bm PySem.F.plainAttrs_list PySem.F.slot_list_append PySem.F.type_list_append mt_append ho (pa_cons ha pa_nil hs) (hbase := hbase) (hfew := hfew) (hline := hline) (hs := hs)) hw
theorem d_putIx {O I A : Ex X.K} {o i : Expr} {sp : Pos} (he : PE X e A.den) (h2 : PG X (.Subscript o i sp) (gSub O.den I.den rSetL)) (hs : swapsWithSole [.Subscript o i sp] e pos.line X.env = pure false := by rfl) (hw : swappedStores [.Subscript o i sp] e X.env = pure none := by rfl)
    (h1 : (assignEach [.Subscript o i sp] X.env).map (·.2) = [assign (.Subscript o i sp) X.env] := by rfl) : PS X (.Assign [.Subscript o i sp] e pos) (Sx.putIx O I A).den := ps_asg he h2 hs hw h1
end
end MP

set_option Elab.async false
set_option linter.all false
set_option maxRecDepth 100000
set_option autoImplicit false
/-! what the terms give, for simp -/
namespace MP
open PySem L2 RM
def RngOk (j : Int) : Prop := -(2 ^ 62) ≤ j ∧ j < 2 ^ 62
instance (j : Int) : Decidable (RngOk j) := inferInstanceAs (Decidable (_ ∧ _))
theorem rngOk_of {j : Int} (h0 : 0 ≤ j) (h1 : j ≤ 1000000000) : RngOk j := ⟨by omega, by omega⟩
def andK (d : D) (s : Store) (k : Option (D × Store)) : Option (D × Store) := match d with | .bl true => k | .bl false => some (.bl false, s) | _ => none
def orK (d : D) (s : Store) (k : Option (D × Store)) : Option (D × Store) := match d with | .bl true => some (.bl true, s) | .bl false => k | _ => none
@[simp] theorem andK_bl {b : Bool} {s : Store} {k : Option (D × Store)} : andK (.bl b) s k = if b then k else some (.bl false, s) := by cases b <;> rfl
@[simp] theorem orK_bl {b : Bool} {s : Store} {k : Option (D × Store)} : orK (.bl b) s k = if b then some (.bl true, s) else k := by cases b <;> rfl
section
variable {K : PySem.W.Frag} {ρ : Env} {st : Store}
@[simp] theorem e_var {i : Nat} : (Ex.var (K := K) i).ev ρ st = evVar i ρ st := rfl
@[simp] theorem e_cst {v : V} {d : D} {h : ∀ w, Rep K w v d} : (Ex.cst v d h).ev ρ st = some (d, st) := rfl
@[simp] theorem e_int {i : Int} : (Ex.int (K := K) i).ev ρ st = some (.int i, st) := rfl
@[simp] theorem e_str {i : Str} : (Ex.str (K := K) i).ev ρ st = some (.str i, st) := rfl
@[simp] theorem e_bl {i : Bool} : (Ex.bl (K := K) i).ev ρ st = some (.bl i, st) := rfl
@[simp] theorem e_non : (Ex.non (K := K)).ev ρ st = some (.non, st) := rfl
@[simp] theorem e_ty {n : String} : (Ex.ty (K := K) n).ev ρ st = some (.ty n, st) := rfl
@[simp] theorem e_nil : (Ar.nil (K := K)).ev ρ st = some ([], st) := rfl
@[simp] theorem e_cons {a : Ex K} {r : Ar K} : (Ar.cons a r).ev ρ st = (a.ev ρ st).bind fun p => (r.ev ρ p.2).bind fun q => some (p.1 :: q.1, q.2) := rfl
@[simp] theorem e_l1 {a : Ex K} : (Ar.l1 a).ev ρ st = (Ar.cons a .nil).ev ρ st := rfl
@[simp] theorem e_l2 {a b : Ex K} : (Ar.l2 a b).ev ρ st = (Ar.cons a (.cons b .nil)).ev ρ st := rfl
@[simp] theorem e_op1 {o : P1 K} {a : Ex K} : (Ex.op1 o a).ev ρ st = (a.ev ρ st).bind fun p => (o.f p.1 p.2).bind fun z => some (z, p.2) := rfl
@[simp] theorem e_op2 {o : P2 K} {a b : Ex K} : (Ex.op2 o a b).ev ρ st = (a.ev ρ st).bind fun p => (b.ev ρ p.2).bind fun q => (o.f p.1 q.1 q.2).bind fun z => some (z, q.2) := rfl
@[simp] theorem e_op2x {o : P2x K} {a b : Ex K} : (Ex.op2x o a b).ev ρ st = (a.ev ρ st).bind fun p => (b.ev ρ p.2).bind fun q => o.f p.1 q.1 q.2 := rfl
@[simp] theorem e_cb {o : Pn K} {a : Ar K} : (Ex.cb o a).ev ρ st = (a.ev ρ st).bind fun p => (o.f p.1 p.2).bind fun z => some (z, p.2) := rfl
@[simp] theorem e_cbx {o : Pr K} {a : Ar K} : (Ex.cbx o a).ev ρ st = (a.ev ρ st).bind fun p => o.f p.1 p.2 := rfl
@[simp] theorem e_call {f : List D → Store → Option (D × Store)} {dvs : List V} {dds : List D} {hd : ∀ w, Reps K w dvs dds} {a : Ar K} : (Ex.call f dvs dds hd a).ev ρ st = (a.ev ρ st).bind fun p => f (p.1 ++ dds) p.2 := rfl
@[simp] theorem e_andV {a b : Ex K} : (Ex.andV a b).ev ρ st = (a.ev ρ st).bind fun p => andK p.1 p.2 (b.ev ρ p.2) := rfl
@[simp] theorem e_orV {a b : Ex K} : (Ex.orV a b).ev ρ st = (a.ev ρ st).bind fun p => orK p.1 p.2 (b.ev ρ p.2) := rfl
@[simp] theorem e_notV {a : Ex K} : (Ex.notV a).ev ρ st = (a.ev ρ st).bind fun p => match p.1 with | .bl b => some (.bl (!b), p.2) | _ => none := rfl
@[simp] theorem e_ite {t : Tx K} {a b : Ex K} : (Ex.ite t a b).ev ρ st = (t.ev ρ st).bind fun p => if p.1 then a.ev ρ p.2 else b.ev ρ p.2 := rfl
@[simp] theorem e_tup {a : Ar K} : (Ex.tup a).ev ρ st = (a.ev ρ st).bind fun p => if p.1.length ≤ 100000 then some (.tup p.1, p.2) else none := rfl
@[simp] theorem e_ofF {f : Fx K} : (Ex.ofF f).ev ρ st = (f.ev ρ st).bind fun p => some (.lst p.1, p.2) := rfl
@[simp] theorem e_alloc {f : Fx K} : (Ex.alloc f).ev ρ st = (f.ev ρ st).bind fun p => some (.cel p.2.length, p.2 ++ [.lst p.1]) := rfl
@[simp] theorem e_lst {a : Ar K} : (Fx.lst a).ev ρ st = (a.ev ρ st).bind fun p => if p.1.length ≤ 100000 then some p else none := rfl
@[simp] theorem e_sliceT {a : Ex K} {lo hi : Po K} : (Ex.sliceT a lo hi).ev ρ st = (a.ev ρ st).bind fun p => (lo.ev ρ p.2).bind fun q => (hi.ev ρ q.2).bind fun r => match p.1 with | .tup ds => some (.tup (cutD ds q.1 r.1), r.2) | _ => none := rfl
@[simp] theorem e_pno : (Po.no (K := K)).ev ρ st = some (none, st) := rfl
@[simp] theorem e_psome {a : Ex K} : (Po.some a).ev ρ st = (a.ev ρ st).bind fun p => match p.1 with | .int i => some (some i, p.2) | _ => none := rfl
@[simp] theorem e_revT {a : Ex K} : (Ex.revT a).ev ρ st = (a.ev ρ st).bind fun p => match p.1 with | .tup ds => some (.tup ds.reverse, p.2) | _ => none := rfl
@[simp] theorem e_listRange {a : Ex K} : (Fx.listRange a).ev ρ st = (a.ev ρ st).bind fun p => match p.1 with | .int n => if 0 ≤ n ∧ n ≤ 100000 then some (rngD 0 n.toNat, p.2) else none | _ => none := rfl
@[simp] theorem t_val {a : Ex K} : (Tx.val a).ev ρ st = (a.ev ρ st).bind fun p => match p.1 with | .bl b => some (b, p.2) | _ => none := rfl
@[simp] theorem t_and {a b : Tx K} : (Tx.and a b).ev ρ st = (a.ev ρ st).bind fun p => if p.1 then b.ev ρ p.2 else some (false, p.2) := rfl
@[simp] theorem t_or {a b : Tx K} : (Tx.or a b).ev ρ st = (a.ev ρ st).bind fun p => if p.1 then some (true, p.2) else b.ev ρ p.2 := rfl
@[simp] theorem t_not {a : Tx K} : (Tx.not a).ev ρ st = (a.ev ρ st).bind fun p => some (!p.1, p.2) := rfl
@[simp] theorem t_yes : (Tx.yes (K := K)).ev ρ st = some (true, st) := rfl
@[simp] theorem i_seq {e : Ex K} : (Itb.seq e).ev ρ st = (e.ev ρ st).bind fun p => match p.1 with | .lst ds => some (ds, p.2) | .tup ds => some (ds, p.2) | _ => none := rfl
@[simp] theorem i_range1 {e : Ex K} : (Itb.range1 e).ev ρ st = (e.ev ρ st).bind fun p => match p.1 with | .int j => if RngOk j then some (rngD 0 j.toNat, p.2) else none | _ => none := rfl
@[simp] theorem i_zipT {a b : Ex K} : (Itb.zipT a b).ev ρ st = ((Ar.l2 a b).ev ρ st).bind fun p => match p.1 with | [.tup xs, .tup ys] => some (List.zipWith (fun x y => .tup [x, y]) xs ys, p.2) | [.lst xs, .lst ys] => some (List.zipWith (fun x y => .tup [x, y]) xs ys, p.2) | _ => none := rfl
@[simp] theorem e_comp {it : Itb K} {tg : Tg K} {tt : Tx K} {te : Ex K} {vs : List Nat} {hv : ∀ i ∈ tg.vars, i ∈ vs} : (Fx.comp it tg tt te vs hv).ev ρ st = (it.ev ρ st).bind fun p => (compGo tg.bind tt.ev te.ev (wipeE ρ vs) p.1 p.2).bind fun r => if r.1.length ≤ 100000 then some r else none := rfl
@[simp] theorem g_name {i : Nat} {x : D} : (Tg.name (K := K) i).bind x ρ = some (ρ.set i (.d x)) := rfl
@[simp] theorem g_nil : (Tgs.nil (K := K)).bind [] ρ = some ρ := rfl
@[simp] theorem g_cons {t : Tg K} {u : Tgs K} {x : D} {xs : List D} : (Tgs.cons t u).bind (x :: xs) ρ = (t.bind x ρ).bind fun ρ1 => u.bind xs ρ1 := rfl
@[simp] theorem g_tup {n : Nat} {u : Tgs K} {ds : List D} : (Tg.tup n u).bind (.tup ds) ρ = if ds.length = n then u.bind ds ρ else none := rfl
@[simp] theorem s_skip : (Sx.skip (K := K)).run ρ st = some (.nx ρ st) := rfl
@[simp] theorem s_seq {a b : Sx K} : (Sx.seq a b).run ρ st = (a.run ρ st).bind fun o => match o with | .nx ρ1 st1 => b.run ρ1 st1 | o => some o := rfl
@[simp] theorem s_asg {e : Ex K} {t : Tg K} : (Sx.asg e t).run ρ st = (e.ev ρ st).bind fun p => (t.bind p.1 ρ).bind fun ρ1 => some (.nx ρ1 p.2) := rfl
@[simp] theorem s_set {i : Nat} {e : Ex K} : (Sx.set i e).run ρ st = (e.ev ρ st).bind fun p => some (.nx (ρ.set i (.d p.1)) p.2) := rfl
@[simp] theorem s_setF {i : Nat} {e : Fx K} : (Sx.setF i e).run ρ st = (e.ev ρ st).bind fun p => if i < ρ.length then some (.nx (ρ.set i (.own p.1)) p.2) else none := rfl
@[simp] theorem s_par {i j : Nat} {a b : Ex K} : (Sx.par i j a b).run ρ st = (a.ev ρ st).bind fun p => (b.ev ρ p.2).bind fun q => some (.nx ((ρ.set i (.d p.1)).set j (.d q.1)) q.2) := rfl
@[simp] theorem s_ret {e : Ex K} : (Sx.ret e).run ρ st = (e.ev ρ st).bind fun p => some (.ret p.1 p.2) := rfl
@[simp] theorem s_retN : (Sx.retN (K := K)).run ρ st = some (.ret .non st) := rfl
@[simp] theorem s_drop {e : Ex K} : (Sx.drop e).run ρ st = (e.ev ρ st).bind fun p => some (.nx ρ p.2) := rfl
@[simp] theorem s_ite {t : Tx K} {a b : Sx K} : (Sx.ite t a b).run ρ st = (t.ev ρ st).bind fun p => if p.1 then a.run ρ p.2 else b.run ρ p.2 := rfl
@[simp] theorem s_never : (Sx.never (K := K)).run ρ st = none := rfl
@[simp] theorem s_frz {i : Nat} {s : Sx K} : (Sx.frz i s).run ρ st = s.run (frzE i ρ) st := rfl
@[simp] theorem s_app {i : Nat} {e : Ex K} : (Sx.app i e).run ρ st = (e.ev ρ st).bind fun p => (appE i p.1 ρ).bind fun ρ1 => some (.nx ρ1 p.2) := rfl
@[simp] theorem s_for {it : Itb K} {tg : Tg K} {b : Sx K} : (Sx.for it tg b).run ρ st = (it.ev ρ st).bind fun p => forRun tg.bind b.run p.1 ρ p.2 := rfl
@[simp] theorem s_whil {fuel : Env → Nat} {t : Tx K} {b : Sx K} : (Sx.whil fuel t b).run ρ st = whileRun t.ev b.run (fuel ρ) ρ st := rfl
@[simp] theorem s_putIx {o i e : Ex K} : (Sx.putIx o i e).run ρ st = (e.ev ρ st).bind fun p => (o.ev ρ p.2).bind fun q => (i.ev ρ q.2).bind fun r => (MP.putIx q.1 r.1 p.1 r.2).bind fun s => some (.nx ρ s) := rfl
/-! the operations -/
@[simp] theorem o_add {i j : Int} : (oAdd (K := K)).f (.int i) (.int j) st = some (.int (i + j)) := rfl
@[simp] theorem o_sub {i j : Int} : (oSub (K := K)).f (.int i) (.int j) st = some (.int (i - j)) := rfl
@[simp] theorem o_mul {i j : Int} : (oMul (K := K)).f (.int i) (.int j) st = if CMulW i j then some (.int (i * j)) else none := rfl
@[simp] theorem o_div {i j : Int} : (oDiv (K := K)).f (.int i) (.int j) st = if CDivW i j then some (.int (i / j)) else none := rfl
@[simp] theorem o_mod {i j : Int} : (oMod (K := K)).f (.int i) (.int j) st = if j ≠ 0 then some (.int (i.fmod j)) else none := rfl
@[simp] theorem o_powW {i j : Int} : (oPowW (K := K)).f (.int i) (.int j) st = if CPowW i j then some (.int (i ^ j.toNat)) else none := rfl
@[simp] theorem o_lt {i j : Int} : (oLt (K := K)).f (.int i) (.int j) st = some (.bl (decide (i < j))) := rfl
@[simp] theorem o_le {i j : Int} : (oLe (K := K)).f (.int i) (.int j) st = some (.bl (decide (i ≤ j))) := rfl
@[simp] theorem o_gt {i j : Int} : (oGt (K := K)).f (.int i) (.int j) st = some (.bl (decide (j < i))) := rfl
@[simp] theorem o_ge {i j : Int} : (oGe (K := K)).f (.int i) (.int j) st = some (.bl (decide (j ≤ i))) := rfl
@[simp] theorem o_neg {i : Int} : (oNeg (K := K)).f (.int i) st = some (.int (-i)) := rfl
@[simp] theorem o_eq {d e : D} : (oEq (K := K)).f d e st = (eqS d e).map .bl := rfl
@[simp] theorem o_ne {d e : D} : (oNe (K := K)).f d e st = (eqS d e).map fun b => .bl (!b) := rfl
@[simp] theorem o_isN {d : D} : (oIsN (K := K)).f d .non st = some (.bl (isNon d)) := rfl
@[simp] theorem o_notN {d : D} : (oNotN (K := K)).f d .non st = some (.bl (!isNon d)) := rfl
@[simp] theorem o_ix {d e : D} : (oIx (K := K)).f d e st = ixD d e st := rfl
@[simp] theorem o_len {d : D} : (oLen (K := K)).f [d] st = lenD d st := rfl
@[simp] theorem o_abs {d : D} : (oAbs (K := K)).f [d] st = absD d st := rfl
@[simp] theorem o_int {d : D} : (oInt (K := K)).f [d] st = intD d st := rfl
@[simp] theorem o_max {i j : Int} : (oMax (K := K)).f [.int i, .int j] st = some (.int (if j > i then j else i)) := rfl
@[simp] theorem o_min {i j : Int} : (oMin (K := K)).f [.int i, .int j] st = some (.int (if j < i then j else i)) := rfl
@[simp] theorem o_isi {d : D} {n : String} : (oIsi (K := K)).f [d, .ty n] st = (tyD d).bind fun t => (kitB t n).map .bl := rfl
@[simp] theorem o_all {d : D} : (oAll (K := K)).f [d] st = allD d st := rfl
@[simp] theorem o_tupleL {ds : List D} : (oTuple (K := K)).f [.lst ds] st = some (.tup ds, st) := rfl
@[simp] theorem o_tupleT {ds : List D} : (oTuple (K := K)).f [.tup ds] st = some (.tup ds, st) := rfl
@[simp] theorem o_repr {d : D} : (oRepr (K := K)).f [d] st = reprD d st := rfl
@[simp] theorem o_rep {ds : List D} {k : Int} : (oRep (K := K)).f (.tup ds) (.int k) st = if ds ≠ [] ∧ 0 ≤ k ∧ k ≤ 1000 ∧ ds.length ≤ 1000 then some (.tup (List.replicate k.toNat ds).flatten, st) else none := rfl
@[simp] theorem ty_int {i : Int} : tyD (.int i) = some "int" := rfl
@[simp] theorem ty_tup {ds : List D} : tyD (.tup ds) = some "tuple" := rfl
@[simp] theorem ty_bl {b : Bool} : tyD (.bl b) = some "bool" := rfl
@[simp] theorem ty_non : tyD .non = some "NoneType" := rfl
@[simp] theorem ty_str {x : Str} : tyD (.str x) = some "str" := rfl
@[simp] theorem ty_lst {ds : List D} : tyD (.lst ds) = some "list" := rfl
theorem kit_int_int : kitB "int" "int" = some true := by decide +kernel
theorem kit_int_bool : kitB "int" "bool" = some false := by decide +kernel
theorem kit_tup_tup : kitB "tuple" "tuple" = some true := by decide +kernel
@[simp] theorem nonI {i : Int} : isNon (.int i) = false := rfl
@[simp] theorem nonN : isNon .non = true := rfl
@[simp] theorem nonT {ds : List D} : isNon (.tup ds) = false := rfl
@[simp] theorem eqS_int {i j : Int} : eqS (.int i) (.int j) = some (decide (i = j)) := rfl
@[simp] theorem eqS_str {i j : Str} : eqS (.str i) (.str j) = some (decide (i = j)) := rfl
@[simp] theorem intD_int {i : Int} : intD (.int i) st = some (.int i) := rfl
@[simp] theorem intD_bl {b : Bool} : intD (.bl b) st = some (.int (if b then 1 else 0)) := rfl
@[simp] theorem absD_int {i : Int} : absD (.int i) st = some (.int (if i < 0 then -i else i)) := rfl
@[simp] theorem lenD_tup {ds : List D} : lenD (.tup ds) st = some (.int ds.length) := rfl
@[simp] theorem lenD_lst {ds : List D} : lenD (.lst ds) st = some (.int ds.length) := rfl
@[simp] theorem ixD_tup {ds : List D} {i : Int} : ixD (.tup ds) (.int i) st = L2.atI ds i := rfl
@[simp] theorem ixD_lst {ds : List D} {i : Int} : ixD (.lst ds) (.int i) st = L2.atI ds i := rfl
@[simp] theorem at1 {x y : D} : L2.atI [x, y] 1 = some y := rfl
@[simp] theorem at0_2 {x y : D} : L2.atI [x, y] 0 = some x := rfl
theorem atI_nat {xs : List D} {j : Nat} {d : D} (h : xs[j]? = some d) : L2.atI xs (j : Int) = some d := by
  unfold L2.atI
  have hl := (List.getElem?_eq_some_iff.mp h).1
  rw [show L2.ixN xs.length (j : Int) = some j by
    unfold L2.ixN
    rw [if_pos (by omega), if_pos (by omega)]
    simp]
  exact h
theorem at0 {x : D} {xs : List D} : L2.atI (x :: xs) 0 = some x := atI_nat (j := 0) rfl
@[simp] theorem fuel_at {i : Nat} : fuelAt i ρ = match ρ[i]? with | some (.d (.int j)) => j.natAbs + 1 | _ => 0 := rfl
end
end MP

set_option Elab.async false
set_option linter.all false
set_option maxRecDepth 100000
set_option autoImplicit false
namespace K84
open PySem L2 RM MP
def top (i : Nat) : Stmt := PySem.Challenge.pw_tiesums_k84_whole_many_fractions_put_tog.main.body.getD i (.Pass ⟨0, 0, 0, 0⟩)
/-- the written tuples -/
structure Cs (K : PySem.W.Frag) where
  aNOUGHT : Addr
  hNOUGHT : ∀ H, SqT K H aNOUGHT [.int 0, .int 1]
  aONE : Addr
  hONE : ∀ H, SqT K H aONE [.int 1, .int 1]
structure Tt (K : PySem.W.Frag) (mg : Str → Option Value) (C : Cs K) : Prop where
  abs_ : mg "abs" = none
  all_ : mg "all" = none
  bool_ : mg "bool" = none
  int_ : mg "int" = none
  isinstance_ : mg "isinstance" = none
  len_ : mg "len" = none
  list_ : mg "list" = none
  max_ : mg "max" = none
  min_ : mg "min" = none
  range_ : mg "range" = none
  repr_ : mg "repr" = none
  tuple_ : mg "tuple" = none
  zip_ : mg "zip" = none
  gNOUGHT : mg "NOUGHT" = some (.ref C.aNOUGHT)
  gONE : mg "ONE" = some (.ref C.aONE)
  cPAIR : ∃ t, mg "PAIR" = some (.int 2 t)
abbrev FnP (K : PySem.W.Frag) (x : Str) (st : Stmt) (dvs : List V) (f : Addr) (fd : FuncData) : Prop := FunD K x x (defArgs st) (defBody st) (defScope st) dvs [] f fd
theorem hu_of64 {A : Around} {k : Nat} (hr : Room k A) : A.units + 64 < cLine := hr.units
section
variable {K : PySem.W.Frag}
def Cs.eNOUGHT (C : Cs K) : Ex K := .cst (.ref C.aNOUGHT) (.tup [.int 0, .int 1]) fun w => .tup (C.hNOUGHT _) (.cons .int (.cons .int (.nil)))
def Cs.eONE (C : Cs K) : Ex K := .cst (.ref C.aONE) (.tup [.int 1, .int 1]) fun w => .tup (C.hONE _) (.cons .int (.cons .int (.nil)))
/-! is_integer -/
abbrev st_is_integer : Stmt := top 4
abbrev N_is_integer : List Str := ["value", "low", "high"]
abbrev P_is_integer : List Str := ["value", "low", "high"]
def s_is_integer (C : Cs K) : Sx K :=
    (.seq (.ite (.or (.not (.val (.cb oIsi (.cons (.var 0) (.cons (.ty "int") .nil))))) (.val (.cb oIsi (.cons (.var 0) (.cons (.ty "bool") .nil))))) (.ret (.bl false)) .skip)
    (.ret (.andV (.orV (.op2 oIsN (.var 1) .non) (.op2 oLe (.var 1) (.var 0))) (.orV (.op2 oIsN (.var 2) .non) (.op2 oLe (.var 0) (.var 2))))))
def f_is_integer (C : Cs K) : List D → Store → Option (D × Store) := fnRun 3 3 (s_is_integer C).run
/-! is_tuple -/
abbrev st_is_tuple : Stmt := top 5
abbrev N_is_tuple : List Str := ["value", "few", "most"]
abbrev P_is_tuple : List Str := ["value", "few", "most"]
def s_is_tuple (C : Cs K) : Sx K :=
    (.ret (.andV (.cb oIsi (.cons (.var 0) (.cons (.ty "tuple") .nil))) (.andV (.op2 oLe (.var 1) (.cb oLen (.cons (.var 0) .nil))) (.orV (.op2 oIsN (.var 2) .non) (.op2 oLe (.cb oLen (.cons (.var 0) .nil)) (.var 2))))))
def f_is_tuple (C : Cs K) : List D → Store → Option (D × Store) := fnRun 3 3 (s_is_tuple C).run
/-! common -/
abbrev st_common : Stmt := top 10
abbrev N_common : List Str := ["one", "other"]
abbrev P_common : List Str := ["one", "other"]
def s_common (C : Cs K) : Sx K :=
    (.seq (.par 0 1 (.cb oAbs (.cons (.var 0) .nil)) (.cb oAbs (.cons (.var 1) .nil)))
    (.seq (.whil (fuelAt 1) (.val (.op2 oGt (.var 1) (.int 0))) (.par 0 1 (.var 1) (.op2 oMod (.var 0) (.var 1))))
    (.ret (.var 0))))
def f_common (C : Cs K) : List D → Store → Option (D × Store) := fnRun 2 2 (s_common C).run
/-! _law_pot -/
abbrev st_law_pot : Stmt := top 19
abbrev N_law_pot : List Str := ["script", "k", "cell", "own", "small"]
abbrev P_law_pot : List Str := ["script", "k"]
def s_law_pot (C : Cs K) : Sx K :=
    (.seq (.set 2 (.ite (.val (.op2 oLt (.var 1) (.cb oLen (.cons (.var 0) .nil)))) (.op2 oIx (.var 0) (.var 1)) (.op2 oAdd (.op2 oMul (.int 397) (.var 1)) (.int 155))))
    (.seq (.set 3 (.op2 oMul (.op2 oMod (.cb oInt (.cons (.cb oAbs (.cons (.var 2) .nil)) .nil)) (.op2 oPowW (.op2 oPowW (.int 10) (.int 60)) (.int 5))) (.cb oInt (.cons (.op2 oGe (.cb oAbs (.cons (.var 2) .nil)) (.op2 oPowW (.int 10) (.int 18))) .nil))))
    (.seq (.set 4 (.op2 oMod (.cb oInt (.cons (.var 2) .nil)) (.int 2305843009213693951)))
    (.ret (.alloc (.lst (.cons (.var 3) (.cons (.op2 oMod (.cb oInt (.cons (.op2 oAdd (.op2 oAdd (.op2 oMul (.var 4) (.int 85357)) (.op2 oMul (.op2 oMul (.int 8443) (.var 1)) (.var 1))) (.int 163)) .nil)) (.int 2305843009213693921)) (.cons (.int 0) .nil)))))))))
def f_law_pot (C : Cs K) : List D → Store → Option (D × Store) := fnRun 5 2 (s_law_pot C).run
/-! _law_take -/
abbrev st_law_take : Stmt := top 20
abbrev N_law_take : List Str := ["pot", "upto", "digit", "prime", "blend"]
abbrev P_law_take : List Str := ["pot", "upto"]
def s_law_take (C : Cs K) : Sx K :=
    (.seq (.ite (.val (.op2 oGt (.op2 oIx (.var 0) (.int 0)) (.int 0))) (.seq (.set 2 (.op2 oMod (.cb oInt (.cons (.op2 oIx (.var 0) (.int 0)) .nil)) (.var 1)))
    (.seq (.putIx (.var 0) (.int 0) (.op2 oDiv (.op2 oIx (.var 0) (.int 0)) (.var 1)))
    (.ret (.var 2)))) .skip)
    (.seq (.putIx (.var 0) (.int 2) (.op2 oAdd (.op2 oIx (.var 0) (.int 2)) (.int 1)))
    (.seq (.set 3 (.op2 oIx (.ofF (.lst (.cons (.int 2147483647) (.cons (.int 2147483629) (.cons (.int 2147483587) (.cons (.int 2147483579) (.cons (.int 2147483563) .nil))))))) (.op2 oMod (.cb oInt (.cons (.op2 oIx (.var 0) (.int 2)) .nil)) (.int 5))))
    (.seq (.set 4 (.op2 oMod (.cb oInt (.cons (.op2 oPowW (.cb oInt (.cons (.op2 oAdd (.op2 oAdd (.op2 oIx (.var 0) (.int 1)) (.op2 oMul (.op2 oMul (.int 95213) (.op2 oIx (.var 0) (.int 2))) (.op2 oIx (.var 0) (.int 2)))) (.int 113)) .nil)) (.int 3)) .nil)) (.var 3)))
    (.ret (.op2 oMod (.cb oInt (.cons (.op2 oDiv (.op2 oMul (.var 4) (.op2 oAdd (.op2 oMod (.cb oInt (.cons (.var 4) .nil)) (.int 10061)) (.op2 oMul (.int 97) (.op2 oIx (.var 0) (.int 2))))) (.int 131)) .nil)) (.var 1)))))))
def f_law_take (C : Cs K) : List D → Store → Option (D × Store) := fnRun 5 2 (s_law_take C).run
/-! _law_places -/
abbrev st_law_places : Stmt := top 23
abbrev N_law_places : List Str := ["script", "limit"]
abbrev P_law_places : List Str := ["script", "limit"]
def s_law_places (C : Cs K) : Sx K :=
    (.ret (.ofF (.listRange (.cb oMax (.cons (.int 1) (.cons (.cb oMin (.cons (.var 1) (.cons (.cb oLen (.cons (.var 0) .nil)) .nil))) .nil))))))
def f_law_places (C : Cs K) : List D → Store → Option (D × Store) := fnRun 2 2 (s_law_places C).run
/-! _law_cut -/
abbrev st_law_cut : Stmt := top 24
abbrev N_law_cut : List Str := ["top", "low", "one", "other"]
abbrev P_law_cut : List Str := ["top", "low"]
def s_law_cut (C : Cs K) : Sx K :=
    (.seq (.par 2 3 (.cb oAbs (.cons (.cb oInt (.cons (.var 0) .nil)) .nil)) (.cb oInt (.cons (.var 1) .nil)))
    (.seq (.whil (fuelAt 3) (.val (.op2 oNe (.var 3) (.int 0))) (.par 2 3 (.var 3) (.op2 oMod (.var 2) (.var 3))))
    (.ret (.tup (.cons (.op2 oDiv (.var 0) (.var 2)) (.cons (.op2 oDiv (.var 1) (.var 2)) .nil))))))
def f_law_cut (C : Cs K) : List D → Store → Option (D × Store) := fnRun 4 2 (s_law_cut C).run
/-! cut -/
abbrev st_cut : Stmt := top 11
abbrev N_cut : List Str := ["top", "low", "share"]
abbrev P_cut : List Str := ["top", "low"]
def s_cut (C : Cs K) : Sx K :=
    (.seq (.set 2 (.ite (.val (.op2 oGt (.var 1) (.int 0))) (.call (f_common C) [] [] (fun _ => .nil) (.cons (.var 0) (.cons (.var 1) .nil))) (.op1 oNeg (.call (f_common C) [] [] (fun _ => .nil) (.cons (.var 0) (.cons (.var 1) .nil))))))
    (.ret (.tup (.cons (.op2 oDiv (.var 0) (.var 2)) (.cons (.op2 oDiv (.var 1) (.var 2)) .nil)))))
def f_cut (C : Cs K) : List D → Store → Option (D × Store) := fnRun 3 2 (s_cut C).run
/-! is_fraction -/
abbrev st_is_fraction : Stmt := top 12
abbrev N_is_fraction : List Str := ["value"]
abbrev P_is_fraction : List Str := ["value"]
def s_is_fraction (C : Cs K) : Sx K :=
    (.seq (.ite (.or (.not (.val (.call (f_is_tuple C) [] [] (fun _ => .nil) (.cons (.var 0) (.cons (.int 2) (.cons (.int 2) .nil)))))) (.or (.not (.val (.call (f_is_integer C) [.non, .non] [.non, .non] (fun _ => .cons .non (.cons .non (.nil))) (.cons (.op2 oIx (.var 0) (.int 0)) .nil)))) (.not (.val (.call (f_is_integer C) [.non] [.non] (fun _ => .cons .non (.nil)) (.cons (.op2 oIx (.var 0) (.int 1)) (.cons (.int 1) .nil))))))) (.ret (.bl false)) .skip)
    (.ret (.op2 oEq (.call (f_common C) [] [] (fun _ => .nil) (.cons (.op2 oIx (.var 0) (.int 0)) (.cons (.op2 oIx (.var 0) (.int 1)) .nil))) (.int 1))))
def f_is_fraction (C : Cs K) : List D → Store → Option (D × Store) := fnRun 1 1 (s_is_fraction C).run
/-! _law_of -/
abbrev st_law_of : Stmt := top 21
abbrev N_law_of : List Str := ["pot", "some"]
abbrev P_law_of : List Str := ["pot", "some"]
def s_law_of (C : Cs K) : Sx K :=
    (.ret (.op2 oIx (.var 1) (.call (f_law_take C) [] [] (fun _ => .nil) (.cons (.var 0) (.cons (.cb oLen (.cons (.var 1) .nil)) .nil)))))
def f_law_of (C : Cs K) : List D → Store → Option (D × Store) := fnRun 2 2 (s_law_of C).run
/-! _law_added -/
abbrev st_law_added : Stmt := top 25
abbrev N_law_added : List Str := ["rows", "top", "low", "one", "other"]
abbrev P_law_added : List Str := ["rows"]
def s_law_added (C : Cs K) : Sx K :=
    (.seq (.asg (.tup (.cons (.int 0) (.cons (.int 1) .nil))) (.tup 2 (.cons (.name 1) (.cons (.name 2) .nil))))
    (.seq (.for (.seq (.var 0)) (.tup 2 (.cons (.name 3) (.cons (.name 4) .nil))) (.asg (.call (f_law_cut C) [] [] (fun _ => .nil) (.cons (.op2 oAdd (.op2 oMul (.var 1) (.var 4)) (.op2 oMul (.var 3) (.var 2))) (.cons (.op2 oMul (.var 2) (.var 4)) .nil))) (.tup 2 (.cons (.name 1) (.cons (.name 2) .nil)))))
    (.ret (.tup (.cons (.var 1) (.cons (.var 2) .nil))))))
def f_law_added (C : Cs K) : List D → Store → Option (D × Store) := fnRun 5 1 (s_law_added C).run
/-! _law_drawn -/
abbrev st_law_drawn : Stmt := top 26
abbrev N_law_drawn : List Str := ["pot", "amount", "wide", "below", "found", "lap"]
abbrev P_law_drawn : List Str := ["pot", "amount", "wide", "below"]
def s_law_drawn (C : Cs K) : Sx K :=
    (.seq (.setF 4 (.lst .nil))
    (.seq (.for (.range1 (.var 1)) (.name 5) (.app 4 (.call (f_law_cut C) [] [] (fun _ => .nil) (.cons (.op2 oSub (.call (f_law_take C) [] [] (fun _ => .nil) (.cons (.var 0) (.cons (.op2 oAdd (.op2 oMul (.int 2) (.var 2)) (.int 1)) .nil))) (.var 2)) (.cons (.op2 oAdd (.int 1) (.call (f_law_take C) [] [] (fun _ => .nil) (.cons (.var 0) (.cons (.var 3) .nil)))) .nil)))))
    (.frz 4 (.ret (.cbx oTuple (.cons (.var 4) .nil))))))
def f_law_drawn (C : Cs K) : List D → Store → Option (D × Store) := fnRun 6 4 (s_law_drawn C).run
/-! are_fractions -/
abbrev st_are_fractions : Stmt := top 13
abbrev N_are_fractions : List Str := ["value", "many", "one"]
abbrev P_are_fractions : List Str := ["value", "many"]
def s_are_fractions (C : Cs K) : Sx K :=
    (.seq (.ite (.or (.not (.val (.cb oIsi (.cons (.var 0) (.cons (.ty "tuple") .nil))))) (.and (.val (.op2 oNotN (.var 1) .non)) (.val (.op2 oNe (.cb oLen (.cons (.var 0) .nil)) (.var 1))))) (.ret (.bl false)) .skip)
    (.ret (.cb oAll (.cons (.ofF (.comp (.seq (.var 0)) (.name 2) .yes (.call (f_is_fraction C) [] [] (fun _ => .nil) (.cons (.var 2) .nil)) [2] (vsOk (by rfl)))) .nil))))
def f_are_fractions (C : Cs K) : List D → Store → Option (D × Store) := fnRun 3 2 (s_are_fractions C).run
/-! plus -/
abbrev st_plus : Stmt := top 14
abbrev N_plus : List Str := ["one", "other"]
abbrev P_plus : List Str := ["one", "other"]
def s_plus (C : Cs K) : Sx K :=
    (.ret (.call (f_cut C) [] [] (fun _ => .nil) (.cons (.op2 oAdd (.op2 oMul (.op2 oIx (.var 0) (.int 0)) (.op2 oIx (.var 1) (.int 1))) (.op2 oMul (.op2 oIx (.var 1) (.int 0)) (.op2 oIx (.var 0) (.int 1)))) (.cons (.op2 oMul (.op2 oIx (.var 0) (.int 1)) (.op2 oIx (.var 1) (.int 1))) .nil))))
def f_plus (C : Cs K) : List D → Store → Option (D × Store) := fnRun 2 2 (s_plus C).run
/-! times -/
abbrev st_times : Stmt := top 15
abbrev N_times : List Str := ["one", "other"]
abbrev P_times : List Str := ["one", "other"]
def s_times (C : Cs K) : Sx K :=
    (.ret (.call (f_cut C) [] [] (fun _ => .nil) (.cons (.op2 oMul (.op2 oIx (.var 0) (.int 0)) (.op2 oIx (.var 1) (.int 0))) (.cons (.op2 oMul (.op2 oIx (.var 0) (.int 1)) (.op2 oIx (.var 1) (.int 1))) .nil))))
def f_times (C : Cs K) : List D → Store → Option (D × Store) := fnRun 2 2 (s_times C).run
/-! weighed -/
abbrev st_weighed : Stmt := top 16
abbrev N_weighed : List Str := ["some", "weights", "found", "one", "weight"]
abbrev P_weighed : List Str := ["some", "weights"]
def s_weighed (C : Cs K) : Sx K :=
    (.seq (.set 2 (C.eNOUGHT))
    (.seq (.for (.zipT (.var 0) (.var 1)) (.tup 2 (.cons (.name 3) (.cons (.name 4) .nil))) (.set 2 (.call (f_plus C) [] [] (fun _ => .nil) (.cons (.var 2) (.cons (.call (f_times C) [] [] (fun _ => .nil) (.cons (.var 3) (.cons (.var 4) .nil))) .nil)))))
    (.ret (.var 2))))
def f_weighed (C : Cs K) : List D → Store → Option (D × Store) := fnRun 5 2 (s_weighed C).run
/-! total -/
abbrev st_total : Stmt := top 17
abbrev N_total : List Str := ["fractions", "weights"]
abbrev P_total : List Str := ["fractions", "weights"]
def s_total (C : Cs K) : Sx K :=
    (.seq (.ite (.not (.val (.call (f_are_fractions C) [.non] [.non] (fun _ => .cons .non (.nil)) (.cons (.var 0) .nil)))) .never .skip)
    (.seq (.ite (.val (.op2 oIsN (.var 1) .non)) (.set 1 (.op2x oRep (.tup (.cons (C.eONE) .nil)) (.cb oLen (.cons (.var 0) .nil)))) .skip)
    (.seq (.ite (.not (.val (.call (f_are_fractions C) [] [] (fun _ => .nil) (.cons (.var 1) (.cons (.cb oLen (.cons (.var 0) .nil)) .nil))))) .never .skip)
    (.ret (.call (f_weighed C) [] [] (fun _ => .nil) (.cons (.var 0) (.cons (.var 1) .nil)))))))
def f_total (C : Cs K) : List D → Store → Option (D × Store) := fnRun 2 2 (s_total C).run
/-! _law_right -/
abbrev st_law_right : Stmt := top 27
abbrev N_law_right : List Str := ["pot", "amount", "some", "weights", "due", "products", "one", "far", "late", "at", "turned", "top", "low"]
abbrev P_law_right : List Str := ["pot"]
def s_law_right (C : Cs K) : Sx K :=
    (.seq (.set 1 (.call (f_law_of C) [] [] (fun _ => .nil) (.cons (.var 0) (.cons (.ofF (.lst (.cons (.int 60) (.cons (.int 25) (.cons (.int 59) (.cons (.op2 oAdd (.int 25) (.call (f_law_take C) [] [] (fun _ => .nil) (.cons (.var 0) (.cons (.int 36) .nil)))) .nil)))))) .nil))))
    (.seq (.set 2 (.call (f_law_drawn C) [] [] (fun _ => .nil) (.cons (.var 0) (.cons (.var 1) (.cons (.call (f_law_of C) [] [] (fun _ => .nil) (.cons (.var 0) (.cons (.ofF (.lst (.cons (.int 3) (.cons (.int 40) (.cons (.op2 oSub (.op2 oPowW (.int 10) (.int 9)) (.int 1)) .nil))))) .nil))) (.cons (.call (f_law_of C) [] [] (fun _ => .nil) (.cons (.var 0) (.cons (.ofF (.lst (.cons (.int 1) (.cons (.int 6) (.cons (.int 60) (.cons (.int 999) .nil)))))) .nil))) .nil))))))
    (.seq (.set 3 (.call (f_law_drawn C) [] [] (fun _ => .nil) (.cons (.var 0) (.cons (.var 1) (.cons (.call (f_law_of C) [] [] (fun _ => .nil) (.cons (.var 0) (.cons (.ofF (.lst (.cons (.int 2) (.cons (.int 30) .nil)))) .nil))) (.cons (.call (f_law_of C) [] [] (fun _ => .nil) (.cons (.var 0) (.cons (.ofF (.lst (.cons (.int 1) (.cons (.int 4) (.cons (.int 12) .nil))))) .nil))) .nil))))))
    (.seq (.set 4 (.call (f_law_added C) [] [] (fun _ => .nil) (.cons (.var 2) .nil)))
    (.seq (.ite (.or (.val (.op2 oNe (.cb oRepr (.cons (.call (f_total C) [.non] [.non] (fun _ => .cons .non (.nil)) (.cons (.var 2) .nil)) .nil)) (.cb oRepr (.cons (.var 4) .nil)))) (.val (.op2 oNe (.cb oRepr (.cons (.call (f_total C) [.non] [.non] (fun _ => .cons .non (.nil)) (.cons (.revT (.var 2)) .nil)) .nil)) (.cb oRepr (.cons (.var 4) .nil))))) (.ret (.bl false)) .skip)
    (.seq (.set 5 (.ofF (.comp (.zipT (.var 2) (.var 3)) (.tup 2 (.cons (.name 6) (.cons (.name 7) .nil))) .yes (.call (f_law_cut C) [] [] (fun _ => .nil) (.cons (.op2 oMul (.op2 oIx (.var 6) (.int 0)) (.op2 oIx (.var 7) (.int 0))) (.cons (.op2 oMul (.op2 oIx (.var 6) (.int 1)) (.op2 oIx (.var 7) (.int 1))) .nil))) [6, 7] (vsOk (by rfl)))))
    (.seq (.set 8 (.call (f_law_added C) [] [] (fun _ => .nil) (.cons (.var 5) .nil)))
    (.seq (.ite (.or (.val (.op2 oNe (.cb oRepr (.cons (.call (f_total C) [] [] (fun _ => .nil) (.cons (.var 2) (.cons (.var 3) .nil))) .nil)) (.cb oRepr (.cons (.var 8) .nil)))) (.val (.op2 oNe (.cb oRepr (.cons (.call (f_total C) [] [] (fun _ => .nil) (.cons (.revT (.var 2)) (.cons (.revT (.var 3)) .nil))) .nil)) (.cb oRepr (.cons (.var 8) .nil))))) (.ret (.bl false)) .skip)
    (.seq (.set 9 (.call (f_law_take C) [] [] (fun _ => .nil) (.cons (.var 0) (.cons (.op2 oAdd (.var 1) (.int 1)) .nil))))
    (.seq (.ite (.val (.op2 oNe (.cb oRepr (.cons (.call (f_total C) [.non] [.non] (fun _ => .cons .non (.nil)) (.cons (.tup (.cons (.call (f_total C) [.non] [.non] (fun _ => .cons .non (.nil)) (.cons (.sliceT (.var 2) .no (.some (.var 9))) .nil)) (.cons (.call (f_total C) [.non] [.non] (fun _ => .cons .non (.nil)) (.cons (.sliceT (.var 2) (.some (.var 9)) .no) .nil)) .nil))) .nil)) .nil)) (.cb oRepr (.cons (.var 4) .nil)))) (.ret (.bl false)) .skip)
    (.seq (.ite (.val (.op2 oNe (.cb oRepr (.cons (.call (f_total C) [.non] [.non] (fun _ => .cons .non (.nil)) (.cons (.tup (.cons (.call (f_total C) [] [] (fun _ => .nil) (.cons (.sliceT (.var 2) .no (.some (.var 9))) (.cons (.sliceT (.var 3) .no (.some (.var 9))) .nil))) (.cons (.call (f_total C) [] [] (fun _ => .nil) (.cons (.sliceT (.var 2) (.some (.var 9)) .no) (.cons (.sliceT (.var 3) (.some (.var 9)) .no) .nil))) .nil))) .nil)) .nil)) (.cb oRepr (.cons (.var 8) .nil)))) (.ret (.bl false)) .skip)
    (.seq (.set 10 (.cbx oTuple (.cons (.ofF (.comp (.seq (.var 3)) (.tup 2 (.cons (.name 11) (.cons (.name 12) .nil))) .yes (.tup (.cons (.op1 oNeg (.var 11)) (.cons (.var 12) .nil))) [11, 12] (vsOk (by rfl)))) .nil)))
    (.seq (.ite (.val (.op2 oNe (.cb oRepr (.cons (.call (f_total C) [] [] (fun _ => .nil) (.cons (.var 2) (.cons (.var 10) .nil))) .nil)) (.cb oRepr (.cons (.tup (.cons (.op1 oNeg (.op2 oIx (.var 8) (.int 0))) (.cons (.op2 oIx (.var 8) (.int 1)) .nil))) .nil)))) (.ret (.bl false)) .skip)
    (.ret (.op2 oEq (.cb oRepr (.cons (.call (f_total C) [] [] (fun _ => .nil) (.cons (.var 2) (.cons (.op2x oRep (.tup (.cons (.tup (.cons (.int 0) (.cons (.int 1) .nil))) .nil)) (.var 1)) .nil))) .nil)) (.cb oRepr (.cons (.tup (.cons (.int 0) (.cons (.int 1) .nil))) .nil)))))))))))))))))
def f_law_right (C : Cs K) : List D → Store → Option (D × Store) := fnRun 13 1 (s_law_right C).run
/-! law -/
abbrev st_law : Stmt := top 28
abbrev N_law : List Str := ["script", "place", "pot", "lap"]
abbrev P_law : List Str := ["script"]
def s_law (C : Cs K) : Sx K :=
    (.seq (.for (.seq (.call (f_law_places C) [] [] (fun _ => .nil) (.cons (.var 0) (.cons (.int 4) .nil)))) (.name 1) (.seq (.set 2 (.call (f_law_pot C) [] [] (fun _ => .nil) (.cons (.var 0) (.cons (.var 1) .nil))))
    (.ite (.not (.val (.cb oAll (.cons (.ofF (.comp (.range1 (.int 3)) (.name 3) .yes (.call (f_law_right C) [] [] (fun _ => .nil) (.cons (.var 2) .nil)) [3] (vsOk (by rfl)))) .nil)))) (.ret (.bl false)) .skip)))
    (.ret (.bl true)))
def f_law (C : Cs K) : List D → Store → Option (D × Store) := fnRun 4 1 (s_law C).run
end
section
variable {P : Program} {w : World} {K : PySem.W.Frag} {mg : Str → Option Value} {base : Heap} {C : Cs K}
theorem S_is_integer : FnScope N_is_integer P_is_integer (defScope st_is_integer) := ⟨rfl, rfl, rfl, by decide +kernel, rfl, by decide +kernel, by decide +kernel⟩
set_option maxHeartbeats 4000000 in
theorem ok_is_integer {f : Addr} {fd : FuncData} (F : FnP K "is_integer" st_is_integer [.non, .non] f fd) (T : Tt K mg C) : FnOk P w K mg base CX0 1 f fd P_is_integer (EffSp K (f_is_integer C)) := by
  refine F.ok S_is_integer (fun _ _ _ _ h => h.len) (fun cdv A outer s H vs Q E hr h => ⟨(s_is_integer C).den, PSs.nox ?_, (s_is_integer C).fn rfl h⟩)
  have S := S_is_integer
  exact (d_seq (d_if (d_pw (d_or (d_not (d_val (d_cb call_isi (by rfl) T.isinstance_ bb_isinstance (d_cons (d_var 0) (d_cons (d_ty (by rfl) T.int_ bb_int) d_nil))))) (d_or1 (d_val (d_cb call_isi (by rfl) T.isinstance_ bb_isinstance (d_cons (d_var 0) (d_cons (d_ty (by rfl) T.bool_ bb_bool) d_nil))))))) (d_last (d_ret d_bl)) d_skip)
    (d_last (d_ret (d_andV (d_orV (d_cmp op_isN (d_var 1) d_non (nomark _)) (d_one (d_cmp op_le (d_var 1) (d_var 0) (nomark _)))) (d_one (d_orV (d_cmp op_isN (d_var 2) d_non (nomark _)) (d_one (d_cmp op_le (d_var 0) (d_var 2) (nomark _)))))))))
theorem S_is_tuple : FnScope N_is_tuple P_is_tuple (defScope st_is_tuple) := ⟨rfl, rfl, rfl, by decide +kernel, rfl, by decide +kernel, by decide +kernel⟩
set_option maxHeartbeats 4000000 in
theorem ok_is_tuple {f : Addr} {fd : FuncData} (F : FnP K "is_tuple" st_is_tuple [.non] f fd) (T : Tt K mg C) : FnOk P w K mg base CX0 1 f fd P_is_tuple (EffSp K (f_is_tuple C)) := by
  refine F.ok S_is_tuple (fun _ _ _ _ h => h.len) (fun cdv A outer s H vs Q E hr h => ⟨(s_is_tuple C).den, PSs.nox ?_, (s_is_tuple C).fn rfl h⟩)
  have S := S_is_tuple
  exact (d_last (d_ret (d_andV (d_cb call_isi (by rfl) T.isinstance_ bb_isinstance (d_cons (d_var 0) (d_cons (d_ty (by rfl) T.tuple_ bb_tuple) d_nil))) (d_andV (d_cmp op_le (d_var 1) (d_cb call_len (by rfl) T.len_ bb_len (d_cons (d_var 0) d_nil)) (nomark _)) (d_one (d_orV (d_cmp op_isN (d_var 2) d_non (nomark _)) (d_one (d_cmp op_le (d_cb call_len (by rfl) T.len_ bb_len (d_cons (d_var 0) d_nil)) (d_var 2) (nomark _)))))))))
theorem S_common : FnScope N_common P_common (defScope st_common) := ⟨rfl, rfl, rfl, by decide +kernel, rfl, by decide +kernel, by decide +kernel⟩
set_option maxHeartbeats 4000000 in
theorem ok_common {f : Addr} {fd : FuncData} (F : FnP K "common" st_common [] f fd) (T : Tt K mg C) : FnOk P w K mg base CX0 1 f fd P_common (EffSp K (f_common C)) := by
  refine F.ok S_common (fun _ _ _ _ h => h.len) (fun cdv A outer s H vs Q E hr h => ⟨(s_common C).den, PSs.nox ?_, (s_common C).fn rfl h⟩)
  have S := S_common
  exact (d_seq (d_par rfl S.nd rfl rfl (by decide) rfl rfl (d_cb call_abs (by rfl) T.abs_ bb_abs (d_cons (d_var 0) d_nil)) (d_cb call_abs (by rfl) T.abs_ bb_abs (d_cons (d_var 1) d_nil)) (by rfl))
    (d_seq (d_while PassesOwn.never (d_valC op_gt (d_var 1) d_int (nomark _)) (d_last (d_par rfl S.nd rfl rfl (by decide) rfl rfl (d_var 1) (d_op2 op_modN (d_var 0) (d_var 1)) (by rfl))))
    (d_last (d_ret (d_var 0)))))
theorem S_law_pot : FnScope N_law_pot P_law_pot (defScope st_law_pot) := ⟨rfl, rfl, rfl, by decide +kernel, rfl, by decide +kernel, by decide +kernel⟩
set_option maxHeartbeats 4000000 in
theorem ok_law_pot {f : Addr} {fd : FuncData} (F : FnP K "_law_pot" st_law_pot [] f fd) (T : Tt K mg C) : FnOk P w K mg base CX0 1 f fd P_law_pot (EffSp K (f_law_pot C)) := by
  refine F.ok S_law_pot (fun _ _ _ _ h => h.len) (fun cdv A outer s H vs Q E hr h => ⟨(s_law_pot C).den, PSs.nox ?_, (s_law_pot C).fn rfl h⟩)
  have S := S_law_pot
  exact (d_seq (d_set S.nd rfl (by first | exact Or.inl rfl | exact Or.inr rfl) (d_ifE (d_valC op_lt (d_var 1) (d_cb call_len (by rfl) T.len_ bb_len (d_cons (d_var 0) d_nil)) (nomark _)) (d_ix (d_var 0) (d_var 1) (fun _ _ => rfl)) (d_op2 op_add (d_op2 op_mulW d_int (d_var 1)) d_int)))
    (d_seq (d_set S.nd rfl (by first | exact Or.inl rfl | exact Or.inr rfl) (d_op2 op_mulW (d_op2 op_modN (d_cty call_int1 (by rfl) T.int_ bb_int (d_cons (d_cb call_abs (by rfl) T.abs_ bb_abs (d_cons (d_var 2) d_nil)) d_nil)) (d_op2 op_powW (d_op2 op_powW d_int d_int) d_int)) (d_cty call_int1 (by rfl) T.int_ bb_int (d_cons (d_cmp op_ge (d_cb call_abs (by rfl) T.abs_ bb_abs (d_cons (d_var 2) d_nil)) (d_op2 op_powW d_int d_int) (nomark _)) d_nil))))
    (d_seq (d_set S.nd rfl (by first | exact Or.inl rfl | exact Or.inr rfl) (d_op2 op_modN (d_cty call_int1 (by rfl) T.int_ bb_int (d_cons (d_var 2) d_nil)) d_int))
    (d_last (d_ret (d_alloc (d_lst (d_cons (d_var 3) (d_cons (d_op2 op_modN (d_cty call_int1 (by rfl) T.int_ bb_int (d_cons (d_op2 op_add (d_op2 op_add (d_op2 op_mulW (d_var 4) d_int) (d_op2 op_mulW (d_op2 op_mulW d_int (d_var 1)) (d_var 1))) d_int) d_nil)) d_int) (d_cons d_int d_nil))))))))))
theorem S_law_take : FnScope N_law_take P_law_take (defScope st_law_take) := ⟨rfl, rfl, rfl, by decide +kernel, rfl, by decide +kernel, by decide +kernel⟩
set_option maxHeartbeats 4000000 in
theorem ok_law_take {f : Addr} {fd : FuncData} (F : FnP K "_law_take" st_law_take [] f fd) (T : Tt K mg C) : FnOk P w K mg base CX0 1 f fd P_law_take (EffSp K (f_law_take C)) := by
  refine F.ok S_law_take (fun _ _ _ _ h => h.len) (fun cdv A outer s H vs Q E hr h => ⟨(s_law_take C).den, PSs.nox ?_, (s_law_take C).fn rfl h⟩)
  have S := S_law_take
  exact (d_seq (d_if (d_valC op_gt (d_ix (d_var 0) d_int (fun _ _ => rfl)) d_int (nomark _)) (d_seq (d_set S.nd rfl (by first | exact Or.inl rfl | exact Or.inr rfl) (d_op2 op_modN (d_cty call_int1 (by rfl) T.int_ bb_int (d_cons (d_ix (d_var 0) d_int (fun _ _ => rfl)) d_nil)) (d_var 1)))
    (d_seq (d_putIx (d_op2 op_fdivW (d_ix (d_var 0) d_int (fun _ _ => rfl)) (d_var 1)) (pg_sub (d_var 0) d_int set_list))
    (d_last (d_ret (d_var 2))))) d_skip)
    (d_seq (d_putIx (d_op2 op_add (d_ix (d_var 0) d_int (fun _ _ => rfl)) d_int) (pg_sub (d_var 0) d_int set_list))
    (d_seq (d_set S.nd rfl (by first | exact Or.inl rfl | exact Or.inr rfl) (d_ix (d_ofF (d_lst (d_cons d_int (d_cons d_int (d_cons d_int (d_cons d_int (d_cons d_int d_nil))))))) (d_op2 op_modN (d_cty call_int1 (by rfl) T.int_ bb_int (d_cons (d_ix (d_var 0) d_int (fun _ _ => rfl)) d_nil)) d_int) (fun _ _ => rfl)))
    (d_seq (d_set S.nd rfl (by first | exact Or.inl rfl | exact Or.inr rfl) (d_op2 op_modN (d_cty call_int1 (by rfl) T.int_ bb_int (d_cons (d_op2 op_powW (d_cty call_int1 (by rfl) T.int_ bb_int (d_cons (d_op2 op_add (d_op2 op_add (d_ix (d_var 0) d_int (fun _ _ => rfl)) (d_op2 op_mulW (d_op2 op_mulW d_int (d_ix (d_var 0) d_int (fun _ _ => rfl))) (d_ix (d_var 0) d_int (fun _ _ => rfl)))) d_int) d_nil)) d_int) d_nil)) (d_var 3)))
    (d_last (d_ret (d_op2 op_modN (d_cty call_int1 (by rfl) T.int_ bb_int (d_cons (d_op2 op_fdivW (d_op2 op_mulW (d_var 4) (d_op2 op_add (d_op2 op_modN (d_cty call_int1 (by rfl) T.int_ bb_int (d_cons (d_var 4) d_nil)) d_int) (d_op2 op_mulW d_int (d_ix (d_var 0) d_int (fun _ _ => rfl))))) d_int) d_nil)) (d_var 1))))))))
theorem S_law_places : FnScope N_law_places P_law_places (defScope st_law_places) := ⟨rfl, rfl, rfl, by decide +kernel, rfl, by decide +kernel, by decide +kernel⟩
set_option maxHeartbeats 4000000 in
theorem ok_law_places {f : Addr} {fd : FuncData} (F : FnP K "_law_places" st_law_places [] f fd) (T : Tt K mg C) : FnOk P w K mg base CX0 1 f fd P_law_places (EffSp K (f_law_places C)) := by
  refine F.ok S_law_places (fun _ _ _ _ h => h.len) (fun cdv A outer s H vs Q E hr h => ⟨(s_law_places C).den, PSs.nox ?_, (s_law_places C).fn rfl h⟩)
  have S := S_law_places
  exact (d_last (d_ret (d_ofF (d_listRange rfl (by rfl) T.list_ (by rfl) T.range_ (d_cb (call_max2 rfl) (by rfl) T.max_ bb_max (d_cons d_int (d_cons (d_cb (call_min2 rfl) (by rfl) T.min_ bb_min (d_cons (d_var 1) (d_cons (d_cb call_len (by rfl) T.len_ bb_len (d_cons (d_var 0) d_nil)) d_nil))) d_nil)))))))
theorem S_law_cut : FnScope N_law_cut P_law_cut (defScope st_law_cut) := ⟨rfl, rfl, rfl, by decide +kernel, rfl, by decide +kernel, by decide +kernel⟩
set_option maxHeartbeats 4000000 in
theorem ok_law_cut {f : Addr} {fd : FuncData} (F : FnP K "_law_cut" st_law_cut [] f fd) (T : Tt K mg C) : FnOk P w K mg base CX0 1 f fd P_law_cut (EffSp K (f_law_cut C)) := by
  refine F.ok S_law_cut (fun _ _ _ _ h => h.len) (fun cdv A outer s H vs Q E hr h => ⟨(s_law_cut C).den, PSs.nox ?_, (s_law_cut C).fn rfl h⟩)
  have S := S_law_cut
  exact (d_seq (d_par rfl S.nd rfl rfl (by decide) rfl rfl (d_cb call_abs (by rfl) T.abs_ bb_abs (d_cons (d_cty call_int1 (by rfl) T.int_ bb_int (d_cons (d_var 0) d_nil)) d_nil)) (d_cty call_int1 (by rfl) T.int_ bb_int (d_cons (d_var 1) d_nil)) (by rfl))
    (d_seq (d_while PassesOwn.never (d_valC op_ne (d_var 3) d_int (nomark _)) (d_last (d_par rfl S.nd rfl rfl (by decide) rfl rfl (d_var 3) (d_op2 op_modN (d_var 2) (d_var 3)) (by rfl))))
    (d_last (d_ret (d_tup (d_cons (d_op2 op_fdivW (d_var 0) (d_var 2)) (d_cons (d_op2 op_fdivW (d_var 1) (d_var 2)) d_nil)))))))
theorem S_cut : FnScope N_cut P_cut (defScope st_cut) := ⟨rfl, rfl, rfl, by decide +kernel, rfl, by decide +kernel, by decide +kernel⟩
set_option maxHeartbeats 4000000 in
theorem ok_cut {f : Addr} {fd : FuncData} (F : FnP K "cut" st_cut [] f fd) (T : Tt K mg C) (c_common : Cal P w K mg base "common" 1 P_common [] (f_common C)) : FnOk P w K mg base CX0 2 f fd P_cut (EffSp K (f_cut C)) := by
  refine F.ok S_cut (fun _ _ _ _ h => h.len) (fun cdv A outer s H vs Q E hr h => ⟨(s_cut C).den, PSs.nox ?_, (s_cut C).fn rfl h⟩)
  have S := S_cut
  exact (d_seq (d_set S.nd rfl (by first | exact Or.inl rfl | exact Or.inr rfl) (d_ifE (d_valC op_gt (d_var 1) d_int (nomark _)) (d_call c_common (hr.mono (by decide)) (by rfl) (d_cons (d_var 0) (d_cons (d_var 1) d_nil))) (d_op1 un_neg (d_call c_common (hr.mono (by decide)) (by rfl) (d_cons (d_var 0) (d_cons (d_var 1) d_nil))))))
    (d_last (d_ret (d_tup (d_cons (d_op2 op_fdivW (d_var 0) (d_var 2)) (d_cons (d_op2 op_fdivW (d_var 1) (d_var 2)) d_nil))))))
theorem S_is_fraction : FnScope N_is_fraction P_is_fraction (defScope st_is_fraction) := ⟨rfl, rfl, rfl, by decide +kernel, rfl, by decide +kernel, by decide +kernel⟩
set_option maxHeartbeats 4000000 in
theorem ok_is_fraction {f : Addr} {fd : FuncData} (F : FnP K "is_fraction" st_is_fraction [] f fd) (T : Tt K mg C) (c_is_integer : Cal P w K mg base "is_integer" 1 P_is_integer [] (f_is_integer C)) (c_is_integer_1 : Cal P w K mg base "is_integer" 1 P_is_integer [.non] (f_is_integer C)) (c_is_integer_2 : Cal P w K mg base "is_integer" 1 P_is_integer [.non, .non] (f_is_integer C)) (c_is_tuple : Cal P w K mg base "is_tuple" 1 P_is_tuple [] (f_is_tuple C)) (c_common : Cal P w K mg base "common" 1 P_common [] (f_common C)) : FnOk P w K mg base CX0 2 f fd P_is_fraction (EffSp K (f_is_fraction C)) := by
  refine F.ok S_is_fraction (fun _ _ _ _ h => h.len) (fun cdv A outer s H vs Q E hr h => ⟨(s_is_fraction C).den, PSs.nox ?_, (s_is_fraction C).fn rfl h⟩)
  have S := S_is_fraction
  obtain ⟨tPAIR, gPAIR⟩ := T.cPAIR
  exact (d_seq (d_if (d_pw (d_or (d_not (d_val (d_call c_is_tuple (hr.mono (by decide)) (by rfl) (d_cons (d_var 0) (d_cons (d_gint rfl gPAIR) (d_cons (d_gint rfl gPAIR) d_nil)))))) (d_or (d_not (d_val (d_call c_is_integer_2 (hr.mono (by decide)) (by rfl) (d_cons (d_ix (d_var 0) d_int (fun _ _ => rfl)) d_nil)))) (d_or1 (d_not (d_val (d_call c_is_integer_1 (hr.mono (by decide)) (by rfl) (d_cons (d_ix (d_var 0) d_int (fun _ _ => rfl)) (d_cons d_int d_nil))))))))) (d_last (d_ret d_bl)) d_skip)
    (d_last (d_ret (d_cmp op_eq (d_call c_common (hr.mono (by decide)) (by rfl) (d_cons (d_ix (d_var 0) d_int (fun _ _ => rfl)) (d_cons (d_ix (d_var 0) d_int (fun _ _ => rfl)) d_nil))) d_int (nomark _)))))
theorem S_law_of : FnScope N_law_of P_law_of (defScope st_law_of) := ⟨rfl, rfl, rfl, by decide +kernel, rfl, by decide +kernel, by decide +kernel⟩
set_option maxHeartbeats 4000000 in
theorem ok_law_of {f : Addr} {fd : FuncData} (F : FnP K "_law_of" st_law_of [] f fd) (T : Tt K mg C) (c_law_take : Cal P w K mg base "_law_take" 1 P_law_take [] (f_law_take C)) : FnOk P w K mg base CX0 2 f fd P_law_of (EffSp K (f_law_of C)) := by
  refine F.ok S_law_of (fun _ _ _ _ h => h.len) (fun cdv A outer s H vs Q E hr h => ⟨(s_law_of C).den, PSs.nox ?_, (s_law_of C).fn rfl h⟩)
  have S := S_law_of
  exact (d_last (d_ret (d_ix (d_var 1) (d_call c_law_take (hr.mono (by decide)) (by rfl) (d_cons (d_var 0) (d_cons (d_cb call_len (by rfl) T.len_ bb_len (d_cons (d_var 1) d_nil)) d_nil))) (fun _ _ => rfl))))
theorem S_law_added : FnScope N_law_added P_law_added (defScope st_law_added) := ⟨rfl, rfl, rfl, by decide +kernel, rfl, by decide +kernel, by decide +kernel⟩
set_option maxHeartbeats 4000000 in
theorem ok_law_added {f : Addr} {fd : FuncData} (F : FnP K "_law_added" st_law_added [] f fd) (T : Tt K mg C) (c_law_cut : Cal P w K mg base "_law_cut" 1 P_law_cut [] (f_law_cut C)) : FnOk P w K mg base CX0 2 f fd P_law_added (EffSp K (f_law_added C)) := by
  refine F.ok S_law_added (fun _ _ _ _ h => h.len) (fun cdv A outer s H vs Q E hr h => ⟨(s_law_added C).den, PSs.nox ?_, (s_law_added C).fn rfl h⟩)
  have S := S_law_added
  exact (d_seq (d_asg (d_tup (d_cons d_int (d_cons d_int d_nil))) (d_gtup rfl (d_gcons (d_name S.nd rfl (by first | exact Or.inl rfl | exact Or.inr rfl)) (d_gcons (d_name S.nd rfl (by first | exact Or.inl rfl | exact Or.inr rfl)) d_gnil))))
    (d_seq (d_for PassesOwn.never rfl (d_seqI (d_var 0)) (d_gtup rfl (d_gcons (d_name S.nd rfl (by first | exact Or.inl rfl | exact Or.inr rfl)) (d_gcons (d_name S.nd rfl (by first | exact Or.inl rfl | exact Or.inr rfl)) d_gnil))) (d_last (d_asg (d_call c_law_cut (hr.mono (by decide)) (by rfl) (d_cons (d_op2 op_add (d_op2 op_mulW (d_var 1) (d_var 4)) (d_op2 op_mulW (d_var 3) (d_var 2))) (d_cons (d_op2 op_mulW (d_var 2) (d_var 4)) d_nil))) (d_gtup rfl (d_gcons (d_name S.nd rfl (by first | exact Or.inl rfl | exact Or.inr rfl)) (d_gcons (d_name S.nd rfl (by first | exact Or.inl rfl | exact Or.inr rfl)) d_gnil))))))
    (d_last (d_ret (d_tup (d_cons (d_var 1) (d_cons (d_var 2) d_nil)))))))
theorem S_law_drawn : FnScope N_law_drawn P_law_drawn (defScope st_law_drawn) := ⟨rfl, rfl, rfl, by decide +kernel, rfl, by decide +kernel, by decide +kernel⟩
set_option maxHeartbeats 4000000 in
theorem ok_law_drawn {f : Addr} {fd : FuncData} (F : FnP K "_law_drawn" st_law_drawn [] f fd) (T : Tt K mg C) (c_law_take : Cal P w K mg base "_law_take" 1 P_law_take [] (f_law_take C)) (c_law_cut : Cal P w K mg base "_law_cut" 1 P_law_cut [] (f_law_cut C)) : FnOk P w K mg base CX0 2 f fd P_law_drawn (EffSp K (f_law_drawn C)) := by
  refine F.ok S_law_drawn (fun _ _ _ _ h => h.len) (fun cdv A outer s H vs Q E hr h => ⟨(s_law_drawn C).den, PSs.nox ?_, (s_law_drawn C).fn rfl h⟩)
  have S := S_law_drawn
  exact (d_seq (d_setF S.nd rfl (by first | exact Or.inl rfl | exact Or.inr rfl) (d_lst d_nil))
    (d_seq (d_for PassesOwn.never rfl (d_rng1 (by rfl) T.range_ (d_var 1)) (d_name S.nd rfl (by first | exact Or.inl rfl | exact Or.inr rfl)) (d_last (d_app (pv 4) (d_call c_law_cut (hr.mono (by decide)) (by rfl) (d_cons (d_op2 op_sub (d_call c_law_take (hr.mono (by decide)) (by rfl) (d_cons (d_var 0) (d_cons (d_op2 op_add (d_op2 op_mulW d_int (d_var 2)) d_int) d_nil))) (d_var 2)) (d_cons (d_op2 op_add d_int (d_call c_law_take (hr.mono (by decide)) (by rfl) (d_cons (d_var 0) (d_cons (d_var 3) d_nil)))) d_nil))))))
    (d_last (d_frz (d_ret (d_ctyx call_tuple_of (by rfl) T.tuple_ bb_tuple (d_cons (d_var 4) d_nil)))))))
theorem S_are_fractions : FnScope N_are_fractions P_are_fractions (defScope st_are_fractions) := ⟨rfl, rfl, rfl, by decide +kernel, rfl, by decide +kernel, by decide +kernel⟩
set_option maxHeartbeats 4000000 in
theorem ok_are_fractions {f : Addr} {fd : FuncData} (F : FnP K "are_fractions" st_are_fractions [.non] f fd) (T : Tt K mg C) (c_is_fraction : Cal P w K mg base "is_fraction" 2 P_is_fraction [] (f_is_fraction C)) : FnOk P w K mg base CX0 3 f fd P_are_fractions (EffSp K (f_are_fractions C)) := by
  refine F.ok S_are_fractions (fun _ _ _ _ h => h.len) (fun cdv A outer s H vs Q E hr h => ⟨(s_are_fractions C).den, PSs.nox ?_, (s_are_fractions C).fn rfl h⟩)
  have S := S_are_fractions
  exact (d_seq (d_if (d_pw (d_or (d_not (d_val (d_cb call_isi (by rfl) T.isinstance_ bb_isinstance (d_cons (d_var 0) (d_cons (d_ty (by rfl) T.tuple_ bb_tuple) d_nil))))) (d_or1 (d_pw (d_and (d_valC op_notN (d_var 1) d_non (nomark _)) (d_and1 (d_valC op_ne (d_cb call_len (by rfl) T.len_ bb_len (d_cons (d_var 0) d_nil)) (d_var 1) (nomark _)))))))) (d_last (d_ret d_bl)) d_skip)
    (d_last (d_ret (d_cb (cr_all rfl) (by rfl) T.all_ bb_all (d_cons (d_ofF (d_comp [("one", 2)] rfl rfl S.nd (d_seqI (d_var 0)) (blkOk_by (N := N_are_fractions) (sc := defScope st_are_fractions) (by decide +kernel)) (fun _ _ _ _ _ => (d_name S.nd rfl (by first | exact Or.inl rfl | exact Or.inr rfl))) (fun _ _ _ _ _ => d_tyes) (fun _ _ _ _ _ => (d_call c_is_fraction (hr.mono (by decide)) (by rfl) (d_cons (d_var 2) d_nil))))) d_nil)))))
theorem S_plus : FnScope N_plus P_plus (defScope st_plus) := ⟨rfl, rfl, rfl, by decide +kernel, rfl, by decide +kernel, by decide +kernel⟩
set_option maxHeartbeats 4000000 in
theorem ok_plus {f : Addr} {fd : FuncData} (F : FnP K "plus" st_plus [] f fd) (T : Tt K mg C) (c_cut : Cal P w K mg base "cut" 2 P_cut [] (f_cut C)) : FnOk P w K mg base CX0 3 f fd P_plus (EffSp K (f_plus C)) := by
  refine F.ok S_plus (fun _ _ _ _ h => h.len) (fun cdv A outer s H vs Q E hr h => ⟨(s_plus C).den, PSs.nox ?_, (s_plus C).fn rfl h⟩)
  have S := S_plus
  exact (d_last (d_ret (d_call c_cut (hr.mono (by decide)) (by rfl) (d_cons (d_op2 op_add (d_op2 op_mulW (d_ix (d_var 0) d_int (fun _ _ => rfl)) (d_ix (d_var 1) d_int (fun _ _ => rfl))) (d_op2 op_mulW (d_ix (d_var 1) d_int (fun _ _ => rfl)) (d_ix (d_var 0) d_int (fun _ _ => rfl)))) (d_cons (d_op2 op_mulW (d_ix (d_var 0) d_int (fun _ _ => rfl)) (d_ix (d_var 1) d_int (fun _ _ => rfl))) d_nil)))))
theorem S_times : FnScope N_times P_times (defScope st_times) := ⟨rfl, rfl, rfl, by decide +kernel, rfl, by decide +kernel, by decide +kernel⟩
set_option maxHeartbeats 4000000 in
theorem ok_times {f : Addr} {fd : FuncData} (F : FnP K "times" st_times [] f fd) (T : Tt K mg C) (c_cut : Cal P w K mg base "cut" 2 P_cut [] (f_cut C)) : FnOk P w K mg base CX0 3 f fd P_times (EffSp K (f_times C)) := by
  refine F.ok S_times (fun _ _ _ _ h => h.len) (fun cdv A outer s H vs Q E hr h => ⟨(s_times C).den, PSs.nox ?_, (s_times C).fn rfl h⟩)
  have S := S_times
  exact (d_last (d_ret (d_call c_cut (hr.mono (by decide)) (by rfl) (d_cons (d_op2 op_mulW (d_ix (d_var 0) d_int (fun _ _ => rfl)) (d_ix (d_var 1) d_int (fun _ _ => rfl))) (d_cons (d_op2 op_mulW (d_ix (d_var 0) d_int (fun _ _ => rfl)) (d_ix (d_var 1) d_int (fun _ _ => rfl))) d_nil)))))
theorem S_weighed : FnScope N_weighed P_weighed (defScope st_weighed) := ⟨rfl, rfl, rfl, by decide +kernel, rfl, by decide +kernel, by decide +kernel⟩
set_option maxHeartbeats 4000000 in
theorem ok_weighed {f : Addr} {fd : FuncData} (F : FnP K "weighed" st_weighed [] f fd) (T : Tt K mg C) (c_times : Cal P w K mg base "times" 3 P_times [] (f_times C)) (c_plus : Cal P w K mg base "plus" 3 P_plus [] (f_plus C)) : FnOk P w K mg base CX0 4 f fd P_weighed (EffSp K (f_weighed C)) := by
  refine F.ok S_weighed (fun _ _ _ _ h => h.len) (fun cdv A outer s H vs Q E hr h => ⟨(s_weighed C).den, PSs.nox ?_, (s_weighed C).fn rfl h⟩)
  have S := S_weighed
  exact (d_seq (d_set S.nd rfl (by first | exact Or.inl rfl | exact Or.inr rfl) (d_glob rfl T.gNOUGHT rfl))
    (d_seq (d_for PassesOwn.never rfl (d_zip (by rfl) T.zip_ (d_var 0) (d_var 1)) (d_gtup rfl (d_gcons (d_name S.nd rfl (by first | exact Or.inl rfl | exact Or.inr rfl)) (d_gcons (d_name S.nd rfl (by first | exact Or.inl rfl | exact Or.inr rfl)) d_gnil))) (d_last (d_set S.nd rfl (by first | exact Or.inl rfl | exact Or.inr rfl) (d_call c_plus (hr.mono (by decide)) (by rfl) (d_cons (d_var 2) (d_cons (d_call c_times (hr.mono (by decide)) (by rfl) (d_cons (d_var 3) (d_cons (d_var 4) d_nil))) d_nil))))))
    (d_last (d_ret (d_var 2)))))
theorem S_total : FnScope N_total P_total (defScope st_total) := ⟨rfl, rfl, rfl, by decide +kernel, rfl, by decide +kernel, by decide +kernel⟩
set_option maxHeartbeats 4000000 in
theorem ok_total {f : Addr} {fd : FuncData} (F : FnP K "total" st_total [.non] f fd) (T : Tt K mg C) (c_are_fractions : Cal P w K mg base "are_fractions" 3 P_are_fractions [] (f_are_fractions C)) (c_are_fractions_1 : Cal P w K mg base "are_fractions" 3 P_are_fractions [.non] (f_are_fractions C)) (c_weighed : Cal P w K mg base "weighed" 4 P_weighed [] (f_weighed C)) : FnOk P w K mg base CX0 5 f fd P_total (EffSp K (f_total C)) := by
  refine F.ok S_total (fun _ _ _ _ h => h.len) (fun cdv A outer s H vs Q E hr h => ⟨(s_total C).den, PSs.nox ?_, (s_total C).fn rfl h⟩)
  have S := S_total
  exact (d_seq (d_if (d_not (d_val (d_call c_are_fractions_1 (hr.mono (by decide)) (by rfl) (d_cons (d_var 0) d_nil)))) (d_last d_never) d_skip)
    (d_seq (d_if (d_valC op_isN (d_var 1) d_non (nomark _)) (d_last (d_set S.nd rfl (by first | exact Or.inl rfl | exact Or.inr rfl) (d_op2x op_repA (d_tup (d_cons (d_glob rfl T.gONE rfl) d_nil)) (d_cb call_len (by rfl) T.len_ bb_len (d_cons (d_var 0) d_nil))))) d_skip)
    (d_seq (d_if (d_not (d_val (d_call c_are_fractions (hr.mono (by decide)) (by rfl) (d_cons (d_var 1) (d_cons (d_cb call_len (by rfl) T.len_ bb_len (d_cons (d_var 0) d_nil)) d_nil))))) (d_last d_never) d_skip)
    (d_last (d_ret (d_call c_weighed (hr.mono (by decide)) (by rfl) (d_cons (d_var 0) (d_cons (d_var 1) d_nil))))))))
theorem S_law_right : FnScope N_law_right P_law_right (defScope st_law_right) := ⟨rfl, rfl, rfl, by decide +kernel, rfl, by decide +kernel, by decide +kernel⟩
set_option maxHeartbeats 4000000 in
theorem ok_law_right {f : Addr} {fd : FuncData} (F : FnP K "_law_right" st_law_right [] f fd) (T : Tt K mg C) (c_law_take : Cal P w K mg base "_law_take" 1 P_law_take [] (f_law_take C)) (c_law_of : Cal P w K mg base "_law_of" 2 P_law_of [] (f_law_of C)) (c_law_drawn : Cal P w K mg base "_law_drawn" 2 P_law_drawn [] (f_law_drawn C)) (c_law_added : Cal P w K mg base "_law_added" 2 P_law_added [] (f_law_added C)) (c_total : Cal P w K mg base "total" 5 P_total [] (f_total C)) (c_total_1 : Cal P w K mg base "total" 5 P_total [.non] (f_total C)) (c_law_cut : Cal P w K mg base "_law_cut" 1 P_law_cut [] (f_law_cut C)) : FnG P w K mg base CX0 6 f fd P_law_right (EffSp K (f_law_right C)) := by
  refine fnG_of F S_law_right (fun _ _ _ _ h => h.len) (fun cdv A outer s H vs Q E hgd hr h => ⟨(s_law_right C).den, PSs.nox ?_, (s_law_right C).fn rfl h⟩)
  have S := S_law_right
  exact (d_seq (d_set S.nd rfl (by first | exact Or.inl rfl | exact Or.inr rfl) (d_call c_law_of (hr.mono (by decide)) (by rfl) (d_cons (d_var 0) (d_cons (d_ofF (d_lst (d_cons d_int (d_cons d_int (d_cons d_int (d_cons (d_op2 op_add d_int (d_call c_law_take (hr.mono (by decide)) (by rfl) (d_cons (d_var 0) (d_cons d_int d_nil)))) d_nil)))))) d_nil))))
    (d_seq (d_set S.nd rfl (by first | exact Or.inl rfl | exact Or.inr rfl) (d_call c_law_drawn (hr.mono (by decide)) (by rfl) (d_cons (d_var 0) (d_cons (d_var 1) (d_cons (d_call c_law_of (hr.mono (by decide)) (by rfl) (d_cons (d_var 0) (d_cons (d_ofF (d_lst (d_cons d_int (d_cons d_int (d_cons (d_op2 op_sub (d_op2 op_powW d_int d_int) d_int) d_nil))))) d_nil))) (d_cons (d_call c_law_of (hr.mono (by decide)) (by rfl) (d_cons (d_var 0) (d_cons (d_ofF (d_lst (d_cons d_int (d_cons d_int (d_cons d_int (d_cons d_int d_nil)))))) d_nil))) d_nil))))))
    (d_seq (d_set S.nd rfl (by first | exact Or.inl rfl | exact Or.inr rfl) (d_call c_law_drawn (hr.mono (by decide)) (by rfl) (d_cons (d_var 0) (d_cons (d_var 1) (d_cons (d_call c_law_of (hr.mono (by decide)) (by rfl) (d_cons (d_var 0) (d_cons (d_ofF (d_lst (d_cons d_int (d_cons d_int d_nil)))) d_nil))) (d_cons (d_call c_law_of (hr.mono (by decide)) (by rfl) (d_cons (d_var 0) (d_cons (d_ofF (d_lst (d_cons d_int (d_cons d_int (d_cons d_int d_nil))))) d_nil))) d_nil))))))
    (d_seq (d_set S.nd rfl (by first | exact Or.inl rfl | exact Or.inr rfl) (d_call c_law_added (hr.mono (by decide)) (by rfl) (d_cons (d_var 2) d_nil)))
    (d_seq (d_if (d_pw (d_or (d_valC op_ne (d_cb (cr_repr hgd (hu_of64 hr)) (by rfl) T.repr_ bb_repr (d_cons (d_call c_total_1 (hr.mono (by decide)) (by rfl) (d_cons (d_var 2) d_nil)) d_nil)) (d_cb (cr_repr hgd (hu_of64 hr)) (by rfl) T.repr_ bb_repr (d_cons (d_var 4) d_nil)) (nomark _)) (d_or1 (d_valC op_ne (d_cb (cr_repr hgd (hu_of64 hr)) (by rfl) T.repr_ bb_repr (d_cons (d_call c_total_1 (hr.mono (by decide)) (by rfl) (d_cons (d_revT (d_var 2)) d_nil)) d_nil)) (d_cb (cr_repr hgd (hu_of64 hr)) (by rfl) T.repr_ bb_repr (d_cons (d_var 4) d_nil)) (nomark _))))) (d_last (d_ret d_bl)) d_skip)
    (d_seq (d_setC [("one", 6), ("far", 7)] rfl rfl S.nd rfl rfl (sw_true rfl rfl rfl (by decide +kernel)) (d_zip (by rfl) T.zip_ (d_var 2) (d_var 3)) (blkOk_by (N := N_law_right) (sc := defScope st_law_right) (by decide +kernel)) (fun _ _ _ _ _ => (d_gtup rfl (d_gcons (d_name S.nd rfl (by first | exact Or.inl rfl | exact Or.inr rfl)) (d_gcons (d_name S.nd rfl (by first | exact Or.inl rfl | exact Or.inr rfl)) d_gnil)))) (fun _ _ _ _ _ => d_tyes) (fun _ _ _ _ _ => (d_call c_law_cut (hr.mono (by decide)) (by rfl) (d_cons (d_op2 op_mulW (d_ix (d_var 6) d_int (fun _ _ => rfl)) (d_ix (d_var 7) d_int (fun _ _ => rfl))) (d_cons (d_op2 op_mulW (d_ix (d_var 6) d_int (fun _ _ => rfl)) (d_ix (d_var 7) d_int (fun _ _ => rfl))) d_nil)))))
    (d_seq (d_set S.nd rfl (by first | exact Or.inl rfl | exact Or.inr rfl) (d_call c_law_added (hr.mono (by decide)) (by rfl) (d_cons (d_var 5) d_nil)))
    (d_seq (d_if (d_pw (d_or (d_valC op_ne (d_cb (cr_repr hgd (hu_of64 hr)) (by rfl) T.repr_ bb_repr (d_cons (d_call c_total (hr.mono (by decide)) (by rfl) (d_cons (d_var 2) (d_cons (d_var 3) d_nil))) d_nil)) (d_cb (cr_repr hgd (hu_of64 hr)) (by rfl) T.repr_ bb_repr (d_cons (d_var 8) d_nil)) (nomark _)) (d_or1 (d_valC op_ne (d_cb (cr_repr hgd (hu_of64 hr)) (by rfl) T.repr_ bb_repr (d_cons (d_call c_total (hr.mono (by decide)) (by rfl) (d_cons (d_revT (d_var 2)) (d_cons (d_revT (d_var 3)) d_nil))) d_nil)) (d_cb (cr_repr hgd (hu_of64 hr)) (by rfl) T.repr_ bb_repr (d_cons (d_var 8) d_nil)) (nomark _))))) (d_last (d_ret d_bl)) d_skip)
    (d_seq (d_set S.nd rfl (by first | exact Or.inl rfl | exact Or.inr rfl) (d_call c_law_take (hr.mono (by decide)) (by rfl) (d_cons (d_var 0) (d_cons (d_op2 op_add (d_var 1) d_int) d_nil))))
    (d_seq (d_if (d_valC op_ne (d_cb (cr_repr hgd (hu_of64 hr)) (by rfl) T.repr_ bb_repr (d_cons (d_call c_total_1 (hr.mono (by decide)) (by rfl) (d_cons (d_tup (d_cons (d_call c_total_1 (hr.mono (by decide)) (by rfl) (d_cons (d_sliceT (d_var 2) d_pno (d_psome (d_var 9))) d_nil)) (d_cons (d_call c_total_1 (hr.mono (by decide)) (by rfl) (d_cons (d_sliceT (d_var 2) (d_psome (d_var 9)) d_pno) d_nil)) d_nil))) d_nil)) d_nil)) (d_cb (cr_repr hgd (hu_of64 hr)) (by rfl) T.repr_ bb_repr (d_cons (d_var 4) d_nil)) (nomark _)) (d_last (d_ret d_bl)) d_skip)
    (d_seq (d_if (d_valC op_ne (d_cb (cr_repr hgd (hu_of64 hr)) (by rfl) T.repr_ bb_repr (d_cons (d_call c_total_1 (hr.mono (by decide)) (by rfl) (d_cons (d_tup (d_cons (d_call c_total (hr.mono (by decide)) (by rfl) (d_cons (d_sliceT (d_var 2) d_pno (d_psome (d_var 9))) (d_cons (d_sliceT (d_var 3) d_pno (d_psome (d_var 9))) d_nil))) (d_cons (d_call c_total (hr.mono (by decide)) (by rfl) (d_cons (d_sliceT (d_var 2) (d_psome (d_var 9)) d_pno) (d_cons (d_sliceT (d_var 3) (d_psome (d_var 9)) d_pno) d_nil))) d_nil))) d_nil)) d_nil)) (d_cb (cr_repr hgd (hu_of64 hr)) (by rfl) T.repr_ bb_repr (d_cons (d_var 8) d_nil)) (nomark _)) (d_last (d_ret d_bl)) d_skip)
    (d_seq (d_set S.nd rfl (by first | exact Or.inl rfl | exact Or.inr rfl) (d_ctyx call_tuple_of (by rfl) T.tuple_ bb_tuple (d_cons (d_ofF (d_comp [("top", 11), ("low", 12)] rfl rfl S.nd (d_seqI (d_var 3)) (blkOk_by (N := N_law_right) (sc := defScope st_law_right) (by decide +kernel)) (fun _ _ _ _ _ => (d_gtup rfl (d_gcons (d_name S.nd rfl (by first | exact Or.inl rfl | exact Or.inr rfl)) (d_gcons (d_name S.nd rfl (by first | exact Or.inl rfl | exact Or.inr rfl)) d_gnil)))) (fun _ _ _ _ _ => d_tyes) (fun _ _ _ _ _ => (d_tup (d_cons (d_op1 un_neg (d_var 11)) (d_cons (d_var 12) d_nil)))))) d_nil)))
    (d_seq (d_if (d_valC op_ne (d_cb (cr_repr hgd (hu_of64 hr)) (by rfl) T.repr_ bb_repr (d_cons (d_call c_total (hr.mono (by decide)) (by rfl) (d_cons (d_var 2) (d_cons (d_var 10) d_nil))) d_nil)) (d_cb (cr_repr hgd (hu_of64 hr)) (by rfl) T.repr_ bb_repr (d_cons (d_tup (d_cons (d_op1 un_neg (d_ix (d_var 8) d_int (fun _ _ => rfl))) (d_cons (d_ix (d_var 8) d_int (fun _ _ => rfl)) d_nil))) d_nil)) (nomark _)) (d_last (d_ret d_bl)) d_skip)
    (d_last (d_ret (d_cmp op_eq (d_cb (cr_repr hgd (hu_of64 hr)) (by rfl) T.repr_ bb_repr (d_cons (d_call c_total (hr.mono (by decide)) (by rfl) (d_cons (d_var 2) (d_cons (d_op2x op_repA (d_tup (d_cons (d_tup (d_cons d_int (d_cons d_int d_nil))) d_nil)) (d_var 1)) d_nil))) d_nil)) (d_cb (cr_repr hgd (hu_of64 hr)) (by rfl) T.repr_ bb_repr (d_cons (d_tup (d_cons d_int (d_cons d_int d_nil))) d_nil)) (nomark _)))))))))))))))))
theorem S_law : FnScope N_law P_law (defScope st_law) := ⟨rfl, rfl, rfl, by decide +kernel, rfl, by decide +kernel, by decide +kernel⟩
set_option maxHeartbeats 4000000 in
theorem ok_law {f : Addr} {fd : FuncData} (F : FnP K "law" st_law [] f fd) (T : Tt K mg C) (c_law_places : Cal P w K mg base "_law_places" 1 P_law_places [] (f_law_places C)) (c_law_pot : Cal P w K mg base "_law_pot" 1 P_law_pot [] (f_law_pot C)) (c_law_right : CalG P w K mg base "_law_right" 6 P_law_right [] (f_law_right C)) : FnG P w K mg base CX0 7 f fd P_law (EffSp K (f_law C)) := by
  refine fnG_of F S_law (fun _ _ _ _ h => h.len) (fun cdv A outer s H vs Q E hgd hr h => ⟨(s_law C).den, PSs.nox ?_, (s_law C).fn rfl h⟩)
  have S := S_law
  exact (d_seq (d_for PassesOwn.never rfl (d_seqI (d_call c_law_places (hr.mono (by decide)) (by rfl) (d_cons (d_var 0) (d_cons d_int d_nil)))) (d_name S.nd rfl (by first | exact Or.inl rfl | exact Or.inr rfl)) (d_seq (d_set S.nd rfl (by first | exact Or.inl rfl | exact Or.inr rfl) (d_call c_law_pot (hr.mono (by decide)) (by rfl) (d_cons (d_var 0) (d_cons (d_var 1) d_nil))))
    (d_last (d_if (d_not (d_val (d_cb (cr_all rfl) (by rfl) T.all_ bb_all (d_cons (d_ofF (d_comp [("lap", 3)] rfl rfl S.nd (d_rng1 (by rfl) T.range_ d_int) (blkOk_by (N := N_law) (sc := defScope st_law) (by decide +kernel)) (fun _ _ _ _ _ => (d_name S.nd rfl (by first | exact Or.inl rfl | exact Or.inr rfl))) (fun _ _ _ _ _ => d_tyes) (fun _ _ _ _ _ => (d_callG c_law_right hgd (hr.mono (by decide)) (by rfl) (d_cons (d_var 2) d_nil))))) d_nil)))) (d_last (d_ret d_bl)) d_skip))))
    (d_last (d_ret d_bl)))
end
end K84

set_option Elab.async false
set_option linter.all false
set_option maxRecDepth 100000
set_option autoImplicit false
namespace K84
open PySem L2 RM MP
section
variable {K : PySem.W.Frag} {C : Cs K} {st : Store}
theorem is_integer_0 {i : Int} : f_is_integer C [.int i, .non, .non] st = some (.bl true, st) := by
  simp [f_is_integer, fnRun, s_is_integer, evVar, kit_int_int, kit_int_bool]
theorem is_integer_1 {i j : Int} : f_is_integer C [.int i, .int j, .non] st = some (.bl (decide (j ≤ i)), st) := by
  simp [f_is_integer, fnRun, s_is_integer, evVar, kit_int_int, kit_int_bool]
  by_cases h : j ≤ i <;> simp [h]
theorem is_tuple_2 {ds : List D} : f_is_tuple C [.tup ds, .int 2, .int 2] st = some (.bl (decide (ds.length = 2)), st) := by
  simp [f_is_tuple, fnRun, s_is_tuple, evVar, kit_tup_tup]
  by_cases h : ds.length = 2
  · simp [h]
  · by_cases h2 : (2 : Int) ≤ ds.length
    · have h3 : ¬ ((ds.length : Int) ≤ 2) := by omega
      simp [h, h2, h3]
    · simp [h, h2]
/-! gcd -/
theorem fmod_nat (m k : Nat) : (m : Int).fmod (k : Int) = ((m % k : Nat) : Int) := by
  rw [Int.fmod_eq_emod_of_nonneg _ (by omega)]
  simp
theorem gcd_step (m k : Nat) (h : k ≠ 0) : Nat.gcd k (m % k) = Nat.gcd m k := by
  rw [Nat.gcd_comm m k, Nat.gcd_rec k m, Nat.gcd_comm]
theorem common_while : ∀ (n m k : Nat), k < n → whileRun (Tx.val (.op2 oGt (.var 1) (.int 0)) : Tx K).ev (Sx.par 0 1 (.var 1) (.op2 oMod (.var 0) (.var 1)) : Sx K).run n [.d (.int m), .d (.int k)] st = some (.nx [.d (.int (Nat.gcd m k)), .d (.int 0)] st)
  | 0, m, k, h => by omega
  | n + 1, m, k, h => by
    unfold whileRun
    by_cases hk : k = 0
    · subst hk
      simp [evVar]
    · have h1 : (0 : Int) < k := by omega
      have h2 : (k : Int) ≠ 0 := by omega
      have ih := common_while n k (m % k) (Nat.lt_of_lt_of_le (Nat.mod_lt m (by omega)) (by omega))
      rw [gcd_step m k hk] at ih
      have h3 : 0 < k := by omega
      simp [evVar, h1, h2, h3, fmod_nat, hk]
      simpa using ih
theorem abs_nat (i : Int) : (if i < 0 then -i else i) = (i.natAbs : Int) := by split <;> omega
theorem common_ok {i j : Int} : f_common C [.int i, .int j] st = some (.int (Nat.gcd i.natAbs j.natAbs), st) := by
  simp only [f_common, fnRun, s_common]
  simp [evVar, abs_nat]
  have h := common_while (K := K) (st := st) (j.natAbs + 1) i.natAbs j.natAbs (by omega)
  simp [h, evVar]

/-! fractions -/
def enc (q : Rat) : D := .tup [.int q.num, .int q.den]
theorem gcd_le {t : Int} {l : Nat} (hl : 0 < l) : Nat.gcd t.natAbs l ≤ l ∧ 0 < Nat.gcd t.natAbs l := ⟨Nat.gcd_le_right _ hl, Nat.gcd_pos_of_pos_right _ hl⟩
theorem log2_lt {n k : Nat} (h : n < 2 ^ k) (hk : 0 < k) : n.log2 < k := by
  by_cases h0 : n = 0
  · subst h0
    simpa using hk
  · exact (Nat.log2_lt h0).mpr h
theorem div_ok {t : Int} {l : Nat} (hl : 0 < l) (hb : l < 2 ^ 9000) (x : Int) : CDivW x ((Nat.gcd t.natAbs l : Nat) : Int) := by
  obtain ⟨h1, h2⟩ := gcd_le (t := t) hl
  refine ⟨by omega, ?_⟩
  rw [Int.natAbs_natCast]
  exact log2_lt (Nat.lt_of_le_of_lt h1 hb) (by omega)
theorem mk_enc (t : Int) (l : Nat) (hl : 0 < l) : D.tup [.int (t / ((Nat.gcd t.natAbs l : Nat) : Int)), .int ((l : Int) / ((Nat.gcd t.natAbs l : Nat) : Int))] = enc (mkRat t l) := by
  unfold enc
  have h : l ≠ 0 := by omega
  rw [Rat.num_mkRat, Rat.den_mkRat, if_neg h, if_neg h, Nat.gcd_comm l]
  simp
theorem cut_ok {t : Int} {l : Nat} (hl : 0 < l) (hb : l < 2 ^ 9000) : f_cut C [.int t, .int l] st = some (enc (mkRat t l), st) := by
  have h1 : (0 : Int) < l := by omega
  have e := mk_enc t l hl
  simp only [f_cut, fnRun, s_cut]
  simp [evVar, h1, hl, common_ok, div_ok hl hb]
  simpa using e
theorem law_while : ∀ (n m k : Nat) (a b : Slot), k < n → whileRun (Tx.val (.op2 oNe (.var 3) (.int 0)) : Tx K).ev (Sx.par 2 3 (.var 3) (.op2 oMod (.var 2) (.var 3)) : Sx K).run n [a, b, .d (.int m), .d (.int k)] st = some (.nx [a, b, .d (.int (Nat.gcd m k)), .d (.int 0)] st)
  | 0, m, k, a, b, h => by omega
  | n + 1, m, k, a, b, h => by
    unfold whileRun
    by_cases hk : k = 0
    · subst hk
      simp [evVar]
    · have h2 : (k : Int) ≠ 0 := by omega
      have ih := law_while n k (m % k) a b (Nat.lt_of_lt_of_le (Nat.mod_lt m (by omega)) (by omega))
      rw [gcd_step m k hk] at ih
      simp [evVar, h2, fmod_nat, hk]
      simpa using ih
theorem law_cut_ok {t : Int} {l : Nat} (hl : 0 < l) (hb : l < 2 ^ 9000) : f_law_cut C [.int t, .int l] st = some (enc (mkRat t l), st) := by
  have e := mk_enc t l hl
  have h := law_while (K := K) (st := st) (l + 1) t.natAbs l (.d (.int t)) (.d (.int l)) (by omega)
  simp only [f_law_cut, fnRun, s_law_cut]
  simp [evVar, abs_nat]
  simp [h, evVar, div_ok hl hb]
  simpa using e
theorem is_fraction_ok {q : Rat} : f_is_fraction C [enc q] st = some (.bl true, st) := by
  have h1 : (1 : Int) ≤ q.den := by have := q.den_pos; omega
  have h2 : Nat.gcd q.num.natAbs q.den = 1 := q.reduced
  simp only [f_is_fraction, fnRun, s_is_fraction, enc]
  simp [evVar, is_tuple_2, is_integer_0, is_integer_1, common_ok, h1, h2]
/-! a comprehension each turn of which gives one item and leaves the store -/
theorem comp_map {bind : D → MP.Env → Option MP.Env} {tt : MP.Env → Store → Option (Bool × Store)} {te : MP.Env → Store → Option (D × Store)} {ρ : MP.Env} {α : Type} {e : α → D} {g : α → D} :
    ∀ {xs : List α}, (∀ x ∈ xs, ∃ ρ1, bind (e x) ρ = some ρ1 ∧ tt ρ1 st = some (true, st) ∧ te ρ1 st = some (g x, st)) → compGo bind tt te ρ (xs.map e) st = some (xs.map g, st)
  | [], _ => rfl
  | x :: xs, h => by
    obtain ⟨ρ1, h1, h2, h3⟩ := h x List.mem_cons_self
    have ih := comp_map (bind := bind) (tt := tt) (te := te) (ρ := ρ) (e := e) (g := g) (xs := xs) fun y hy => h y (List.mem_cons_of_mem _ hy)
    simp [compGo, h1, h2, h3, ih]
theorem bls_true : ∀ n : Nat, blsD (List.replicate n (.bl true)) = some (List.replicate n true)
  | 0 => rfl
  | n + 1 => by
    rw [List.replicate_succ, List.replicate_succ]
    unfold blsD
    rw [bls_true n]
    rfl
theorem all_true {n : Nat} : allD (.lst (List.replicate n (.bl true))) st = some (.bl true) := by
  show (blsD (List.replicate n (.bl true))).map _ = _
  rw [bls_true]
  simp
theorem are_comp (qs : List Rat) (ρ : MP.Env) (h : ρ.length = 3) : compGo (Tg.name (K := K) 2).bind (Tx.yes (K := K)).ev (Ex.call (f_is_fraction C) [] [] (fun _ => .nil) (.cons (.var 2) .nil) : Ex K).ev ρ (qs.map enc) st = some (List.replicate qs.length (.bl true), st) := by
  have e := comp_map (st := st) (bind := (Tg.name (K := K) 2).bind) (tt := (Tx.yes (K := K)).ev) (te := (Ex.call (f_is_fraction C) [] [] (fun _ => .nil) (.cons (.var 2) .nil) : Ex K).ev) (ρ := ρ) (e := enc) (g := fun _ => .bl true) (xs := qs) (fun q _ => ⟨_, rfl, rfl, by
    simp [evVar, h, is_fraction_ok]⟩)
  rw [e, List.map_const']
theorem are_ok {qs : List Rat} (hq : qs.length ≤ 100000) : f_are_fractions C [.tup (qs.map enc), .non] st = some (.bl true, st) := by
  simp only [f_are_fractions, fnRun, s_are_fractions]
  simp [evVar, kit_tup_tup, are_comp, all_true, hq, wipeE]
theorem are_ok_n {qs : List Rat} {n : Nat} (hn : qs.length = n) (hq : qs.length ≤ 100000) : f_are_fractions C [.tup (qs.map enc), .int n] st = some (.bl true, st) := by
  simp only [f_are_fractions, fnRun, s_are_fractions]
  subst hn
  simp [evVar, kit_tup_tup, are_comp, all_true, hq, wipeE]

/-! sums -/
structure Sm (a b : Nat) (q : Rat) : Prop where
  num : q.num.natAbs < 2 ^ a
  den : q.den < 2 ^ b
theorem mulOk {x y : Int} {a b : Nat} (ha : x.natAbs < 2 ^ a) (hb : y.natAbs < 2 ^ b) (h0 : 0 < a) (h1 : 0 < b) (h : a + b ≤ 1000000) : CMulW x y := wide_mul ha hb h0 h1 h
theorem plus_ok {p q : Rat} {a b : Nat} (hp : Sm a b p) (hq : Sm a b q) (ha : 0 < a) (hb : 0 < b) (h : a ≤ 9000) (h2 : b ≤ 4500) : f_plus C [enc p, enc q] st = some (enc (p + q), st) := by
  have d1 := p.den_pos
  have d2 := q.den_pos
  have e1 : ((p.den : Int)).natAbs < 2 ^ b := by simpa using hp.den
  have e2 : ((q.den : Int)).natAbs < 2 ^ b := by simpa using hq.den
  have m1 : CMulW p.num q.den := mulOk hp.num e2 ha hb (by omega)
  have m2 : CMulW q.num p.den := mulOk hq.num e1 ha hb (by omega)
  have m3 : CMulW p.den q.den := mulOk e1 e2 hb hb (by omega)
  have hl : p.den * q.den < 2 ^ 9000 := Nat.lt_of_lt_of_le (Nat.mul_lt_mul'' hp.den hq.den) (by
    rw [← Nat.pow_add]
    exact Nat.pow_le_pow_right (by omega) (by omega))
  have c := cut_ok (C := C) (st := st) (t := p.num * q.den + q.num * p.den) (l := p.den * q.den) (Nat.mul_pos d1 d2) hl
  rw [Int.natCast_mul] at c
  rw [Rat.add_def', ← c]
  simp only [f_plus, fnRun, s_plus, enc]
  simp [evVar, m1, m2, m3]
  generalize f_cut C [D.int (p.num * ↑q.den + q.num * ↑p.den), D.int (↑p.den * ↑q.den)] st = o
  cases o <;> rfl
theorem times_ok {p q : Rat} {a b c d : Nat} (hp : Sm a b p) (hq : Sm c d q) (ha : 0 < a) (hb : 0 < b) (hc : 0 < c) (hd : 0 < d) (h : a + c ≤ 9000) (h2 : b + d ≤ 9000) : f_times C [enc p, enc q] st = some (enc (p * q), st) := by
  have d1 := p.den_pos
  have d2 := q.den_pos
  have e1 : ((p.den : Int)).natAbs < 2 ^ b := by simpa using hp.den
  have e2 : ((q.den : Int)).natAbs < 2 ^ d := by simpa using hq.den
  have m1 : CMulW p.num q.num := mulOk hp.num hq.num ha hc (by omega)
  have m3 : CMulW p.den q.den := mulOk e1 e2 hb hd (by omega)
  have hl : p.den * q.den < 2 ^ 9000 := Nat.lt_of_lt_of_le (Nat.mul_lt_mul'' hp.den hq.den) (by
    rw [← Nat.pow_add]
    exact Nat.pow_le_pow_right (by omega) (by omega))
  have c := cut_ok (C := C) (st := st) (t := p.num * q.num) (l := p.den * q.den) (Nat.mul_pos d1 d2) hl
  rw [Int.natCast_mul] at c
  rw [Rat.mul_def', ← c]
  simp only [f_times, fnRun, s_times, enc]
  simp [evVar, m1, m3]
  generalize f_cut C [D.int (p.num * q.num), D.int (↑p.den * ↑q.den)] st = o
  cases o <;> rfl
end
end K84

set_option Elab.async false
set_option linter.all false
set_option maxRecDepth 100000
set_option autoImplicit false
namespace K84
open PySem L2 RM MP
/-! ### rationals alone -/
theorem pow_mono {a b : Nat} (h : a ≤ b) : 2 ^ a ≤ 2 ^ b := Nat.pow_le_pow_right (by omega) h
theorem Sm.mono {a b c d : Nat} {q : Rat} (h : Sm a b q) (h1 : a ≤ c) (h2 : b ≤ d) : Sm c d q := ⟨Nat.lt_of_lt_of_le h.num (pow_mono h1), Nat.lt_of_lt_of_le h.den (pow_mono h2)⟩
theorem mk_num (t : Int) (l : Nat) (hl : 0 < l) : (mkRat t l).num.natAbs ≤ t.natAbs := by
  rw [Rat.num_mkRat, if_neg (by omega)]
  have h : ((Nat.gcd l t.natAbs : Nat) : Int) ∣ t := Int.ofNat_dvd_left.mpr (Nat.gcd_dvd_right _ _)
  rw [Int.natAbs_ediv_of_dvd h]
  exact Nat.div_le_self _ _
theorem mk_den (t : Int) (l : Nat) (hl : 0 < l) : (mkRat t l).den ≤ l := by
  rw [Rat.den_mkRat, if_neg (by omega)]
  exact Nat.div_le_self _ _
theorem Sm.mk' {t : Int} {l a b : Nat} (hl : 0 < l) (h1 : t.natAbs < 2 ^ a) (h2 : l < 2 ^ b) : Sm a b (mkRat t l) := ⟨Nat.lt_of_le_of_lt (mk_num t l hl) h1, Nat.lt_of_le_of_lt (mk_den t l hl) h2⟩
theorem Sm.mul {a b c d : Nat} {p q : Rat} (hp : Sm a b p) (hq : Sm c d q) : Sm (a + c) (b + d) (p * q) := by
  rw [Rat.mul_def']
  refine Sm.mk' (Nat.mul_pos p.den_pos q.den_pos) ?_ ?_
  · rw [Int.natAbs_mul, Nat.pow_add]
    exact Nat.mul_lt_mul'' hp.num hq.num
  · rw [Nat.pow_add]
    exact Nat.mul_lt_mul'' hp.den hq.den
theorem Sm.add {a b c d e f : Nat} {p q : Rat} (hp : Sm a b p) (hq : Sm c d q) (h1 : a + d + 1 ≤ e) (h2 : c + b + 1 ≤ e) (h3 : b + d ≤ f) : Sm e f (p + q) := by
  rw [Rat.add_def']
  refine Sm.mk' (Nat.mul_pos p.den_pos q.den_pos) ?_ ?_
  · have x1 : (p.num * q.den).natAbs < 2 ^ (a + d) := by
      rw [Int.natAbs_mul, Nat.pow_add, Int.natAbs_natCast]
      exact Nat.mul_lt_mul'' hp.num hq.den
    have x2 : (q.num * p.den).natAbs < 2 ^ (c + b) := by
      rw [Int.natAbs_mul, Nat.pow_add, Int.natAbs_natCast]
      exact Nat.mul_lt_mul'' hq.num hp.den
    have y1 : 2 ^ (a + d) ≤ 2 ^ (e - 1) := pow_mono (by omega)
    have y2 : 2 ^ (c + b) ≤ 2 ^ (e - 1) := pow_mono (by omega)
    have y3 : 2 ^ e = 2 ^ (e - 1) + 2 ^ (e - 1) := by
      rw [← Nat.two_mul, ← Nat.pow_succ']
      congr 1
      omega
    have z := Int.natAbs_add_le (p.num * q.den) (q.num * p.den)
    omega
  · refine Nat.lt_of_lt_of_le (Nat.mul_lt_mul'' hp.den hq.den) ?_
    rw [← Nat.pow_add]
    exact pow_mono h3
def rs : List Rat → Rat
  | [] => 0
  | x :: xs => x + rs xs
theorem rs_append (xs ys : List Rat) : rs (xs ++ ys) = rs xs + rs ys := by
  induction xs with
  | nil => simp [rs, Rat.zero_add]
  | cons x xs ih => simp [rs, ih, Rat.add_assoc]
theorem rs_reverse (xs : List Rat) : rs xs.reverse = rs xs := by
  induction xs with
  | nil => rfl
  | cons x xs ih =>
    rw [List.reverse_cons, rs_append, ih, Rat.add_comm]
    simp [rs, Rat.add_zero]
theorem rs_neg (xs ys : List Rat) : rs (List.zipWith (· * ·) xs (ys.map (- ·))) = - rs (List.zipWith (· * ·) xs ys) := by
  induction xs generalizing ys with
  | nil => simp [rs]
  | cons x xs ih =>
    cases ys with
    | nil => simp [rs]
    | cons y ys => simp [rs, ih, Rat.mul_neg, Rat.neg_add]
theorem rs_zero (xs : List Rat) : ∀ n : Nat, rs (List.zipWith (· * ·) xs (List.replicate n 0)) = 0 := by
  induction xs with
  | nil => intro n; simp [rs]
  | cons x xs ih =>
    intro n
    cases n with
    | zero => simp [rs]
    | succ n => simp [List.replicate_succ, rs, ih, Rat.mul_zero, Rat.add_zero]
theorem zip_one (xs : List Rat) : List.zipWith (· * ·) xs (List.replicate xs.length 1) = xs := by
  induction xs with
  | nil => rfl
  | cons x xs ih => simp [List.replicate_succ, ih, Rat.mul_one]
/-- the partial sums are small -/
def Fine : Rat → List (Rat × Rat) → Prop
  | _, [] => True
  | s, (p, q) :: l => Sm 4000 2000 s ∧ Sm 2000 1000 p ∧ Sm 2000 1000 q ∧ Fine (s + p * q) l
def sumW : Rat → List (Rat × Rat) → Rat
  | s, [] => s
  | s, (p, q) :: l => sumW (s + p * q) l
theorem sumW_rs : ∀ (l : List (Rat × Rat)) (s : Rat), sumW s l = s + rs (l.map fun x => x.1 * x.2)
  | [], s => by simp [sumW, rs, Rat.add_zero]
  | (p, q) :: l, s => by
    unfold sumW
    rw [sumW_rs l]
    simp [rs, Rat.add_assoc]
theorem fine_of : ∀ (l : List (Rat × Rat)) (s : Rat) (k : Nat), Sm (40 + 16 * k) (1 + 16 * k) s → (∀ x ∈ l, Sm 30 10 x.1 ∧ Sm 5 4 x.2) → k + l.length ≤ 60 → Fine s l ∧ Sm (40 + 16 * (k + l.length)) (1 + 16 * (k + l.length)) (sumW s l)
  | [], s, k, h, _, _ => ⟨trivial, by simpa [sumW] using h⟩
  | (p, q) :: l, s, k, h, hl, hk => by
    obtain ⟨h1, h2⟩ := hl (p, q) List.mem_cons_self
    have hk : k + (l.length + 1) ≤ 60 := hk
    have h3 : Sm (40 + 16 * (k + 1)) (1 + 16 * (k + 1)) (s + p * q) := h.add (h1.mul h2) (by omega) (by omega) (by omega)
    obtain ⟨f1, f2⟩ := fine_of l (s + p * q) (k + 1) h3 (fun x hx => hl x (List.mem_cons_of_mem _ hx)) (by omega)
    refine ⟨⟨h.mono (by omega) (by omega), h1.mono (by omega) (by omega), h2.mono (by omega) (by omega), f1⟩, ?_⟩
    have e : k + 1 + l.length = k + ((p, q) :: l).length := by simp; omega
    rw [e] at f2
    exact f2
theorem zip_map (ps qs : List Rat) : (ps.zip qs).map (fun x => x.1 * x.2) = List.zipWith (· * ·) ps qs := by
  rw [List.zip, List.map_zipWith]
/-! ### weighed, total -/
section
variable {K : PySem.W.Frag} {C : Cs K} {st : Store}
theorem sm0 : Sm 1 1 (0 : Rat) := ⟨by decide, by decide⟩
theorem sm1 : Sm 1 1 (1 : Rat) := ⟨by decide, by decide⟩
theorem weighed_loop : ∀ (l : List (Rat × Rat)) (s : Rat) (a b o w : Slot), Fine s l → ∃ o' w', forRun (Tg.tup 2 (.cons (.name 3) (.cons (.name 4) .nil)) : Tg K).bind (Sx.set 2 (.call (f_plus C) [] [] (fun _ => .nil) (.cons (.var 2) (.cons (.call (f_times C) [] [] (fun _ => .nil) (.cons (.var 3) (.cons (.var 4) .nil))) .nil))) : Sx K).run
    (l.map fun x => .tup [enc x.1, enc x.2]) [a, b, .d (enc s), o, w] st = some (.nx [a, b, .d (enc (sumW s l)), o', w'] st)
  | [], s, a, b, o, w, _ => ⟨o, w, rfl⟩
  | (p, q) :: l, s, a, b, o, w, h => by
    obtain ⟨h1, h2, h3, h4⟩ := h
    obtain ⟨o', w', ih⟩ := weighed_loop l (s + p * q) a b (.d (enc p)) (.d (enc q)) h4
    refine ⟨o', w', ?_⟩
    have e1 := times_ok (C := C) (st := st) h2 h3 (by omega) (by omega) (by omega) (by omega) (by omega) (by omega)
    have e2 := plus_ok (C := C) (st := st) h1 ((h2.mul h3).mono (show 2000 + 2000 ≤ 4000 by omega) (show 1000 + 1000 ≤ 2000 by omega)) (by omega) (by omega) (by omega) (by omega)
    simp only [List.map_cons, forRun]
    simp [evVar, e1, e2]
    exact ih
theorem enc0 : D.tup [.int 0, .int 1] = enc 0 := rfl
theorem enc1 : D.tup [.int 1, .int 1] = enc 1 := rfl
theorem weighed_ok {ps qs : List Rat} (h : Fine 0 (ps.zip qs)) : f_weighed C [.tup (ps.map enc), .tup (qs.map enc)] st = some (enc (rs (List.zipWith (· * ·) ps qs)), st) := by
  obtain ⟨o, w, e⟩ := weighed_loop (C := C) (st := st) (ps.zip qs) 0 (.d (.tup (ps.map enc))) (.d (.tup (qs.map enc))) .emp .emp h
  have z : List.zipWith (fun x y => D.tup [x, y]) (ps.map enc) (qs.map enc) = (ps.zip qs).map fun x => .tup [enc x.1, enc x.2] := by
    rw [List.zip, List.map_zipWith, List.zipWith_map]
  simp only [f_weighed, fnRun, s_weighed, Cs.eNOUGHT, enc0]
  simp [evVar, z, e, sumW_rs, zip_map, Rat.zero_add]
theorem rep_one (n : Nat) : (List.replicate n [enc 1]).flatten = (List.replicate n (1 : Rat)).map enc := by
  induction n with
  | zero => rfl
  | succ n ih => rw [List.replicate_succ, List.flatten_cons, ih, List.replicate_succ, List.map_cons]; rfl
theorem total_w {ps qs : List Rat} (hl : qs.length = ps.length) (hq : ps.length ≤ 1000) (h : Fine 0 (ps.zip qs)) : f_total C [.tup (ps.map enc), .tup (qs.map enc)] st = some (enc (rs (List.zipWith (· * ·) ps qs)), st) := by
  simp only [f_total, fnRun, s_total]
  simp [evVar, are_ok (qs := ps) (by omega), are_ok_n (C := C) (st := st) hl (by omega), weighed_ok h]
theorem total_0 {ps : List Rat} (hq : ps.length ≤ 1000) (h : Fine 0 (ps.zip (List.replicate ps.length 1))) : f_total C [.tup (ps.map enc), .non] st = some (enc (rs ps), st) := by
  have w := weighed_ok (C := C) (st := st) h
  have a := are_ok_n (C := C) (st := st) (qs := List.replicate ps.length (1 : Rat)) (n := ps.length) (by simp) (by simp; omega)
  rw [zip_one] at w
  have hq2 : (ps.length : Int) ≤ 1000 := by omega
  simp only [f_total, fnRun, s_total, Cs.eONE, enc1]
  simp [evVar, are_ok (qs := ps) (by omega), hq2, rep_one]
  simp at a w
  simp [a, w]
end
end K84

set_option Elab.async false
set_option linter.all false
set_option maxRecDepth 100000
set_option autoImplicit false
set_option maxHeartbeats 1000000
set_option exponentiation.threshold 2000
namespace K84
open PySem L2 RM MP
section
variable {K : PySem.W.Frag} {C : Cs K} {st : Store}
/-! ### the law's draws -/
theorem ix_cel {k : Nat} {ds : List D} {i : Int} (h : st[k]? = some (.lst ds)) : ixD (.cel k) (.int i) st = L2.atI ds i := by
  show (match st[k]? with | some (.lst ds) => L2.atI ds i | _ => none) = _
  rw [h]
theorem put_cel {k : Nat} {ds es : List D} {i : Int} {x : D} (h : st[k]? = some (.lst ds)) (e : setIx ds i x = some es) : MP.putIx (.cel k) (.int i) x st = some (st.set k (.lst es)) := by
  show (match st[k]? with | some (.lst ds) => (setIx ds i x).bind fun es => some (st.set k (.lst es)) | _ => none) = _
  rw [h]
  simp only [e]
  rfl
theorem set_get {k : Nat} {c d : Cell} (h : st[k]? = some c) : (st.set k d)[k]? = some d := List.getElem?_set_self (List.getElem?_eq_some_iff.mp h).1
structure Pot (st : Store) (k : Nat) (m : Int) : Prop where
  ex : ∃ a b c : Int, st[k]? = some (.lst [.int a, .int b, .int c]) ∧ 0 ≤ a ∧ 0 ≤ b ∧ b < 2305843009213693952 ∧ 0 ≤ c ∧ c ≤ m
theorem Pot.mono {k : Nat} {m n : Int} (h : Pot st k m) (e : m ≤ n) : Pot st k n := by
  obtain ⟨a, b, c, h1, h2, h3, h4, h5, h6⟩ := h.ex
  exact ⟨a, b, c, h1, h2, h3, h4, h5, by omega⟩
theorem bits_le {x : Int} {n : Nat} (h : x.natAbs < 2 ^ n) (hn : 0 < n) : Builtin.Int.intBits x ≤ n := by
  have := log2_lt h hn
  unfold Builtin.Int.intBits
  split <;> omega
theorem small_mul {x y : Int} (hx : x.natAbs < 2 ^ 64) (hy : y.natAbs < 2 ^ 64) : CMulW x y := mulOk hx hy (by omega) (by omega) (by omega)
theorem div_small {x y : Int} (h0 : 0 < y) (h1 : y < 2 ^ 64) : CDivW x y := ⟨h0, Nat.lt_trans (log2_lt (k := 64) (by omega) (by omega)) (by omega)⟩
theorem primes_at {i : Int} (h0 : 0 ≤ i) (h1 : i < 5) : ∃ p : Int, L2.atI [D.int 2147483647, .int 2147483629, .int 2147483587, .int 2147483579, .int 2147483563] i = some (.int p) ∧ 0 < p ∧ p < 2147483648 := by
  have h : i = 0 ∨ i = 1 ∨ i = 2 ∨ i = 3 ∨ i = 4 := by omega
  rcases h with rfl | rfl | rfl | rfl | rfl
  · exact ⟨_, rfl, by omega, by omega⟩
  · exact ⟨_, rfl, by omega, by omega⟩
  · exact ⟨_, rfl, by omega, by omega⟩
  · exact ⟨_, rfl, by omega, by omega⟩
  · exact ⟨_, rfl, by omega, by omega⟩
theorem fmod_in {x y : Int} (h : 0 < y) : 0 ≤ x.fmod y ∧ x.fmod y < y := by
  rw [Int.fmod_eq_emod_of_nonneg _ (by omega)]
  exact ⟨Int.emod_nonneg _ (by omega), Int.emod_lt_of_pos _ h⟩
theorem take_ok {k : Nat} {m u : Int} (P : Pot st k m) (hm : m ≤ 100000) (hu : 0 < u) (hu2 : u < 2 ^ 40) : ∃ (r : Int) (st' : Store), f_law_take C [.cel k, .int u] st = some (.int r, st') ∧ 0 ≤ r ∧ r < u ∧ Pot st' k (m + 1) := by
  obtain ⟨a, b, c, h1, ha, hb, hb2, hc, hc2⟩ := P.ex
  have hu0 : u ≠ 0 := by omega
  by_cases h0 : 0 < a
  · obtain ⟨f1, f2⟩ := fmod_in (x := a) hu
    refine ⟨a.fmod u, st.set k (.lst [.int (a / u), .int b, .int c]), ?_, f1, f2, ⟨_, b, c, set_get h1, Int.ediv_nonneg ha (by omega), hb, hb2, hc, by omega⟩⟩
    have e1 := ix_cel (i := 0) h1
    have e2 := put_cel (i := 0) (x := .int (a / u)) h1 (es := [.int (a / u), .int b, .int c]) rfl
    simp only [f_law_take, fnRun, s_law_take]
    simp [evVar, e1, e2, at0, h0, hu0, div_small hu (show u < 2 ^ 64 by omega)]
  · have q1 := fmod_in (x := c + 1) (y := 5) (by omega)
    obtain ⟨p, hp, p1, p2⟩ := primes_at q1.1 q1.2
    have h2 : (st.set k (.lst [.int a, .int b, .int (c + 1)]))[k]? = some (.lst [.int a, .int b, .int (c + 1)]) := set_get h1
    have cc : (c + 1) * (c + 1) ≤ 100001 * 100001 := Int.mul_le_mul (by omega) (by omega) (by omega) (by omega)
    have c0 : 0 ≤ (c + 1) * (c + 1) := Int.mul_nonneg (by omega) (by omega)
    have ce : 95213 * (c + 1) * (c + 1) = 95213 * ((c + 1) * (c + 1)) := by rw [Int.mul_assoc]
    have m1 : CMulW 95213 (c + 1) := small_mul (by omega) (by omega)
    have m2 : CMulW (95213 * (c + 1)) (c + 1) := small_mul (by omega) (by omega)
    obtain ⟨x, hx⟩ : ∃ x, x = b + 95213 * (c + 1) * (c + 1) + 113 := ⟨_, rfl⟩
    have x0 : 0 ≤ x := by omega
    have x1 : x < 2 ^ 63 := by omega
    have pw : CPowW x 3 := ⟨by omega, by
      have := bits_le (x := x) (n := 63) (by omega) (by omega)
      omega⟩
    obtain ⟨z, hz⟩ : ∃ z, z = (x ^ 3).fmod p := ⟨_, rfl⟩
    obtain ⟨z0, z1⟩ : 0 ≤ z ∧ z < p := by rw [hz]; exact fmod_in p1
    have m3 : CMulW 97 (c + 1) := small_mul (by omega) (by omega)
    obtain ⟨y, hy⟩ : ∃ y, y = z.fmod 10061 + 97 * (c + 1) := ⟨_, rfl⟩
    have y0 : 0 ≤ z.fmod 10061 ∧ z.fmod 10061 < 10061 := fmod_in (by omega)
    have m4 : CMulW z y := small_mul (by omega) (by omega)
    have d1 : CDivW (z * y) 131 := div_small (by omega) (by omega)
    obtain ⟨f1, f2⟩ := fmod_in (x := z * y / 131) hu
    refine ⟨(z * y / 131).fmod u, st.set k (.lst [.int a, .int b, .int (c + 1)]), ?_, f1, f2, ⟨a, b, c + 1, h2, ha, hb, hb2, by omega, by omega⟩⟩
    have e1 := ix_cel (i := 0) h1
    have e2 := ix_cel (i := 2) h1
    have e3 := put_cel (i := 2) (x := .int (c + 1)) h1 (es := [.int a, .int b, .int (c + 1)]) rfl
    have e4 := ix_cel (i := 2) h2
    have e5 := ix_cel (i := 1) h2
    have a2 : L2.atI [D.int a, .int b, .int c] 2 = some (.int c) := rfl
    have a3 : L2.atI [D.int a, .int b, .int (c + 1)] 2 = some (.int (c + 1)) := rfl
    have a4 : L2.atI [D.int a, .int b, .int (c + 1)] 1 = some (.int b) := rfl
    have p0 : p ≠ 0 := by omega
    simp only [f_law_take, fnRun, s_law_take]
    simp only [s_seq, s_ite, s_putIx, s_set, s_ret, s_skip, t_val, e_op2, e_cb, e_cons, e_nil, e_int, e_var, e_ofF, e_lst]
    simp [evVar, e1, e2, e3, e4, e5, at0, a2, a3, a4, h0, hu0, m1, m2, m3, hp, ← hx, pw, p0, ← hz, ← hy, m4, d1]
theorem of_ok {k : Nat} {m : Int} {ds : List D} (P : Pot st k m) (hm : m ≤ 100000) (hd : ds ≠ []) (hl : ds.length < 1000) : ∃ (d : D) (st' : Store), f_law_of C [.cel k, .lst ds] st = some (d, st') ∧ d ∈ ds ∧ Pot st' k (m + 1) := by
  have l0 : 0 < ds.length := List.length_pos_iff.mpr hd
  obtain ⟨r, st', e, r0, r1, P'⟩ := take_ok (C := C) P hm (u := ds.length) (by omega) (by omega)
  obtain ⟨j, rfl⟩ : ∃ j : Nat, r = (j : Int) := ⟨r.toNat, by omega⟩
  have hj : ds[j]? = some ds[j] := List.getElem?_eq_getElem (by omega)
  refine ⟨ds[j], st', ?_, List.getElem_mem _, P'⟩
  simp only [f_law_of, fnRun, s_law_of]
  simp [evVar, e, MP.atI_nat hj]
end
end K84

set_option Elab.async false
set_option linter.all false
set_option maxRecDepth 100000
set_option autoImplicit false
set_option maxHeartbeats 1000000
set_option exponentiation.threshold 2000
namespace K84
open PySem L2 RM MP
section
variable {K : PySem.W.Frag} {C : Cs K} {st : Store}
theorem lt9000 {n : Nat} (h : n < 2 ^ 11) : n < 2 ^ 9000 := Nat.lt_of_lt_of_le h (pow_mono (a := 11) (b := 9000) (by omega))
theorem drawn_loop {k : Nat} {n wide below : Int} (hw : 0 ≤ wide) (hw2 : wide < 2 ^ 30) (hb : 0 < below) (hb2 : below < 2 ^ 10) : ∀ (xs : List D) (acc : List Rat) (st : Store) (m : Int) (l : Slot), Pot st k m → m + 2 * xs.length ≤ 90000 → acc.length + xs.length ≤ 1000 →
    ∃ (qs : List Rat) (l' : Slot) (st' : Store), forRun (Tg.name (K := K) 5).bind (Sx.app 4 (.call (f_law_cut C) [] [] (fun _ => .nil) (.cons (.op2 oSub (.call (f_law_take C) [] [] (fun _ => .nil) (.cons (.var 0) (.cons (.op2 oAdd (.op2 oMul (.int 2) (.var 2)) (.int 1)) .nil))) (.var 2)) (.cons (.op2 oAdd (.int 1) (.call (f_law_take C) [] [] (fun _ => .nil) (.cons (.var 0) (.cons (.var 3) .nil)))) .nil))) : Sx K).run
      xs [.d (.cel k), .d (.int n), .d (.int wide), .d (.int below), .own (acc.map enc), l] st = some (.nx [.d (.cel k), .d (.int n), .d (.int wide), .d (.int below), .own ((acc ++ qs).map enc), l'] st') ∧
      qs.length = xs.length ∧ (∀ q ∈ qs, q.num.natAbs ≤ wide.toNat ∧ q.den ≤ below.toNat) ∧ Pot st' k (m + 2 * xs.length)
  | [], acc, st, m, l, P, _, _ => ⟨[], l, st, by simp [forRun], rfl, by simp, by simpa using P⟩
  | x :: xs, acc, st, m, l, P, hm, hl => by
    have hm : m + 2 * ((xs.length : Int) + 1) ≤ 90000 := by simpa using hm
    have hl : acc.length + (xs.length + 1) ≤ 1000 := by simpa using hl
    obtain ⟨r, s1, e1, r0, r1, P1⟩ := take_ok (C := C) P (by omega) (u := 2 * wide + 1) (by omega) (by omega)
    obtain ⟨t, s2, e2, t0, t1, P2⟩ := take_ok (C := C) P1 (by omega) (u := below) hb (by omega)
    obtain ⟨L, hL⟩ : ∃ L : Nat, 1 + t = (L : Int) := ⟨(1 + t).toNat, by omega⟩
    have c := law_cut_ok (C := C) (st := s2) (t := r - wide) (l := L) (by omega) (lt9000 (show L < 2 ^ 11 by omega))
    obtain ⟨qs, l', s3, e3, h1, h2, P3⟩ := drawn_loop hw hw2 hb hb2 xs (acc ++ [mkRat (r - wide) L]) s2 (m + 1 + 1) (.d x) P2 (by omega) (by simp; omega)
    refine ⟨mkRat (r - wide) L :: qs, l', s3, ?_, by simp [h1], fun q hq => ?_, P3.mono (by simp; omega)⟩
    · have m2 : CMulW 2 wide := small_mul (by omega) (by omega)
      have la : acc.length < 100000 := by omega
      simp only [forRun]
      simp [evVar, m2, e1, e2, hL, c, appE, la]
      simpa using e3
    · rcases List.mem_cons.mp hq with rfl | hq
      · have a1 := mk_num (r - wide) L (by omega)
        have a2 := mk_den (r - wide) L (by omega)
        exact ⟨by omega, by omega⟩
      · exact h2 q hq
theorem rng_len (n : Nat) : (rngD 0 n).length = n := by simp [rngD]
theorem drawn_ok {k : Nat} {n m wide below : Int} (P : Pot st k m) (hm : m + 2 * n ≤ 90000) (hn0 : 0 ≤ n) (hn : n ≤ 1000) (hw : 0 ≤ wide) (hw2 : wide < 2 ^ 30) (hb : 0 < below) (hb2 : below < 2 ^ 10) :
    ∃ (qs : List Rat) (st' : Store), f_law_drawn C [.cel k, .int n, .int wide, .int below] st = some (.tup (qs.map enc), st') ∧ (qs.length : Int) = n ∧ (∀ q ∈ qs, q.num.natAbs ≤ wide.toNat ∧ q.den ≤ below.toNat) ∧ Pot st' k (m + 2 * n) := by
  obtain ⟨qs, l', s', e, h1, h2, P'⟩ := drawn_loop (C := C) (n := n) hw hw2 hb hb2 (rngD 0 n.toNat) [] st m .emp P (by rw [rng_len]; omega) (by rw [rng_len]; simp; omega)
  rw [rng_len] at h1 P'
  refine ⟨qs, s', ?_, by omega, h2, P'.mono (by omega)⟩
  have n1 : RngOk n := rngOk_of (by omega) (by omega)
  simp at e
  simp only [f_law_drawn, fnRun, s_law_drawn]
  simp [evVar, n1, e, frzE]
/-! ### the law's own sums -/
def FineA : Rat → List Rat → Prop
  | _, [] => True
  | s, q :: l => Sm 4000 2000 s ∧ Sm 4000 2000 q ∧ FineA (s + q) l
theorem fineA_of : ∀ (ps qs : List Rat) (s : Rat), Fine s (ps.zip qs) → FineA s (List.zipWith (· * ·) ps qs)
  | [], _, s, _ => by simp [FineA]
  | p :: ps, [], s, _ => by simp [FineA]
  | p :: ps, q :: qs, s, h => by
    obtain ⟨h1, h2, h3, h4⟩ := h
    exact ⟨h1, (h2.mul h3).mono (by omega) (by omega), fineA_of ps qs _ h4⟩
theorem added_loop : ∀ (qs : List Rat) (s : Rat) (a o w : Slot), FineA s qs → ∃ o' w', forRun (Tg.tup 2 (.cons (.name 3) (.cons (.name 4) .nil)) : Tg K).bind (Sx.asg (.call (f_law_cut C) [] [] (fun _ => .nil) (.cons (.op2 oAdd (.op2 oMul (.var 1) (.var 4)) (.op2 oMul (.var 3) (.var 2))) (.cons (.op2 oMul (.var 2) (.var 4)) .nil))) (.tup 2 (.cons (.name 1) (.cons (.name 2) .nil))) : Sx K).run
    (qs.map enc) [a, .d (.int s.num), .d (.int s.den), o, w] st = some (.nx [a, .d (.int (s + rs qs).num), .d (.int (s + rs qs).den), o', w'] st)
  | [], s, a, o, w, _ => ⟨o, w, by simp [forRun, rs, Rat.add_zero]⟩
  | q :: qs, s, a, o, w, h => by
    obtain ⟨h1, h2, h3⟩ := h
    obtain ⟨o', w', ih⟩ := added_loop qs (s + q) a (.d (.int q.num)) (.d (.int q.den)) h3
    refine ⟨o', w', ?_⟩
    have e1 : ((s.den : Int)).natAbs < 2 ^ 2000 := by simpa using h1.den
    have e2 : ((q.den : Int)).natAbs < 2 ^ 2000 := by simpa using h2.den
    have m1 : CMulW s.num q.den := mulOk h1.num e2 (by omega) (by omega) (by omega)
    have m2 : CMulW q.num s.den := mulOk h2.num e1 (by omega) (by omega) (by omega)
    have m3 : CMulW s.den q.den := mulOk e1 e2 (by omega) (by omega) (by omega)
    have c := law_cut_ok (C := C) (st := st) (t := s.num * q.den + q.num * s.den) (l := s.den * q.den) (Nat.mul_pos s.den_pos q.den_pos) (Nat.lt_of_lt_of_le (Nat.mul_lt_mul'' h1.den h2.den) (by
      rw [← Nat.pow_add]
      exact pow_mono (a := 2000 + 2000) (b := 9000) (by omega)))
    rw [← Rat.add_def', Int.natCast_mul] at c
    simp only [List.map_cons, forRun, enc]
    simp [evVar, m1, m2, m3, c, rs]
    rw [← Rat.add_assoc]
    simpa [enc] using ih
theorem rat0 : (0 : Rat).num = 0 ∧ (0 : Rat).den = 1 := ⟨rfl, rfl⟩
theorem added_tup {qs : List Rat} (h : FineA 0 qs) : f_law_added C [.tup (qs.map enc)] st = some (enc (rs qs), st) := by
  obtain ⟨o, w, e⟩ := added_loop (C := C) (st := st) qs 0 (.d (.tup (qs.map enc))) .emp .emp h
  rw [Rat.zero_add] at e
  simp only [f_law_added, fnRun, s_law_added]
  simp at e
  simp [evVar, e, enc]
theorem added_lst {qs : List Rat} (h : FineA 0 qs) : f_law_added C [.lst (qs.map enc)] st = some (enc (rs qs), st) := by
  obtain ⟨o, w, e⟩ := added_loop (C := C) (st := st) qs 0 (.d (.lst (qs.map enc))) .emp .emp h
  rw [Rat.zero_add] at e
  simp only [f_law_added, fnRun, s_law_added]
  simp at e
  simp [evVar, e, enc]
/-! ### repr -/
def rp (q : Rat) : Str := PyData.shown (.tuple [.int q.num, .int q.den])
theorem tuple_len (x y : PyData) : (PyData.tuple [x, y]).shown.length ≤ x.shown.length + y.shown.length + 8 := by
  simp only [PyData.shown, PyData.shownAll]
  have h := tupleText_len_le [x.shown, y.shown]
  simp at h
  omega
theorem repr_ok {q : Rat} (h : Sm 1900 1900 q) : reprD (enc q) st = some (.str (rp q)) := by
  have n1 : q.num.natAbs.log2 < 1920 := Nat.lt_trans (log2_lt h.num (by omega)) (by omega)
  have n2 : ((q.den : Int)).natAbs.log2 < 1920 := by
    rw [Int.natAbs_natCast]
    exact Nat.lt_trans (log2_lt h.den (by omega)) (by omega)
  have l1 := PyProof.Rows.int_text_len_1921 n1
  have l2 := PyProof.Rows.int_text_len_1921 n2
  have c1 : (PyData.tuple [.int q.num, .int q.den]).showable = true := by
    simp only [PyData.showable, PyData.showableAll, n1, n2]
    rfl
  have c2 : (PyData.tuple [.int q.num, .int q.den]).hasDict = false := rfl
  have c3 : (PyData.tuple [.int q.num, .int q.den]).depth ≤ 60 := by
    simp [PyData.depth, PyData.depthAll]
  have c4 : (PyData.tuple [.int q.num, .int q.den]).shown.length ≤ sizeLine := by
    refine Nat.le_trans (tuple_len _ _) ?_
    have : sizeLine = 16777216 := sizeLine_eq
    simp only [PyData.shown]
    omega
  simp only [reprD, enc, D.pys, D.py, Option.map_some, Option.bind_some]
  rw [if_pos ⟨c1, c2, c3, c4⟩]
  rfl
end
end K84

set_option Elab.async false
set_option linter.all false
set_option maxRecDepth 100000
set_option autoImplicit false
set_option maxHeartbeats 1000000
set_option exponentiation.threshold 2000
namespace K84
open PySem L2 RM MP
section
variable {K : PySem.W.Frag} {C : Cs K} {st : Store}
def SmP (ps : List Rat) : Prop := ∀ p ∈ ps, Sm 30 10 p
def SmW (ws : List Rat) : Prop := ∀ p ∈ ws, Sm 5 4 p
theorem smw_one (n : Nat) : SmW (List.replicate n 1) := fun p hp => by
  rw [List.eq_of_mem_replicate hp]
  exact sm1.mono (by omega) (by omega)
theorem smw_zero (n : Nat) : SmW (List.replicate n 0) := fun p hp => by
  rw [List.eq_of_mem_replicate hp]
  exact sm0.mono (by omega) (by omega)
theorem smw_neg {ws : List Rat} (h : SmW ws) : SmW (ws.map (- ·)) := fun p hp => by
  obtain ⟨q, hq, rfl⟩ := List.mem_map.mp hp
  exact ⟨by simpa using (h q hq).num, by simpa using (h q hq).den⟩
theorem fine_w {ps ws : List Rat} (hp : SmP ps) (hw : SmW ws) (hl : ps.length ≤ 60) : Fine 0 (ps.zip ws) ∧ Sm 1000 961 (rs (List.zipWith (· * ·) ps ws)) := by
  have h := fine_of (ps.zip ws) 0 0 (sm0.mono (by omega) (by omega)) (fun x hx => ⟨hp _ (List.of_mem_zip hx).1, hw _ (List.of_mem_zip hx).2⟩) (by simp; omega)
  rw [sumW_rs, zip_map, Rat.zero_add] at h
  refine ⟨h.1, h.2.mono ?_ ?_⟩ <;> simp <;> omega
theorem tot_w {ps ws : List Rat} (hp : SmP ps) (hw : SmW ws) (hl : ps.length ≤ 60) (he : ws.length = ps.length) : f_total C [.tup (ps.map enc), .tup (ws.map enc)] st = some (enc (rs (List.zipWith (· * ·) ps ws)), st) ∧ Sm 1000 961 (rs (List.zipWith (· * ·) ps ws)) :=
  ⟨total_w he (by omega) (fine_w hp hw hl).1, (fine_w hp hw hl).2⟩
theorem tot_0 {ps : List Rat} (hp : SmP ps) (hl : ps.length ≤ 60) : f_total C [.tup (ps.map enc), .non] st = some (enc (rs ps), st) ∧ Sm 1000 961 (rs ps) := by
  have h := fine_w hp (smw_one ps.length) hl
  refine ⟨total_0 (by omega) h.1, ?_⟩
  have h2 := h.2
  rw [zip_one] at h2
  exact h2
theorem tot_2 {a b : Rat} (ha : Sm 1000 961 a) (hb : Sm 1000 961 b) : f_total C [.tup [enc a, enc b], .non] st = some (enc (a + b), st) := by
  have h := total_0 (C := C) (st := st) (ps := [a, b]) (by simp) ⟨sm0.mono (by omega) (by omega), ha.mono (by omega) (by omega), sm1.mono (by omega) (by omega), by
    rw [Rat.zero_add, Rat.mul_one]
    exact ha.mono (by omega) (by omega), hb.mono (by omega) (by omega), sm1.mono (by omega) (by omega), trivial⟩
  have e : rs [a, b] = a + b := by simp [rs, Rat.add_zero]
  rw [e] at h
  exact h
theorem cut_lo {α : Type} (f : α → D) (xs : List α) {j : Int} (h0 : 0 ≤ j) : cutD (xs.map f) none (some j) = (xs.take j.toNat).map f := by
  obtain ⟨k, rfl⟩ : ∃ k : Nat, j = k := ⟨j.toNat, by omega⟩
  unfold cutD
  rw [HT.sIx_none, HT.sIx_nat]
  simp only [List.drop_zero, Int.toNat_natCast, List.length_map, Nat.sub_zero]
  rw [List.map_take, List.take_eq_take_iff]
  simp
theorem cut_hi {α : Type} (f : α → D) (xs : List α) {j : Int} (h0 : 0 ≤ j) : cutD (xs.map f) (some j) none = (xs.drop j.toNat).map f := by
  obtain ⟨k, rfl⟩ : ∃ k : Nat, j = k := ⟨j.toNat, by omega⟩
  unfold cutD
  rw [HT.sIx_none, HT.sIx_nat]
  simp only [List.length_map, Int.toNat_natCast]
  rw [List.map_drop, List.take_of_length_le (by simp)]
  by_cases h : k ≤ xs.length
  · rw [Nat.min_eq_left h]
  · rw [Nat.min_eq_right (by omega), List.drop_of_length_le (by simp), List.drop_of_length_le (by simp; omega)]
theorem rs_cut (xs : List Rat) (k : Nat) : rs (xs.take k) + rs (xs.drop k) = rs xs := by
  rw [← rs_append, List.take_append_drop]
theorem rs_rev2 {ps ws : List Rat} (h : ps.length = ws.length) : rs (List.zipWith (· * ·) ps.reverse ws.reverse) = rs (List.zipWith (· * ·) ps ws) := by
  rw [← List.reverse_zipWith h, rs_reverse]
theorem rs_cut2 (ps ws : List Rat) (k : Nat) : rs (List.zipWith (· * ·) (ps.take k) (ws.take k)) + rs (List.zipWith (· * ·) (ps.drop k) (ws.drop k)) = rs (List.zipWith (· * ·) ps ws) := by
  rw [← List.take_zipWith, ← List.drop_zipWith, rs_cut]
theorem rep_zero (n : Nat) : (List.replicate n [enc 0]).flatten = (List.replicate n (0 : Rat)).map enc := by
  induction n with
  | zero => rfl
  | succ n ih => rw [List.replicate_succ, List.flatten_cons, ih, List.replicate_succ, List.map_cons]; rfl
theorem neg_enc (q : Rat) : D.tup [.int (-q.num), .int q.den] = enc (-q) := by
  simp [enc]
/-! the comprehensions -/
theorem turned_ok (ws : List Rat) (ρ : MP.Env) (h : ρ.length = 13) : compGo (Tg.tup 2 (.cons (.name 11) (.cons (.name 12) .nil)) : Tg K).bind (Tx.yes (K := K)).ev (Ex.tup (.cons (.op1 oNeg (.var 11)) (.cons (.var 12) .nil)) : Ex K).ev ρ (ws.map enc) st = some ((ws.map (- ·)).map enc, st) := by
  have e := comp_map (st := st) (bind := (Tg.tup 2 (.cons (.name 11) (.cons (.name 12) .nil)) : Tg K).bind) (tt := (Tx.yes (K := K)).ev) (te := (Ex.tup (.cons (.op1 oNeg (.var 11)) (.cons (.var 12) .nil)) : Ex K).ev) (ρ := ρ) (e := enc) (g := fun q => enc (-q)) (xs := ws) (fun q _ => ⟨_, rfl, rfl, by
    simp [evVar, h, List.getElem?_set, neg_enc]⟩)
  rw [e, List.map_map]
  rfl
theorem products_ok (l : List (Rat × Rat)) (ρ : MP.Env) (h : ρ.length = 13) (hl : ∀ x ∈ l, Sm 30 10 x.1 ∧ Sm 5 4 x.2) : compGo (Tg.tup 2 (.cons (.name 6) (.cons (.name 7) .nil)) : Tg K).bind (Tx.yes (K := K)).ev (Ex.call (f_law_cut C) [] [] (fun _ => .nil) (.cons (.op2 oMul (.op2 oIx (.var 6) (.int 0)) (.op2 oIx (.var 7) (.int 0))) (.cons (.op2 oMul (.op2 oIx (.var 6) (.int 1)) (.op2 oIx (.var 7) (.int 1))) .nil)) : Ex K).ev ρ (l.map fun x => .tup [enc x.1, enc x.2]) st = some ((l.map fun x => x.1 * x.2).map enc, st) := by
  have e := comp_map (st := st) (bind := (Tg.tup 2 (.cons (.name 6) (.cons (.name 7) .nil)) : Tg K).bind) (tt := (Tx.yes (K := K)).ev) (te := (Ex.call (f_law_cut C) [] [] (fun _ => .nil) (.cons (.op2 oMul (.op2 oIx (.var 6) (.int 0)) (.op2 oIx (.var 7) (.int 0))) (.cons (.op2 oMul (.op2 oIx (.var 6) (.int 1)) (.op2 oIx (.var 7) (.int 1))) .nil)) : Ex K).ev) (ρ := ρ) (e := fun x : Rat × Rat => D.tup [enc x.1, enc x.2]) (g := fun x => enc (x.1 * x.2)) (xs := l) (fun x hx => ⟨_, rfl, rfl, by
    obtain ⟨p, q⟩ := x
    obtain ⟨hp, hq⟩ := hl _ hx
    have d1 := p.den_pos
    have d2 := q.den_pos
    have e1 : ((p.den : Int)).natAbs < 2 ^ 10 := by simpa using hp.den
    have e2 : ((q.den : Int)).natAbs < 2 ^ 4 := by simpa using hq.den
    have m1 : CMulW p.num q.num := mulOk hp.num hq.num (by omega) (by omega) (by omega)
    have m3 : CMulW p.den q.den := mulOk e1 e2 (by omega) (by omega) (by omega)
    have hl : p.den * q.den < 2 ^ 9000 := Nat.lt_of_lt_of_le (Nat.mul_lt_mul'' hp.den hq.den) (by
      rw [← Nat.pow_add]
      exact pow_mono (a := 10 + 4) (b := 9000) (by omega))
    have c := law_cut_ok (C := C) (st := st) (t := p.num * q.num) (l := p.den * q.den) (Nat.mul_pos d1 d2) hl
    rw [Int.natCast_mul] at c
    rw [Rat.mul_def', ← c]
    simp only [enc]
    simp [evVar, h, List.getElem?_set, m1, m3]⟩)
  rw [e, List.map_map]
  rfl
end
end K84

set_option Elab.async false
set_option linter.all false
set_option maxRecDepth 100000
set_option autoImplicit false
set_option maxHeartbeats 4000000
set_option exponentiation.threshold 2000
namespace K84
open PySem L2 RM MP
section
variable {K : PySem.W.Frag} {C : Cs K} {st : Store}
theorem neS {a : Str} {s : Store} : (oNe (K := K)).f (.str a) (.str a) s = some (.bl false) := by simp
theorem right_ok {k : Nat} {m : Int} (P : Pot st k m) (hm : m ≤ 80000) : ∃ st' : Store, f_law_right C [.cel k] st = some (.bl true, st') ∧ Pot st' k (m + 400) := by
  obtain ⟨r, s1, e1, r0, r1, P1⟩ := take_ok (C := C) P (by omega) (u := 36) (by omega) (by omega)
  obtain ⟨n, s2, e2, n1, P2⟩ := of_ok (C := C) P1 (by omega) (ds := [.int 60, .int 25, .int 59, .int (25 + r)]) (by simp) (by simp)
  obtain ⟨n, rfl, n2, n3⟩ : ∃ i : Int, n = .int i ∧ 25 ≤ i ∧ i ≤ 60 := by
    simp at n1
    rcases n1 with h | h | h | h <;> exact ⟨_, h, by omega, by omega⟩
  obtain ⟨w, s3, e3, w1, P3⟩ := of_ok (C := C) P2 (by omega) (ds := [.int 3, .int 40, .int 999999999]) (by simp) (by simp)
  obtain ⟨w, rfl, w2, w3⟩ : ∃ i : Int, w = .int i ∧ 0 ≤ i ∧ i < 2 ^ 30 := by
    simp at w1
    rcases w1 with h | h | h <;> exact ⟨_, h, by omega, by omega⟩
  obtain ⟨b, s4, e4, b1, P4⟩ := of_ok (C := C) P3 (by omega) (ds := [.int 1, .int 6, .int 60, .int 999]) (by simp) (by simp)
  obtain ⟨b, rfl, b2, b3⟩ : ∃ i : Int, b = .int i ∧ 0 < i ∧ i < 2 ^ 10 := by
    simp at b1
    rcases b1 with h | h | h | h <;> exact ⟨_, h, by omega, by omega⟩
  obtain ⟨qs, s5, e5, ql, q1, P5⟩ := drawn_ok (C := C) P4 (n := n) (by omega) (by omega) (by omega) w2 w3 b2 b3
  obtain ⟨v, s6, e6, v1, P6⟩ := of_ok (C := C) P5 (by omega) (ds := [.int 2, .int 30]) (by simp) (by simp)
  obtain ⟨v, rfl, v2, v3⟩ : ∃ i : Int, v = .int i ∧ 0 ≤ i ∧ i < 2 ^ 5 := by
    simp at v1
    rcases v1 with h | h <;> exact ⟨_, h, by omega, by omega⟩
  obtain ⟨c, s7, e7, c1, P7⟩ := of_ok (C := C) P6 (by omega) (ds := [.int 1, .int 4, .int 12]) (by simp) (by simp)
  obtain ⟨c, rfl, c2, c3⟩ : ∃ i : Int, c = .int i ∧ 0 < i ∧ i < 2 ^ 4 := by
    simp at c1
    rcases c1 with h | h | h <;> exact ⟨_, h, by omega, by omega⟩
  obtain ⟨ws, s8, e8, wl, x1, P8⟩ := drawn_ok (C := C) P7 (n := n) (by omega) (by omega) (by omega) v2 (by omega) c2 (by omega)
  obtain ⟨t, s9, e9, t0, t1, P9⟩ := take_ok (C := C) P8 (by omega) (u := n + 1) (by omega) (by omega)
  have hq : SmP qs := fun q h => by
    have := q1 q h
    exact ⟨by omega, by omega⟩
  have hw : SmW ws := fun q h => by
    have := x1 q h
    exact ⟨by omega, by omega⟩
  have ll : qs.length = ws.length := by omega
  have hl : qs.length ≤ 60 := by omega
  have sq := (tot_0 (C := C) (st := s8) hq hl).2
  have sw := (tot_w (C := C) (st := s8) hq hw hl ll.symm).2
  have A1 := fun s => (tot_0 (C := C) (st := s) hq hl).1
  have A2 : ∀ s, f_total C [.tup (qs.map enc).reverse, .non] s = some (enc (rs qs), s) := fun s => by
    have h := (tot_0 (C := C) (st := s) (ps := qs.reverse) (fun p hp => hq p (by simpa using hp)) (by simpa using hl)).1
    rwa [rs_reverse, List.map_reverse] at h
  have B1 := fun s => (tot_w (C := C) (st := s) hq hw hl ll.symm).1
  have B2 : ∀ s, f_total C [.tup (qs.map enc).reverse, .tup (ws.map enc).reverse] s = some (enc (rs (List.zipWith (· * ·) qs ws)), s) := fun s => by
    have h := (tot_w (C := C) (st := s) (ps := qs.reverse) (ws := ws.reverse) (fun p hp => hq p (by simpa using hp)) (fun p hp => hw p (by simpa using hp)) (by simpa using hl) (by simpa using ll.symm)).1
    rwa [rs_rev2 ll, List.map_reverse, List.map_reverse] at h
  have qt : SmP (qs.take t.toNat) := fun p hp => hq p (List.mem_of_mem_take hp)
  have qd : SmP (qs.drop t.toNat) := fun p hp => hq p (List.mem_of_mem_drop hp)
  have wt : SmW (ws.take t.toNat) := fun p hp => hw p (List.mem_of_mem_take hp)
  have wd : SmW (ws.drop t.toNat) := fun p hp => hw p (List.mem_of_mem_drop hp)
  have qtl : (qs.take t.toNat).length ≤ 60 := by simp; omega
  have qdl : (qs.drop t.toNat).length ≤ 60 := by simp; omega
  have tl : (ws.take t.toNat).length = (qs.take t.toNat).length := by simp; omega
  have dl : (ws.drop t.toNat).length = (qs.drop t.toNat).length := by simp; omega
  have T1 := fun s => (tot_0 (C := C) (st := s) qt qtl)
  have T2 := fun s => (tot_0 (C := C) (st := s) qd qdl)
  have T3 : ∀ s, f_total C [.tup [enc (rs (qs.take t.toNat)), enc (rs (qs.drop t.toNat))], .non] s = some (enc (rs qs), s) := fun s => by
    rw [tot_2 (T1 s).2 (T2 s).2, rs_cut]
  have U1 := fun s => (tot_w (C := C) (st := s) qt wt qtl tl)
  have U2 := fun s => (tot_w (C := C) (st := s) qd wd qdl dl)
  have U3 : ∀ s, f_total C [.tup [enc (rs (List.zipWith (· * ·) (qs.take t.toNat) (ws.take t.toNat))), enc (rs (List.zipWith (· * ·) (qs.drop t.toNat) (ws.drop t.toNat)))], .non] s = some (enc (rs (List.zipWith (· * ·) qs ws)), s) := fun s => by
    rw [tot_2 (U1 s).2 (U2 s).2, rs_cut2]
  have V := fun s => (tot_w (C := C) (st := s) hq (smw_neg hw) hl (by simpa using ll.symm))
  rw [rs_neg] at V
  have Z : ∀ s, f_total C [.tup (qs.map enc), .tup (List.replicate n.toNat [enc 0]).flatten] s = some (enc 0, s) := fun s => by
    have h := (tot_w (C := C) (st := s) hq (smw_zero n.toNat) hl (by simp; omega)).1
    rwa [rs_zero, ← rep_zero] at h
  have G1 : ∀ s, f_law_added C [.tup (qs.map enc)] s = some (enc (rs qs), s) := fun s => added_tup (by
    have h := fineA_of _ _ _ (fine_w hq (smw_one qs.length) hl).1
    rwa [zip_one] at h)
  obtain ⟨ps, hps⟩ : ∃ ps, ps = (qs.zip ws).map fun x => x.1 * x.2 := ⟨_, rfl⟩
  have pl : ps.length ≤ 100000 := by rw [hps]; simp; omega
  have G2 : ∀ s, f_law_added C [.lst (ps.map enc)] s = some (enc (rs (List.zipWith (· * ·) qs ws)), s) := fun s => by
    have h := fineA_of _ _ _ (fine_w hq hw hl).1
    rw [hps, zip_map]
    exact added_lst h
  obtain ⟨zs, hzs⟩ : ∃ zs, zs = ws.map (- ·) := ⟨_, rfl⟩
  have zl : zs.length ≤ 100000 := by rw [hzs]; simp; omega
  rw [← hzs] at V
  have pc := fun s ρ h => products_ok (C := C) (st := s) (qs.zip ws) ρ h (fun x hx => ⟨hq _ (List.of_mem_zip hx).1, hw _ (List.of_mem_zip hx).2⟩)
  have tc := fun s ρ h => turned_ok (K := K) (st := s) ws ρ h
  rw [← hzs] at tc
  rw [← hps] at pc
  have zz : List.zipWith (fun x y => D.tup [x, y]) (qs.map enc) (ws.map enc) = (qs.zip ws).map fun x => .tup [enc x.1, enc x.2] := by
    rw [List.zip, List.map_zipWith, List.zipWith_map]
  generalize rs (List.zipWith (· * ·) qs ws) = L at *
  have R1 : ∀ s, reprD (enc (rs qs)) s = some (.str (rp (rs qs))) := fun s => repr_ok (sq.mono (by omega) (by omega))
  have R2 : ∀ s, reprD (enc L) s = some (.str (rp L)) := fun s => repr_ok (sw.mono (by omega) (by omega))
  have R3 : ∀ s, reprD (enc (-L)) s = some (.str (rp (-L))) := fun s => repr_ok ((V s8).2.mono (by omega) (by omega))
  have R0 : ∀ s, reprD (enc 0) s = some (.str (rp 0)) := fun s => repr_ok (sm0.mono (by omega) (by omega))
  have V1 := fun s => (V s).1
  have i0 : ∀ s, ixD (enc L) (.int 0) s = some (.int L.num) := fun s => by simp [enc]
  have i1 : ∀ s, ixD (enc L) (.int 1) s = some (.int L.den) := fun s => by simp [enc]
  have pw : CPowW 10 9 := by decide
  generalize rs qs = S at *
  have T1 := fun s => (T1 s).1
  have T2 := fun s => (T2 s).1
  have U1 := fun s => (U1 s).1
  have U2 := fun s => (U2 s).1
  generalize rs (qs.take t.toNat) = S1 at *
  generalize rs (qs.drop t.toNat) = S2 at *
  generalize rs (List.zipWith (· * ·) (qs.take t.toNat) (ws.take t.toNat)) = L1 at *
  generalize rs (List.zipWith (· * ·) (qs.drop t.toNat) (ws.drop t.toNat)) = L2 at *
  rw [← cut_lo enc qs t0] at T1
  rw [← cut_hi enc qs t0] at T2
  rw [← cut_lo enc qs t0, ← cut_lo enc ws t0] at U1
  rw [← cut_hi enc qs t0, ← cut_hi enc ws t0] at U2
  have n0 : 0 ≤ n := by omega
  have nk : n ≤ 1000 := by omega
  refine ⟨s9, ?_, P9.mono (by omega)⟩
  simp at Z
  simp only [f_law_right, fnRun, s_law_right]
  simp [evVar, e1, e2, e3, e4, e5, e6, e7, e8, e9, A1, A2, B1, B2, T1, T2, T3, U1, U2, U3, V1, Z, G1, G2, pl, zl, pc, tc, zz, R0, R1, R2, R3, i0, i1, pw, n0, nk, wipeE, neg_enc, enc0, at0]
end
end K84

set_option Elab.async false
set_option linter.all false
set_option maxRecDepth 100000
set_option autoImplicit false
set_option maxHeartbeats 4000000
set_option exponentiation.threshold 2000
namespace K84
open PySem L2 RM MP
section
variable {K : PySem.W.Frag} {C : Cs K} {st : Store}
theorem places_ok {ns : List Int} : ∃ n : Nat, f_law_places C [.lst (ns.map .int), .int 4] st = some (.lst (rngD 0 n), st) ∧ 1 ≤ n ∧ n ≤ 4 := by
  obtain ⟨x, hx⟩ : ∃ x : Int, x = if (if (ns.length : Int) < 4 then (ns.length : Int) else 4) > 1 then (if (ns.length : Int) < 4 then (ns.length : Int) else 4) else 1 := ⟨_, rfl⟩
  have h1 : 1 ≤ x ∧ x ≤ 4 := by
    rw [hx]
    split <;> split at * <;> omega
  refine ⟨x.toNat, ?_, by omega, by omega⟩
  have a : 0 ≤ x ∧ x ≤ 100000 := by omega
  simp only [f_law_places, fnRun, s_law_places]
  simp only [s_ret, e_ofF, e_listRange, e_cb, e_cons, e_nil, e_int, e_var]
  simp [evVar]
  simp at hx
  rw [← hx]
  simp [a]
theorem pw1 : CPowW 10 60 := by decide +kernel
theorem pw2 : CPowW (10 ^ 60) 5 := by decide +kernel
theorem pw3 : CPowW 10 18 := by decide +kernel
theorem cell_ok {ns : List Int} {j : Nat} (hj : j ≤ 10) {x y z : MP.Slot} : ∃ i : Int, ((Ex.ite (.val (.op2 oLt (.var 1) (.cb oLen (.cons (.var 0) .nil)))) (.op2 oIx (.var 0) (.var 1)) (.op2 oAdd (.op2 oMul (.int 397) (.var 1)) (.int 155))) : Ex K).ev [.d (.lst (ns.map .int)), .d (.int j), x, y, z] st = some (.int i, st) := by
  by_cases h : j < ns.length
  · refine ⟨ns[j], ?_⟩
    have e : (ns.map D.int)[j]? = some (.int ns[j]) := by simp [h]
    simp [evVar, h, MP.atI_nat e]
  · refine ⟨397 * j + 155, ?_⟩
    have m : CMulW 397 (j : Int) := small_mul (by omega) (by omega)
    simp [evVar, h, m]
theorem pot_ok {ns : List Int} {j : Nat} (hj : j ≤ 10) : ∃ st' : Store, f_law_pot C [.lst (ns.map .int), .int j] st = some (.cel st.length, st') ∧ Pot st' st.length 0 := by
  obtain ⟨i, e⟩ := cell_ok (K := K) (st := st) (ns := ns) hj (x := .emp) (y := .emp) (z := .emp)
  obtain ⟨o, ho⟩ : ∃ o : Int, o = (if i < 0 then -i else i).fmod ((10 ^ 60) ^ 5) := ⟨_, rfl⟩
  have hob : 0 ≤ o ∧ o < (10 ^ 60) ^ 5 := by
    rw [ho]
    exact fmod_in (by omega)
  obtain ⟨t, ht⟩ : ∃ t : Int, t = if decide (10 ^ 18 ≤ if i < 0 then -i else i) then 1 else 0 := ⟨_, rfl⟩
  have htb : t = 0 ∨ t = 1 := by
    clear ho e
    cases hd : decide (10 ^ 18 ≤ if i < 0 then -i else i) <;> rw [hd] at ht <;> simp at ht <;> omega
  have m1 : CMulW o t := mulOk (a := 1000) (b := 10) (by omega) (by omega) (by omega) (by omega) (by omega)
  obtain ⟨b, hb⟩ : ∃ b : Int, b = i.fmod 2305843009213693951 := ⟨_, rfl⟩
  have hbb : 0 ≤ b ∧ b < 2305843009213693951 := by
    rw [hb]
    exact fmod_in (by omega)
  have m2 : CMulW b 85357 := small_mul (by omega) (by omega)
  have m3 : CMulW 8443 (j : Int) := small_mul (by omega) (by omega)
  have m4 : CMulW (8443 * (j : Int)) j := small_mul (by omega) (by omega)
  obtain ⟨c, hc⟩ : ∃ c : Int, c = (b * 85357 + 8443 * j * j + 163).fmod 2305843009213693921 := ⟨_, rfl⟩
  have hcb : 0 ≤ c ∧ c < 2305843009213693921 := by
    rw [hc]
    exact fmod_in (by omega)
  refine ⟨st ++ [.lst [.int (o * t), .int c, .int 0]], ?_, ⟨o * t, c, 0, by simp, ?_, by omega, by omega, by omega, by omega⟩⟩
  · have p1 := pw1
    have p2 := pw2
    have p3 := pw3
    simp only [f_law_pot, fnRun, s_law_pot]
    have m5 : CMulW 397 (j : Int) := small_mul (by omega) (by omega)
    simp [evVar, m5] at e
    simp at ho ht p2 hb
    simp [evVar, e, m5, p1, p2, p3, ← ho, ← ht, m1, ← hb, m2, m3, m4, ← hc]
  · rcases htb with h | h <;> subst h <;> omega
theorem three_ok {k : Nat} (ρ : MP.Env) (h : ρ[2]? = some (.d (.cel k))) (h2 : ρ.length = 4) : ∀ (xs : List D) (st : Store) (m : Int), Pot st k m → m + 400 * xs.length ≤ 80000 → ∃ st' : Store,
    compGo (Tg.name (K := K) 3).bind (Tx.yes (K := K)).ev (Ex.call (f_law_right C) [] [] (fun _ => .nil) (.cons (.var 2) .nil) : Ex K).ev ρ xs st = some (List.replicate xs.length (.bl true), st')
  | [], st, _, _, _ => ⟨st, rfl⟩
  | x :: xs, st, m, P, hm => by
    have hm : m + 400 * ((xs.length : Int) + 1) ≤ 80000 := by simpa using hm
    obtain ⟨s1, e1, P1⟩ := right_ok (C := C) P (by omega)
    obtain ⟨s2, e2⟩ := three_ok ρ h h2 xs s1 (m + 400) P1 (by omega)
    refine ⟨s2, ?_⟩
    have e3 : evVar 2 (ρ.set 3 (.d x)) st = some (.cel k, st) := by
      unfold evVar
      rw [List.getElem?_set_ne (by omega), h]
    simp [compGo, e3, e1, e2, List.replicate_succ]
theorem laps {ns : List Int} : ∀ (xs : List Nat) (st : Store) (l p q : MP.Slot), (∀ x ∈ xs, x ≤ 10) → ∃ (l' p' q' : MP.Slot) (st' : Store),
    forRun (Tg.name (K := K) 1).bind (.seq (.set 2 (.call (f_law_pot C) [] [] (fun _ => .nil) (.cons (.var 0) (.cons (.var 1) .nil))))
    (.ite (.not (.val (.cb oAll (.cons (.ofF (.comp (.range1 (.int 3)) (.name 3) .yes (.call (f_law_right C) [] [] (fun _ => .nil) (.cons (.var 2) .nil)) [3] (vsOk (by rfl)))) .nil)))) (.ret (.bl false)) .skip) : Sx K).run
      (xs.map fun x : Nat => .int x) [.d (.lst (ns.map .int)), l, p, q] st = some (.nx [.d (.lst (ns.map .int)), l', p', q'] st')
  | [], st, l, p, q, _ => ⟨l, p, q, st, rfl⟩
  | x :: xs, st, l, p, q, hx => by
    obtain ⟨s1, e1, P1⟩ := pot_ok (C := C) (st := st) (ns := ns) (hx x List.mem_cons_self)
    obtain ⟨s2, e2⟩ := three_ok (C := C) [.d (.lst (ns.map .int)), .d (.int x), .d (.cel st.length), .emp] rfl rfl (rngD 0 3) s1 0 P1 (by simp [rngD])
    obtain ⟨l', p', q', s3, e3⟩ := laps (ns := ns) xs s2 (.d (.int x)) (.d (.cel st.length)) q (fun y hy => hx y (List.mem_cons_of_mem _ hy))
    have r3 : RngOk 3 := by decide
    have e4 := all_true (st := s2) (n := 3)
    refine ⟨l', p', q', s3, ?_⟩
    simp [rng_len] at e2
    simp [forRun, evVar, e1, r3, wipeE, e2, e3, rng_len]
    simp at e4
    simp [e4, e3]
theorem law_ok {ns : List Int} : ∃ st' : Store, f_law C [.lst (ns.map .int)] [] = some (.bl true, st') := by
  obtain ⟨n, e1, n1, n2⟩ := places_ok (C := C) (st := []) (ns := ns)
  obtain ⟨l, p, q, st', e2⟩ := laps (C := C) (ns := ns) (List.range n) [] .emp .emp .emp (fun x hx => by
    have := List.mem_range.mp hx
    omega)
  have e3 : rngD 0 n = (List.range n).map fun x : Nat => D.int x := by simp [rngD]
  refine ⟨st', ?_⟩
  simp only [f_law, fnRun, s_law]
  simp [evVar, e1, e3, e2]
theorem reps_ints {w : Wd} : ∀ ns : List Int, Reps K w (ns.map V.int) (ns.map D.int)
  | [] => .nil
  | _ :: ns => .cons .int (reps_ints ns)
theorem law_end {H : Hp} {a : Addr} {ns : List Int} {E : XK} (hS : SqL K H a (ns.map V.int)) : EffSp K (f_law C) [.ref a] H (fun v _ => v = .bl true) E := by
  obtain ⟨st', e⟩ := law_ok (C := C) (ns := ns)
  refine ⟨⟨H, []⟩, [], [.lst (ns.map .int)], .bl true, st', ⟨?_, rfl, List.nodup_nil, fun k c b h => by simp at h⟩, .cons (.lst hS (reps_ints ns)) .nil, e, fun v H' w' _ _ r => by cases r; rfl⟩
  exact fun _ _ h => h
end
end K84

set_option Elab.async false
set_option linter.all false
set_option maxRecDepth 100000
set_option autoImplicit false
set_option maxHeartbeats 0
namespace K84
open PySem PySem.Spec PyProof.Rows L2 RM MP
def hd_is_integer : He.DefD := ⟨("is_integer", none), "is_integer", "is_integer", defArgs st_is_integer, defBody st_is_integer, defScope st_is_integer, [.non, .non], []⟩
def hd_is_tuple : He.DefD := ⟨("is_tuple", none), "is_tuple", "is_tuple", defArgs st_is_tuple, defBody st_is_tuple, defScope st_is_tuple, [.non], []⟩
def hd_common : He.DefD := ⟨("common", none), "common", "common", defArgs st_common, defBody st_common, defScope st_common, [], []⟩
def hd_law_pot : He.DefD := ⟨("_law_pot", none), "_law_pot", "_law_pot", defArgs st_law_pot, defBody st_law_pot, defScope st_law_pot, [], []⟩
def hd_law_take : He.DefD := ⟨("_law_take", none), "_law_take", "_law_take", defArgs st_law_take, defBody st_law_take, defScope st_law_take, [], []⟩
def hd_law_places : He.DefD := ⟨("_law_places", none), "_law_places", "_law_places", defArgs st_law_places, defBody st_law_places, defScope st_law_places, [], []⟩
def hd_law_cut : He.DefD := ⟨("_law_cut", none), "_law_cut", "_law_cut", defArgs st_law_cut, defBody st_law_cut, defScope st_law_cut, [], []⟩
def hd_cut : He.DefD := ⟨("cut", none), "cut", "cut", defArgs st_cut, defBody st_cut, defScope st_cut, [], []⟩
def hd_is_fraction : He.DefD := ⟨("is_fraction", none), "is_fraction", "is_fraction", defArgs st_is_fraction, defBody st_is_fraction, defScope st_is_fraction, [], []⟩
def hd_law_of : He.DefD := ⟨("_law_of", none), "_law_of", "_law_of", defArgs st_law_of, defBody st_law_of, defScope st_law_of, [], []⟩
def hd_law_added : He.DefD := ⟨("_law_added", none), "_law_added", "_law_added", defArgs st_law_added, defBody st_law_added, defScope st_law_added, [], []⟩
def hd_law_drawn : He.DefD := ⟨("_law_drawn", none), "_law_drawn", "_law_drawn", defArgs st_law_drawn, defBody st_law_drawn, defScope st_law_drawn, [], []⟩
def hd_are_fractions : He.DefD := ⟨("are_fractions", none), "are_fractions", "are_fractions", defArgs st_are_fractions, defBody st_are_fractions, defScope st_are_fractions, [.non], []⟩
def hd_plus : He.DefD := ⟨("plus", none), "plus", "plus", defArgs st_plus, defBody st_plus, defScope st_plus, [], []⟩
def hd_times : He.DefD := ⟨("times", none), "times", "times", defArgs st_times, defBody st_times, defScope st_times, [], []⟩
def hd_weighed : He.DefD := ⟨("weighed", none), "weighed", "weighed", defArgs st_weighed, defBody st_weighed, defScope st_weighed, [], []⟩
def hd_total : He.DefD := ⟨("total", none), "total", "total", defArgs st_total, defBody st_total, defScope st_total, [.non], []⟩
def hd_law_right : He.DefD := ⟨("_law_right", none), "_law_right", "_law_right", defArgs st_law_right, defBody st_law_right, defScope st_law_right, [], []⟩
def hd_law : He.DefD := ⟨("law", none), "law", "law", defArgs st_law, defBody st_law, defScope st_law, [], []⟩
def hfn : List He.DefD := [hd_is_integer, hd_is_tuple, hd_common, hd_law_pot, hd_law_take, hd_law_places, hd_law_cut, hd_cut, hd_is_fraction, hd_law_of, hd_law_added, hd_law_drawn, hd_are_fractions, hd_plus, hd_times, hd_weighed, hd_total, hd_law_right, hd_law]
def hfa : List He.Fa := [.glo "is_integer", .glo "is_tuple", .glo "common", .glo "_law_pot", .glo "_law_take", .glo "_law_places", .glo "_law_cut", .glo "cut", .glo "is_fraction", .glo "_law_of", .glo "_law_added", .glo "_law_drawn", .glo "are_fractions", .glo "plus", .glo "times", .glo "weighed", .glo "total", .glo "_law_right", .glo "law", .glo "NOUGHT", .glo "ONE", .free "abs", .free "all", .free "bool", .free "int", .free "isinstance", .free "len", .free "list", .free "max", .free "min", .free "range", .free "repr", .free "tuple", .free "zip", .int "PAIR" 2]
def hex_ (K : PySem.W.Frag) : Bool := (He.tupB K "NOUGHT" [.int 0, .int 1] && He.tupB K "ONE" [.int 1, .int 1])
abbrev hR : PySem.W.OpenRow := PySem.W.OpenLaw.row PySem.Challenge.rw_tiesums_k84_whole_many_fractions_put_tog
abbrev hkk : PySem.W.Hook := He.hookX 4 hfa hfn [] [] hex_
def hob (s : PySem.W.SharedT) : He.AlX := He.obsX 4 hfa hfn [] [] hex_ (HandSHeadRun.getT s)
theorem hob_eq (s : PySem.W.SharedT) : hob s = hkk.obs s.abs := He.obsX_eq (HandSHeadRun.getT_eq s)
def hloose : List PySem.Str := ["TieError", "BadFractions", "is_integer", "is_tuple", "PAIR", "NOUGHT", "ONE", "common", "cut", "is_fraction", "are_fractions", "plus", "times", "weighed", "total", "_law_pot", "_law_take", "_law_of", "_law_some", "_law_places", "_law_cut", "_law_added", "_law_drawn", "_law_right"]
theorem hrun (w : World) : HandSHeadRun.RunEq hR (PySem.W.view hR.prog [28]) hkk hob 3000 hloose w := by
  intro os
  kernel_rfl
theorem hfacts {P : Program} {w : World} {K : PySem.W.Frag} {h : Heap} {mg : Str → Option Value} {f : Addr} (X : K.In h) (G : h.Ns mainGlobals mg) (hfa0 : mg ("law" : Str) = some (.ref f)) (c : He.SaysD hfa hfn K) (ce : hex_ K = true) :
    ∃ (C : Cs K) (fd : FuncData), (∀ (s : Shared) (v : Value), BindsTo s fd ⟨[v], []⟩ [("script", v)]) ∧ ∀ base : Heap, K.In base → base.Ns mainGlobals mg → FnG P w K mg base CX0 7 f fd ["script"] (EffSp K (f_law C)) := by
  obtain ⟨ct0, cr0⟩ := Bool.and_eq_true_iff.mp ce
  have ct1 := cr0
  let C : Cs K := ⟨He.ga K "NOUGHT", fun H => He.tupB_ok ct0 H, He.ga K "ONE", fun H => He.tupB_ok ct1 H⟩
  have T : Tt K mg C := ⟨He.free_ok X G (c.fact 21 (f := .free "abs") rfl),
    He.free_ok X G (c.fact 22 (f := .free "all") rfl),
    He.free_ok X G (c.fact 23 (f := .free "bool") rfl),
    He.free_ok X G (c.fact 24 (f := .free "int") rfl),
    He.free_ok X G (c.fact 25 (f := .free "isinstance") rfl),
    He.free_ok X G (c.fact 26 (f := .free "len") rfl),
    He.free_ok X G (c.fact 27 (f := .free "list") rfl),
    He.free_ok X G (c.fact 28 (f := .free "max") rfl),
    He.free_ok X G (c.fact 29 (f := .free "min") rfl),
    He.free_ok X G (c.fact 30 (f := .free "range") rfl),
    He.free_ok X G (c.fact 31 (f := .free "repr") rfl),
    He.free_ok X G (c.fact 32 (f := .free "tuple") rfl),
    He.free_ok X G (c.fact 33 (f := .free "zip") rfl),
    He.glo_ok X G (c.fact 19 (f := .glo "NOUGHT") rfl),
    He.glo_ok X G (c.fact 20 (f := .glo "ONE") rfl),
    He.int_ok X G (c.fact 34 (f := .int "PAIR" 2) rfl)⟩
  obtain ⟨fd_is_integer, F_is_integer⟩ := c.def_ 0 (d := hd_is_integer) rfl
  obtain ⟨fd_is_tuple, F_is_tuple⟩ := c.def_ 1 (d := hd_is_tuple) rfl
  obtain ⟨fd_common, F_common⟩ := c.def_ 2 (d := hd_common) rfl
  obtain ⟨fd_law_pot, F_law_pot⟩ := c.def_ 3 (d := hd_law_pot) rfl
  obtain ⟨fd_law_take, F_law_take⟩ := c.def_ 4 (d := hd_law_take) rfl
  obtain ⟨fd_law_places, F_law_places⟩ := c.def_ 5 (d := hd_law_places) rfl
  obtain ⟨fd_law_cut, F_law_cut⟩ := c.def_ 6 (d := hd_law_cut) rfl
  obtain ⟨fd_cut, F_cut⟩ := c.def_ 7 (d := hd_cut) rfl
  obtain ⟨fd_is_fraction, F_is_fraction⟩ := c.def_ 8 (d := hd_is_fraction) rfl
  obtain ⟨fd_law_of, F_law_of⟩ := c.def_ 9 (d := hd_law_of) rfl
  obtain ⟨fd_law_added, F_law_added⟩ := c.def_ 10 (d := hd_law_added) rfl
  obtain ⟨fd_law_drawn, F_law_drawn⟩ := c.def_ 11 (d := hd_law_drawn) rfl
  obtain ⟨fd_are_fractions, F_are_fractions⟩ := c.def_ 12 (d := hd_are_fractions) rfl
  obtain ⟨fd_plus, F_plus⟩ := c.def_ 13 (d := hd_plus) rfl
  obtain ⟨fd_times, F_times⟩ := c.def_ 14 (d := hd_times) rfl
  obtain ⟨fd_weighed, F_weighed⟩ := c.def_ 15 (d := hd_weighed) rfl
  obtain ⟨fd_total, F_total⟩ := c.def_ 16 (d := hd_total) rfl
  obtain ⟨fd_law_right, F_law_right⟩ := c.def_ 17 (d := hd_law_right) rfl
  obtain ⟨fd_law, F_law⟩ := c.def_ 18 (d := hd_law) rfl
  have eL := hfa0.symm.trans (He.glo_ok X G (c.fact 18 (f := .glo "law") rfl))
  cases eL
  have bL := FunD.bindsA (ps := ["script"]) F_law fun _ _ _ _ _ _ us hl => match us, hl with | [_], _ => rfl
  refine ⟨C, fd_law, fun s v => bL s [v] rfl, fun base _ _ => ?_⟩
  have k_is_integer := (ok_is_integer F_is_integer (P := P) (w := w) (base := base) T)
  obtain ⟨ds_is_integer, v_is_integer, b_is_integer⟩ := F_is_integer.binds1 (ps := P_is_integer) 3 2 (by simp [He.DefD.dvs, hd_is_integer]) (by simp [He.DefD.dvs, hd_is_integer, P_is_integer]) fun T kV doc pm an cdv ct us its hu hi => by
    match us, hu, its, hi with
    | [_, _, _], _, [_, _], _ => exact ⟨_, rfl, rfl⟩
  have c_is_integer : Cal P w K mg base "is_integer" 1 P_is_integer [] (f_is_integer C) := ⟨⟨_, _, ds_is_integer, He.glo_ok X G (c.fact 0 (f := .glo "is_integer") rfl), F_is_integer.kp, b_is_integer, v_is_integer, k_is_integer⟩⟩
  obtain ⟨ds_is_integer_1, v_is_integer_1, b_is_integer_1⟩ := F_is_integer.binds1 (ps := P_is_integer) 2 1 (by simp [He.DefD.dvs, hd_is_integer]) (by simp [He.DefD.dvs, hd_is_integer, P_is_integer]) fun T kV doc pm an cdv ct us its hu hi => by
    match us, hu, its, hi with
    | [_, _], _, [_, _], _ => exact ⟨_, rfl, rfl⟩
  have c_is_integer_1 : Cal P w K mg base "is_integer" 1 P_is_integer [.non] (f_is_integer C) := ⟨⟨_, _, ds_is_integer_1, He.glo_ok X G (c.fact 0 (f := .glo "is_integer") rfl), F_is_integer.kp, b_is_integer_1, v_is_integer_1, k_is_integer⟩⟩
  obtain ⟨ds_is_integer_2, v_is_integer_2, b_is_integer_2⟩ := F_is_integer.binds1 (ps := P_is_integer) 1 0 (by simp [He.DefD.dvs, hd_is_integer]) (by simp [He.DefD.dvs, hd_is_integer, P_is_integer]) fun T kV doc pm an cdv ct us its hu hi => by
    match us, hu, its, hi with
    | [_], _, [_, _], _ => exact ⟨_, rfl, rfl⟩
  have c_is_integer_2 : Cal P w K mg base "is_integer" 1 P_is_integer [.non, .non] (f_is_integer C) := ⟨⟨_, _, ds_is_integer_2, He.glo_ok X G (c.fact 0 (f := .glo "is_integer") rfl), F_is_integer.kp, b_is_integer_2, v_is_integer_2, k_is_integer⟩⟩
  have k_is_tuple := (ok_is_tuple F_is_tuple (P := P) (w := w) (base := base) T)
  obtain ⟨ds_is_tuple, v_is_tuple, b_is_tuple⟩ := F_is_tuple.binds1 (ps := P_is_tuple) 3 1 (by simp [He.DefD.dvs, hd_is_tuple]) (by simp [He.DefD.dvs, hd_is_tuple, P_is_tuple]) fun T kV doc pm an cdv ct us its hu hi => by
    match us, hu, its, hi with
    | [_, _, _], _, [_], _ => exact ⟨_, rfl, rfl⟩
  have c_is_tuple : Cal P w K mg base "is_tuple" 1 P_is_tuple [] (f_is_tuple C) := ⟨⟨_, _, ds_is_tuple, He.glo_ok X G (c.fact 1 (f := .glo "is_tuple") rfl), F_is_tuple.kp, b_is_tuple, v_is_tuple, k_is_tuple⟩⟩
  have k_common := (ok_common F_common (P := P) (w := w) (base := base) T)
  have b_common : Binds K fd_common P_common [] := F_common.bindsN fun _ _ _ _ _ _ us hl => match us, hl with | [_, _], _ => rfl
  have c_common : Cal P w K mg base "common" 1 P_common [] (f_common C) := ⟨⟨_, _, [], He.glo_ok X G (c.fact 2 (f := .glo "common") rfl), F_common.kp, b_common, .nil, k_common⟩⟩
  have k_law_pot := (ok_law_pot F_law_pot (P := P) (w := w) (base := base) T)
  have b_law_pot : Binds K fd_law_pot P_law_pot [] := F_law_pot.bindsN fun _ _ _ _ _ _ us hl => match us, hl with | [_, _], _ => rfl
  have c_law_pot : Cal P w K mg base "_law_pot" 1 P_law_pot [] (f_law_pot C) := ⟨⟨_, _, [], He.glo_ok X G (c.fact 3 (f := .glo "_law_pot") rfl), F_law_pot.kp, b_law_pot, .nil, k_law_pot⟩⟩
  have k_law_take := (ok_law_take F_law_take (P := P) (w := w) (base := base) T)
  have b_law_take : Binds K fd_law_take P_law_take [] := F_law_take.bindsN fun _ _ _ _ _ _ us hl => match us, hl with | [_, _], _ => rfl
  have c_law_take : Cal P w K mg base "_law_take" 1 P_law_take [] (f_law_take C) := ⟨⟨_, _, [], He.glo_ok X G (c.fact 4 (f := .glo "_law_take") rfl), F_law_take.kp, b_law_take, .nil, k_law_take⟩⟩
  have k_law_places := (ok_law_places F_law_places (P := P) (w := w) (base := base) T)
  have b_law_places : Binds K fd_law_places P_law_places [] := F_law_places.bindsN fun _ _ _ _ _ _ us hl => match us, hl with | [_, _], _ => rfl
  have c_law_places : Cal P w K mg base "_law_places" 1 P_law_places [] (f_law_places C) := ⟨⟨_, _, [], He.glo_ok X G (c.fact 5 (f := .glo "_law_places") rfl), F_law_places.kp, b_law_places, .nil, k_law_places⟩⟩
  have k_law_cut := (ok_law_cut F_law_cut (P := P) (w := w) (base := base) T)
  have b_law_cut : Binds K fd_law_cut P_law_cut [] := F_law_cut.bindsN fun _ _ _ _ _ _ us hl => match us, hl with | [_, _], _ => rfl
  have c_law_cut : Cal P w K mg base "_law_cut" 1 P_law_cut [] (f_law_cut C) := ⟨⟨_, _, [], He.glo_ok X G (c.fact 6 (f := .glo "_law_cut") rfl), F_law_cut.kp, b_law_cut, .nil, k_law_cut⟩⟩
  have k_cut := (ok_cut F_cut (P := P) (w := w) (base := base) T c_common)
  have b_cut : Binds K fd_cut P_cut [] := F_cut.bindsN fun _ _ _ _ _ _ us hl => match us, hl with | [_, _], _ => rfl
  have c_cut : Cal P w K mg base "cut" 2 P_cut [] (f_cut C) := ⟨⟨_, _, [], He.glo_ok X G (c.fact 7 (f := .glo "cut") rfl), F_cut.kp, b_cut, .nil, k_cut⟩⟩
  have k_is_fraction := (ok_is_fraction F_is_fraction (P := P) (w := w) (base := base) T c_is_integer c_is_integer_1 c_is_integer_2 c_is_tuple c_common)
  have b_is_fraction : Binds K fd_is_fraction P_is_fraction [] := F_is_fraction.bindsN fun _ _ _ _ _ _ us hl => match us, hl with | [_], _ => rfl
  have c_is_fraction : Cal P w K mg base "is_fraction" 2 P_is_fraction [] (f_is_fraction C) := ⟨⟨_, _, [], He.glo_ok X G (c.fact 8 (f := .glo "is_fraction") rfl), F_is_fraction.kp, b_is_fraction, .nil, k_is_fraction⟩⟩
  have k_law_of := (ok_law_of F_law_of (P := P) (w := w) (base := base) T c_law_take)
  have b_law_of : Binds K fd_law_of P_law_of [] := F_law_of.bindsN fun _ _ _ _ _ _ us hl => match us, hl with | [_, _], _ => rfl
  have c_law_of : Cal P w K mg base "_law_of" 2 P_law_of [] (f_law_of C) := ⟨⟨_, _, [], He.glo_ok X G (c.fact 9 (f := .glo "_law_of") rfl), F_law_of.kp, b_law_of, .nil, k_law_of⟩⟩
  have k_law_added := (ok_law_added F_law_added (P := P) (w := w) (base := base) T c_law_cut)
  have b_law_added : Binds K fd_law_added P_law_added [] := F_law_added.bindsN fun _ _ _ _ _ _ us hl => match us, hl with | [_], _ => rfl
  have c_law_added : Cal P w K mg base "_law_added" 2 P_law_added [] (f_law_added C) := ⟨⟨_, _, [], He.glo_ok X G (c.fact 10 (f := .glo "_law_added") rfl), F_law_added.kp, b_law_added, .nil, k_law_added⟩⟩
  have k_law_drawn := (ok_law_drawn F_law_drawn (P := P) (w := w) (base := base) T c_law_take c_law_cut)
  have b_law_drawn : Binds K fd_law_drawn P_law_drawn [] := F_law_drawn.bindsN fun _ _ _ _ _ _ us hl => match us, hl with | [_, _, _, _], _ => rfl
  have c_law_drawn : Cal P w K mg base "_law_drawn" 2 P_law_drawn [] (f_law_drawn C) := ⟨⟨_, _, [], He.glo_ok X G (c.fact 11 (f := .glo "_law_drawn") rfl), F_law_drawn.kp, b_law_drawn, .nil, k_law_drawn⟩⟩
  have k_are_fractions := (ok_are_fractions F_are_fractions (P := P) (w := w) (base := base) T c_is_fraction)
  obtain ⟨ds_are_fractions, v_are_fractions, b_are_fractions⟩ := F_are_fractions.binds1 (ps := P_are_fractions) 2 1 (by simp [He.DefD.dvs, hd_are_fractions]) (by simp [He.DefD.dvs, hd_are_fractions, P_are_fractions]) fun T kV doc pm an cdv ct us its hu hi => by
    match us, hu, its, hi with
    | [_, _], _, [_], _ => exact ⟨_, rfl, rfl⟩
  have c_are_fractions : Cal P w K mg base "are_fractions" 3 P_are_fractions [] (f_are_fractions C) := ⟨⟨_, _, ds_are_fractions, He.glo_ok X G (c.fact 12 (f := .glo "are_fractions") rfl), F_are_fractions.kp, b_are_fractions, v_are_fractions, k_are_fractions⟩⟩
  obtain ⟨ds_are_fractions_1, v_are_fractions_1, b_are_fractions_1⟩ := F_are_fractions.binds1 (ps := P_are_fractions) 1 0 (by simp [He.DefD.dvs, hd_are_fractions]) (by simp [He.DefD.dvs, hd_are_fractions, P_are_fractions]) fun T kV doc pm an cdv ct us its hu hi => by
    match us, hu, its, hi with
    | [_], _, [_], _ => exact ⟨_, rfl, rfl⟩
  have c_are_fractions_1 : Cal P w K mg base "are_fractions" 3 P_are_fractions [.non] (f_are_fractions C) := ⟨⟨_, _, ds_are_fractions_1, He.glo_ok X G (c.fact 12 (f := .glo "are_fractions") rfl), F_are_fractions.kp, b_are_fractions_1, v_are_fractions_1, k_are_fractions⟩⟩
  have k_plus := (ok_plus F_plus (P := P) (w := w) (base := base) T c_cut)
  have b_plus : Binds K fd_plus P_plus [] := F_plus.bindsN fun _ _ _ _ _ _ us hl => match us, hl with | [_, _], _ => rfl
  have c_plus : Cal P w K mg base "plus" 3 P_plus [] (f_plus C) := ⟨⟨_, _, [], He.glo_ok X G (c.fact 13 (f := .glo "plus") rfl), F_plus.kp, b_plus, .nil, k_plus⟩⟩
  have k_times := (ok_times F_times (P := P) (w := w) (base := base) T c_cut)
  have b_times : Binds K fd_times P_times [] := F_times.bindsN fun _ _ _ _ _ _ us hl => match us, hl with | [_, _], _ => rfl
  have c_times : Cal P w K mg base "times" 3 P_times [] (f_times C) := ⟨⟨_, _, [], He.glo_ok X G (c.fact 14 (f := .glo "times") rfl), F_times.kp, b_times, .nil, k_times⟩⟩
  have k_weighed := (ok_weighed F_weighed (P := P) (w := w) (base := base) T c_times c_plus)
  have b_weighed : Binds K fd_weighed P_weighed [] := F_weighed.bindsN fun _ _ _ _ _ _ us hl => match us, hl with | [_, _], _ => rfl
  have c_weighed : Cal P w K mg base "weighed" 4 P_weighed [] (f_weighed C) := ⟨⟨_, _, [], He.glo_ok X G (c.fact 15 (f := .glo "weighed") rfl), F_weighed.kp, b_weighed, .nil, k_weighed⟩⟩
  have k_total := (ok_total F_total (P := P) (w := w) (base := base) T c_are_fractions c_are_fractions_1 c_weighed)
  obtain ⟨ds_total, v_total, b_total⟩ := F_total.binds1 (ps := P_total) 2 1 (by simp [He.DefD.dvs, hd_total]) (by simp [He.DefD.dvs, hd_total, P_total]) fun T kV doc pm an cdv ct us its hu hi => by
    match us, hu, its, hi with
    | [_, _], _, [_], _ => exact ⟨_, rfl, rfl⟩
  have c_total : Cal P w K mg base "total" 5 P_total [] (f_total C) := ⟨⟨_, _, ds_total, He.glo_ok X G (c.fact 16 (f := .glo "total") rfl), F_total.kp, b_total, v_total, k_total⟩⟩
  obtain ⟨ds_total_1, v_total_1, b_total_1⟩ := F_total.binds1 (ps := P_total) 1 0 (by simp [He.DefD.dvs, hd_total]) (by simp [He.DefD.dvs, hd_total, P_total]) fun T kV doc pm an cdv ct us its hu hi => by
    match us, hu, its, hi with
    | [_], _, [_], _ => exact ⟨_, rfl, rfl⟩
  have c_total_1 : Cal P w K mg base "total" 5 P_total [.non] (f_total C) := ⟨⟨_, _, ds_total_1, He.glo_ok X G (c.fact 16 (f := .glo "total") rfl), F_total.kp, b_total_1, v_total_1, k_total⟩⟩
  have k_law_right := (ok_law_right F_law_right (P := P) (w := w) (base := base) T c_law_take c_law_of c_law_drawn c_law_added c_total c_total_1 c_law_cut)
  have b_law_right : Binds K fd_law_right P_law_right [] := F_law_right.bindsN fun _ _ _ _ _ _ us hl => match us, hl with | [_], _ => rfl
  have c_law_right : CalG P w K mg base "_law_right" 6 P_law_right [] (f_law_right C) := ⟨⟨_, _, [], He.glo_ok X G (c.fact 17 (f := .glo "_law_right") rfl), F_law_right.kp, b_law_right, .nil, k_law_right⟩⟩
  exact ok_law F_law T c_law_places c_law_pot c_law_right
end K84
open PySem PySem.W PySem.Calls PyProof.Rows
theorem PySem.Challenge.cw_tiesums_k84_whole_many_fractions_put_tog_holds : PySem.Challenge.rw_tiesums_k84_whole_many_fractions_put_tog.Holds := by
  w_on; o_law
  refine HandSHeadRun.head_any (r := OpenLaw.row PySem.Challenge.rw_tiesums_k84_whole_many_fractions_put_tog) (q := view (OpenLaw.row PySem.Challenge.rw_tiesums_k84_whole_many_fractions_put_tog).prog [28]) (H := K84.hkk) (ob := K84.hob) (M := 3000) (loose := K84.hloose) (d := HandSHeadRun.topDef (OpenLaw.row PySem.Challenge.rw_tiesums_k84_whole_many_fractions_put_tog).prog 28) (kwd := []) K84.hob_eq
    (by kernel_rfl) (fun s => by kernel_rfl) K84.hrun (by kernel_rfl) (by kernel_rfl) (by kernel_rfl) (by rfl) (by first | assumption | decide +kernel) (by decide +kernel) ⟨rfl, rfl, rfl, rfl, rfl, by decide +kernel⟩ ?hw ?hc
  case hw => w_witness2
  case hc =>
    refine RM.walk_G (l := PySem.Challenge.rw_tiesums_k84_whole_many_fractions_put_tog) (n := 63) (k := 7) (x := "script") (CX := L2.CX0) rfl (by decide) (by kernel_rfl) ⟨rfl, by decide, by decide⟩ ?F (fun _ _ _ _ z => z)
    intro w mg fa h Y G hmg0
    obtain ⟨K, KX, c⟩ := Y
    have hmg : mg ("law" : PySem.Str) = some (.ref fa) := by
      have e : (HandSHeadRun.topDef (OpenLaw.row PySem.Challenge.rw_tiesums_k84_whole_many_fractions_put_tog).prog 28).name = ("law" : PySem.Str) := by kernel_rfl
      rw [← e]
      exact hmg0
    obtain ⟨C, fd, hb, hF⟩ := K84.hfacts (P := (PySem.Challenge.rw_tiesums_k84_whole_many_fractions_put_tog).prog) (w := w) KX G hmg c.t.d c.more
    exact ⟨K, fd, MP.EffSp K (K84.f_law C), KX, hb, fun H a ns hl hO hS => K84.law_end hS, hF⟩

