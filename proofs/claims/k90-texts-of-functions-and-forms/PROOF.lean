import PyProof.Rows.All
import Wide.All
import OpenK.AllK
import Wide.FinOn
import HandS.ForMost
import HandS.ForExc
import HandS.Zip
import HandS.Lambda
import KE.KNest
import HandS.IsInst
import HandS.TupAny
import HandS.TupMul
import HandS.Style
import HandS.Flow
import HandS.Wide
import HandS.Deep
import PyProof.StrOps2
import KE.GoesEnum
import KE.SortData
import HandS.Replace
import HandS.ExcIs
import HandS.EndTab
import HandS.ExcValue
import KE.KNestM
import HandS.StrMore
import HandS.NoneIn
import HandS.Text
import HandS.Set
import HandS.SetFor
import HandS.SetKeys
import HandS.ReplaceList
import PySem.Challenge.RW_leastterms_k90_texts_of_functions_and_fo
set_option Elab.async false
set_option linter.all false
set_option maxRecDepth 100000
set_option maxHeartbeats 0
/-! PDA: data without the heap. D: data; A: an argument (data, or a cell); W: a result (an argument, or a list of one's own); R: what a reckoning comes to. -/
namespace PD
open PySem PySem.Spec PyProof.Rows L2

abbrev D := PyData

mutual
inductive Rep (K : PySem.W.Frag) (F : Hp) : V → D → Prop
  | non : Rep K F .non .none
  | bl (b : Bool) : Rep K F (.bl b) (.bool b)
  | int (i : Int) : Rep K F (.int i) (.int i)
  | str (x : Str) : Rep K F (.str x) (.str x)
  | lst {a : Addr} {xs : List V} {ds : List D} : F a = some (.lst xs) → RepAll K F xs ds → Rep K F (.ref a) (.list ds)
  | tup {a : Addr} {xs : List V} {ds : List D} : SqT K F a xs → RepAll K F xs ds → Rep K F (.ref a) (.tuple ds)
  | dct {a : Addr} : Rd F a (.dK []) → Rep K F (.ref a) (.dict [])
inductive RepAll (K : PySem.W.Frag) (F : Hp) : List V → List D → Prop
  | nil : RepAll K F [] []
  | cons {v : V} {vs : List V} {d : D} {ds : List D} : Rep K F v d → RepAll K F vs ds → RepAll K F (v :: vs) (d :: ds)
end

theorem Same.seqT {K : PySem.W.Frag} {H H' : Hp} {a : Addr} {xs : List V} (e : Same H H') (h : SqT K H a xs) : SqT K H' a xs := by
  rcases h with (h | ⟨o, h⟩) | h
  · exact .inl (.inl (e _ _ h))
  · exact .inl (.inr ⟨o, e _ _ h⟩)
  · exact .inr h
theorem Same.rd {H H' : Hp} {a : Addr} {u : HO} (e : Same H H') (h : Rd H a u) : Rd H' a u := by
  rcases h with h | ⟨o, h⟩
  · exact .inl (e _ _ h)
  · exact .inr ⟨o, e _ _ h⟩

mutual
theorem Rep.up {K : PySem.W.Frag} {F F' : Hp} (e : Same F F') : ∀ (d : D) (v : V), Rep K F v d → Rep K F' v d
  | _, _, .non => .non
  | _, _, .bl b => .bl b
  | _, _, .int i => .int i
  | _, _, .str x => .str x
  | .list ds, _, .lst h r => .lst (e _ _ h) (RepAll.up e ds _ r)
  | .tuple ds, _, .tup h r => .tup (Same.seqT e h) (RepAll.up e ds _ r)
  | _, _, .dct h => .dct (Same.rd e h)
theorem RepAll.up {K : PySem.W.Frag} {F F' : Hp} (e : Same F F') : ∀ (ds : List D) (vs : List V), RepAll K F vs ds → RepAll K F' vs ds
  | _, _, .nil => .nil
  | d :: ds, _, .cons h t => .cons (Rep.up e d _ h) (RepAll.up e ds _ t)
end
theorem RepAll.len {K : PySem.W.Frag} {F : Hp} : ∀ {vs : List V} {ds : List D}, RepAll K F vs ds → vs.length = ds.length
  | _, _, .nil => rfl
  | _, _, .cons _ t => congrArg (· + 1) (RepAll.len t)
theorem RepAll.get {K : PySem.W.Frag} {F : Hp} : ∀ {vs : List V} {ds : List D} {i : Nat} {d : D}, RepAll K F vs ds → ds[i]? = some d → ∃ v, vs[i]? = some v ∧ Rep K F v d
  | _, _, _, _, .nil, e => by simp at e
  | _, _, 0, _, .cons r _, e => by simp at e; subst e; exact ⟨_, rfl, r⟩
  | _, _, i + 1, d, .cons _ t, e => by
    obtain ⟨v, h1, h2⟩ := RepAll.get (i := i) (d := d) t (by simpa using e)
    exact ⟨v, by simpa using h1, h2⟩
theorem RepAll.app {K : PySem.W.Frag} {F : Hp} : ∀ {vs ws : List V} {ds es : List D}, RepAll K F vs ds → RepAll K F ws es → RepAll K F (vs ++ ws) (ds ++ es)
  | _, _, _, _, .nil, s => s
  | _, _, _, _, .cons r t, s => .cons r (RepAll.app t s)
theorem RepAll.take {K : PySem.W.Frag} {F : Hp} : ∀ {vs : List V} {ds : List D} (n : Nat), RepAll K F vs ds → RepAll K F (vs.take n) (ds.take n)
  | _, _, 0, _ => .nil
  | _, _, _ + 1, .nil => .nil
  | _, _, n + 1, .cons r t => .cons r (RepAll.take n t)
theorem RepAll.drop {K : PySem.W.Frag} {F : Hp} : ∀ {vs : List V} {ds : List D} (n : Nat), RepAll K F vs ds → RepAll K F (vs.drop n) (ds.drop n)
  | _, _, 0, r => r
  | _, _, _ + 1, .nil => .nil
  | _, _, n + 1, .cons _ t => RepAll.drop n t
theorem RepAll.set {K : PySem.W.Frag} {F : Hp} {v : V} {d : D} (r : Rep K F v d) : ∀ {vs : List V} {ds : List D} (i : Nat), RepAll K F vs ds → RepAll K F (vs.set i v) (ds.set i d)
  | _, _, _, .nil => .nil
  | _, _, 0, .cons _ t => .cons r t
  | _, _, i + 1, .cons q t => .cons q (RepAll.set r i t)

/-- an argument: data, the k-th cell, the script, or an exception of the class at C -/
inductive A where
  | d (x : D) | c (k : Nat) | s (ns : List Int) | e (C : Addr)
/-- the cells' addresses, and the tables of code objects -/
structure Kp where
  l : List Addr
  T : List (Addr × Str)
/-- an exception object of the class cls, caught -/
def ExH (cls : Value) (a : Addr) : HO := .ext fun h => ∃ (oe : Obj) (vs : Array Value), h.get? a = some oe ∧ Zc cls none oe ∧ oe.data = .fields vs
/-- a result: an argument, or a list of one's own -/
inductive W where
  | a (x : A) | own (ws : List W)
/-- the cells' contents -/
abbrev Cs := List (List D)
def RepA (K : PySem.W.Frag) (κ : Kp) (F : Hp) (v : V) : A → Prop
  | .d x => Rep K F v x
  | .c k => ∃ a, κ.l[k]? = some a ∧ v = .ref a
  | .s ns => ∃ a, v = .ref a ∧ SqL K F a (ns.map V.int)
  | .e C => ∃ a, v = .ref a ∧ F a = some (ExH (.ref C) a)
theorem RepA.up {K : PySem.W.Frag} {κ : Kp} {F F' : Hp} (e : Same F F') {v : V} : ∀ {x : A}, RepA K κ F v x → RepA K κ F' v x
  | .d x, h => Rep.up e x v h
  | .c _, h => h
  | .s _, ⟨a, e1, h⟩ => ⟨a, e1, e.seq h⟩
  | .e _, ⟨a, e1, h⟩ => ⟨a, e1, e _ _ h⟩
inductive RepAs (K : PySem.W.Frag) (κ : Kp) (F : Hp) : List V → List A → Prop
  | nil : RepAs K κ F [] []
  | cons {v : V} {vs : List V} {x : A} {xs : List A} : RepA K κ F v x → RepAs K κ F vs xs → RepAs K κ F (v :: vs) (x :: xs)
theorem RepAs.up {K : PySem.W.Frag} {κ : Kp} {F F' : Hp} (e : Same F F') : ∀ {vs : List V} {xs : List A}, RepAs K κ F vs xs → RepAs K κ F' vs xs
  | _, _, .nil => .nil
  | _, _, .cons h t => .cons (h.up e) (RepAs.up e t)
theorem RepAs.len {K : PySem.W.Frag} {κ : Kp} {F : Hp} : ∀ {vs : List V} {xs : List A}, RepAs K κ F vs xs → vs.length = xs.length
  | _, _, .nil => rfl
  | _, _, .cons _ t => congrArg (· + 1) (RepAs.len t)

mutual
def RepW (K : PySem.W.Frag) (κ : Kp) (F H : Hp) : W → V → List Addr → Prop
  | .a x, v, L => L = [] ∧ RepA K κ F v x
  | .own ws, v, L => ∃ a vs L', v = .ref a ∧ H a = some (.lst vs) ∧ L = a :: L' ∧ RepWs K κ F H ws vs L'
def RepWs (K : PySem.W.Frag) (κ : Kp) (F H : Hp) : List W → List V → List Addr → Prop
  | [], vs, L => vs = [] ∧ L = []
  | w :: ws, vs, L => ∃ v r L1 L2, vs = v :: r ∧ L = L1 ++ L2 ∧ RepW K κ F H w v L1 ∧ RepWs K κ F H ws r L2
end
mutual
theorem RepW.up {K : PySem.W.Frag} {κ : Kp} {F F' H H' : Hp} (e : Same F F') : ∀ (w : W) (v : V) (L : List Addr), (∀ a ∈ L, ∀ o, H a = some o → H' a = some o) → RepW K κ F H w v L → RepW K κ F' H' w v L
  | .a x, v, L, _, h => ⟨h.1, h.2.up e⟩
  | .own ws, v, L, k, h => by
    obtain ⟨a, vs, L', e1, e2, e3, h⟩ := h
    subst e3
    exact ⟨a, vs, L', e1, k a List.mem_cons_self _ e2, rfl, RepWs.up e ws vs L' (fun b hb => k b (List.mem_cons_of_mem _ hb)) h⟩
theorem RepWs.up {K : PySem.W.Frag} {κ : Kp} {F F' H H' : Hp} (e : Same F F') : ∀ (ws : List W) (vs : List V) (L : List Addr), (∀ a ∈ L, ∀ o, H a = some o → H' a = some o) → RepWs K κ F H ws vs L → RepWs K κ F' H' ws vs L
  | [], _, _, _, h => h
  | w :: ws, _, L, k, h => by
    obtain ⟨v, r, L1, L2, e1, e2, h1, h2⟩ := h
    subst e2
    exact ⟨v, r, L1, L2, e1, rfl, RepW.up e w v L1 (fun b hb => k b (List.mem_append_left _ hb)) h1, RepWs.up e ws r L2 (fun b hb => k b (List.mem_append_right _ hb)) h2⟩
end
theorem RepWs.len {K : PySem.W.Frag} {κ : Kp} {F H : Hp} : ∀ {ws : List W} {vs : List V} {L : List Addr}, RepWs K κ F H ws vs L → vs.length = ws.length
  | [], _, _, h => by rw [h.1]; rfl
  | _ :: _, _, _, h => by
    obtain ⟨v, r, L1, L2, rfl, _, _, h2⟩ := h
    exact congrArg (· + 1) (RepWs.len h2)
theorem RepWs.app {K : PySem.W.Frag} {κ : Kp} {F H : Hp} : ∀ {ws us : List W} {vs rs : List V} {L M : List Addr}, RepWs K κ F H ws vs L → RepWs K κ F H us rs M → RepWs K κ F H (ws ++ us) (vs ++ rs) (L ++ M)
  | [], _, _, _, _, _, h, h' => by
    rw [h.1, h.2]; exact h'
  | w :: ws, us, _, rs, _, M, h, h' => by
    obtain ⟨v, r, L1, L2, rfl, rfl, h1, h2⟩ := h
    exact ⟨v, r ++ rs, L1, L2 ++ M, rfl, by rw [List.append_assoc], h1, RepWs.app h2 h'⟩

mutual
/-- data of a result -/
def W.toD : W → Option D
  | .a (.d x) => some x
  | .a (.c _) => none
  | .a (.s _) => none
  | .a (.e _) => none
  | .own ws => (W.toDs ws).map .list
def W.toDs : List W → Option (List D)
  | [] => some []
  | w :: ws => match w.toD, W.toDs ws with
    | some d, some ds => some (d :: ds)
    | _, _ => none
end
def W.toA : W → Option A
  | .a x => some x
  | .own ws => (W.toDs ws).map fun ds => .d (.list ds)

/-- nothing is tracked at a, but a table of code objects perhaps -/
def FrT (H : Hp) (a : Addr) : Prop := ∀ o, H a = some o → ∃ ps, o = .tbl ps
theorem frT_none {H : Hp} {a : Addr} (h : H a = none) : FrT H a := fun o e => by rw [h] at e; cases e
theorem FrT.no {H : Hp} {a : Addr} {us : List V} (f : FrT H a) (e : H a = some (.lst us)) : False := by
  obtain ⟨ps, z⟩ := f _ e
  cases z
theorem not_frT {H : Hp} {a : Addr} {us : List V} (e : H a = some (.lst us)) : ¬ FrT H a := fun f => f.no e
theorem frT_upd {H : Hp} {p a : Addr} {o : HO} (hp : H p = none) (h : ¬ FrT H a) : ¬ FrT (upd H p o) a := fun f => by
  by_cases hb : a = p
  · subst hb; exact h (frT_none hp)
  · exact h fun u e => f u (by rw [upd_ne hb]; exact e)
theorem frT_wr {H : Hp} {p a : Addr} {vs : List V} (h : ¬ FrT H a) : ¬ FrT (upd H p (.lst vs)) a := fun f => by
  by_cases hb : a = p
  · subst hb; exact f.no upd_same
  · exact h fun u e => f u (by rw [upd_ne hb]; exact e)
/-- no table of code objects is frozen -/
def NoT (F : Hp) : Prop := ∀ b ps, F b ≠ some (.tbl ps)
/-- what of the heap stands behind a step: F what is frozen, H what is tracked -/
structure Nxt (κ : Kp) (F H F' H' : Hp) : Prop where
  ff : Same F F'
  fh : Same F' H'
  kp : ∀ a o, H a = some o → a ∉ κ.l → (∀ ps, o ≠ .tbl ps) → H' a = some o
  dm : ∀ a, ¬ FrT H a → ¬ FrT H' a
  tb : LamX.Tabs κ.T H → LamX.Tabs κ.T H'
  fn : ∀ a, F' a ≠ none → F a ≠ none ∨ FrT H a
  nt : NoT F → NoT F'
theorem Nxt.refl {κ : Kp} {F H : Hp} (h : Same F H) : Nxt κ F H F H := ⟨Same.refl _, h, fun _ _ e _ _ => e, fun _ h => h, fun h => h, fun _ h => .inl h, fun h => h⟩
theorem Nxt.trans {κ : Kp} {F H F1 H1 F2 H2 : Hp} (x : Nxt κ F H F1 H1) (y : Nxt κ F1 H1 F2 H2) : Nxt κ F H F2 H2 :=
  ⟨x.ff.trans y.ff, y.fh, fun a o e n t => y.kp a o (x.kp a o e n t) n t, fun a h => y.dm a (x.dm a h), fun h => y.tb (x.tb h), fun a h => by
    rcases y.fn a h with h | h
    · exact x.fn a h
    · exact .inr (Classical.byContradiction fun z => x.dm a z h), fun h => y.nt (x.nt h)⟩
theorem Nxt.back {κ : Kp} {F H F' H' : Hp} (x : Nxt κ F H F' H') {a : Addr} (h : FrT H' a) : FrT H a := Classical.byContradiction fun z => x.dm a z h



/-- the law's own table of code objects -/
def tabsK (K : PySem.W.Frag) : List (Addr × Str) := match PySem.W.tabIn K "law" with
  | some (_, P) => [(P, (("law" : Str) ++ ".<locals>.") ++ "<lambda>")]
  | none => []
/-- the cells -/
structure Cel (K : PySem.W.Frag) (κ : Kp) (F H : Hp) (S : Cs) : Prop where
  len : κ.l.length = S.length
  nd : κ.l.Nodup
  cl : ∀ (k : Nat) (a : Addr) (ds : List D), κ.l[k]? = some a → S[k]? = some ds → ∃ vs, H a = some (.lst vs) ∧ RepAll K F vs ds
  fz : ∀ a ∈ κ.l, F a = none
  tb : κ.T = tabsK K ∧ LamX.Tabs κ.T H
  nt : NoT F
theorem Cel.there {K : PySem.W.Frag} {κ : Kp} {F H : Hp} {S : Cs} (c : Cel K κ F H S) : ∀ a ∈ κ.l, ∃ vs, H a = some (.lst vs) := fun a ha => by
  obtain ⟨k, hk, e⟩ := List.mem_iff_getElem.mp ha
  have hl : k < S.length := by rw [← c.len]; exact hk
  obtain ⟨vs, h, _⟩ := c.cl k a S[k] (by rw [List.getElem?_eq_getElem hk, e]) (List.getElem?_eq_getElem hl)
  exact ⟨vs, h⟩

/-- a new object o at p: frozen -/
theorem tabs_upd {H : Hp} {p : Addr} {o : HO} (h : H p = none) (T : List (Addr × Str)) (t : LamX.Tabs T H) : LamX.Tabs T (upd H p o) := t.ext fun b u e => by
  rw [upd_ne (ne_of_none e h)]; exact e
theorem Nxt.newF {κ : Kp} {F H : Hp} {p : Addr} {o : HO} (fh : Same F H) (h : H p = none) (ho : ∀ ps, o ≠ .tbl ps := by intro _ z; cases z) : Nxt κ F H (upd F p o) (upd H p o) := by
  have hF : F p = none := fh.free h
  refine ⟨fun b u e => ?_, fun b u e => ?_, fun b u e _ _ => ?_, fun b e => ?_, tabs_upd h _, fun b e => ?_, fun n b ps e => ?_⟩
  · rw [upd_ne (ne_of_none e hF)]; exact e
  · by_cases hb : b = p
    · subst hb; rw [upd_same] at e ⊢; exact e
    · rw [upd_ne hb] at e ⊢; exact fh b u e
  · rw [upd_ne (ne_of_none e h)]; exact e
  · exact frT_upd h e
  · by_cases hb : b = p
    · subst hb; exact .inr (frT_none h)
    · rw [upd_ne hb] at e; exact .inl e
  · by_cases hb : b = p
    · subst hb; rw [upd_same] at e; exact ho ps (Option.some.inj e)
    · rw [upd_ne hb] at e; exact n b ps e
/-- .. one's own -/
theorem Nxt.newH {κ : Kp} {F H : Hp} {p : Addr} {o : HO} (fh : Same F H) (h : H p = none) : Nxt κ F H F (upd H p o) := by
  refine ⟨Same.refl _, fun b u e => ?_, fun b u e _ _ => ?_, fun b e => ?_, tabs_upd h _, fun b e => .inl e, fun n => n⟩
  · rw [upd_ne (ne_of_none (fh b u e) h)]; exact fh b u e
  · rw [upd_ne (ne_of_none e h)]; exact e
  · exact frT_upd h e
theorem Cel.up {K : PySem.W.Frag} {κ : Kp} {F H F' H' : Hp} {S : Cs} (c : Cel K κ F H S) (n : Nxt κ F H F' H') (hk : ∀ a ∈ κ.l, H' a = H a) : Cel K κ F' H' S := by
  refine ⟨c.len, c.nd, fun k a ds e1 e2 => ?_, fun a ha => ?_, ⟨c.tb.1, n.tb c.tb.2⟩, n.nt c.nt⟩
  · obtain ⟨vs, h1, h2⟩ := c.cl k a ds e1 e2
    exact ⟨vs, by rw [hk a (List.mem_of_getElem? e1)]; exact h1, RepAll.up n.ff ds vs h2⟩
  · cases q : F' a with
    | none => rfl
    | some o =>
      rcases n.fn a (by rw [q]; simp) with h | h
      · exact absurd (c.fz a ha) h
      · obtain ⟨vs, e⟩ := c.there a ha
        exact (h.no e).elim
theorem Cel.newF {K : PySem.W.Frag} {κ : Kp} {F H : Hp} {S : Cs} {p : Addr} {o : HO} (c : Cel K κ F H S) (fh : Same F H) (h : H p = none) (ho : ∀ ps, o ≠ .tbl ps := by intro _ z; cases z) : Cel K κ (upd F p o) (upd H p o) S :=
  c.up (Nxt.newF fh h ho) fun a ha => by
    obtain ⟨vs, e⟩ := c.there a ha
    rw [upd_ne (ne_of_none e h)]
theorem Cel.newH {K : PySem.W.Frag} {κ : Kp} {F H : Hp} {S : Cs} {p : Addr} {o : HO} (c : Cel K κ F H S) (fh : Same F H) (h : H p = none) : Cel K κ F (upd H p o) S :=
  c.up (Nxt.newH fh h) fun a ha => by
    obtain ⟨vs, e⟩ := c.there a ha
    rw [upd_ne (ne_of_none e h)]
/-- the frozen part grows by what stands in H -/
def mix (F H : Hp) (L : List Addr) : Hp := fun b => if b ∈ L then H b else F b
theorem mix_in {F H : Hp} {L : List Addr} {b : Addr} (h : b ∈ L) : mix F H L b = H b := if_pos h
theorem mix_out {F H : Hp} {L : List Addr} {b : Addr} (h : b ∉ L) : mix F H L b = F b := if_neg h
theorem mix_ff {F H : Hp} {L : List Addr} (fh : Same F H) : Same F (mix F H L) := fun b o e => by
  by_cases hb : b ∈ L
  · rw [mix_in hb]; exact fh b o e
  · rw [mix_out hb]; exact e
theorem mix_fh {F H : Hp} {L : List Addr} (fh : Same F H) : Same (mix F H L) H := fun b o e => by
  by_cases hb : b ∈ L
  · rw [mix_in hb] at e; exact e
  · rw [mix_out hb] at e; exact fh b o e
mutual
theorem RepW.frz {K : PySem.W.Frag} {κ : Kp} {F H F' : Hp} (e : Same F F') : ∀ (w : W) (v : V) (L : List Addr) (d : D), w.toD = some d → (∀ a ∈ L, F' a = H a) → RepW K κ F H w v L → Rep K F' v d
  | .a (.d x), v, L, d, h, _, r => by
    cases (show some x = some d from h)
    exact Rep.up e x v r.2
  | .a (.c _), _, _, d, h, _, _ => by cases (show (none : Option D) = some d from h)
  | .a (.s _), _, _, d, h, _, _ => by cases (show (none : Option D) = some d from h)
  | .a (.e _), _, _, d, h, _, _ => by cases (show (none : Option D) = some d from h)
  | .own ws, v, L, d, h, k, r => by
    obtain ⟨a, vs, L', e1, e2, e3, r⟩ := r
    subst e1 e3
    have h' : (W.toDs ws).map PyData.list = some d := by simpa [W.toD] using h
    cases q : W.toDs ws with
    | none => rw [q] at h'; cases h'
    | some ds =>
      rw [q] at h'
      cases h'
      exact .lst ((k a List.mem_cons_self).trans e2) (RepWs.frz e ws vs L' ds q (fun b hb => k b (List.mem_cons_of_mem _ hb)) r)
theorem RepWs.frz {K : PySem.W.Frag} {κ : Kp} {F H F' : Hp} (e : Same F F') : ∀ (ws : List W) (vs : List V) (L : List Addr) (ds : List D), W.toDs ws = some ds → (∀ a ∈ L, F' a = H a) → RepWs K κ F H ws vs L → RepAll K F' vs ds
  | [], _, _, ds, h, _, r => by
    rw [r.1]
    cases (show some [] = some ds by simpa [W.toDs] using h)
    exact .nil
  | w :: ws, _, _, ds, h, k, r => by
    obtain ⟨v, r', L1, L2, e1, e2, h1, h2⟩ := r
    subst e1 e2
    cases q1 : w.toD with
    | none => simp [W.toDs, q1] at h
    | some d =>
      cases q2 : W.toDs ws with
      | none => simp [W.toDs, q1, q2] at h
      | some ds' =>
        simp [W.toDs, q1, q2] at h
        subst h
        exact .cons (RepW.frz e w v L1 d q1 (fun b hb => k b (List.mem_append_left _ hb)) h1) (RepWs.frz e ws r' L2 ds' q2 (fun b hb => k b (List.mem_append_right _ hb)) h2)
end
mutual
theorem RepW.there {K : PySem.W.Frag} {κ : Kp} {F H : Hp} : ∀ (w : W) (v : V) (L : List Addr), RepW K κ F H w v L → ∀ a ∈ L, ∃ vs, H a = some (.lst vs)
  | .a x, v, L, h => fun a ha => by rw [h.1] at ha; exact absurd ha (by simp)
  | .own ws, v, L, h => by
    obtain ⟨b, us, L', e1, e2, e3, h⟩ := h
    subst e3
    intro a ha
    rcases List.mem_cons.mp ha with rfl | ha
    · exact ⟨us, e2⟩
    · exact RepWs.there ws us L' h a ha
theorem RepWs.there {K : PySem.W.Frag} {κ : Kp} {F H : Hp} : ∀ (ws : List W) (vs : List V) (L : List Addr), RepWs K κ F H ws vs L → ∀ a ∈ L, ∃ vs, H a = some (.lst vs)
  | [], _, L, h => fun a ha => by rw [h.2] at ha; exact absurd ha (by simp)
  | w :: ws, vs, L, h => by
    obtain ⟨v, r, L1, L2, e1, e2, h1, h2⟩ := h
    subst e2
    intro a ha
    rcases List.mem_append.mp ha with ha | ha
    · exact RepW.there w v L1 h1 a ha
    · exact RepWs.there ws r L2 h2 a ha
end
/-- what is one's own and fresh is frozen -/
theorem frz_mix {K : PySem.W.Frag} {κ : Kp} {F H F1 H1 : Hp} {S : Cs} {w : W} {v : V} {L : List Addr} {x : A} (n : Nxt κ F H F1 H1) (c : Cel K κ F1 H1 S) (ck : ∀ a ∈ κ.l, ¬ FrT H a) (r : RepW K κ F1 H1 w v L) (nw : ∀ p ∈ L, FrT H p ∧ F1 p = none) (e : w.toA = some x) :
    ∃ F2, Nxt κ F H F2 H1 ∧ Cel K κ F2 H1 S ∧ RepA K κ F2 v x := by
  cases w with
  | a y =>
    cases (show some y = some x from e)
    exact ⟨F1, n, c, r.2⟩
  | own ws =>
    have e' : (W.toDs ws).map (fun ds => A.d (.list ds)) = some x := e
    cases q : W.toDs ws with
    | none => rw [q] at e'; cases e'
    | some ds =>
      rw [q] at e'
      cases e'
      have mixT : NoT F1 → NoT (mix F1 H1 L) := fun h b ps e => by
        by_cases hb : b ∈ L
        · rw [mix_in hb] at e
          obtain ⟨us, e2⟩ := RepW.there (.own ws) v L r b hb
          rw [e2] at e; cases e
        · rw [mix_out hb] at e; exact h b ps e
      have hn : Nxt κ F H (mix F1 H1 L) H1 := ⟨n.ff.trans (mix_ff n.fh), mix_fh n.fh, n.kp, n.dm, n.tb, fun a h => by
        by_cases ha : a ∈ L
        · exact .inr (nw a ha).1
        · rw [mix_out ha] at h; exact n.fn a h, fun h => mixT (n.nt h)⟩
      refine ⟨mix F1 H1 L, hn, ⟨c.len, c.nd, fun k a ds e1 e2 => ?_, fun a ha => ?_, c.tb, mixT c.nt⟩, RepW.frz (mix_ff n.fh) (.own ws) v L (.list ds) (by simp [W.toD, q]) (fun a ha => mix_in ha) r⟩
      · obtain ⟨vs, h1, h2⟩ := c.cl k a ds e1 e2
        exact ⟨vs, h1, RepAll.up (mix_ff n.fh) ds vs h2⟩
      · by_cases hl : a ∈ L
        · exact absurd (nw a hl).1 (ck a ha)
        · rw [mix_out hl]; exact c.fz a ha
theorem Nxt.own {κ : Kp} {F H F' H' : Hp} (n : Nxt κ F H F' H') {L : List Addr} (t : ∀ a ∈ L, ∃ vs, H a = some (.lst vs)) (f : ∀ a ∈ L, F a = none) (k : ∀ a ∈ L, a ∉ κ.l) : (∀ a ∈ L, ∀ o, H a = some o → H' a = some o) ∧ ∀ a ∈ L, F' a = none := by
  refine ⟨fun a ha o e => ?_, fun a ha => ?_⟩
  · obtain ⟨us, hu⟩ := t a ha
    rw [hu] at e
    cases e
    exact n.kp a _ hu (k a ha) (fun ps z => by cases z)
  · cases q : F' a with
    | none => rfl
    | some o =>
      rcases n.fn a (by rw [q]; simp) with h | h
      · exact absurd (f a ha) h
      · obtain ⟨us, hu⟩ := t a ha
        exact (h.no hu).elim
end PD

/-! PDB: what an expression is worth, as a function on data. -/
namespace PD
open PySem PySem.Spec PyProof.Rows L2

/-- what a reckoning comes to -/
inductive R where
  | ok (w : W) (S : Cs) | exc (n : Str) (S : Cs) | stuck
def R.bnd (r : R) (k : A → Cs → R) : R := match r with
  | .ok w S => match w.toA with
    | some x => k x S
    | none => .stuck
  | .exc n S => .exc n S
  | .stuck => .stuck
abbrev En := List (Option A)
abbrev Fe := En → Cs → R

def RelE (K : PySem.W.Frag) (κ : Kp) (F : Hp) (ρ : En) (σ : L2.St) : Prop := ∀ (i : Nat) (x : A), ρ[i]? = some (some x) → ∃ v, σ[i]? = some (some v) ∧ RepA K κ F v x
structure At (K : PySem.W.Frag) (κ : Kp) (F : Hp) (ρ : En) (S : Cs) (σ : L2.St) (H : Hp) : Prop where
  rel : RelE K κ F ρ σ
  fh : Same F H
  cel : Cel K κ F H S
  ln : ρ.length ≤ σ.length
theorem RelE.up {K : PySem.W.Frag} {κ : Kp} {F F' : Hp} {ρ : En} {σ : L2.St} (r : RelE K κ F ρ σ) (e : Same F F') : RelE K κ F' ρ σ := fun i x h => by
  obtain ⟨v, h1, h2⟩ := r i x h
  exact ⟨v, h1, h2.up e⟩
theorem At.hk {K : PySem.W.Frag} {κ : Kp} {F H : Hp} {ρ : En} {S : Cs} {σ : L2.St} (a : At K κ F ρ S σ H) : ∀ b ∈ κ.l, ¬ FrT H b := fun b hb => by
  obtain ⟨vs, e⟩ := a.cel.there b hb
  exact not_frT e
def Post (K : PySem.W.Frag) (mg : Str → Option Value) (Z : WX) (κ : Kp) (F H : Hp) (σ : L2.St) (r : R) (Q : VK) : Prop := match r with
  | .ok w S' => ∀ v H' F' L, Nxt κ F H F' H' → Cel K κ F' H' S' → RepW K κ F' H' w v L → L.Nodup → (∀ p ∈ L, FrT H p ∧ F' p = none) → Q v H'
  | .exc n S' => ∀ C H' F', mg n = some (.ref C) → Nxt κ F H F' H' → Cel K κ F' H' S' → Z (.ref C) none σ H'
  | .stuck => False
def tv (K : PySem.W.Frag) (mg : Str → Option Value) (Z : WX) (f : Fe) : TE := fun σ H Q => ∃ κ F ρ S, At K κ F ρ S σ H ∧ Post K mg Z κ F H σ (f ρ S) Q

section
variable {K : PySem.W.Frag} {mg : Str → Option Value} {Z : WX} {κ : Kp} {F H F1 H1 : Hp} {σ : L2.St} {ρ : En} {S : Cs} {Q : VK} {v : V} {x : A}
theorem Post.up {r : R} (h : Post K mg Z κ F H σ r Q) (n : Nxt κ F H F1 H1) : Post K mg Z κ F1 H1 σ r Q := by
  cases r with
  | ok w S' => exact fun v H' F' L a b c d e => h v H' F' L (n.trans a) b c d fun p hp => ⟨n.back (e p hp).1, (e p hp).2⟩
  | exc m S' => exact fun C H' F' g a b => h C H' F' g (n.trans a) b
  | stuck => exact h
theorem Post.mono {r : R} {Q' : VK} (h : Post K mg Z κ F H σ r Q) (k : ∀ v H, Q v H → Q' v H) : Post K mg Z κ F H σ r Q' := by
  cases r with
  | ok w S' => exact fun v H' F' L a b c d e => k _ _ (h v H' F' L a b c d e)
  | exc m S' => exact h
  | stuck => exact h
theorem Post.a (h : Post K mg Z κ F H σ (.ok (.a x) S) Q) (t : At K κ F ρ S σ H) (r : RepA K κ F v x) : Q v H :=
  h v H F [] (.refl t.fh) t.cel ⟨rfl, r⟩ .nil fun _ hp => absurd hp (by simp)
theorem Post.tup {vs : List V} {ds : List D} {p : Addr} (h : Post K mg Z κ F H σ (.ok (.a (.d (.tuple ds))) S) Q) (t : At K κ F ρ S σ H) (r : RepAll K F vs ds) (hp : H p = none) : Q (.ref p) (upd H p (.tup vs)) := by
  have n : Nxt κ F H (upd F p (.tup vs)) (upd H p (.tup vs)) := Nxt.newF t.fh hp
  exact h (.ref p) _ _ [] n (t.cel.newF t.fh hp) ⟨rfl, Rep.tup (.of upd_same) (RepAll.up n.ff _ _ r)⟩ .nil fun _ hp => absurd hp (by simp)
theorem RepAll.ws {F' H' : Hp} (e : Same F F') : ∀ {vs : List V} {ds : List D}, RepAll K F vs ds → RepWs K κ F' H' (ds.map fun d => .a (.d d)) vs []
  | _, _, .nil => ⟨rfl, rfl⟩
  | v :: vs, d :: ds, .cons h t => ⟨v, vs, [], [], rfl, rfl, ⟨rfl, Rep.up e d v h⟩, RepAll.ws e t⟩
/-- a list of data, as one's own -/
def ownD (ds : List D) : W := .own (ds.map fun d => .a (.d d))
theorem Post.lst {vs : List V} {ds : List D} {p : Addr} (h : Post K mg Z κ F H σ (.ok (ownD ds) S) Q) (t : At K κ F ρ S σ H) (r : RepAll K F vs ds) (hp : H p = none) : Q (.ref p) (upd H p (.lst vs)) := by
  have n : Nxt κ F H F (upd H p (.lst vs)) := Nxt.newH t.fh hp
  refine h (.ref p) _ F [p] n (t.cel.newH t.fh hp) ⟨p, vs, [], rfl, upd_same, rfl, RepAll.ws n.ff r⟩ (by simp) fun q hq => ?_
  have e : q = p := by simpa using hq
  subst e
  exact ⟨frT_none hp, t.fh.free hp⟩
theorem At.nxt (t : At K κ F ρ S σ H) {S1 : Cs} (n : Nxt κ F H F1 H1) (c : Cel K κ F1 H1 S1) : At K κ F1 ρ S1 σ H1 := ⟨t.rel.up n.ff, n.fh, c, t.ln⟩

theorem tv_bind {fa : Fe} {k : En → A → Cs → R} (h : tv K mg Z (fun ρ S => (fa ρ S).bnd (k ρ)) σ H Q) :
    tv K mg Z fa σ H (fun v H1 => ∃ κ F ρ S x, At K κ F ρ S σ H1 ∧ RepA K κ F v x ∧ Post K mg Z κ F H1 σ (k ρ x S) Q) := by
  obtain ⟨κ, F, ρ, S, t, p⟩ := h
  refine ⟨κ, F, ρ, S, t, ?_⟩
  dsimp only at p
  cases q : fa ρ S with
  | stuck => rw [q] at p; exact p
  | exc m S1 => rw [q] at p; exact p
  | ok w S1 =>
    rw [q] at p
    intro v H1 F1 L n c r nd nw
    cases e : w.toA with
    | none => simp only [R.bnd, e] at p; exact p.elim
    | some x =>
      simp only [R.bnd, e] at p
      obtain ⟨F2, n2, c2, r2⟩ := frz_mix n c t.hk r nw e
      exact ⟨κ, F2, ρ, S1, x, t.nxt n2 c2, r2, p.up n2⟩
/-- the same from a state -/
theorem at_tv {f : Fe} (t : At K κ F ρ S σ H) (p : Post K mg Z κ F H σ (f ρ S) Q) : tv K mg Z f σ H Q := ⟨κ, F, ρ, S, t, p⟩
theorem at_bind {fa : Fe} {k : A → Cs → R} (t : At K κ F ρ S σ H) (p : Post K mg Z κ F H σ ((fa ρ S).bnd k) Q) (g : ∀ v H1 F1 S1 x, Nxt κ F H F1 H1 → At K κ F1 ρ S1 σ H1 → RepA K κ F1 v x → Post K mg Z κ F1 H1 σ (k x S1) Q → Q' v H1) :
    tv K mg Z fa σ H Q' := by
  refine ⟨κ, F, ρ, S, t, ?_⟩
  cases q : fa ρ S with
  | stuck => rw [q] at p; exact p
  | exc m S1 => rw [q] at p; exact p
  | ok w S1 =>
    rw [q] at p
    intro v H1 F1 L n c r nd nw
    cases e : w.toA with
    | none => simp only [R.bnd, e] at p; exact p.elim
    | some x =>
      simp only [R.bnd, e] at p
      obtain ⟨F2, n2, c2, r2⟩ := frz_mix n c t.hk r nw e
      exact g v H1 F2 S1 x n2 (t.nxt n2 c2) r2 (p.up n2)

/-- arguments, from the left -/
def evs : List Fe → En → Cs → (List A → Cs → R) → R
  | [], _, S, k => k [] S
  | f :: fs, ρ, S, k => (f ρ S).bnd fun x S1 => evs fs ρ S1 fun xs S2 => k (x :: xs) S2
def tvs (K : PySem.W.Frag) (mg : Str → Option Value) (Z : WX) : List Fe → TA
  | [] => tNil
  | f :: fs => tCons (tv K mg Z f) (tvs K mg Z fs)
theorem at_evs : ∀ {fs : List Fe} {F H : Hp} {S : Cs} {k : List A → Cs → R} {Q' : List V → Hp → Prop}, At K κ F ρ S σ H → Post K mg Z κ F H σ (evs fs ρ S k) Q →
    (∀ vs H1 F1 S1 xs, Nxt κ F H F1 H1 → At K κ F1 ρ S1 σ H1 → RepAs K κ F1 vs xs → Post K mg Z κ F1 H1 σ (k xs S1) Q → Q' vs H1) → tvs K mg Z fs σ H Q'
  | [], F, H, S, k, Q', t, p, g => g [] H F S [] (.refl t.fh) t .nil p
  | f :: fs, F, H, S, k, Q', t, p, g => by
    show tCons (tv K mg Z f) (tvs K mg Z fs) σ H Q'
    refine at_bind t p fun v H1 F1 S1 x n1 t1 r1 p1 => ?_
    refine at_evs t1 p1 fun vs H2 F2 S2 xs n2 t2 r2 p2 => ?_
    exact g (v :: vs) H2 F2 S2 (x :: xs) (n1.trans n2) t2 (.cons (r1.up n2.ff) r2) p2
end

/-- e is worth f -/
abbrev VE (X : Cx) (Z : WX) (e : Expr) (f : Fe) : Prop := PE X e (tv X.K X.mg Z f)
abbrev VA (X : Cx) (Z : WX) (es : List Expr) (fs : List Fe) : Prop := PA X es (tvs X.K X.mg Z fs)
theorem _root_.L2.PE.imp {X : Cx} {e : Expr} {t t' : TE} (h : PE X e t) (i : ∀ σ H Q, t' σ H Q → t σ H Q) : PE X e t' := ⟨fun pins s σ H Q I q => h.run pins s σ H Q I (i σ H Q q)⟩
theorem _root_.L2.PT.imp {X : Cx} {e : Expr} {t t' : TT} (h : PT X e t) (i : ∀ σ H Q, t' σ H Q → t σ H Q) : PT X e t' := ⟨fun pins s σ H Q I q => h.run pins s σ H Q I (i σ H Q q)⟩
theorem _root_.L2.PS.imp {X : Cx} {e : Stmt} {t t' : TS} (h : PS X e t) (i : ∀ D σ H, t' D σ H → t D σ H) : PS X e t' := ⟨fun pins s σ H D I q => h.run pins s σ H D I (i D σ H q)⟩
theorem _root_.L2.PSs.imp {X : Cx} {e : List Stmt} {t t' : TS} (h : PSs X e t) (i : ∀ D σ H, t' D σ H → t D σ H) : PSs X e t' := ⟨fun pins s σ H D I q => h.run pins s σ H D I (i D σ H q)⟩

section
variable {X : Cx} {Z : WX}
theorem va_nil : VA X Z [] [] := pa_nil
theorem va_cons {e : Expr} {es : List Expr} {f : Fe} {fs : List Fe} (h : VE X Z e f) (hs : VA X Z es fs) (he : starEach (e :: es) X.env = (false, eval e X.env) :: starEach es X.env := by rfl) : VA X Z (e :: es) (f :: fs) := pa_cons h hs he

/-! ### names, constants -/
def fVar (i : Nat) : Fe := fun ρ S => match ρ[i]? with
  | some (some x) => .ok (.a x) S
  | _ => .stuck
def fC (d : D) : Fe := fun _ S => .ok (.a (.d d)) S
theorem ve_var (i : Nat) {x : Str} {pos : Pos} (hN : X.N[i]? = some x := by rfl) (hv : Vis X.env.scope x := by first | exact Or.inl rfl | exact Or.inr (Or.inl rfl) | exact Or.inr (Or.inr rfl)) (hd : (x == ("__debug__" : Str)) = false := by decide)
    (hcd : (x == ("__classdict__" : Str)) = false := by decide) : VE X Z (.Name x pos) (fVar i) := (pe_var hN hv hd hcd).imp fun σ H Q h => by
  obtain ⟨κ, F, ρ, S, t, p⟩ := h
  unfold fVar at p
  cases q : ρ[i]? with
  | none => rw [q] at p; exact p.elim
  | some o =>
    cases o with
    | none => rw [q] at p; exact p.elim
    | some y =>
      rw [q] at p
      obtain ⟨v, h1, h2⟩ := t.rel i y q
      exact ⟨v, h1, p.a t h2⟩
theorem ve_c {e : Expr} {v : V} {d : D} (h : PE X e (tC v)) (r : ∀ K F, Rep K F v d) : VE X Z e (fC d) := h.imp fun σ H Q h => by
  obtain ⟨κ, F, ρ, S, t, p⟩ := h
  exact p.a t (show RepA X.K κ F v (.d d) from r X.K F)
theorem ve_int {i : Int} {j : Nat} {pos : Pos} : VE X Z (.Constant (.int i) j pos) (fC (.int i)) := ve_c pe_int fun _ _ => .int i
theorem ve_bl {b : Bool} {j : Nat} {pos : Pos} : VE X Z (.Constant (.bool b) j pos) (fC (.bool b)) := ve_c pe_bl fun _ _ => .bl b
theorem ve_non {j : Nat} {pos : Pos} : VE X Z (.Constant .none j pos) (fC .none) := ve_c pe_non fun _ _ => .non
theorem ve_str {x : Str} {j : Nat} {pos : Pos} : VE X Z (.Constant (.str x) j pos) (fC (.str x)) := ve_c pe_str fun _ _ => .str x

/-! ### two operands -/
def fBin (g : A → A → Cs → R) (fa fb : Fe) : Fe := fun ρ S => (fa ρ S).bnd fun x S1 => (fb ρ S1).bnd fun y S2 => g x y S2
/-- the rule r by values is met by g on data -/
def OpS (K : PySem.W.Frag) (mg : Str → Option Value) (Z : WX) (r : R2) (g : A → A → Cs → R) : Prop :=
  ∀ κ F ρ S σ H v u x y Q, At K κ F ρ S σ H → RepA K κ F v x → RepA K κ F u y → Post K mg Z κ F H σ (g x y S) Q → r v u H Q
theorem tOp_of {r : R2} {g : A → A → Cs → R} {fa fb : Fe} {K : PySem.W.Frag} {mg : Str → Option Value} (hg : OpS K mg Z r g) {σ : L2.St} {H : Hp} {Q : VK} (h : tv K mg Z (fBin g fa fb) σ H Q) : tOp r (tv K mg Z fa) (tv K mg Z fb) σ H Q := by
  obtain ⟨κ, F, ρ, S, t, p⟩ := h
  refine at_bind t p fun v H1 F1 S1 x n1 t1 r1 p1 => ?_
  refine at_bind t1 p1 fun u H2 F2 S2 y n2 t2 r2 p2 => ?_
  exact hg κ F2 ρ S2 σ H2 v u x y Q t2 (r1.up n2.ff) r2 p2
theorem ve_bin {op : Operator} {r : R2} {g : A → A → Cs → R} {a b : Expr} {fa fb : Fe} {pos : Pos} (ho : OpR X (binaryOp op) r) (hg : OpS X.K X.mg Z r g) (ha : VE X Z a fa) (hb : VE X Z b fb) : VE X Z (.BinOp a op b pos) (fBin g fa fb) :=
  (pe_op ho ha hb).imp fun σ H Q h => tOp_of hg h
theorem ve_cmp {op : CmpOp} {r : R2} {g : A → A → Cs → R} {a b : Expr} {fa fb : Fe} {pos : Pos} (ho : OpR X (compareOp op) r) (hg : OpS X.K X.mg Z r g) (ha : VE X Z a fa) (hb : VE X Z b fb) (hm : behindInMarks op b = false) : VE X Z (.Compare a [op] [b] pos) (fBin g fa fb) :=
  (pe_cmpR ho ha hb hm).imp fun σ H Q h => tOp_of hg h
theorem ve_ix {r : R2} {g : A → A → Cs → R} {a b : Expr} {fa fb : Fe} {pos : Pos} (ho : IxR X r) (hg : OpS X.K X.mg Z r g) (ha : VE X Z a fa) (hb : VE X Z b fb) (hs : PlainIx b) : VE X Z (.Subscript a b pos) (fBin g fa fb) :=
  (pe_ix ho ha hb hs).imp fun σ H Q h => tOp_of hg h
/-- an operation's meaning on data alone -/
def onD (g : D → D → Option W) : A → A → Cs → R := fun x y S => match x, y with
  | .d x, .d y => match g x y with
    | some w => .ok w S
    | none => .stuck
  | _, _ => .stuck
theorem OpS.onD {K : PySem.W.Frag} {mg : Str → Option Value} {r : R2} {g : D → D → Option W} (h : ∀ κ F ρ S σ H v u x y w Q, At K κ F ρ S σ H → Rep K F v x → Rep K F u y → g x y = some w → Post K mg Z κ F H σ (.ok w S) Q → r v u H Q) : OpS K mg Z r (onD g) := by
  intro κ F ρ S σ H v u x y Q t r1 r2 p
  cases x with
  | c k => exact p.elim
  | s k => exact p.elim
  | e k => exact p.elim
  | d x =>
    cases y with
    | c k => exact p.elim
    | s k => exact p.elim
    | e k => exact p.elim
    | d y =>
      unfold PD.onD at p
      cases q : g x y with
      | none => simp only [q] at p; exact p.elim
      | some w =>
        simp only [q] at p
        exact h κ F ρ S σ H v u x y w Q t r1 r2 q p
/-! ### one operand -/
def fUn (g : A → Cs → R) (fa : Fe) : Fe := fun ρ S => (fa ρ S).bnd g
def OpS1 (K : PySem.W.Frag) (mg : Str → Option Value) (Z : WX) (r : V → Hp → VK → Prop) (g : A → Cs → R) : Prop :=
  ∀ κ F ρ S σ H v x Q, At K κ F ρ S σ H → RepA K κ F v x → Post K mg Z κ F H σ (g x S) Q → r v H Q
theorem tUn_of {r : V → Hp → VK → Prop} {g : A → Cs → R} {fa : Fe} {K : PySem.W.Frag} {mg : Str → Option Value} (hg : OpS1 K mg Z r g) {σ : L2.St} {H : Hp} {Q : VK} (h : tv K mg Z (fUn g fa) σ H Q) : tv K mg Z fa σ H (fun v H1 => r v H1 Q) := by
  obtain ⟨κ, F, ρ, S, t, p⟩ := h
  refine at_bind t p fun v H1 F1 S1 x n1 t1 r1 p1 => ?_
  exact hg κ F1 ρ S1 σ H1 v x Q t1 r1 p1
def onD1 (g : D → Option W) : A → Cs → R := fun x S => match x with
  | .d x => match g x with
    | some w => .ok w S
    | none => .stuck
  | _ => .stuck
theorem OpS1.onD {K : PySem.W.Frag} {mg : Str → Option Value} {r : V → Hp → VK → Prop} {g : D → Option W} (h : ∀ κ F ρ S σ H v x w Q, At K κ F ρ S σ H → Rep K F v x → g x = some w → Post K mg Z κ F H σ (.ok w S) Q → r v H Q) : OpS1 K mg Z r (onD1 g) := by
  intro κ F ρ S σ H v x Q t r1 p
  cases x with
  | c k => exact p.elim
  | s k => exact p.elim
  | e k => exact p.elim
  | d x =>
    unfold onD1 at p
    cases q : g x with
    | none => simp only [q] at p; exact p.elim
    | some w =>
      simp only [q] at p
      exact h κ F ρ S σ H v x w Q t r1 q p
theorem ve_un {op : UnaryOp} {r : V → Hp → VK → Prop} {g : A → Cs → R} {a : Expr} {fa : Fe} {pos : Pos} (ho : UnR X (unaryOp op) r) (hg : OpS1 X.K X.mg Z r g) (ha : VE X Z a fa) : VE X Z (.UnaryOp op a pos) (fUn g fa) :=
  (pe_un ho ha).imp fun σ H Q h => tUn_of hg h
/-! ### calls of built-ins -/
def fCall (g : List A → Cs → R) (fs : List Fe) : Fe := fun ρ S => evs fs ρ S g
def OpSs (K : PySem.W.Frag) (mg : Str → Option Value) (Z : WX) (r : List V → Hp → VK → Prop) (g : List A → Cs → R) : Prop :=
  ∀ κ F ρ S σ H vs xs Q, At K κ F ρ S σ H → RepAs K κ F vs xs → Post K mg Z κ F H σ (g xs S) Q → r vs H Q
theorem tCB_of {r : List V → Hp → VK → Prop} {g : List A → Cs → R} {fs : List Fe} {K : PySem.W.Frag} {mg : Str → Option Value} (hg : OpSs K mg Z r g) {σ : L2.St} {H : Hp} {Q : VK} (h : tv K mg Z (fCall g fs) σ H Q) : tvs K mg Z fs σ H (fun vs H1 => r vs H1 Q) := by
  obtain ⟨κ, F, ρ, S, t, p⟩ := h
  refine at_evs t p fun vs H1 F1 S1 xs n1 t1 r1 p1 => ?_
  exact hg κ F1 ρ S1 σ H1 vs xs Q t1 r1 p1
theorem ve_callB {id : String} {r : List V → Hp → VK → Prop} {g : List A → Cs → R} {x : Str} {e : Expr} {es : List Expr} {fs : List Fe} {p pos : Pos} (hc : CallR X (.builtin id) r) (hg : OpSs X.K X.mg Z r g) (hx : Gl X x) (hm : X.mg x = none) (hv : bootBuiltins x = some (.builtin id)) (ha : VA X Z (e :: es) fs)
    (hn : x ≠ "__name__" := by decide) (hdb : (x == ("__debug__" : Str)) = false := by decide) (he : starEach (e :: es) X.env = (false, eval e X.env) :: starEach es X.env := by rfl) (hpl : (backTo pos (starEach es X.env)).any (·.1) = false := by rfl) :
    VE X Z (.Call (.Name x p) (e :: es) [] pos) (fCall g fs) := (pe_callB hc hx hm hv ha hn hdb he hpl).imp fun σ H Q h => tCB_of hg h
theorem ve_callTy {T : String} {r : List V → Hp → VK → Prop} {g : List A → Cs → R} {x : Str} {e : Expr} {es : List Expr} {fs : List Fe} {p pos : Pos} (hc : CallR X (.type T) r) (hg : OpSs X.K X.mg Z r g) (hx : Gl X x) (hm : X.mg x = none) (hv : bootBuiltins x = some (.type T)) (ha : VA X Z (e :: es) fs)
    (hn : x ≠ "__name__" := by decide) (hdb : (x == ("__debug__" : Str)) = false := by decide) (he : starEach (e :: es) X.env = (false, eval e X.env) :: starEach es X.env := by rfl) (hpl : (backTo pos (starEach es X.env)).any (·.1) = false := by rfl) :
    VE X Z (.Call (.Name x p) (e :: es) [] pos) (fCall g fs) := (pe_callTy hc hx hm hv ha hn hdb he hpl).imp fun σ H Q h => tCB_of hg h
end

/-! ### calls of defs -/
abbrev Sem_ := List A → Cs → R
/-- what a def promises: n arguments, worth sem -/
def spD (K : PySem.W.Frag) (mg : Str → Option Value) (n : Nat) (sem : Sem_) : Sp := fun vs H Q E => vs.length = n ∧ ∃ κ F S xs, Same F H ∧ Cel K κ F H S ∧ RepAs K κ F vs xs ∧ Post K mg (fun cls d _ H' => E cls d H') κ F H [] (sem xs S) Q
theorem Post.zx {K : PySem.W.Frag} {mg : Str → Option Value} {Z Z' : WX} {κ : Kp} {F H : Hp} {σ σ' : L2.St} {r : R} {Q : VK} (h : Post K mg Z κ F H σ r Q) (k : ∀ c d H', Z c d σ H' → Z' c d σ' H') : Post K mg Z' κ F H σ' r Q := by
  cases r with
  | ok w S' => exact h
  | exc m S' => exact fun C H' F' g a b => k _ _ _ (h C H' F' g a b)
  | stuck => exact h
section
variable {X : Cx} {Z : WX} {CX : CXT} {k : Nat} {f : Addr} {fd : FuncData} {ps : List Str} {x : Str} {e : Expr} {es : List Expr} {fs : List Fe} {p pos : Pos} {n : Nat} {sem : Sem_}
theorem ve_call (G : FnOk X.prog X.w X.K X.mg X.base (L2.CX X.prog X.w) k f fd ps (spD X.K X.mg n sem)) (hr : Room k X.A) (tk : Takes X Z) (hx : Gl X x) (hm : X.mg x = some (.ref f)) (hk : PySem.W.keepIn X.K (.ref f) = true) (hb : Binds X.K fd ps []) (ha : VA X Z (e :: es) fs) (hn : fs.length = n := by rfl)
    (hdb : (x == ("__debug__" : Str)) = false := by decide) (he : starEach (e :: es) X.env = (false, eval e X.env) :: starEach es X.env := by rfl) (hpl : (backTo pos (starEach es X.env)).any (·.1) = false := by rfl) :
    VE X Z (.Call (.Name x p) (e :: es) [] pos) (fCall sem fs) := by
  refine (pe_callS G hr hx hm hk hb (fun σ => passAt tk σ) ha hdb he hpl).imp fun σ H Q h => ?_
  obtain ⟨κ, F, ρ, S, t, q⟩ := h
  show tvs X.K X.mg Z fs σ H _
  have hl : ∀ {fs : List Fe} {F H : Hp} {S : Cs} {k : List A → Cs → R} {Q' : List V → Hp → Prop}, At X.K κ F ρ S σ H → Post X.K X.mg Z κ F H σ (evs fs ρ S k) Q →
    (∀ vs H1 F1 S1 xs, Nxt κ F H F1 H1 → At X.K κ F1 ρ S1 σ H1 → RepAs X.K κ F1 vs xs → xs.length = fs.length → Post X.K X.mg Z κ F1 H1 σ (k xs S1) Q → Q' vs H1) → tvs X.K X.mg Z fs σ H Q' := by
    intro fs
    induction fs with
    | nil => exact fun t p g => g [] _ _ _ [] (.refl t.fh) t .nil rfl p
    | cons f fs ih =>
      intro F H S k Q' t p g
      refine at_bind t p fun v H1 F1 S1 x n1 t1 r1 p1 => ?_
      refine ih t1 p1 fun vs H2 F2 S2 xs n2 t2 r2 l2 p2 => ?_
      exact g (v :: vs) H2 F2 S2 (x :: xs) (n1.trans n2) t2 (.cons (r1.up n2.ff) r2) (congrArg (· + 1) l2) p2
  refine hl t q fun vs H1 F1 S1 xs n1 t1 r1 l1 p1 => ?_
  exact ⟨r1.len.trans (l1.trans hn), κ, F1, S1, xs, t1.fh, t1.cel, r1, p1.zx fun c d H' z => z⟩
end
end PD

/-! PDC: operators, comparisons, truth, displays, subscripts, slices. -/
namespace PD
open PySem PySem.Spec PyProof.Rows L2

abbrev bD (b : Bool) : W := .a (.d (.bool b))
abbrev iD (i : Int) : W := .a (.d (.int i))
abbrev sD (x : Str) : W := .a (.d (.str x))
abbrev nD : W := .a (.d .none)

section
variable {K : PySem.W.Frag} {F H : Hp} {κ : Kp} {mg : Str → Option Value} {Z : WX} {ρ : En} {S : Cs} {σ : L2.St} {Q : VK} {v u : V}
theorem Rep.intv {i : Int} (r : Rep K F v (.int i)) : v = .int i := by cases r; rfl
theorem Rep.strv {i : Str} (r : Rep K F v (.str i)) : v = .str i := by cases r; rfl
theorem Rep.blv {i : Bool} (r : Rep K F v (.bool i)) : v = .bl i := by cases r; rfl
theorem Rep.nonv (r : Rep K F v .none) : v = .non := by cases r; rfl
theorem Rep.tupv {ds : List D} (r : Rep K F v (.tuple ds)) : ∃ a vs, v = .ref a ∧ SqT K F a vs ∧ RepAll K F vs ds := by cases r with | tup h t => exact ⟨_, _, rfl, h, t⟩
theorem Rep.lstv {ds : List D} (r : Rep K F v (.list ds)) : ∃ a vs, v = .ref a ∧ F a = some (.lst vs) ∧ RepAll K F vs ds := by cases r with | lst h t => exact ⟨_, _, rfl, h, t⟩
theorem Post.int {i : Int} (h : Post K mg Z κ F H σ (.ok (iD i) S) Q) (t : At K κ F ρ S σ H) : Q (.int i) H := h.a t (show RepA K κ F (.int i) (.d (.int i)) from Rep.int i)
theorem Post.str {x : Str} (h : Post K mg Z κ F H σ (.ok (sD x) S) Q) (t : At K κ F ρ S σ H) : Q (.str x) H := h.a t (show RepA K κ F (.str x) (.d (.str x)) from Rep.str x)
theorem Post.bl {b : Bool} (h : Post K mg Z κ F H σ (.ok (bD b) S) Q) (t : At K κ F ρ S σ H) : Q (.bl b) H := h.a t (show RepA K κ F (.bl b) (.d (.bool b)) from Rep.bl b)
theorem Post.non (h : Post K mg Z κ F H σ (.ok nD S) Q) (t : At K κ F ρ S σ H) : Q .non H := h.a t (show RepA K κ F .non (.d .none) from Rep.non)
end

/-! ### operators -/
def dAdd : D → D → Option W
  | .int i, .int j => some (iD (i + j))
  | .str x, .str y => if x.length + y.length ≤ sizeLine then some (sD (x ++ y)) else none
  | .list xs, .list ys => if xs.length + ys.length ≤ sizeLine then some (ownD (xs ++ ys)) else none
  | .tuple xs, .tuple ys => if xs.length + ys.length ≤ sizeLine then some (.a (.d (.tuple (xs ++ ys)))) else none
  | _, _ => none
section
variable {X : Cx} {Z : WX}
theorem orI {α : Type} {r r' : V → V → Hp → VK → Prop} : True := trivial
def rAddAll (K : PySem.W.Frag) : R2 := fun x y H Q => (((∃ i j, x = .int i ∧ y = .int j ∧ Q (.int (i + j)) H) ∨ (∃ i j, x = .str i ∧ y = .str j ∧ i.length + j.length ≤ sizeLine ∧ Q (.str (i ++ j)) H)) ∨ rCat x y H Q) ∨ rCatA K x y H Q
theorem opr_add : OpR X (binaryOp .Add) (rAddAll X.K) := ((op_add.or op_add_str).or op_cat).or op_catA
theorem ops_add : OpS X.K X.mg Z (rAddAll X.K) (onD dAdd) := OpS.onD fun κ F ρ S σ H v u x y w Q t r1 r2 e p => by
  cases x <;> cases y <;> (try (exact nomatch (show (none : Option W) = some w from e)))
  · cases e
    rw [r1.intv, r2.intv]
    exact .inl (.inl (.inl ⟨_, _, rfl, rfl, p.int t⟩))
  · simp only [dAdd] at e
    split at e
    · rename_i h
      cases e
      rw [r1.strv, r2.strv]
      exact .inl (.inl (.inr ⟨_, _, rfl, rfl, h, p.str t⟩))
    · cases e
  · simp only [dAdd] at e
    split at e
    · rename_i h
      cases e
      obtain ⟨a, vs, rfl, h1, q1⟩ := r1.lstv
      obtain ⟨b, us, rfl, h2, q2⟩ := r2.lstv
      refine .inl (.inr ⟨a, b, vs, us, rfl, rfl, t.fh _ _ h1, t.fh _ _ h2, by rw [q1.len, q2.len]; exact h, fun l hl => ?_⟩)
      exact p.lst t (q1.app q2) hl
    · cases e
  · simp only [dAdd] at e
    split at e
    · rename_i h
      cases e
      obtain ⟨a, vs, rfl, h1, q1⟩ := r1.tupv
      obtain ⟨b, us, rfl, h2, q2⟩ := r2.tupv
      refine .inr ⟨a, b, vs, us, rfl, rfl, Same.seqT t.fh h1, Same.seqT t.fh h2, by rw [q1.len, q2.len]; exact h, fun z => ?_, fun _ z => ?_, fun _ _ l hl => p.tup t (q1.app q2) hl⟩
      · subst z
        cases q1
        exact p.a t (show Rep X.K F _ _ from .tup h2 q2)
      · subst z
        cases q2
        rw [List.append_nil] at p
        exact p.a t (show Rep X.K F _ _ from .tup h1 q1)
    · cases e
theorem ve_add {a b : Expr} {fa fb : Fe} {pos : Pos} (ha : VE X Z a fa) (hb : VE X Z b fb) : VE X Z (.BinOp a .Add b pos) (fBin (onD dAdd) fa fb) := ve_bin opr_add ops_add ha hb

/-- an int operator -/
def dI (C : Int → Int → Bool) (g : Int → Int → Int) : D → D → Option W
  | .int i, .int j => if C i j = true then some (iD (g i j)) else none
  | _, _ => none
theorem ops_int {C : Int → Int → Bool} {g : Int → Int → Int} {C' : Int → Int → Prop} {K : PySem.W.Frag} {mg : Str → Option Value} (h : ∀ i j, C i j = true → C' i j) : OpS K mg Z (rI C' fun i j => .int (g i j)) (onD (dI C g)) := OpS.onD fun κ F ρ S σ H v u x y w Q t r1 r2 e p => by
  cases x <;> cases y <;> (try (exact nomatch (show (none : Option W) = some w from e)))
  simp only [dI] at e
  split at e
  · rename_i hc
    cases e
    rw [r1.intv, r2.intv]
    exact ⟨_, _, rfl, rfl, h _ _ hc, p.int t⟩
  · cases e
theorem ops_int0 {g : Int → Int → Int} {K : PySem.W.Frag} {mg : Str → Option Value} : OpS K mg Z (rI0 fun i j => .int (g i j)) (onD (dI (fun _ _ => true) g)) := OpS.onD fun κ F ρ S σ H v u x y w Q t r1 r2 e p => by
  cases x <;> cases y <;> (try (exact nomatch (show (none : Option W) = some w from e)))
  cases e
  rw [r1.intv, r2.intv]
  exact ⟨_, _, rfl, rfl, p.int t⟩
def dSub := dI (fun _ _ => true) fun i j => i - j
def dMod := dI (fun _ j => decide (0 < j)) fun i j => i % j
def dDiv := dI (fun _ j => decide (0 < j ∧ j < 1073741824)) fun i j => i / j
def dPow := dI (fun i j => decide (0 ≤ j ∧ j ≤ 1000000 ∧ i.natAbs < 2 ^ 64)) fun i j => i ^ j.toNat
def dShl := dI (fun i j => decide (0 ≤ j ∧ j ≤ 1000000 ∧ i.natAbs < 2 ^ 64)) fun i j => i * 2 ^ j.toNat
def dShr := dI (fun _ j => decide (0 ≤ j)) fun i j => i / 2 ^ j.toNat
def dBAnd := dI (fun _ _ => true) fun i j => Builtin.bitAnd i j
def dBOr := dI (fun _ _ => true) fun i j => Builtin.bitOr i j
def dBXor := dI (fun _ _ => true) fun i j => Builtin.bitXor i j
section
variable {a b : Expr} {fa fb : Fe} {pos : Pos}
theorem ve_sub (ha : VE X Z a fa) (hb : VE X Z b fb) : VE X Z (.BinOp a .Sub b pos) (fBin (onD dSub) fa fb) := ve_bin op_sub ops_int0 ha hb
theorem ve_mod (ha : VE X Z a fa) (hb : VE X Z b fb) : VE X Z (.BinOp a .Mod b pos) (fBin (onD dMod) fa fb) := ve_bin op_mod (ops_int fun _ _ h => by have q := of_decide_eq_true h; exact q) ha hb
theorem ve_div (ha : VE X Z a fa) (hb : VE X Z b fb) : VE X Z (.BinOp a .FloorDiv b pos) (fBin (onD dDiv) fa fb) := ve_bin op_fdiv (ops_int fun _ _ h => by have q := of_decide_eq_true h; exact q) ha hb
theorem ve_pow (ha : VE X Z a fa) (hb : VE X Z b fb) : VE X Z (.BinOp a .Pow b pos) (fBin (onD dPow) fa fb) := ve_bin op_pow (ops_int fun _ _ h => by have q := of_decide_eq_true h; exact q) ha hb
theorem ve_shl (ha : VE X Z a fa) (hb : VE X Z b fb) : VE X Z (.BinOp a .LShift b pos) (fBin (onD dShl) fa fb) := ve_bin op_shl (ops_int fun _ _ h => by have q := of_decide_eq_true h; exact q) ha hb
theorem ve_shr (ha : VE X Z a fa) (hb : VE X Z b fb) : VE X Z (.BinOp a .RShift b pos) (fBin (onD dShr) fa fb) := ve_bin op_shr (ops_int fun _ _ h => by have q := of_decide_eq_true h; exact q) ha hb
theorem ve_band (ha : VE X Z a fa) (hb : VE X Z b fb) : VE X Z (.BinOp a .BitAnd b pos) (fBin (onD dBAnd) fa fb) := ve_bin op_and ops_int0 ha hb
theorem ve_bor (ha : VE X Z a fa) (hb : VE X Z b fb) : VE X Z (.BinOp a .BitOr b pos) (fBin (onD dBOr) fa fb) := ve_bin op_or ops_int0 ha hb
theorem ve_bxor (ha : VE X Z a fa) (hb : VE X Z b fb) : VE X Z (.BinOp a .BitXor b pos) (fBin (onD dBXor) fa fb) := ve_bin op_xor ops_int0 ha hb
/-- - and ~ -/
def dNeg : D → Option W
  | .int i => some (iD (-i))
  | _ => none
def dInv : D → Option W
  | .int i => some (iD (Builtin.bitNot i))
  | _ => none
theorem ve_neg (ha : VE X Z a fa) : VE X Z (.UnaryOp .USub a pos) (fUn (onD1 dNeg) fa) := ve_un un_neg (OpS1.onD fun κ F ρ S σ H v x w Q t r e p => by
  cases x <;> (try (exact nomatch (show (none : Option W) = some w from e)))
  cases e
  rw [r.intv]
  exact ⟨_, rfl, p.int t⟩) ha
theorem ve_inv (ha : VE X Z a fa) : VE X Z (.UnaryOp .Invert a pos) (fUn (onD1 dInv) fa) := ve_un un_inv (OpS1.onD fun κ F ρ S σ H v x w Q t r e p => by
  cases x <;> (try (exact nomatch (show (none : Option W) = some w from e)))
  cases e
  rw [r.intv]
  exact ⟨_, rfl, p.int t⟩) ha
end
/-! ### * -/
/-- a text times an int -/
def rMulS : R2 := fun x y H Q => ∃ z n, x = .str z ∧ y = .int n ∧ 0 ≤ n ∧ n ≤ 1000 ∧ z.length ≤ 1000 ∧ Q (.str ⟨(List.replicate n.toNat z.cps.toList).flatten.toArray⟩) H
theorem rep_fold (z : Str) : ∀ (k : Nat) (acc : Array Nat), (List.replicate k z.cps).foldl (· ++ ·) acc = acc ++ (List.replicate k z.cps.toList).flatten.toArray
  | 0, acc => by simp
  | k + 1, acc => by
    rw [List.replicate_succ, List.foldl_cons, rep_fold z k, List.replicate_succ, List.flatten_cons]
    apply Array.toList_inj.mp
    simp
theorem op_mulS : OpR X (binaryOp .Mult) rMulS := by
  intro pins s σ H x y v u Q I rx ry h
  obtain ⟨z, n, rfl, rfl, h0, h1, hz, q⟩ := h
  obtain ⟨t, rfl⟩ := rx
  obtain ⟨t', rfl⟩ := ry
  have hsz : ∀ k : Nat, (List.replicate k z.cps.toList).flatten.length = k * z.length := fun k => by
    rw [PyProof.Rows.lm_len_rep_flat]; rfl
  refine PySem.P.mul_str ?_ (fun h2 _ => ?_) (fun h2 _ => ?_) ?_
  · rw [decide_eq_false (show ¬ n < -(2 ^ 63) by omega), decide_eq_false (show ¬ n ≥ 2 ^ 63 by omega)]
    rfl
  · intro h3
    have h4 : (2 ^ 63 - 1) / 1000 ≤ (2 ^ 63 - 1) / n := by
      rw [Int.le_ediv_iff_mul_le (by omega)]
      have : (2 ^ 63 - 1) / 1000 * n ≤ (2 ^ 63 - 1) / 1000 * 1000 := Int.mul_le_mul_of_nonneg_left h1 (by decide)
      omega
    omega
  · have h3 : z.length * n.toNat ≤ 1000 * 1000 := Nat.mul_le_mul hz (by omega)
    unfold Builtin.Str.tooLong
    first
      | exact decide_eq_false (by rw [sizeLine_eq]; omega)
      | (simp only [decide_eq_false_iff_not, sizeLine_eq]; omega)
  · split
    · rename_i h2
      have e : n = 0 := by omega
      subst e
      have e2 : Str.empty = ⟨(List.replicate (0 : Int).toNat z.cps.toList).flatten.toArray⟩ := by simp [Str.empty]
      rw [e2]
      first
        | exact ⟨.str _, H, I.tok _, ⟨_, rfl⟩, q⟩
        | exact ⟨by simp [Str.length], ⟨.str _, H, I.tok _, ⟨_, rfl⟩, q⟩⟩
    · split
      · rename_i h2 h3
        have e2 : z = ⟨(List.replicate n.toNat z.cps.toList).flatten.toArray⟩ := by
          rcases (Bool.or_eq_true _ _).mp h3 with h4 | h4
          · have e : n = 1 := by simpa using h4
            subst e
            simp
          · have e : z.length = 0 := by simpa using h4
            have e3 : z.cps.toList = [] := List.eq_nil_of_length_eq_zero (by simpa [Str.length] using e)
            apply Str.ext'
            apply Array.toList_inj.mp
            rw [e3]
            simp
        rw [← e2] at q
        exact ⟨.str z, H, I, ⟨_, rfl⟩, q⟩
      · rw [rep_fold z n.toNat #[]]
        have e2 : (#[] : Array Nat) ++ (List.replicate n.toNat z.cps.toList).flatten.toArray = (List.replicate n.toNat z.cps.toList).flatten.toArray := by simp
        rw [e2]
        first
          | exact ⟨.str _, H, I.tok _, ⟨_, rfl⟩, q⟩
          | (refine ⟨?_, ⟨.str _, H, I.tok _, ⟨_, rfl⟩, q⟩⟩
             show (List.replicate n.toNat z.cps.toList).flatten.toArray.size ≤ _
             rw [List.size_toArray, hsz]
             have h3 : n.toNat * z.length ≤ 1000 * 1000 := Nat.mul_le_mul (by omega) hz
             rw [sizeLine_eq]
             omega)
end
end PD

/-! PDD: *, comparisons, in, is, truth, and, or, not, displays, subscripts, slices. -/
namespace PD
open PySem PySem.Spec PyProof.Rows L2
section
variable {X : Cx} {Z : WX}
/-! ### * -/
def dMul : D → D → Option W
  | .int i, .int j => if (-(2 ^ 64) < i ∧ i < 2 ^ 64) ∨ (-(2 ^ 64) < j ∧ j < 2 ^ 64) then some (iD (i * j)) else none
  | .str z, .int n => if 0 ≤ n ∧ n ≤ 1000 ∧ z.length ≤ 1000 then some (sD ⟨(List.replicate n.toNat z.cps.toList).flatten.toArray⟩) else none
  | .tuple ds, .int n => if ds ≠ [] ∧ 2 ≤ n ∧ n ≤ 1000 ∧ ds.length ≤ 1000 then some (.a (.d (.tuple (List.replicate n.toNat ds).flatten))) else none
  | .list ds, .int n => if 0 ≤ n ∧ n ≤ 1000 ∧ ds.length ≤ 1000 then some (ownD (List.replicate n.toNat ds).flatten) else none
  | _, _ => none
theorem RepAll.rep {K : PySem.W.Frag} {F : Hp} {vs : List V} {ds : List D} (h : RepAll K F vs ds) : ∀ k : Nat, RepAll K F (List.replicate k vs).flatten (List.replicate k ds).flatten
  | 0 => .nil
  | k + 1 => by
    rw [List.replicate_succ, List.flatten_cons, List.replicate_succ, List.flatten_cons]
    exact h.app (RepAll.rep h k)
theorem opr_mul : OpR X (binaryOp .Mult) (fun x y H Q => ((rI CMul (fun i j => .int (i * j)) x y H Q ∨ rMulS x y H Q) ∨ rRepT X.K x y H Q) ∨ rRep x y H Q) := ((op_mul.or op_mulS).or op_repT).or op_rep
theorem ops_mul : OpS X.K X.mg Z (fun x y H Q => ((rI CMul (fun i j => .int (i * j)) x y H Q ∨ rMulS x y H Q) ∨ rRepT X.K x y H Q) ∨ rRep x y H Q) (onD dMul) := OpS.onD fun κ F ρ S σ H v u x y w Q t r1 r2 e p => by
  cases x <;> cases y <;> (try (exact nomatch (show (none : Option W) = some w from e)))
  · simp only [dMul] at e
    split at e
    · rename_i h
      cases e
      rw [r1.intv, r2.intv]
      exact .inl (.inl (.inl ⟨_, _, rfl, rfl, h, p.int t⟩))
    · cases e
  · simp only [dMul] at e
    split at e
    · rename_i h
      cases e
      rw [r1.strv, r2.intv]
      exact .inl (.inl (.inr ⟨_, _, rfl, rfl, h.1, h.2.1, h.2.2, p.str t⟩))
    · cases e
  · simp only [dMul] at e
    split at e
    · rename_i ds0 n0 h
      cases e
      obtain ⟨a, vs, rfl, h1, q1⟩ := r1.lstv
      rw [r2.intv]
      refine .inr ⟨a, _, vs, rfl, rfl, t.fh _ _ h1, by omega, by omega, ?_, fun l hl => p.lst t (q1.rep _) hl⟩
      rw [q1.len, sizeLine_eq]
      have h3 := Nat.mul_le_mul h.2.2 (show (Int.toNat n0) ≤ 1000 from by have := h.2.1; omega)
      omega
    · cases e
  · simp only [dMul] at e
    split at e
    · rename_i h
      cases e
      obtain ⟨a, vs, rfl, h1, q1⟩ := r1.tupv
      rw [r2.intv]
      refine .inl (.inr ⟨a, _, vs, rfl, rfl, Same.seqT t.fh h1, fun z => h.1 ?_, h.2.1, h.2.2.1, by rw [q1.len]; exact h.2.2.2, fun l hl => p.tup t (q1.rep _) hl⟩)
      subst z
      cases q1
      rfl
    · cases e
theorem ve_mul {a b : Expr} {fa fb : Fe} {pos : Pos} (ha : VE X Z a fa) (hb : VE X Z b fb) : VE X Z (.BinOp a .Mult b pos) (fBin (onD dMul) fa fb) := ve_bin opr_mul ops_mul ha hb

/-! ### == and != -/
def flatD : D → Bool
  | .none | .bool _ | .int _ | .str _ => true
  | _ => false
def eqOk (x y : D) : Bool := (flatD x && flatD y) || (SeqAt.shaped x && SeqAt.shaped y)
def dEq (x y : D) : Option W := if eqOk x y = true then some (bD (PyData.eqv x y)) else none
def dNe (x y : D) : Option W := if eqOk x y = true then some (bD (!PyData.eqv x y)) else none
mutual
theorem Rep.dp {K : PySem.W.Frag} {F H : Hp} (e : Same F H) : ∀ (d : D) (v : V), d.canLay0 = true → Rep K F v d → Dp K H v d
  | .none, _, _, .non => .non
  | .bool _, _, _, .bl b => .bl b
  | .int _, _, _, .int i => .int i
  | .str _, _, _, .str x => .str x
  | .list ds, _, h, .lst q r => .lst (.of (e _ _ q)) (RepAll.dp e ds _ (by simpa [PyData.canLay0] using h) r)
  | .tuple ds, _, h, .tup q r => .tup (Same.seqT e q) (RepAll.dp e ds _ (by simpa [PyData.canLay0] using h) r)
  | .dict _, _, h, _ => by simp [PyData.canLay0] at h
theorem RepAll.dp {K : PySem.W.Frag} {F H : Hp} (e : Same F H) : ∀ (ds : List D) (vs : List V), PyData.canLayAll0 ds = true → RepAll K F vs ds → DpAll K H vs ds
  | _, _, _, .nil => .nil
  | d :: ds, _, h, .cons q r => by
    have h' : d.canLay0 = true ∧ PyData.canLayAll0 ds = true := by simpa [PyData.canLayAll0] using h
    exact .cons (Rep.dp e d _ h'.1 q) (RepAll.dp e ds _ h'.2 r)
end
theorem Rep.flat {K : PySem.W.Frag} {F : Hp} {v : V} : ∀ {d : D}, flatD d = true → Rep K F v d → flatV v = true
  | .none, _, .non => rfl
  | .bool _, _, .bl _ => rfl
  | .int _, _, .int _ => rfl
  | .str _, _, .str _ => rfl
theorem eqv_flat {K : PySem.W.Frag} {F : Hp} {v u : V} : ∀ {x y : D}, flatD x = true → flatD y = true → Rep K F v x → Rep K F u y → eqV v u = PyData.eqv x y
  | .none, y, _, fy, .non, r => by cases r <;> first | rfl | cases fy
  | .bool _, y, _, fy, .bl _, r => by cases r <;> first | rfl | cases fy
  | .int _, y, _, fy, .int _, r => by cases r <;> first | rfl | cases fy
  | .str _, y, _, fy, .str _, r => by cases r <;> first | rfl | cases fy
/-- == of flat values -/
theorem op_eqF (hu : X.A.units + 64 < cLine) : OpR X (compareOp .Eq) (fun x y H Q => flatV x = true ∧ flatV y = true ∧ Q (.bl (eqV x y)) H) := by
  intro pins s σ H x y v u Q I rx ry h
  obtain ⟨fx, fy, q⟩ := h
  have viaD : ∀ d e, Dp X.K H x d → Dp X.K H y e → SeqAt.shaped d = true → SeqAt.shaped e = true → eqV x y = PyData.eqv d e → wpAny (model X.prog X.w) X.A (compareOp .Eq v u) (EP X pins σ Q) X.xe s := fun d e h1 h2 h3 h4 h5 =>
    op_eqD hu pins s σ H x y v u Q I rx ry ⟨d, e, h1, h2, h3, h4, by rw [← h5]; exact q⟩
  have viaS : scal x y = true → eqV x y = decide (x = y) → wpAny (model X.prog X.w) X.A (compareOp .Eq v u) (EP X pins σ Q) X.xe s := fun h1 h2 =>
    op_eq pins s σ H x y v u Q I rx ry ⟨h1, by rw [← h2]; exact q⟩
  cases x <;> cases y <;> first
    | exact absurd (show false = true from fx) Bool.false_ne_true
    | exact absurd (show false = true from fy) Bool.false_ne_true
    | exact viaS rfl rfl
    | exact viaS rfl dec_int.symm
    | exact viaS rfl dec_bl.symm
    | exact viaS rfl dec_str.symm
    | exact viaS rfl (by simp [eqV])
    | exact viaD _ _ (.bl _) (.int _) rfl rfl rfl
    | exact viaD _ _ (.int _) (.bl _) rfl rfl rfl
theorem op_neF (hu : X.A.units + 64 < cLine) : OpR X (compareOp .NotEq) (fun x y H Q => flatV x = true ∧ flatV y = true ∧ Q (.bl (!eqV x y)) H) := by
  intro pins s σ H x y v u Q I rx ry h
  obtain ⟨fx, fy, q⟩ := h
  have viaD : ∀ d e, Dp X.K H x d → Dp X.K H y e → SeqAt.shaped d = true → SeqAt.shaped e = true → eqV x y = PyData.eqv d e → wpAny (model X.prog X.w) X.A (compareOp .NotEq v u) (EP X pins σ Q) X.xe s := fun d e h1 h2 h3 h4 h5 =>
    op_neD hu pins s σ H x y v u Q I rx ry ⟨d, e, h1, h2, h3, h4, by rw [← h5]; exact q⟩
  have viaS : scal x y = true → eqV x y = decide (x = y) → wpAny (model X.prog X.w) X.A (compareOp .NotEq v u) (EP X pins σ Q) X.xe s := fun h1 h2 =>
    op_ne pins s σ H x y v u Q I rx ry ⟨h1, by rw [← h2]; exact q⟩
  cases x <;> cases y <;> first
    | exact absurd (show false = true from fx) Bool.false_ne_true
    | exact absurd (show false = true from fy) Bool.false_ne_true
    | exact viaS rfl rfl
    | exact viaS rfl dec_int.symm
    | exact viaS rfl dec_bl.symm
    | exact viaS rfl dec_str.symm
    | exact viaS rfl (by simp [eqV])
    | exact viaD _ _ (.bl _) (.int _) rfl rfl rfl
    | exact viaD _ _ (.int _) (.bl _) rfl rfl rfl
/-- a comparison by values, met by g on data -/
def CmpV (X : Cx) (Z : WX) (op : CmpOp) (g : A → A → Cs → R) : Prop := ∃ r : R2, OpR X (compareOp op) r ∧ OpS X.K X.mg Z r g
theorem ve_cv {op : CmpOp} {g : A → A → Cs → R} {a b : Expr} {fa fb : Fe} {pos : Pos} (h : CmpV X Z op g) (ha : VE X Z a fa) (hb : VE X Z b fb) (hm : behindInMarks op b = false := by first | exact nomark _ | rfl) : VE X Z (.Compare a [op] [b] pos) (fBin g fa fb) := by
  obtain ⟨r, h1, h2⟩ := h
  exact ve_cmp h1 h2 ha hb hm
theorem vt_cv {op : CmpOp} {g : A → A → Cs → R} {a b : Expr} {fa fb : Fe} {pos : Pos} (h : CmpV X Z op g) (ha : VE X Z a fa) (hb : VE X Z b fb) (hm : behindInMarks op b = false := by first | exact nomark _ | rfl) : PT X (.Compare a [op] [b] pos) (tB (tv X.K X.mg Z (fBin g fa fb))) := by
  obtain ⟨r, h1, h2⟩ := h
  exact (pt_cmpR h1 ha hb hm).imp fun σ H Q h => tOp_of h2 h
theorem cv_eq {k : Nat} (hr : Room k X.A) : CmpV X Z .Eq (onD dEq) := ⟨_, ((op_eqF hr.units).or (op_eqD hr.units)), (OpS.onD fun κ F ρ S σ H v u x y w Q t r1 r2 e p => by
    unfold dEq at e
    split at e
    · rename_i h
      cases e
      unfold eqOk at h
      by_cases hf : (flatD x && flatD y) = true
      · rw [Bool.and_eq_true] at hf
        refine .inl ⟨Rep.flat hf.1 r1, Rep.flat hf.2 r2, ?_⟩
        rw [eqv_flat hf.1 hf.2 r1 r2]
        exact p.bl t
      · rw [Bool.eq_false_iff.mpr hf, Bool.false_or, Bool.and_eq_true] at h
        exact .inr ⟨x, y, Rep.dp t.fh x v (SeqAt.canLay_of_shaped h.1) r1, Rep.dp t.fh y u (SeqAt.canLay_of_shaped h.2) r2, h.1, h.2, p.bl t⟩
    · cases e)⟩
theorem cv_ne {k : Nat} (hr : Room k X.A) : CmpV X Z .NotEq (onD dNe) := ⟨_, ((op_neF hr.units).or (op_neD hr.units)), (OpS.onD fun κ F ρ S σ H v u x y w Q t r1 r2 e p => by
    unfold dNe at e
    split at e
    · rename_i h
      cases e
      unfold eqOk at h
      by_cases hf : (flatD x && flatD y) = true
      · rw [Bool.and_eq_true] at hf
        refine .inl ⟨Rep.flat hf.1 r1, Rep.flat hf.2 r2, ?_⟩
        rw [eqv_flat hf.1 hf.2 r1 r2]
        exact p.bl t
      · rw [Bool.eq_false_iff.mpr hf, Bool.false_or, Bool.and_eq_true] at h
        exact .inr ⟨x, y, Rep.dp t.fh x v (SeqAt.canLay_of_shaped h.1) r1, Rep.dp t.fh y u (SeqAt.canLay_of_shaped h.2) r2, h.1, h.2, p.bl t⟩
    · cases e)⟩
/-! ### order -/
def dCmp (g : Int → Int → Bool) : D → D → Option W
  | .int i, .int j => some (bD (g i j))
  | _, _ => none
def dLt : D → D → Option W
  | .int i, .int j => some (bD (decide (i < j)))
  | .str x, .str y => some (bD (decide (x.cps.toList < y.cps.toList)))
  | _, _ => none
theorem ops_cmp {g : Int → Int → Bool} {K : PySem.W.Frag} {mg : Str → Option Value} : OpS K mg Z (rI0 fun i j => .bl (g i j)) (onD (dCmp g)) := OpS.onD fun κ F ρ S σ H v u x y w Q t r1 r2 e p => by
  cases x <;> cases y <;> (try (exact nomatch (show (none : Option W) = some w from e)))
  cases e
  rw [r1.intv, r2.intv]
  exact ⟨_, _, rfl, rfl, p.bl t⟩
theorem ops_lt {K : PySem.W.Frag} {mg : Str → Option Value} : OpS K mg Z (fun x y H Q => rI0 (fun i j => .bl (decide (i < j))) x y H Q ∨ ∃ i j, x = .str i ∧ y = .str j ∧ Q (.bl (decide (i.cps.toList < j.cps.toList))) H) (onD dLt) := OpS.onD fun κ F ρ S σ H v u x y w Q t r1 r2 e p => by
  cases x <;> cases y <;> (try (exact nomatch (show (none : Option W) = some w from e)))
  · cases e
    rw [r1.intv, r2.intv]
    exact .inl ⟨_, _, rfl, rfl, p.bl t⟩
  · cases e
    rw [r1.strv, r2.strv]
    exact .inr ⟨_, _, rfl, rfl, p.bl t⟩
abbrev dLe := dCmp fun i j => decide (i ≤ j)
abbrev dGt := dCmp fun i j => decide (j < i)
abbrev dGe := dCmp fun i j => decide (j ≤ i)
section
variable {a b c : Expr} {fa fb fc : Fe} {pos : Pos}
theorem cv_lt : CmpV X Z .Lt (onD dLt) := ⟨_, (op_lt.or op_lt_str), ops_lt⟩
theorem cv_le : CmpV X Z .LtE (onD dLe) := ⟨_, op_le, ops_cmp⟩
theorem cv_gt : CmpV X Z .Gt (onD dGt) := ⟨_, op_gt, ops_cmp⟩
theorem cv_ge : CmpV X Z .GtE (onD dGe) := ⟨_, op_ge, ops_cmp⟩
/-! ### chains a < b < c -/
def fChain (g g' : A → A → Cs → R) (fa fb fc : Fe) : Fe := fun ρ S => (fa ρ S).bnd fun x S1 => (fb ρ S1).bnd fun y S2 => (g x y S2).bnd fun z S3 => match z with
  | .d (.bool true) => (fc ρ S3).bnd fun w S4 => g' y w S4
  | .d (.bool false) => .ok (bD false) S3
  | _ => .stuck
/-- a rule by values whose end may be split -/
theorem chain_of {r r' : R2} {g g' : A → A → Cs → R} {K : PySem.W.Frag} {mg : Str → Option Value} (hg : OpS K mg Z r g) (hg' : OpS K mg Z r' g') {σ : L2.St} {H : Hp} {Q : VK} (h : tv K mg Z (fChain g g' fa fb fc) σ H Q) : tChain r r' (tv K mg Z fa) (tv K mg Z fb) (tv K mg Z fc) σ H Q := by
  obtain ⟨κ, F, ρ, S, t, p⟩ := h
  refine at_bind t p fun v H1 F1 S1 x n1 t1 r1 p1 => ?_
  refine at_bind t1 p1 fun u H2 F2 S2 y n2 t2 r2 p2 => ?_
  refine hg κ F2 ρ S2 σ H2 v u x y _ t2 (r1.up n2.ff) r2 ?_
  cases q : g x y S2 with
  | stuck => rw [q] at p2; exact p2
  | exc m S3 => rw [q] at p2; exact p2
  | ok w S3 =>
    rw [q] at p2
    intro z H3 F3 L n3 c3 rz nd nw
    cases e : w.toA with
    | none => simp only [R.bnd, e] at p2; exact p2.elim
    | some zz =>
      simp only [R.bnd, e] at p2
      obtain ⟨F4, n4, c4, r4⟩ := frz_mix n3 c3 t2.hk rz nw e
      have t4 := t2.nxt n4 c4
      have p4 := p2.up n4
      match zz, r4, p4 with
      | .d (.bool true), r4, p4 =>
        refine ⟨true, r4.blv, iteT ?_⟩
        refine at_bind t4 p4 fun w' H5 F5 S5 y' n5 t5 r5 p5 => ?_
        exact hg' κ F5 ρ S5 σ H5 u w' y y' Q t5 (r2.up (n4.ff.trans n5.ff)) r5 p5
      | .d (.bool false), r4, p4 => exact ⟨false, r4.blv, iteF (p4.bl t4)⟩
      | .d .none, _, p4 => exact p4.elim
      | .d (.int _), _, p4 => exact p4.elim
      | .d (.str _), _, p4 => exact p4.elim
      | .d (.list _), _, p4 => exact p4.elim
      | .d (.tuple _), _, p4 => exact p4.elim
      | .d (.dict _), _, p4 => exact p4.elim
      | .c _, _, p4 => exact p4.elim
      | .s _, _, p4 => exact p4.elim
      | .e _, _, p4 => exact p4.elim
theorem ve_chain {op op' : CmpOp} {g g' : A → A → Cs → R} (h : CmpV X Z op g) (h' : CmpV X Z op' g') (ha : VE X Z a fa) (hb : VE X Z b fb) (hc : VE X Z c fc)
    (hm : lastMarks [op, op'] [b, c] = false := by with_unfolding_all rfl) : VE X Z (.Compare a [op, op'] [b, c] pos) (fChain g g' fa fb fc) := by
  obtain ⟨r, ho, hg⟩ := h
  obtain ⟨r', ho', hg'⟩ := h'
  exact (pe_chain ho ho' ha hb hc hm).imp fun σ H Q h => chain_of hg hg' h
theorem vt_chain {op op' : CmpOp} {g g' : A → A → Cs → R} (h : CmpV X Z op g) (h' : CmpV X Z op' g') (ha : VE X Z a fa) (hb : VE X Z b fb) (hc : VE X Z c fc)
    (hm : lastMarks [op, op'] [b, c] = false := by with_unfolding_all rfl) : PT X (.Compare a [op, op'] [b, c] pos) (tB (tv X.K X.mg Z (fChain g g' fa fb fc))) := by
  obtain ⟨r, ho, hg⟩ := h
  obtain ⟨r', ho', hg'⟩ := h'
  exact (pt_chain ho ho' ha hb hc hm).imp fun σ H Q h => chain_of hg hg' h
/-! ### is -/
def dIsN : A → A → Cs → R := fun x y S => match y with
  | .d .none => match x with
    | .d .none => .ok (bD true) S
    | _ => .ok (bD false) S
  | _ => .stuck
def dNotN : A → A → Cs → R := fun x y S => match y with
  | .d .none => match x with
    | .d .none => .ok (bD false) S
    | _ => .ok (bD true) S
  | _ => .stuck
theorem isN_of {K : PySem.W.Frag} {κ : Kp} {F : Hp} {v : V} : ∀ {x : A}, RepA K κ F v x → x ≠ .d .none → v ≠ .non
  | .d x, r, h => by
    rintro rfl
    exact h (by cases (show Rep K F .non x from r); rfl)
  | .c k, r, _ => by
    obtain ⟨a, _, e⟩ := r
    rw [e]; simp
  | .s k, r, _ => by
    obtain ⟨a, e, _⟩ := r
    rw [e]; simp
  | .e k, r, _ => by
    obtain ⟨a, e, _⟩ := r
    rw [e]; simp
theorem ops_isN {K : PySem.W.Frag} {mg : Str → Option Value} : OpS K mg Z (fun x y H Q => y = .non ∧ Q (.bl (decide (x = .non))) H) dIsN := fun κ F ρ S σ H v u x y Q t r1 r2 p => by
  unfold dIsN at p
  split at p
  · refine ⟨Rep.nonv r2, ?_⟩
    split at p
    · rw [Rep.nonv r1]
      exact p.bl t
    · rename_i h
      rw [decide_eq_false (isN_of r1 fun z => h z)]
      exact p.bl t
  · exact p.elim
theorem ops_notN {K : PySem.W.Frag} {mg : Str → Option Value} : OpS K mg Z (fun x y H Q => y = .non ∧ Q (.bl (!decide (x = .non))) H) dNotN := fun κ F ρ S σ H v u x y Q t r1 r2 p => by
  unfold dNotN at p
  split at p
  · refine ⟨Rep.nonv r2, ?_⟩
    split at p
    · rw [Rep.nonv r1]
      exact p.bl t
    · rename_i h
      rw [decide_eq_false (isN_of r1 fun z => h z)]
      exact p.bl t
  · exact p.elim
theorem cv_isN : CmpV X Z .Is dIsN := ⟨_, op_isN, ops_isN⟩
theorem cv_notN : CmpV X Z .IsNot dNotN := ⟨_, op_notN, ops_notN⟩
/-- bools -/
def dIsB : D → D → Option W
  | .bool x, .bool y => some (bD (decide (x = y)))
  | _, _ => none
def dNotB : D → D → Option W
  | .bool x, .bool y => some (bD (!decide (x = y)))
  | _, _ => none
theorem cv_isB : CmpV X Z .Is (onD dIsB) := ⟨_, op_isBl, (OpS.onD fun κ F ρ S σ H v u x y w Q t r1 r2 e p => by
  cases x <;> cases y <;> (try (exact nomatch (show (none : Option W) = some w from e)))
  cases e
  rw [r1.blv, r2.blv]
  exact ⟨_, _, rfl, rfl, p.bl t⟩)⟩
theorem cv_notB : CmpV X Z .IsNot (onD dNotB) := ⟨_, op_notBl, (OpS.onD fun κ F ρ S σ H v u x y w Q t r1 r2 e p => by
  cases x <;> cases y <;> (try (exact nomatch (show (none : Option W) = some w from e)))
  cases e
  rw [r1.blv, r2.blv]
  exact ⟨_, _, rfl, rfl, p.bl t⟩)⟩
/-! ### in -/
def flatAll (ds : List D) : Bool := ds.all flatD
def inD (x : D) (ds : List D) : Bool := ds.any fun y => PyData.eqv y x
def dIn : D → D → Option W
  | .str x, .str y => if x.length = 1 then some (bD (decide (x.cps.toList.headD 0 ∈ y.cps.toList))) else none
  | x, .list ds => if (flatD x && flatAll ds) = true then some (bD (inD x ds)) else if (SeqAt.shaped x && SeqAt.shaped (.list ds)) = true then some (bD (inD x ds)) else none
  | x, .tuple ds => if (flatD x && flatAll ds) = true then some (bD (inD x ds)) else none
  | _, _ => none
def notW : Option W → Option W
  | some (.a (.d (.bool b))) => some (bD (!b))
  | _ => none
def dNotIn (x y : D) : Option W := notW (dIn x y)
theorem RepAll.flat {K : PySem.W.Frag} {F : Hp} : ∀ {vs : List V} {ds : List D}, flatAll ds = true → RepAll K F vs ds → vs.all flatV = true
  | _, _, _, .nil => rfl
  | v :: vs, d :: ds, f, .cons r t => by
    have f' : flatD d = true ∧ flatAll ds = true := by simpa [flatAll] using f
    rw [List.all_cons, Rep.flat f'.1 r, RepAll.flat f'.2 t]
    rfl
theorem inV_flat {K : PySem.W.Frag} {F : Hp} {v : V} {x : D} (fx : flatD x = true) (r : Rep K F v x) : ∀ {vs : List V} {ds : List D}, flatAll ds = true → RepAll K F vs ds → inV v vs = inD x ds
  | _, _, _, .nil => rfl
  | u :: vs, d :: ds, f, .cons q t => by
    have f' : flatD d = true ∧ flatAll ds = true := by simpa [flatAll] using f
    unfold inV inD
    rw [List.any_cons, List.any_cons, eqv_flat f'.1 fx q r]
    have := inV_flat fx r f'.2 t
    unfold inV inD at this
    rw [this]
def rInAll (K : PySem.W.Frag) (neg : Bool) : R2 := fun x y H Q => ((∃ (c : Nat) (z : Str), x = .str ⟨#[c]⟩ ∧ y = .str z ∧ Q (.bl (if neg = true then !decide (c ∈ z.cps.toList) else decide (c ∈ z.cps.toList))) H) ∨ rIn K neg x y H Q) ∨
  (∃ d ds, Dp K H x d ∧ Dp K H y (.list ds) ∧ SeqAt.shaped d = true ∧ SeqAt.shaped (.list ds) = true ∧ Q (.bl (if neg = true then !inD d ds else inD d ds)) H)
theorem one_cp {x : Str} (h : x.length = 1) : x = ⟨#[x.cps.toList.headD 0]⟩ := by
  apply Str.ext'
  apply Array.toList_inj.mp
  have hl : x.cps.toList.length = 1 := by simpa [Str.length] using h
  obtain ⟨c, e⟩ := List.length_eq_one_iff.mp hl
  rw [e]
  rfl
theorem ops_in (neg : Bool) {K : PySem.W.Frag} {mg : Str → Option Value} : OpS K mg Z (rInAll K neg) (onD (if neg = true then dNotIn else dIn)) := OpS.onD fun κ F ρ S σ H v u x y w Q t r1 r2 e p => by
  have key : ∀ b, dIn x y = some (bD b) → (Q (.bl (if neg = true then !b else b)) H) := fun b hb => by
    cases neg with
    | true =>
      have e2 : some (bD (!b)) = some w := by
        have e3 : dNotIn x y = some w := e
        unfold dNotIn at e3
        rw [hb] at e3
        exact e3
      cases e2
      exact p.bl t
    | false =>
      have e3 : dIn x y = some w := e
      rw [hb] at e3
      cases e3
      exact p.bl t
  have bad : dIn x y = none → rInAll K neg v u H Q := fun hb => by
    cases neg with
    | true =>
      have e3 : dNotIn x y = some w := e
      unfold dNotIn at e3
      rw [hb] at e3
      cases e3
    | false =>
      have e3 : dIn x y = some w := e
      rw [hb] at e3
      cases e3
  have onL : ∀ ds, y = .list ds → rInAll K neg v u H Q := fun ds hy => by
    subst hy
    obtain ⟨a, us, rfl, h1, q1⟩ := r2.lstv
    by_cases hf : (flatD x && flatAll ds) = true
    · have hd : dIn x (.list ds) = some (bD (inD x ds)) := by unfold dIn; cases x <;> first | exact if_pos hf | (split <;> simp_all)
      rw [Bool.and_eq_true] at hf
      have q := key _ hd
      rw [← inV_flat hf.1 r1 hf.2 q1] at q
      exact .inl (.inr ⟨a, us, rfl, .inl (.of (t.fh _ _ h1)), Rep.flat hf.1 r1, RepAll.flat hf.2 q1, q⟩)
    · by_cases hs : (SeqAt.shaped x && SeqAt.shaped (.list ds)) = true
      · have hd : dIn x (.list ds) = some (bD (inD x ds)) := by unfold dIn; cases x <;> exact (if_neg hf).trans (if_pos hs)
        rw [Bool.and_eq_true] at hs
        exact .inr ⟨x, ds, Rep.dp t.fh x v (SeqAt.canLay_of_shaped hs.1) r1, Rep.dp t.fh (.list ds) _ (SeqAt.canLay_of_shaped hs.2) r2, hs.1, hs.2, key _ hd⟩
      · exact bad (by unfold dIn; cases x <;> exact (if_neg hf).trans (if_neg hs))
  have onT : ∀ ds, y = .tuple ds → rInAll K neg v u H Q := fun ds hy => by
    subst hy
    obtain ⟨a, us, rfl, h1, q1⟩ := r2.tupv
    by_cases hf : (flatD x && flatAll ds) = true
    · have hd : dIn x (.tuple ds) = some (bD (inD x ds)) := by unfold dIn; cases x <;> exact if_pos hf
      rw [Bool.and_eq_true] at hf
      have q := key _ hd
      rw [← inV_flat hf.1 r1 hf.2 q1] at q
      exact .inl (.inr ⟨a, us, rfl, .inr (Same.seqT t.fh h1), Rep.flat hf.1 r1, RepAll.flat hf.2 q1, q⟩)
    · exact bad (by unfold dIn; cases x <;> exact if_neg hf)
  cases y with
  | list ds => exact onL ds rfl
  | tuple ds => exact onT ds rfl
  | str z =>
    cases x with
    | str x =>
      by_cases h1 : x.length = 1
      · have hd : dIn (.str x) (.str z) = some (bD (decide (x.cps.toList.headD 0 ∈ z.cps.toList))) := if_pos h1
        have q := key _ hd
        refine .inl (.inl ⟨x.cps.toList.headD 0, z, ?_, r2.strv, q⟩)
        rw [r1.strv]
        exact congrArg V.str (one_cp h1)
      · exact bad (if_neg h1)
    | _ => exact bad rfl
  | _ => cases x <;> exact bad rfl
theorem cv_in {k : Nat} (hr : Room k X.A) : CmpV X Z .In (onD dIn) := by
  have hu : X.A.units + 65 < cLine := by have := hr.un; omega
  exact ⟨rInAll X.K false, (op_in_sign.or op_in_seq).or (op_inD hu), ops_in false⟩
theorem cv_notIn {k : Nat} (hr : Room k X.A) : CmpV X Z .NotIn (onD dNotIn) := by
  have hu : X.A.units + 65 < cLine := by have := hr.un; omega
  exact ⟨rInAll X.K true, (op_notIn_sign.or op_notIn_seq).or (op_notInD hu), ops_in true⟩
end
end
end PD

/-! PDE: tests, and, or, not, if-else; displays; subscripts; slices. -/
namespace PD
open PySem PySem.Spec PyProof.Rows L2
section
variable {X : Cx} {Z : WX}
/-- a test is worth f, a truth -/
abbrev VT (X : Cx) (Z : WX) (e : Expr) (f : Fe) : Prop := PT X e (tB (tv X.K X.mg Z f))
theorem vt_val {e : Expr} {f : Fe} (h : VE X Z e f) (he : ∀ whole, isTrue e X.env whole = (do let v ← whole; standAt e.pos; holding [v] (truthy v)) := by intro _; rfl) : VT X Z e f := pt_val h he
/-- a truth by a branch -/
def R.br (r : R) (a b : Cs → R) : R := r.bnd fun x S => match x with
  | .d (.bool true) => a S
  | .d (.bool false) => b S
  | _ => .stuck
theorem R.br_tt {w : W} {S : Cs} {a b : Cs → R} (h : w = bD true) : (R.ok w S).br a b = a S := by subst h; rfl
theorem at_br {K : PySem.W.Frag} {mg : Str → Option Value} {κ : Kp} {F H : Hp} {ρ : En} {S : Cs} {σ : L2.St} {fa : Fe} {ka kb : Cs → R} {Q : VK} {Q' : Bool → Hp → Prop} (t : At K κ F ρ S σ H) (p : Post K mg Z κ F H σ ((fa ρ S).br ka kb) Q)
    (g : ∀ b H1 F1 S1, Nxt κ F H F1 H1 → At K κ F1 ρ S1 σ H1 → Post K mg Z κ F1 H1 σ (if b = true then ka S1 else kb S1) Q → Q' b H1) : tB (tv K mg Z fa) σ H Q' := by
  refine at_bind t p fun v H1 F1 S1 x n1 t1 r1 p1 => ?_
  match x, r1, p1 with
  | .d (.bool true), r, p => exact ⟨true, Rep.blv r, g true H1 F1 S1 n1 t1 (by rw [if_pos rfl]; exact p)⟩
  | .d (.bool false), r, p => exact ⟨false, Rep.blv r, g false H1 F1 S1 n1 t1 (by rw [if_neg Bool.false_ne_true]; exact p)⟩
  | .d .none, _, p => exact p.elim
  | .d (.int _), _, p => exact p.elim
  | .d (.str _), _, p => exact p.elim
  | .d (.list _), _, p => exact p.elim
  | .d (.tuple _), _, p => exact p.elim
  | .d (.dict _), _, p => exact p.elim
  | .c _, _, p => exact p.elim
  | .s _, _, p => exact p.elim
  | .e _, _, p => exact p.elim
def fAnd (fa fb : Fe) : Fe := fun ρ S => (fa ρ S).br (fun S1 => (fb ρ S1).br (fun S2 => .ok (bD true) S2) (fun S2 => .ok (bD false) S2)) (fun S1 => .ok (bD false) S1)
def fOr (fa fb : Fe) : Fe := fun ρ S => (fa ρ S).br (fun S1 => .ok (bD true) S1) (fun S1 => (fb ρ S1).br (fun S2 => .ok (bD true) S2) (fun S2 => .ok (bD false) S2))
def fNot (fa : Fe) : Fe := fun ρ S => (fa ρ S).br (fun S1 => .ok (bD false) S1) (fun S1 => .ok (bD true) S1)
def fIf (fc fa fb : Fe) : Fe := fun ρ S => (fc ρ S).br (fa ρ) (fb ρ)
section
variable {a b c : Expr} {fa fb fc : Fe} {pos : Pos} {rest : List Expr}
theorem ve_one {op : BoolOp} (h : VE X Z a fa) : VE X Z (.BoolOp op [a] pos) fa := pe_one h
/-- the end of a test, and what it says -/
theorem br_end {K : PySem.W.Frag} {mg : Str → Option Value} {κ : Kp} {F H : Hp} {ρ : En} {S : Cs} {σ : L2.St} {fa : Fe} {Q : VK} (t : At K κ F ρ S σ H) (p : Post K mg Z κ F H σ ((fa ρ S).br (fun S2 => .ok (bD true) S2) (fun S2 => .ok (bD false) S2)) Q) : tv K mg Z fa σ H Q := by
  obtain ⟨κ', F', ρ', S', t', p'⟩ := (at_br (Q' := fun b H1 => Q (.bl b) H1) t p fun b H1 F1 S1 n1 t1 p1 => by
    cases b with
    | true => exact Post.bl (by rw [if_pos rfl] at p1; exact p1) t1
    | false => exact Post.bl (by rw [if_neg Bool.false_ne_true] at p1; exact p1) t1 : tB (tv K mg Z fa) σ H fun b H1 => Q (.bl b) H1)
  exact ⟨κ', F', ρ', S', t', p'.mono fun v H1 ⟨b, e, q⟩ => by rw [e]; exact q⟩
theorem ve_and (ha : VE X Z a fa) (hb : VE X Z (.BoolOp .And (b :: rest) pos) fb) : VE X Z (.BoolOp .And (a :: b :: rest) pos) (fAnd fa fb) := (pe_and ha hb).imp fun σ H Q h => by
  obtain ⟨κ, F, ρ, S, t, p⟩ := h
  have q : tB (tv X.K X.mg Z fa) σ H fun c H1 => if c = true then tv X.K X.mg Z fb σ H1 Q else Q (.bl false) H1 := at_br t p fun b H1 F1 S1 n1 t1 p1 => by
    cases b with
    | true => exact iteT (br_end t1 (by rw [if_pos rfl] at p1; exact p1))
    | false => exact iteF (Post.bl (by rw [if_neg Bool.false_ne_true] at p1; exact p1) t1)
  exact q
theorem ve_or (ha : VE X Z a fa) (hb : VE X Z (.BoolOp .Or (b :: rest) pos) fb) : VE X Z (.BoolOp .Or (a :: b :: rest) pos) (fOr fa fb) := (pe_or ha hb).imp fun σ H Q h => by
  obtain ⟨κ, F, ρ, S, t, p⟩ := h
  have q : tB (tv X.K X.mg Z fa) σ H fun c H1 => if c = true then Q (.bl true) H1 else tv X.K X.mg Z fb σ H1 Q := at_br t p fun b H1 F1 S1 n1 t1 p1 => by
    cases b with
    | true => exact iteT (Post.bl (by rw [if_pos rfl] at p1; exact p1) t1)
    | false => exact iteF (br_end t1 (by rw [if_neg Bool.false_ne_true] at p1; exact p1))
  exact q
theorem ve_not (ha : VE X Z a fa) : VE X Z (.UnaryOp .Not a pos) (fNot fa) := (pe_not ha).imp fun σ H Q h => by
  obtain ⟨κ, F, ρ, S, t, p⟩ := h
  have q : tB (tv X.K X.mg Z fa) σ H fun c H1 => Q (.bl (!c)) H1 := at_br t p fun b H1 F1 S1 n1 t1 p1 => by
    cases b with
    | true => exact Post.bl (b := false) (by rw [if_pos rfl] at p1; exact p1) t1
    | false => exact Post.bl (b := true) (by rw [if_neg Bool.false_ne_true] at p1; exact p1) t1
  exact q
theorem ve_if (hc : VT X Z c fc) (ha : VE X Z a fa) (hb : VE X Z b fb) : VE X Z (.IfExp c a b pos) (fIf fc fa fb) := (pe_ifExp hc ha hb).imp fun σ H Q h => by
  obtain ⟨κ, F, ρ, S, t, p⟩ := h
  exact at_br t p fun b H1 F1 S1 n1 t1 p1 => by
    cases b with
    | true => exact iteT (at_tv t1 (by rw [if_pos rfl] at p1; exact p1))
    | false => exact iteF (at_tv t1 (by rw [if_neg Bool.false_ne_true] at p1; exact p1))
/-! tests -/
abbrev VW (X : Cx) (Z : WX) (e : Expr) (f : Fe) : Prop := PW X e (tB (tv X.K X.mg Z f))
theorem br_endT {K : PySem.W.Frag} {mg : Str → Option Value} {κ : Kp} {F H : Hp} {ρ : En} {S : Cs} {σ : L2.St} {fa : Fe} {Q : Bool → Hp → Prop} (t : At K κ F ρ S σ H) (p : Post K mg Z κ F H σ ((fa ρ S).br (fun S2 => .ok (bD true) S2) (fun S2 => .ok (bD false) S2)) fun v H1 => ∃ c, v = .bl c ∧ Q c H1) : tB (tv K mg Z fa) σ H Q := br_end t p
theorem vw_and1 (ha : VT X Z a fa) : VW X Z (.BoolOp .And [a] pos) fa := pw_and1 ha
theorem vw_or1 (ha : VT X Z a fa) : VW X Z (.BoolOp .Or [a] pos) fa := pw_or1 ha
theorem _root_.L2.PW.imp {X : Cx} {e : Expr} {t t' : TT} (h : PW X e t) (i : ∀ σ H Q, t' σ H Q → t σ H Q) : PW X e t' := ⟨fun wh pins s σ H Q I q => h.run wh pins s σ H Q I (i σ H Q q)⟩
theorem vw_and (ha : VT X Z a fa) (hb : VW X Z (.BoolOp .And (b :: rest) pos) fb) : VW X Z (.BoolOp .And (a :: b :: rest) pos) (fAnd fa fb) := (pw_and ha hb).imp fun σ H Q h => by
  obtain ⟨κ, F, ρ, S, t, p⟩ := h
  exact at_br t p fun b H1 F1 S1 n1 t1 p1 => by
    cases b with
    | true => exact iteT (br_endT t1 (by rw [if_pos rfl] at p1; exact p1))
    | false =>
      have q : ∃ c, V.bl false = .bl c ∧ Q c H1 := Post.bl (by rw [if_neg Bool.false_ne_true] at p1; exact p1) t1
      obtain ⟨c, e, q⟩ := q
      cases e
      exact iteF q
theorem vw_or (ha : VT X Z a fa) (hb : VW X Z (.BoolOp .Or (b :: rest) pos) fb) : VW X Z (.BoolOp .Or (a :: b :: rest) pos) (fOr fa fb) := (pw_or ha hb).imp fun σ H Q h => by
  obtain ⟨κ, F, ρ, S, t, p⟩ := h
  exact at_br t p fun b H1 F1 S1 n1 t1 p1 => by
    cases b with
    | true =>
      have q : ∃ c, V.bl true = .bl c ∧ Q c H1 := Post.bl (by rw [if_pos rfl] at p1; exact p1) t1
      obtain ⟨c, e, q⟩ := q
      cases e
      exact iteT q
    | false => exact iteF (br_endT t1 (by rw [if_neg Bool.false_ne_true] at p1; exact p1))
theorem vt_not (ha : VT X Z a fa) : VT X Z (.UnaryOp .Not a pos) (fNot fa) := (pt_not ha).imp fun σ H Q h => by
  obtain ⟨κ, F, ρ, S, t, p⟩ := h
  exact at_br t p fun b H1 F1 S1 n1 t1 p1 => by
    cases b with
    | true =>
      have q : ∃ c, V.bl false = .bl c ∧ Q c H1 := Post.bl (by rw [if_pos rfl] at p1; exact p1) t1
      obtain ⟨c, e, q⟩ := q
      cases e
      exact q
    | false =>
      have q : ∃ c, V.bl true = .bl c ∧ Q c H1 := Post.bl (by rw [if_neg Bool.false_ne_true] at p1; exact p1) t1
      obtain ⟨c, e, q⟩ := q
      cases e
      exact q
end
/-- any value as a test: by truth -/
def dTru : D → Option W
  | .none => some (bD false)
  | .bool b => some (bD b)
  | .int i => some (bD (i != 0))
  | .str x => if x.length ≤ sizeLine then some (bD (x.length != 0)) else none
  | .list ds => some (bD (!ds.isEmpty))
  | .tuple ds => some (bD (!ds.isEmpty))
  | _ => none

/-! ### displays -/
section
variable {K : PySem.W.Frag} {mg : Str → Option Value} {κ : Kp} {ρ : En} {σ : L2.St} {Q : VK}
/-- the items as results -/
def evsW : List Fe → En → Cs → (List W → Cs → R) → R
  | [], _, S, k => k [] S
  | f :: fs, ρ, S, k => match f ρ S with
    | .ok w S1 => evsW fs ρ S1 fun ws S2 => k (w :: ws) S2
    | .exc n S1 => .exc n S1
    | .stuck => .stuck
theorem at_evsW {F0 H0 : Hp} : ∀ {fs : List Fe} {F H : Hp} {S : Cs} {k : List W → Cs → R} {Q' : List V → Hp → Prop}, Nxt κ F0 H0 F H → At K κ F ρ S σ H → Post K mg Z κ F0 H0 σ (evsW fs ρ S k) Q →
    (∀ vs H1 F1 S1 ws L, Nxt κ F H F1 H1 → At K κ F1 ρ S1 σ H1 → RepWs K κ F1 H1 ws vs L → L.Nodup → (∀ p ∈ L, FrT H p ∧ F1 p = none) → vs.length = fs.length → Post K mg Z κ F0 H0 σ (k ws S1) Q → Q' vs H1) → tvs K mg Z fs σ H Q'
  | [], F, H, S, k, Q', n0, t, p, g => g [] H F S [] [] (.refl t.fh) t ⟨rfl, rfl⟩ .nil (fun _ h => absurd h (by simp)) rfl p
  | f :: fs, F, H, S, k, Q', n0, t, p, g => by
    show tCons (tv K mg Z f) (tvs K mg Z fs) σ H Q'
    refine ⟨κ, F, ρ, S, t, ?_⟩
    unfold evsW at p
    cases q : f ρ S with
    | stuck => rw [q] at p; exact p
    | exc m S1 =>
      rw [q] at p
      exact fun C H' F' a b c => p C H' F' a (n0.trans b) c
    | ok w S1 =>
      rw [q] at p
      intro v H1 F1 L n c r nd nw
      have t1 := t.nxt n c
      refine at_evsW (n0.trans n) t1 p fun vs H2 F2 S2 ws L2 n2 t2 r2 nd2 nw2 l2 p2 => ?_
      have th := RepW.there w v L r
      obtain ⟨kL, fz⟩ := n2.own th (fun a ha => (nw a ha).2) (fun a ha z => t.hk a z (nw a ha).1)
      refine g (v :: vs) H2 F2 S2 (w :: ws) (L ++ L2) (n.trans n2) t2 ⟨v, vs, L, L2, rfl, rfl, RepW.up n2.ff w v L kL r, r2⟩ (List.nodup_append.mpr ⟨nd, nd2, fun a ha b hb => ?_⟩) (fun a ha => ?_) (congrArg (· + 1) l2) p2
      · rintro rfl
        have h1 := (nw2 a hb).1
        obtain ⟨us, hu⟩ := th a ha
        exact h1.no hu
      · rcases List.mem_append.mp ha with h | h
        · exact ⟨(nw a h).1, fz a h⟩
        · exact ⟨n.back (nw2 a h).1, (nw2 a h).2⟩
end
end
end PD

/-! PDF: displays, subscripts, slices, built-ins. -/
namespace PD
open PySem PySem.Spec PyProof.Rows L2
def allD : List A → Option (List D)
  | [] => some []
  | .d x :: xs => (allD xs).map (x :: ·)
  | _ :: _ => none
theorem RepAs.all {K : PySem.W.Frag} {κ : Kp} {F : Hp} : ∀ {vs : List V} {xs : List A} {ds : List D}, RepAs K κ F vs xs → allD xs = some ds → RepAll K F vs ds
  | _, _, _, .nil, e => by cases e; exact .nil
  | _, .d x :: xs, ds, .cons r t, e => by
    cases q : allD xs with
    | none => simp [allD, q] at e
    | some es =>
      simp [allD, q] at e
      subst e
      exact .cons r (RepAs.all t q)
  | _, .c _ :: _, _, .cons _ _, e => by cases e
  | _, .s _ :: _, _, .cons _ _, e => by cases e
  | _, .e _ :: _, _, .cons _ _, e => by cases e
section
variable {X : Cx} {Z : WX}
/-! ### displays -/
def fTup (fs : List Fe) : Fe := fun ρ S => evs fs ρ S fun xs S1 => match allD xs with
  | some ds => .ok (.a (.d (.tuple ds))) S1
  | none => .stuck
def fLst (fs : List Fe) : Fe := fun ρ S => evsW fs ρ S fun ws S1 => .ok (.own ws) S1
theorem evs_len {K : PySem.W.Frag} {mg : Str → Option Value} {κ : Kp} {ρ : En} {σ : L2.St} {Q : VK} : ∀ {fs : List Fe} {F H : Hp} {S : Cs} {k : List A → Cs → R} {Q' : List V → Hp → Prop}, At K κ F ρ S σ H → Post K mg Z κ F H σ (evs fs ρ S k) Q →
    (∀ vs H1 F1 S1 xs, Nxt κ F H F1 H1 → At K κ F1 ρ S1 σ H1 → RepAs K κ F1 vs xs → vs.length = fs.length → Post K mg Z κ F1 H1 σ (k xs S1) Q → Q' vs H1) → tvs K mg Z fs σ H Q'
  | [], F, H, S, k, Q', t, p, g => g [] H F S [] (.refl t.fh) t .nil rfl p
  | f :: fs, F, H, S, k, Q', t, p, g => by
    show tCons (tv K mg Z f) (tvs K mg Z fs) σ H Q'
    refine at_bind t p fun v H1 F1 S1 x n1 t1 r1 p1 => ?_
    refine evs_len t1 p1 fun vs H2 F2 S2 xs n2 t2 r2 l2 p2 => ?_
    exact g (v :: vs) H2 F2 S2 (x :: xs) (n1.trans n2) t2 (.cons (r1.up n2.ff) r2) (congrArg (· + 1) l2) p2
theorem ve_tup {es : List Expr} {fs : List Fe} {k : Nat} {pos : Pos} (h : VA X Z es fs) (hl : fs.length ≤ 1000 := by decide) : VE X Z (.Tuple es k pos) (fTup fs) := (pe_tup h).imp fun σ H Q q => by
  obtain ⟨κ, F, ρ, S, t, p⟩ := q
  refine evs_len t p fun vs H1 F1 S1 xs n1 t1 r1 l1 p1 => ⟨Nat.le_of_lt (small1000 (l1 ▸ hl)), fun l hn => ?_⟩
  cases e : allD xs with
  | none => simp only [e] at p1; exact p1.elim
  | some ds =>
    simp only [e] at p1
    exact p1.tup t1 (r1.all e) hn
theorem ve_lst {es : List Expr} {fs : List Fe} {pos : Pos} (h : VA X Z es fs) (hl : fs.length ≤ 1000 := by decide) : VE X Z (.List es pos) (fLst fs) := (pe_lst h).imp fun σ H Q q => by
  obtain ⟨κ, F, ρ, S, t, p⟩ := q
  refine at_evsW (.refl t.fh) t p fun vs H1 F1 S1 ws L n1 t1 r1 nd1 nw1 l1 p1 => ⟨Nat.le_of_lt (small1000 (l1 ▸ hl)), fun l hn => ?_⟩
  have n2 : Nxt κ F1 H1 F1 (upd H1 l (.lst vs)) := Nxt.newH t1.fh hn
  refine p1 (.ref l) _ F1 (l :: L) (n1.trans n2) (t1.cel.newH t1.fh hn) ⟨l, vs, L, rfl, upd_same, rfl, RepWs.up n2.ff ws vs L (fun a ha o e => ?_) r1⟩ (List.nodup_cons.mpr ⟨fun ha => ?_, nd1⟩) fun a ha => ?_
  · rw [upd_ne (ne_of_none e hn)]; exact e
  · obtain ⟨us, hu⟩ := RepWs.there ws vs L r1 l ha
    rw [hu] at hn; cases hn
  · rcases List.mem_cons.mp ha with rfl | ha
    · exact ⟨n1.back (frT_none hn), t1.fh.free hn⟩
    · exact nw1 a ha
/-! ### subscripts -/
def dIx : A → A → Cs → R := fun x y S => match x, y with
  | .d (.list ds), .d (.int i) => match atI ds i with
    | some d => .ok (.a (.d d)) S
    | none => .stuck
  | .d (.tuple ds), .d (.int i) => match atI ds i with
    | some d => .ok (.a (.d d)) S
    | none => .stuck
  | .d (.str z), .d (.int i) => if z.length ≤ sizeLine then match atI z.cps.toList i with
    | some c => .ok (sD ⟨#[c]⟩) S
    | none => .stuck else .stuck
  | .s ns, .d (.int i) => match atI ns i with
    | some n => .ok (iD n) S
    | none => .stuck
  | .c k, .d (.int i) => match S[k]? with
    | some ds => match atI ds i with
      | some d => .ok (.a (.d d)) S
      | none => .stuck
    | none => .stuck
  | _, _ => .stuck
theorem RepAll.atI {K : PySem.W.Frag} {F : Hp} {vs : List V} {ds : List D} {i : Int} {d : D} (r : RepAll K F vs ds) (e : L2.atI ds i = some d) : ∃ v, L2.atI vs i = some v ∧ Rep K F v d := by
  unfold L2.atI at e ⊢
  rw [r.len]
  cases q : ixN ds.length i with
  | none => rw [q] at e; cases e
  | some j =>
    rw [q] at e
    exact RepAll.get r (show ds[j]? = some d from e)
theorem atI_map {α β : Type} {f : α → β} {xs : List α} {i : Int} {x : α} (e : L2.atI xs i = some x) : L2.atI (xs.map f) i = some (f x) := by
  unfold L2.atI at e ⊢
  rw [List.length_map]
  cases q : ixN xs.length i with
  | none => rw [q] at e; cases e
  | some j =>
    rw [q] at e
    show (xs.map f)[j]? = some (f x)
    rw [List.getElem?_map, show xs[j]? = some x from e]
    rfl
theorem ops_ix {K : PySem.W.Frag} {mg : Str → Option Value} : OpS K mg Z (rIx K) dIx := fun κ F ρ S σ H v u x y Q t r1 r2 p => by
  unfold dIx at p
  split at p
  · split at p
    · rename_i e
      obtain ⟨a, vs, rfl, h, q⟩ := Rep.lstv r1
      obtain ⟨w, h1, h2⟩ := q.atI e
      rw [Rep.intv r2]
      exact .inl ⟨a, vs, _, w, rfl, rfl, .of (t.fh _ _ h), h1, p.a t h2⟩
    · exact p.elim
  · split at p
    · rename_i e
      obtain ⟨a, vs, rfl, h, q⟩ := Rep.tupv r1
      obtain ⟨w, h1, h2⟩ := q.atI e
      rw [Rep.intv r2]
      exact .inr (.inl ⟨a, vs, _, w, rfl, rfl, Same.seqT t.fh h, h1, p.a t h2⟩)
    · exact p.elim
  · split at p
    · rename_i hz
      split at p
      · rename_i c e
        rw [Rep.strv r1, Rep.intv r2]
        exact .inr (.inr ⟨_, _, c, rfl, rfl, hz, e, p.str t⟩)
      · exact p.elim
    · exact p.elim
  · split at p
    · rename_i e
      obtain ⟨a, rfl, h⟩ := r1
      rw [Rep.intv r2]
      exact .inl ⟨a, _, _, _, rfl, rfl, t.fh.seq h, atI_map e, p.int t⟩
    · exact p.elim
  · split at p
    · rename_i e
      split at p
      · rename_i e2
        obtain ⟨a, ha, rfl⟩ := r1
        obtain ⟨vs, h1, h2⟩ := t.cel.cl _ a _ ha e
        obtain ⟨w, h3, h4⟩ := h2.atI e2
        rw [Rep.intv r2]
        exact .inl ⟨a, vs, _, w, rfl, rfl, .of h1, h3, p.a t h4⟩
      · exact p.elim
    · exact p.elim
  · exact p.elim
theorem ve_at {a b : Expr} {fa fb : Fe} {pos : Pos} (ha : VE X Z a fa) (hb : VE X Z b fb) (hs : PlainIx b := by intro _ _; rfl) : VE X Z (.Subscript a b pos) (fBin dIx fa fb) := ve_ix ix_seq ops_ix ha hb hs
/-! ### slices -/
def cutD (ds : List D) (lo hi : Option Int) : List D := (ds.drop (HT.sIx ds.length 0 lo)).take (HT.sIx ds.length ds.length hi - HT.sIx ds.length 0 lo)
def dSl (lo hi : Option Int) : D → Option W
  | .list ds => some (ownD (cutD ds lo hi))
  | .tuple ds => some (.a (.d (.tuple (cutD ds lo hi))))
  | .str z => if z.length ≤ sizeLine then some (sD (cutS z lo hi)) else none
  | _ => none
theorem RepAll.cut {K : PySem.W.Frag} {F : Hp} {vs : List V} {ds : List D} {lo hi : Option Int} (r : RepAll K F vs ds) : RepAll K F (cutV vs lo hi) (cutD ds lo hi) := by
  unfold cutV cutD
  rw [r.len]
  exact (r.drop _).take _
theorem cutD_whole {ds : List D} {lo hi : Option Int} (h : HT.sIx ds.length 0 lo = 0 ∧ HT.sIx ds.length ds.length hi = ds.length) : cutD ds lo hi = ds := by
  unfold cutD
  rw [h.1, h.2]
  simp
def optI : Option Fe → En → Cs → (Option Int → Cs → R) → R
  | none, _, S, k => k none S
  | some f, ρ, S, k => (f ρ S).bnd fun x S1 => match x with
    | .d (.int i) => k (some i) S1
    | _ => .stuck
def fSl (fa : Fe) (lo hi : Option Fe) : Fe := fun ρ S => (fa ρ S).bnd fun x S1 => optI lo ρ S1 fun l S2 => optI hi ρ S2 fun h S3 => onD1 (dSl l h) x S3
def tvo (K : PySem.W.Frag) (mg : Str → Option Value) (Z : WX) : Option Fe → TO
  | none => tNoPart
  | some f => tPart (tv K mg Z f)
abbrev VO (X : Cx) (Z : WX) (e : Option Expr) (f : Option Fe) : Prop := PO X e (tvo X.K X.mg Z f)
theorem vo_none : VO X Z none none := po_none
theorem vo_some {e : Expr} {f : Fe} (h : VE X Z e f) : VO X Z (some e) (some f) := po_some h
theorem at_opt {K : PySem.W.Frag} {mg : Str → Option Value} {κ : Kp} {F H : Hp} {ρ : En} {S : Cs} {σ : L2.St} {Q : VK} {Q' : Option Int → Hp → Prop} {o : Option Fe} {k : Option Int → Cs → R} (t : At K κ F ρ S σ H) (p : Post K mg Z κ F H σ (optI o ρ S k) Q)
    (g : ∀ i H1 F1 S1, Nxt κ F H F1 H1 → At K κ F1 ρ S1 σ H1 → Post K mg Z κ F1 H1 σ (k i S1) Q → Q' i H1) : tvo K mg Z o σ H Q' := by
  cases o with
  | none => exact g none H F S (.refl t.fh) t p
  | some f =>
    refine at_bind t p fun v H1 F1 S1 x n1 t1 r1 p1 => ?_
    match x, r1, p1 with
    | .d (.int i), r, p => exact ⟨i, Rep.intv r, g (some i) H1 F1 S1 n1 t1 p⟩
    | .d (.bool _), _, p => exact p.elim
    | .d .none, _, p => exact p.elim
    | .d (.str _), _, p => exact p.elim
    | .d (.list _), _, p => exact p.elim
    | .d (.tuple _), _, p => exact p.elim
    | .d (.dict _), _, p => exact p.elim
    | .c _, _, p => exact p.elim
    | .s _, _, p => exact p.elim
    | .e _, _, p => exact p.elim
theorem ve_sl {a : Expr} {lo hi : Option Expr} {fa : Fe} {fl fh : Option Fe} {p2 pos : Pos} (ha : VE X Z a fa) (hl : VO X Z lo fl) (hh : VO X Z hi fh) : VE X Z (.Subscript a (.Slice lo hi none p2) pos) (fSl fa fl fh) :=
  (pe_slice ((sl_list.or sl_tupA).or sl_str) ha hl hh).imp fun σ H Q q => by
    obtain ⟨κ, F, ρ, S, t, p⟩ := q
    refine at_bind t p fun v H1 F1 S1 x n1 t1 r1 p1 => ?_
    refine at_opt t1 p1 fun l H2 F2 S2 n2 t2 p2 => ?_
    refine at_opt t2 p2 fun h H3 F3 S3 n3 t3 p3 => ?_
    have r3 := (r1.up n2.ff).up n3.ff
    cases x with
    | c k => exact p3.elim
    | s k => exact p3.elim
    | e k => exact p3.elim
    | d x =>
      unfold onD1 at p3
      cases x with
      | list ds =>
        obtain ⟨a, vs, rfl, h1, h2⟩ := Rep.lstv r3
        exact .inl (.inl ⟨a, vs, rfl, .of (t3.fh _ _ h1), fun l hn => Post.lst p3 t3 h2.cut hn⟩)
      | tuple ds =>
        obtain ⟨a, vs, rfl, h1, h2⟩ := Rep.tupv r3
        refine .inl (.inr ⟨a, vs, rfl, Same.seqT t3.fh h1, fun z => ?_, fun _ l hn => Post.tup p3 t3 h2.cut hn⟩)
        rw [h2.len] at z
        have p4 := p3
        simp only [dSl, cutD_whole z] at p4
        exact Post.a p4 t3 r3
      | str z =>
        simp only [dSl] at p3
        by_cases hz : z.length ≤ sizeLine
        · rw [if_pos hz] at p3
          rw [Rep.strv r3]
          exact .inr ⟨z, rfl, hz, Post.str p3 t3⟩
        · rw [if_neg hz] at p3
          exact p3.elim
      | _ => exact p3.elim
def dRev : D → Option W
  | .list ds => some (ownD ds.reverse)
  | _ => none
theorem RepAll.rev {K : PySem.W.Frag} {F : Hp} : ∀ {vs : List V} {ds : List D}, RepAll K F vs ds → RepAll K F vs.reverse ds.reverse
  | _, _, .nil => .nil
  | v :: vs, d :: ds, .cons r t => by
    rw [List.reverse_cons, List.reverse_cons]
    exact (RepAll.rev t).app (.cons r .nil)
theorem ve_rev {a : Expr} {fa : Fe} {k : Nat} {p1 p2 p3 pos : Pos} (ha : VE X Z a fa) : VE X Z (.Subscript a (.Slice none none (some (.UnaryOp .USub (.Constant (.int 1) k p1) p2)) p3) pos) (fUn (onD1 dRev) fa) :=
  (pe_revL ha).imp fun σ H Q q => tUn_of (r := fun x H1 Q => ∃ a xs, x = .ref a ∧ SqL X.K H1 a xs ∧ ∀ p, H1 p = none → Q (.ref p) (upd H1 p (.lst xs.reverse))) (OpS1.onD fun κ F ρ S σ H v x w Q t r e p => by
    cases x <;> (try (exact nomatch (show (none : Option W) = some w from e)))
    cases e
    obtain ⟨a, vs, rfl, h1, h2⟩ := r.lstv
    exact ⟨a, vs, rfl, .of (t.fh _ _ h1), fun l hn => p.lst t h2.rev hn⟩) q
end
end PD

/-! PDG: calls of built-ins, methods of texts. -/
namespace PD
open PySem PySem.Spec PyProof.Rows L2
section
variable {X : Cx} {Z : WX}
/-- one argument, data -/
def on1 (g : D → Option W) : List A → Cs → R
  | [.d x], S => match g x with
    | some w => .ok w S
    | none => .stuck
  | _, _ => .stuck
theorem OpSs.on1 {K : PySem.W.Frag} {mg : Str → Option Value} {r : List V → Hp → VK → Prop} {g : D → Option W} (h : ∀ κ F ρ S σ H v x w Q, At K κ F ρ S σ H → Rep K F v x → g x = some w → Post K mg Z κ F H σ (.ok w S) Q → r [v] H Q) : OpSs K mg Z r (on1 g) := by
  intro κ F ρ S σ H vs xs Q t r p
  unfold PD.on1 at p
  split at p
  · cases r with
    | cons r1 rn =>
      cases rn
      split at p
      · rename_i e
        exact h κ F ρ S σ H _ _ _ Q t r1 e p
      · exact p.elim
  · exact p.elim
/-! ### len -/
def gLen : List A → Cs → R
  | [.d (.str x)], S => if x.length ≤ sizeLine then .ok (iD x.length) S else .stuck
  | [.d (.list ds)], S => .ok (iD ds.length) S
  | [.d (.tuple ds)], S => .ok (iD ds.length) S
  | [.s ns], S => .ok (iD ns.length) S
  | _, _ => .stuck
theorem ops_len {K : PySem.W.Frag} {mg : Str → Option Value} : OpSs K mg Z (fun xs H Q => (∃ p ys, xs = [.ref p] ∧ (SqL K H p ys ∨ SqT K H p ys) ∧ Q (.int ys.length) H) ∨ ∃ z, xs = [.str z] ∧ z.length ≤ sizeLine ∧ Q (.int z.length) H) gLen := by
  intro κ F ρ S σ H vs xs Q t r p
  unfold gLen at p
  split at p
  · cases r with
    | cons r1 rn =>
      cases rn
      split at p
      · rename_i hz
        rw [Rep.strv r1]
        exact .inr ⟨_, rfl, hz, p.int t⟩
      · exact p.elim
  · cases r with
    | cons r1 rn =>
      cases rn
      obtain ⟨a, vs, rfl, h1, h2⟩ := Rep.lstv r1
      refine .inl ⟨a, vs, rfl, .inl (.of (t.fh _ _ h1)), ?_⟩
      rw [h2.len]
      exact p.int t
  · cases r with
    | cons r1 rn =>
      cases rn
      obtain ⟨a, vs, rfl, h1, h2⟩ := Rep.tupv r1
      refine .inl ⟨a, vs, rfl, .inr (Same.seqT t.fh h1), ?_⟩
      rw [h2.len]
      exact p.int t
  · cases r with
    | cons r1 rn =>
      cases rn
      obtain ⟨a, rfl, h⟩ := r1
      refine .inl ⟨a, _, rfl, .inl (t.fh.seq h), ?_⟩
      rw [List.length_map]
      exact p.int t
  · exact p.elim
section
variable {e e2 : Expr} {f f2 : Fe} {p p2 pos : Pos} {x : Str}
theorem ve_len (hx : Gl X "len") (hm : X.mg "len" = none) (ha : VE X Z e f) (he : starEach [e] X.env = (false, eval e X.env) :: starEach [] X.env := by rfl) : VE X Z (.Call (.Name "len" p) [e] [] pos) (fCall gLen [f]) :=
  ve_callB (call_len_seq.or call_len_str) ops_len hx hm boot_len (va_cons ha va_nil he) (by decide) (by decide) he
/-! ### all, any, sum -/
def boolsOf : List D → Option (List Bool)
  | [] => some []
  | .bool b :: ds => (boolsOf ds).map (b :: ·)
  | _ :: _ => none
def intsOf : List D → Option (List Int)
  | [] => some []
  | .int b :: ds => (intsOf ds).map (b :: ·)
  | _ :: _ => none
def strsOf : List D → Option (List Str)
  | [] => some []
  | .str b :: ds => (strsOf ds).map (b :: ·)
  | _ :: _ => none
theorem RepAll.bls {K : PySem.W.Frag} {F : Hp} : ∀ {vs : List V} {ds : List D} {bs : List Bool}, RepAll K F vs ds → boolsOf ds = some bs → vs = bs.map V.bl
  | _, _, _, .nil, e => by cases e; rfl
  | v :: vs, d :: ds, bs, .cons r t, e => by
    cases d with
    | bool b =>
      cases q : boolsOf ds with
      | none => simp [boolsOf, q] at e
      | some cs =>
        simp [boolsOf, q] at e
        subst e
        rw [r.blv, RepAll.bls t q]
        rfl
    | _ => cases e
theorem RepAll.ints {K : PySem.W.Frag} {F : Hp} : ∀ {vs : List V} {ds : List D} {bs : List Int}, RepAll K F vs ds → intsOf ds = some bs → vs = bs.map V.int
  | _, _, _, .nil, e => by cases e; rfl
  | v :: vs, d :: ds, bs, .cons r t, e => by
    cases d with
    | int b =>
      cases q : intsOf ds with
      | none => simp [intsOf, q] at e
      | some cs =>
        simp [intsOf, q] at e
        subst e
        rw [r.intv, RepAll.ints t q]
        rfl
    | _ => cases e
theorem RepAll.strs {K : PySem.W.Frag} {F : Hp} : ∀ {vs : List V} {ds : List D} {bs : List Str}, RepAll K F vs ds → strsOf ds = some bs → vs = bs.map V.str
  | _, _, _, .nil, e => by cases e; rfl
  | v :: vs, d :: ds, bs, .cons r t, e => by
    cases d with
    | str b =>
      cases q : strsOf ds with
      | none => simp [strsOf, q] at e
      | some cs =>
        simp [strsOf, q] at e
        subst e
        rw [r.strv, RepAll.strs t q]
        rfl
    | _ => cases e
def dAll : D → Option W
  | .list ds => (boolsOf ds).map fun bs => bD (bs.all id)
  | _ => none
def dAny : D → Option W
  | .list ds => (boolsOf ds).map fun bs => bD (bs.any id)
  | _ => none
def dSum : D → Option W
  | .list ds => (intsOf ds).map fun bs => iD bs.sum
  | _ => none
theorem ve_all (hc : X.calm = true) (hx : Gl X "all") (hm : X.mg "all" = none) (ha : VE X Z e f) (he : starEach [e] X.env = (false, eval e X.env) :: starEach [] X.env := by rfl) : VE X Z (.Call (.Name "all" p) [e] [] pos) (fCall (on1 dAll) [f]) :=
  ve_callB (cr_all hc) (OpSs.on1 fun κ F ρ S σ H v x w Q t r e p => by
    cases x <;> (try (exact nomatch (show (none : Option W) = some w from e)))
    rename_i ds
    have e' : (boolsOf ds).map (fun bs => bD (bs.all id)) = some w := e
    cases q : boolsOf ds with
    | none => rw [q] at e'; cases e'
    | some bs =>
      rw [q] at e'
      cases e'
      obtain ⟨a, vs, rfl, h1, h2⟩ := r.lstv
      exact ⟨a, bs, rfl, .of (by rw [← h2.bls q]; exact t.fh _ _ h1), p.bl t⟩) hx hm (by decide +kernel) (va_cons ha va_nil he) (by decide) (by decide) he
theorem ve_any (hc : X.calm = true) (hx : Gl X "any") (hm : X.mg "any" = none) (ha : VE X Z e f) (he : starEach [e] X.env = (false, eval e X.env) :: starEach [] X.env := by rfl) : VE X Z (.Call (.Name "any" p) [e] [] pos) (fCall (on1 dAny) [f]) :=
  ve_callB (cr_any hc) (OpSs.on1 fun κ F ρ S σ H v x w Q t r e p => by
    cases x <;> (try (exact nomatch (show (none : Option W) = some w from e)))
    rename_i ds
    have e' : (boolsOf ds).map (fun bs => bD (bs.any id)) = some w := e
    cases q : boolsOf ds with
    | none => rw [q] at e'; cases e'
    | some bs =>
      rw [q] at e'
      cases e'
      obtain ⟨a, vs, rfl, h1, h2⟩ := r.lstv
      exact ⟨a, bs, rfl, .of (by rw [← h2.bls q]; exact t.fh _ _ h1), p.bl t⟩) hx hm (by decide +kernel) (va_cons ha va_nil he) (by decide) (by decide) he
theorem ve_sum (hc : X.calm = true) (hx : Gl X "sum") (hm : X.mg "sum" = none) (ha : VE X Z e f) (he : starEach [e] X.env = (false, eval e X.env) :: starEach [] X.env := by rfl) : VE X Z (.Call (.Name "sum" p) [e] [] pos) (fCall (on1 dSum) [f]) :=
  ve_callB (cr_sum hc) (OpSs.on1 fun κ F ρ S σ H v x w Q t r e p => by
    cases x <;> (try (exact nomatch (show (none : Option W) = some w from e)))
    rename_i ds
    have e' : (intsOf ds).map (fun bs => iD bs.sum) = some w := e
    cases q : intsOf ds with
    | none => rw [q] at e'; cases e'
    | some bs =>
      rw [q] at e'
      cases e'
      obtain ⟨a, vs, rfl, h1, h2⟩ := r.lstv
      exact ⟨a, bs, rfl, .of (by rw [← h2.ints q]; exact t.fh _ _ h1), p.int t⟩) hx hm (by decide +kernel) (va_cons ha va_nil he) (by decide) (by decide) he
/-! ### int, str, tuple, list -/
def dInt : D → Option W
  | .int i => some (iD i)
  | .bool b => some (iD (if b then 1 else 0))
  | .str x => if x.length ≤ 640 then (PySem.intText? x).map iD else none
  | _ => none
def dStr : D → Option W
  | .int i => if i.natAbs.log2 < 1920 then some (sD (toString i)) else none
  | _ => none
def dTup : D → Option W
  | .list ds => some (.a (.d (.tuple ds)))
  | .tuple ds => some (.a (.d (.tuple ds)))
  | _ => none
def dLis : D → Option W
  | .list ds => some (ownD ds)
  | .tuple ds => some (ownD ds)
  | _ => none
theorem ve_int1 (hx : Gl X "int") (hm : X.mg "int" = none) (ha : VE X Z e f) (he : starEach [e] X.env = (false, eval e X.env) :: starEach [] X.env := by rfl) : VE X Z (.Call (.Name "int" p) [e] [] pos) (fCall (on1 dInt) [f]) :=
  ve_callTy (call_int1.or call_int_str) (OpSs.on1 fun κ F ρ S σ H v x w Q t r e p => by
    cases x <;> (try (exact nomatch (show (none : Option W) = some w from e)))
    · cases e
      rw [r.blv]
      exact .inl (.inr ⟨_, rfl, p.int t⟩)
    · cases e
      rw [r.intv]
      exact .inl (.inl ⟨_, rfl, p.int t⟩)
    · simp only [dInt] at e
      split at e
      · rename_i z hz
        cases q : PySem.intText? z with
        | none => rw [q] at e; cases e
        | some n =>
          rw [q] at e
          cases e
          rw [r.strv]
          exact .inr ⟨z, n, rfl, q, hz, p.int t⟩
      · cases e) hx hm (by decide +kernel) (va_cons ha va_nil he) (by decide) (by decide) he
theorem ve_str1 (hx : Gl X "str") (hm : X.mg "str" = none) (ha : VE X Z e f) (he : starEach [e] X.env = (false, eval e X.env) :: starEach [] X.env := by rfl) : VE X Z (.Call (.Name "str" p) [e] [] pos) (fCall (on1 dStr) [f]) :=
  ve_callTy call_str_int (OpSs.on1 fun κ F ρ S σ H v x w Q t r e p => by
    cases x <;> (try (exact nomatch (show (none : Option W) = some w from e)))
    simp only [dStr] at e
    split at e
    · rename_i hz
      cases e
      rw [r.intv]
      exact ⟨_, rfl, hz, p.str t⟩
    · cases e) hx hm (by decide +kernel) (va_cons ha va_nil he) (by decide) (by decide) he
theorem ve_tuple (hx : Gl X "tuple") (hm : X.mg "tuple" = none) (ha : VE X Z e f) (he : starEach [e] X.env = (false, eval e X.env) :: starEach [] X.env := by rfl) : VE X Z (.Call (.Name "tuple" p) [e] [] pos) (fCall (on1 dTup) [f]) :=
  ve_callTy call_tuple_of (OpSs.on1 fun κ F ρ S σ H v x w Q t r e p => by
    cases x <;> (try (exact nomatch (show (none : Option W) = some w from e)))
    · cases e
      obtain ⟨a, vs, rfl, h1, h2⟩ := r.lstv
      exact ⟨a, vs, rfl, .inl ⟨.of (t.fh _ _ h1), fun l hl => p.tup t h2 hl⟩⟩
    · cases e
      obtain ⟨a, vs, rfl, h1, h2⟩ := r.tupv
      exact ⟨a, vs, rfl, .inr ⟨Same.seqT t.fh h1, p.a t (show Rep X.K F _ _ from .tup h1 h2)⟩⟩) hx hm (by decide +kernel) (va_cons ha va_nil he) (by decide) (by decide) he
theorem ve_list (hx : Gl X "list") (hm : X.mg "list" = none) (ha : VE X Z e f) (he : starEach [e] X.env = (false, eval e X.env) :: starEach [] X.env := by rfl) : VE X Z (.Call (.Name "list" p) [e] [] pos) (fCall (on1 dLis) [f]) :=
  ve_callTy call_list_of (OpSs.on1 fun κ F ρ S σ H v x w Q t r e p => by
    cases x <;> (try (exact nomatch (show (none : Option W) = some w from e)))
    · cases e
      obtain ⟨a, vs, rfl, h1, h2⟩ := r.lstv
      exact ⟨a, vs, rfl, .inl (.of (t.fh _ _ h1)), fun l hl => p.lst t h2 hl⟩
    · cases e
      obtain ⟨a, vs, rfl, h1, h2⟩ := r.tupv
      exact ⟨a, vs, rfl, .inr (Same.seqT t.fh h1), fun l hl => p.lst t h2 hl⟩) hx hm (by decide +kernel) (va_cons ha va_nil he) (by decide) (by decide) he
/-! ### max, min of two ints -/
def gMax2 (f : Int → Int → Int) : List A → Cs → R
  | [.d (.int i), .d (.int j)], S => .ok (iD (f i j)) S
  | _, _ => .stuck
theorem ops_max2 {f : Int → Int → Int} {K : PySem.W.Frag} {mg : Str → Option Value} : OpSs K mg Z (fun xs H Q => ∃ i j, xs = [.int i, .int j] ∧ Q (.int (f i j)) H) (gMax2 f) := by
  intro κ F ρ S σ H vs xs Q t r p
  unfold gMax2 at p
  split at p
  · cases r with
    | cons r1 rn =>
      cases rn with
      | cons r2 rn =>
        cases rn
        rw [Rep.intv r1, Rep.intv r2]
        exact ⟨_, _, rfl, p.int t⟩
  · exact p.elim
theorem ve_max2 (hc : X.calm = true) (hx : Gl X "max") (hm : X.mg "max" = none) (ha : VE X Z e f) (hb : VE X Z e2 f2) (he : starEach [e, e2] X.env = (false, eval e X.env) :: starEach [e2] X.env := by rfl) (he2 : starEach [e2] X.env = (false, eval e2 X.env) :: starEach [] X.env := by rfl)
    (hpl : (backTo pos (starEach [e2] X.env)).any (·.1) = false := by rfl) : VE X Z (.Call (.Name "max" p) [e, e2] [] pos) (fCall (gMax2 fun i j => if j > i then j else i) [f, f2]) :=
  ve_callB (call_max2 hc) ops_max2 hx hm (by decide +kernel) (va_cons ha (va_cons hb va_nil he2) he) (by decide) (by decide) he hpl
theorem ve_min2 (hc : X.calm = true) (hx : Gl X "min") (hm : X.mg "min" = none) (ha : VE X Z e f) (hb : VE X Z e2 f2) (he : starEach [e, e2] X.env = (false, eval e X.env) :: starEach [e2] X.env := by rfl) (he2 : starEach [e2] X.env = (false, eval e2 X.env) :: starEach [] X.env := by rfl)
    (hpl : (backTo pos (starEach [e2] X.env)).any (·.1) = false := by rfl) : VE X Z (.Call (.Name "min" p) [e, e2] [] pos) (fCall (gMax2 fun i j => if j < i then j else i) [f, f2]) :=
  ve_callB (call_min2 hc) ops_max2 hx hm (by decide +kernel) (va_cons ha (va_cons hb va_nil he2) he) (by decide) (by decide) he hpl
/-! ### isinstance -/
def tyD : D → String
  | .none => "NoneType" | .bool _ => "bool" | .int _ => "int" | .str _ => "str" | .list _ => "list" | .tuple _ => "tuple" | .dict _ => "dict"
def isiD (T : String) (d : D) : Bool := tyD d == T || (T == "int" && tyD d == "bool")
def isTy (T : String) : Bool := T == "int" || T == "bool" || T == "str" || T == "list" || T == "tuple"
theorem kit_all {K : PySem.W.Frag} {d : D} {T : String} (h : isTy T = true) : PySem.W.kitOne K (.type (tyD d)) (.type T) = some (isiD T d) := by
  have key : ∀ a ∈ ["NoneType", "bool", "int", "str", "list", "tuple", "dict"], ∀ b ∈ ["int", "bool", "str", "list", "tuple"], kitB a b = some (a == b || (b == "int" && a == "bool")) := by decide +kernel
  refine kit_ty (key _ ?_ _ ?_)
  · cases d <;> simp [tyD]
  · unfold isTy at h
    simp only [Bool.or_eq_true, beq_iff_eq] at h
    rcases h with (((rfl | rfl) | rfl) | rfl) | rfl <;> simp
theorem Rep.tyx {K : PySem.W.Frag} {F H : Hp} {v : V} (e : Same F H) : ∀ {d : D}, Rep K F v d → TyX K H v (.type (tyD d))
  | .none, .non => .base .non
  | .bool _, .bl b => .base (.bl b)
  | .int _, .int i => .base (.int i)
  | .str _, .str x => .base (.str x)
  | .list _, .lst h _ => .base (.lst (e _ _ h))
  | .tuple _, .tup h _ => by
    rcases h with (h | ⟨o, h⟩) | h
    · exact .base (.tup (e _ _ h))
    · exact .fTuple (e _ _ h)
    · obtain ⟨o, its, n, h1, h2, _⟩ := h
      exact .kTuple h1 h2
  | .dict _, .dct h => by
    rcases h with h | ⟨o, h⟩
    · exact .base (.dK (e _ _ h))
    · exact .fDict (e _ _ h)
def dIsi (T : String) (d : D) : Option W := if isTy T = true then some (bD (isiD T d)) else none
theorem pa2 {a b : Expr} {ta tb : TE} (ha : PE X a ta) (hb : PE X b tb) (he : starEach [a, b] X.env = (false, eval a X.env) :: starEach [b] X.env) (he2 : starEach [b] X.env = (false, eval b X.env) :: starEach [] X.env) : PA X [a, b] (tCons ta (tCons tb tNil)) := pa_cons ha (pa_cons hb pa_nil he2) he
theorem ve_isi {T : String} {pt : Pos} (hx : Gl X "isinstance") (hm : X.mg "isinstance" = none) (ha : VE X Z e f) (hT : Gl X (Str.ofString T)) (hmT : X.mg (Str.ofString T) = none) (hv : bootBuiltins (Str.ofString T) = some (.type T))
    (hnT : (Str.ofString T) ≠ "__name__" := by decide) (hdT : ((Str.ofString T) == ("__debug__" : Str)) = false := by decide)
    (he : starEach [e, .Name (Str.ofString T) pt] X.env = (false, eval e X.env) :: starEach [.Name (Str.ofString T) pt] X.env := by rfl) (he2 : starEach [.Name (Str.ofString T) pt] X.env = (false, eval (.Name (Str.ofString T) pt) X.env) :: starEach [] X.env := by rfl)
    (hpl : (backTo pos (starEach [.Name (Str.ofString T) pt] X.env)).any (·.1) = false := by rfl) :
    VE X Z (.Call (.Name "isinstance" p) [e, .Name (Str.ofString T) pt] [] pos) (fUn (onD1 (dIsi T)) f) :=
  (pe_callB call_isi hx hm (by decide +kernel) (pa2 ha (pe_bltn (v := .ty T) (u := .type T) hT hmT hv rfl hnT hdT) he he2) (by decide) (by decide) he hpl).imp fun σ H Q q => by
    show tv X.K X.mg Z f σ H fun x H1 => rIsi X.K [x, .ty T] H1 Q
    refine tUn_of (r := fun x H1 Q => rIsi X.K [x, .ty T] H1 Q) (OpS1.onD fun κ F ρ S σ H v x w Q t r e p => ?_) q
    unfold dIsi at e
    split at e
    · rename_i h
      cases e
      exact ⟨v, .ty T, _, _, _, rfl, .ty T, r.tyx t.fh, kit_all h, p.bl t⟩
    · cases e
def dIsi2 (T T' : String) (d : D) : Option W := if isTy T = true ∧ isTy T' = true then some (bD (isiD T d || isiD T' d)) else none
theorem ve_isi2 {T T' : String} {pt pt' ptt : Pos} {k : Nat} (hx : Gl X "isinstance") (hm : X.mg "isinstance" = none) (ha : VE X Z e f) (hT : Gl X (Str.ofString T)) (hmT : X.mg (Str.ofString T) = none) (hv : bootBuiltins (Str.ofString T) = some (.type T))
    (hT' : Gl X (Str.ofString T')) (hmT' : X.mg (Str.ofString T') = none) (hv' : bootBuiltins (Str.ofString T') = some (.type T'))
    (hnT : (Str.ofString T) ≠ "__name__" := by decide) (hdT : ((Str.ofString T) == ("__debug__" : Str)) = false := by decide) (hnT' : (Str.ofString T') ≠ "__name__" := by decide) (hdT' : ((Str.ofString T') == ("__debug__" : Str)) = false := by decide)
    (he : starEach [e, .Tuple [.Name (Str.ofString T) pt, .Name (Str.ofString T') pt'] k ptt] X.env = (false, eval e X.env) :: starEach [.Tuple [.Name (Str.ofString T) pt, .Name (Str.ofString T') pt'] k ptt] X.env := by rfl)
    (he2 : starEach [.Tuple [.Name (Str.ofString T) pt, .Name (Str.ofString T') pt'] k ptt] X.env = (false, eval (.Tuple [.Name (Str.ofString T) pt, .Name (Str.ofString T') pt'] k ptt) X.env) :: starEach [] X.env := by rfl)
    (he3 : starEach [.Name (Str.ofString T) pt, .Name (Str.ofString T') pt'] X.env = (false, eval (.Name (Str.ofString T) pt) X.env) :: starEach [.Name (Str.ofString T') pt'] X.env := by rfl) (he4 : starEach [.Name (Str.ofString T') pt'] X.env = (false, eval (.Name (Str.ofString T') pt') X.env) :: starEach [] X.env := by rfl)
    (hpl : (backTo pos (starEach [.Tuple [.Name (Str.ofString T) pt, .Name (Str.ofString T') pt'] k ptt] X.env)).any (·.1) = false := by rfl) :
    VE X Z (.Call (.Name "isinstance" p) [e, .Tuple [.Name (Str.ofString T) pt, .Name (Str.ofString T') pt'] k ptt] [] pos) (fUn (onD1 (dIsi2 T T')) f) :=
  (pe_callB call_isiT hx hm (by decide +kernel) (pa2 ha (pe_tup (pa2 (pe_bltn (v := .ty T) (u := .type T) hT hmT hv rfl hnT hdT) (pe_bltn (v := .ty T') (u := .type T') hT' hmT' hv' rfl hnT' hdT') he3 he4)) he he2) (by decide) (by decide) he hpl).imp fun σ H Q q => by
    refine tUn_of (r := fun x H1 Q => (2 ≤ sizeLine ∧ ∀ p, H1 p = none → rIsiT X.K [x, .ref p] (upd H1 p (.tup [.ty T, .ty T'])) Q)) (OpS1.onD fun κ F ρ S σ H v x w Q t r e p => ?_) q
    unfold dIsi2 at e
    split at e
    · rename_i h
      cases e
      refine ⟨by decide, fun l hl => ?_⟩
      have n : Nxt κ F H (upd F l (.tup [.ty T, .ty T'])) (upd H l (.tup [.ty T, .ty T'])) := Nxt.newF t.fh hl
      have t2 := t.nxt n (t.cel.newF t.fh hl)
      refine ⟨v, l, _, _, [.type T, .type T'], isiD T x || isiD T' x, rfl, upd_same, .cons (.ty T) (.cons (.ty T') .nil), (Rep.up n.ff _ _ r).tyx t2.fh, kitAny_cons (kit_all h.1) (fun z => ?_) (fun z => by rw [z]; rfl), Post.bl (p.up n) t2⟩
      refine kitAny_cons (kit_all h.2) (fun z' => ?_) (fun z' => by rw [z']; simp)
      rw [z, z']
      exact kitAny_nil
    · cases e
end
end
end PD

/-! PDH: enumerate and zip over lists, tuples and texts. -/
namespace PySem
open PyProof.Rows
set_option maxHeartbeats 1000000 in
theorem meets_enumerate_newB1 {v : Value} {o : Obj} {H : Heap → Prop} (B : Begins v o H) :
    Meets (Builtin.«enumerate.__new__» ⟨[.type "enumerate", v], []⟩) (fun _ R s => H s.heap ∧
      R (.ok (.ret (.ref (s.heap.push o).objs.size))) { s with heap := (s.heap.push o).push { cls := .type "enumerate", data := .fields #[.none, .bool false, .ref s.heap.objs.size, rawInt 0, .none, .none] } }) :=
  .of_wp fun prog w A R s h => by
    obtain ⟨hp, g, d, tk, os⟩ := s; obtain ⟨h1, h⟩ := h
    have hsub := sub_enumerate
    have q1 : ∀ {A' : Around} {E : Value → Shared → Prop} {Q : Value → Shared → Prop}, Q (.ref hp.objs.size) ⟨hp.push o, g, d, tk, os⟩ → wpAny (model prog w) A' (pyIter v) Q E ⟨hp, g, d, tk, os⟩ :=
      fun q => B.iter prog w _ _ ⟨hp, g, d, tk, os⟩ _ h1 q
    wp_walk using q1
    refine wpAny_stack_any fun st => wpAny_pure ?_
    split
    · rename_i c _ _ _ _ _
      cases (c == Value.type "enumerate")
      · wp_walk using q1
        exact ⟨_, rfl, h⟩
      · wp_walk using q1
        exact ⟨_, rfl, h⟩
    · wp_walk using q1
      exact ⟨_, rfl, h⟩
theorem enum_begins1 {prog : Program} {w : World} {A : Around} {E : Value → Shared → Prop} {s : Shared} {v : Value} {o : Obj} {H : Heap → Prop} {Q : Value → Shared → Prop} (B : Begins v o H) (h1 : H s.heap)
    (h : ∀ h', IsEnum h' (s.heap.objs.size + 1) s.heap.objs.size 0 .none → h'.get? s.heap.objs.size = some o → h'.objs.size = s.heap.objs.size + 2 →
      (∀ b o, s.heap.get? b = some o → h'.get? b = some o) → Q (.ref (s.heap.objs.size + 1)) { s with heap := h' }) :
    wpAny (model prog w) A (call (.type "enumerate") [v]) Q E s := by
  refine callType_new F.called_enumerate (by decide) (F.typeCall_enumerate_1 _) (F.newCall_enumerate_1 _) (fun obj => F.args_object_init_2 obj _) F.entry_enumerate_new
    (meets_enumerate_newB1 B) ⟨h1, ?_⟩
  have hz : (s.heap.push o).objs.size = s.heap.objs.size + 1 := Heap.size_push ..
  show _ ∧ _
  rw [hz]
  have he : IsEnum ((s.heap.push o).push { cls := .type "enumerate", data := .fields #[.none, .bool false, .ref s.heap.objs.size, rawInt 0, .none, .none] }) (s.heap.objs.size + 1) s.heap.objs.size 0 .none := by
    have := Heap.get?_push_size (s.heap.push o) (o := { cls := .type "enumerate", data := .fields #[.none, .bool false, .ref s.heap.objs.size, rawInt 0, .none, .none] }) rfl
    rw [hz] at this; exact this
  exact ⟨⟨_, he, rfl⟩, h _ he (Heap.get?_push_of_some _ (Heap.get?_push_size _ B.free)) (by rw [Heap.size_push, hz]) fun b o x => Heap.get?_push_of_some _ (Heap.get?_push_of_some _ x)⟩
end PySem
namespace PD
open PySem PySem.Spec PyProof.Rows L2
/-- what is walked: a list, a tuple, a text -/
inductive SK where
  | l (a : Addr) | t (a : Addr) | s (x : Str) (tk : Tok)
def SK.it (k : SK) (it : Addr) (i : Nat) (h : Heap) : Prop := match k with
  | .l a => h.IsListIter it a i
  | .t a => h.IsTupleIter it a i
  | .s x tk => h.IsStrIter it (strIterType x) x tk i
def SK.st (K : PySem.W.Frag) (H : Hp) (k : SK) (xs : List V) : Prop := match k with
  | .l a => SqL K H a xs
  | .t a => SqT K H a xs
  | .s x _ => xs = x.cps.toList.map fun c => V.str ⟨#[c]⟩
def SK.fp (k : SK) : List Addr := match k with
  | .l a => [a]
  | .t a => [a]
  | .s _ _ => []
def SK.u (k : SK) : Value := match k with
  | .l a => .ref a
  | .t a => .ref a
  | .s x tk => .str x tk
theorem SK.st_inj {X : Cx} {pins : List (Addr × Obj)} {σ : L2.St} {H : Hp} {s : Shared} (I : Inv X pins σ H s) : ∀ {k : SK} {xs ys : List V}, k.st X.K H xs → k.st X.K H ys → xs = ys
  | .l a, _, _, h1, h2 => I.list_inj h1 h2
  | .t a, _, _, h1, h2 => I.tuple_inj h1 h2
  | .s _ _, _, _, h1, h2 => h1.trans h2.symm
theorem sk_lt {X : Cx} {pins : List (Addr × Obj)} {σ : L2.St} {H : Hp} {s : Shared} (I : Inv X pins σ H s) {xs : List V} : ∀ {k : SK}, k.st X.K H xs → ∀ a ∈ k.fp, a < s.heap.objs.size
  | .l a, h, b, hb => by
    obtain ⟨its, _, ⟨o, n, e, _⟩, _⟩ := I.list h
    have : b = a := by simpa [SK.fp] using hb
    rw [this]; exact Heap.lt_size e
  | .t a, h, b, hb => by
    obtain ⟨its, _, ⟨o, e, _⟩, _⟩ := I.tuple h
    have : b = a := by simpa [SK.fp] using hb
    rw [this]; exact Heap.lt_size e
  | .s _ _, _, b, hb => by simp [SK.fp] at hb
theorem sk_begin {X : Cx} {pins : List (Addr × Obj)} {σ : L2.St} {H : Hp} {s : Shared} (I : Inv X pins σ H s) {xs : List V} : ∀ {k : SK}, k.st X.K H xs → ∃ (o : Obj) (Hh : Heap → Prop), Begins k.u o Hh ∧ Hh s.heap ∧ ∀ it (h' : Heap), h'.get? it = some o → k.it it 0 h'
  | .l a, h => by
    obtain ⟨its, _, p, _⟩ := I.list h
    exact ⟨_, _, begins_list a its.toArray, p.isList, fun it h' e => ⟨_, e, rfl, rfl⟩⟩
  | .t a, h => by
    obtain ⟨its, _, p, _⟩ := I.tuple h
    exact ⟨_, _, begins_tuple a its.toArray, p, fun it h' e => ⟨_, e, rfl, rfl⟩⟩
  | .s x tk, h => ⟨_, _, begins_text x tk, True.intro, fun it h' e => ⟨_, e, rfl, rfl⟩⟩
theorem sk_draw {X : Cx} {pins : List (Addr × Obj)} {σ : L2.St} {H : Hp} {s : Shared} (I : Inv X pins σ H s) {xs : List V} {it : Addr} : ∀ {k : SK}, k.st X.K H xs → (∀ a ∈ k.fp, a ≠ it) →
    ∃ (P : Nat → Value → Prop) (St : Nat → Heap → Prop), (∀ A : Around, A.handled = none → Draws X.prog X.w A it (it :: k.fp) xs.length P St) ∧ (∀ i, k.it it i s.heap → St i s.heap) ∧ (∀ i h', St i h' → k.it it i h') ∧ ∀ i u, P i u → ∃ x, xs[i]? = some x ∧ RelV x u
  | .l a, h, hne => by
    obtain ⟨its, rv, p, _⟩ := I.list h
    have hl : its.toArray.size = xs.length := by rw [List.size_toArray]; exact rv.length.symm
    refine ⟨fun i v => its.toArray[i]? = some v, fun i h => h.IsListIter it a i ∧ h.IsList a its.toArray, fun A hA => by rw [← hl]; exact Draws.list hA it a (hne a (by simp [SK.fp])) its.toArray, fun i hi => ⟨hi, p.isList⟩, fun i h' st => st.1, fun i u hu => ?_⟩
    have hu' : its[i]? = some u := by simpa using hu
    have hi : i < xs.length := by
      rw [rv.length]
      exact (List.getElem?_eq_some_iff.mp hu').1
    obtain ⟨u2, e2, r2⟩ := rv.get (List.getElem?_eq_getElem hi)
    rw [hu'] at e2
    cases e2
    exact ⟨_, List.getElem?_eq_getElem hi, r2⟩
  | .t a, h, hne => by
    obtain ⟨its, rv, p, _⟩ := I.tuple h
    have hl : its.toArray.size = xs.length := by rw [List.size_toArray]; exact rv.length.symm
    refine ⟨fun i v => its.toArray[i]? = some v, fun i h => h.IsTupleIter it a i ∧ h.IsTuple a its.toArray, fun A hA => by rw [← hl]; exact Draws.tuple hA it a (hne a (by simp [SK.fp])) its.toArray, fun i hi => ⟨hi, p⟩, fun i h' st => st.1, fun i u hu => ?_⟩
    have hu' : its[i]? = some u := by simpa using hu
    have hi : i < xs.length := by
      rw [rv.length]
      exact (List.getElem?_eq_some_iff.mp hu').1
    obtain ⟨u2, e2, r2⟩ := rv.get (List.getElem?_eq_getElem hi)
    rw [hu'] at e2
    cases e2
    exact ⟨_, List.getElem?_eq_getElem hi, r2⟩
  | .s x tk, h, hne => by
    have h' : xs = x.cps.toList.map fun c => V.str ⟨#[c]⟩ := h
    have hl : x.cps.size = xs.length := by rw [h']; simp
    refine ⟨_, _, fun A hA => by rw [← hl]; exact Draws.text hA it x tk, fun i hi => hi, fun i h' st => st, fun i u hu => ?_⟩
    obtain ⟨c, t, e, rfl⟩ := hu
    refine ⟨.str ⟨#[c]⟩, ?_, ⟨t, rfl⟩⟩
    rw [h', List.getElem?_map]
    have e2 : x.cps.toList[i]? = some c := by simpa using e
    rw [e2]
    rfl
/-! ### enumerate -/
def ItE (K : PySem.W.Frag) (k : SK) : It :=
  ⟨fun i H => ∃ (xs : List V) (x : V), k.st K H xs ∧ xs[i]? = some x, fun i H v H' => ∃ T x, v = .ref T ∧ H T = none ∧ H' = upd H T (.tup [.int (i : Nat), x]) ∧ ∀ xs, k.st K H xs → xs[i]? = some x, fun i H => ∃ xs : List V, k.st K H xs ∧ i = xs.length⟩
theorem SK.it_at {k : SK} {it : Addr} {i : Nat} {h h' : Heap} (q : k.it it i h) (e : ∀ o, h.get? it = some o → h'.get? it = some o) : k.it it i h' := by
  cases k with
  | l a => exact Heap.IsListIter.at q e
  | t a => exact Heap.IsTupleIter.at q e
  | s x tk => obtain ⟨o, h1, h2⟩ := q; exact ⟨o, e o h1, h2⟩
theorem SK.it_get {k : SK} {it : Addr} {i : Nat} {h : Heap} (q : k.it it i h) : ∃ o, h.get? it = some o ∧ ∀ v, o.data ≠ .cell v := by
  cases k with
  | l a => obtain ⟨o, h1, h2, h3⟩ := q; exact ⟨o, h1, fun v z => by rw [h3] at z; cases z⟩
  | t a => obtain ⟨o, h1, h2, h3⟩ := q; exact ⟨o, h1, fun v z => by rw [h3] at z; cases z⟩
  | s x tk => obtain ⟨o, h1, h2, h3⟩ := q; exact ⟨o, h1, fun v z => by rw [h3] at z; cases z⟩
theorem turn_enumK {P : Program} {w : World} {K : PySem.W.Frag} {elts : List Expr} {kk : Nat} {tpos : Pos} (k : SK) (e it : Addr) (hf : ∀ a ∈ k.fp, a < it) (hei : it < e) :
    Turn P w K (.Tuple elts kk tpos) (ItE K k) [e, it] e (fun i h => (∃ old, IsEnum h e it ((i : Nat) : Int) old) ∧ k.it it i h) where
  mem := by simp
  obj := fun i h st b hb => by
    obtain ⟨⟨old, he⟩, hi⟩ := st
    have e' : b = e ∨ b = it := by simpa using hb
    rcases e' with z | z
    · rw [z]; exact ⟨_, he, fun v q => nomatch q⟩
    · rw [z]; exact SK.it_get hi
  keep := fun i h h' st k => let ⟨⟨old, he⟩, hi⟩ := st; ⟨⟨old, k e (by simp) _ he⟩, SK.it_at hi fun o q => k it (by simp) o q⟩
  item := by
    intro X hP hw hK hc i pins s σ H E I hfp st hg
    subst hP hw hK
    obtain ⟨⟨old, he⟩, hit⟩ := st
    obtain ⟨xs, x, hq, hx⟩ := hg
    have hi : i < xs.length := (List.getElem?_eq_some_iff.mp hx).1
    have hne : ∀ a ∈ k.fp, a ≠ it := fun a ha => Nat.ne_of_lt (hf a ha)
    obtain ⟨Pp, St, dr, toS, ofS, val⟩ := sk_draw I hq hne
    have hee : e ∉ it :: k.fp := fun hm => by
      rcases List.mem_cons.mp hm with z | hm
      · rw [z] at hei; exact Nat.lt_irrefl _ hei
      · exact Nat.lt_irrefl _ (Nat.lt_trans (hf e hm) hei)
    have hei' : e ≠ it := Nat.ne_of_gt hei
    have W := WalksT.enumFrom (prog := X.prog) (w := X.w) (A := X.A) (P := Pp) (St := St) 0 (dr X.A.in1 (I.ok.hd hc)) e hei' hee (by simp)
    have heS : ∃ old, IsEnum s.heap e it ((0 : Int) + (i : Int)) old := ⟨old, by rw [Int.zero_add]; exact he⟩
    refine W.item i s _ _ hi ⟨heS, toS i hit⟩ fun T vals h' tk hP hT hT2 hm hk => ?_
    refine ⟨_, rfl, W.go elts kk tpos i T { s with heap := h', toks := tk } _ _ hm fun h'' st'' hk' => ?_⟩
    obtain ⟨t, u, hu, rfl⟩ := hP
    obtain ⟨x', e', ru⟩ := val i u hu
    rw [hx] at e'
    cases e'
    have hnT : T ∉ [e, it] := W.apart i T h' hm
    obtain ⟨oT, hoT, hcT, nT, hdT⟩ := hT2
    have hT3 : h''.IsTuple T #[.int (0 + (i : Int)) t, u] := ⟨oT, hk' T oT hnT hoT, hcT, nT, hdT⟩
    have new : ObjOk X.prog X.w (upd H T (.tup [.int (i : Nat), x])) h'' T (.tup [.int (i : Nat), x]) :=
      ⟨by show 2 ≤ sizeLine; decide, [.int (0 + (i : Int)) t, u], .cons ⟨t, by rw [Int.zero_add]⟩ (.cons ru .nil), hT3⟩
    have I1 : Inv X pins σ (upd H T (.tup [.int (i : Nat), x])) { s with heap := h'', toks := tk } :=
      I.turnedNew (ch := [e, it]) (fun b ob hb q => hk' b ob hb (hk b ob hb q)) hfp hT new
    refine ⟨.ref T, _, I1, rfl, ⟨_, x, rfl, I.hok.fresh hT, rfl, fun ys hy => by rw [SK.st_inj I hy hq]; exact hx⟩, ⟨?_, ofS _ _ st''.2⟩, fun b hb => ?_⟩
    · obtain ⟨old2, z⟩ := st''.1
      refine ⟨old2, ?_⟩
      have e1 : (0 : Int) + ((i + 1 : Nat) : Int) = ((i + 1 : Nat) : Int) := by omega
      rw [e1] at z
      exact z
    · have hb' : b < s.heap.objs.size := by
        have e' : b = e ∨ b = it := by simpa using hb
        rcases e' with z | z
        · rw [z]; exact Heap.lt_size he
        · rw [z]; obtain ⟨o, ho, _⟩ := SK.it_get hit; exact Heap.lt_size ho
      rw [upd_ne (Nat.ne_of_lt (Nat.lt_of_lt_of_le hb' hT))]
      exact (hfp b hb).1
  done := by
    intro X hP hw hK hc i pins s σ H E I hfp st hg
    subst hP hw hK
    obtain ⟨⟨old, he⟩, hit⟩ := st
    obtain ⟨xs, hq, hx⟩ := hg
    have hne : ∀ a ∈ k.fp, a ≠ it := fun a ha => Nat.ne_of_lt (hf a ha)
    obtain ⟨Pp, St, dr, toS, ofS, val⟩ := sk_draw I hq hne
    have hee : e ∉ it :: k.fp := fun hm => by
      rcases List.mem_cons.mp hm with z | hm
      · rw [z] at hei; exact Nat.lt_irrefl _ hei
      · exact Nat.lt_irrefl _ (Nat.lt_trans (hf e hm) hei)
    have hei' : e ≠ it := Nat.ne_of_gt hei
    have W := WalksT.enumFrom (prog := X.prog) (w := X.w) (A := X.A) (P := Pp) (St := St) 0 (dr X.A.in1 (I.ok.hd hc)) e hei' hee (by simp)
    subst hx
    have heS : ∃ old, IsEnum s.heap e it ((0 : Int) + ((xs.length : Nat) : Int)) old := ⟨old, by rw [Int.zero_add]; exact he⟩
    exact W.done s _ _ ⟨heS, toS _ hit⟩ fun h' tk hk => ⟨rfl, I.turnedL (ch := [e, it]) hk hfp⟩
  self := fun A i s Q E st h => let ⟨⟨_, he⟩, _⟩ := st; wpAny_pyIter_enum he h
/-! ### zip -/
def ItZ (K : PySem.W.Frag) (k1 k2 : SK) : It :=
  ⟨fun i H => ∃ (xs ys : List V) (x y : V), k1.st K H xs ∧ k2.st K H ys ∧ xs[i]? = some x ∧ ys[i]? = some y,
    fun i H v H' => ∃ T x y, v = .ref T ∧ H T = none ∧ H' = upd H T (.tup [x, y]) ∧ (∀ xs, k1.st K H xs → xs[i]? = some x) ∧ ∀ ys, k2.st K H ys → ys[i]? = some y,
    fun i H => ∃ xs ys : List V, k1.st K H xs ∧ k2.st K H ys ∧ i = min xs.length ys.length⟩
theorem turn_zipK {P : Program} {w : World} {K : PySem.W.Frag} {elts : List Expr} {kk : Nat} {tpos : Pos} (k1 k2 : SK) (N : Nat) (hf1 : ∀ a ∈ k1.fp, a < N) (hf2 : ∀ a ∈ k2.fp, a < N) :
    Turn P w K (.Tuple elts kk tpos) (ItZ K k1 k2) [N + 4, N + 2, N + 3, N, N + 1] (N + 4) (fun i h => IsZip h (N + 4) (N + 2) (N + 3) .none ∧ IsTupOf2 h (N + 2) (.ref N) (.ref (N + 1)) ∧ (∃ a1 a2, IsTupOf2 h (N + 3) a1 a2) ∧ k1.it N i h ∧ k2.it (N + 1) i h) where
  mem := by simp
  obj := fun i h st b hb => by
    obtain ⟨h1, h2, ⟨a1, a2, h3⟩, h4, h5⟩ := st
    have e' : b = N + 4 ∨ b = N + 2 ∨ b = N + 3 ∨ b = N ∨ b = N + 1 := by simpa using hb
    rcases e' with z | z | z | z | z
    · rw [z]; exact ⟨_, h1, fun v q => nomatch q⟩
    · rw [z]; exact ⟨_, h2, fun v q => nomatch q⟩
    · rw [z]; exact ⟨_, h3, fun v q => nomatch q⟩
    · rw [z]; exact SK.it_get h4
    · rw [z]; exact SK.it_get h5
  keep := fun i h h' st k => by
    obtain ⟨h1, h2, ⟨a1, a2, h3⟩, h4, h5⟩ := st
    exact ⟨k _ (by simp) _ h1, k _ (by simp) _ h2, ⟨a1, a2, k _ (by simp) _ h3⟩, SK.it_at h4 fun o q => k N (by simp) o q, SK.it_at h5 fun o q => k (N + 1) (by simp) o q⟩
  item := by
    intro X hP hw hK hc i pins s σ H E I hfp st hg
    subst hP hw hK
    obtain ⟨h1, h2, h3, h4, h5⟩ := st
    obtain ⟨xs, ys, x, y, q1, q2, hx, hy⟩ := hg
    have hi1 : i < xs.length := (List.getElem?_eq_some_iff.mp hx).1
    have hi2 : i < ys.length := (List.getElem?_eq_some_iff.mp hy).1
    obtain ⟨P1, St1, dr1, toS1, ofS1, val1⟩ := sk_draw (it := N) I q1 fun a ha => Nat.ne_of_lt (hf1 a ha)
    obtain ⟨P2, St2, dr2, toS2, ofS2, val2⟩ := sk_draw (it := N + 1) I q2 fun a ha => Nat.ne_of_lt (Nat.lt_succ_of_lt (hf2 a ha))
    have W := WalksT.zipD2 (prog := X.prog) (w := X.w) (A := X.A) (zip_sep2 hf1 hf2) (dr1 X.A.in1 (I.ok.hd hc)) (dr2 X.A.in1 (I.ok.hd hc))
    refine W.item i s _ _ (by omega) ⟨h1, h2, h3, toS1 i h4, toS2 i h5⟩ fun T vals h' tk hP hT hT2 hm hk => ?_
    refine ⟨_, rfl, W.go elts kk tpos i T { s with heap := h', toks := tk } _ _ hm fun h'' st'' hk' => ?_⟩
    obtain ⟨u, v, hu, hv, rfl⟩ := hP
    obtain ⟨x', e', ru⟩ := val1 i u hu
    obtain ⟨y', e2', rv⟩ := val2 i v hv
    rw [hx] at e'
    cases e'
    rw [hy] at e2'
    cases e2'
    have hnT : T ∉ [N + 4, N + 3, N, N + 1] := W.apart i T h' hm
    obtain ⟨oT, hoT, hcT, nT, hdT⟩ := hT2
    have hT3 : h''.IsTuple T #[u, v] := ⟨oT, hk' T oT hnT hoT, hcT, nT, hdT⟩
    have new : ObjOk X.prog X.w (upd H T (.tup [x, y])) h'' T (.tup [x, y]) := ⟨by show 2 ≤ sizeLine; decide, [u, v], .cons ru (.cons rv .nil), hT3⟩
    have sub : ∀ b ∈ [N + 4, N + 3, N, N + 1], b ∈ [N + 4, N + 2, N + 3, N, N + 1] := fun b hb => by
      have e' : b = N + 4 ∨ b = N + 3 ∨ b = N ∨ b = N + 1 := by simpa using hb
      rcases e' with z | z | z | z <;> rw [z] <;> simp
    have I1 : Inv X pins σ (upd H T (.tup [x, y])) { s with heap := h'', toks := tk } :=
      I.turnedNew (ch := [N + 4, N + 3, N, N + 1]) (fun b ob hb q => hk' b ob hb (hk b ob hb q)) (fun b hb => hfp b (sub b hb)) hT new
    refine ⟨.ref T, _, I1, rfl, ⟨_, x, y, rfl, I.hok.fresh hT, rfl, fun zs hz => by rw [SK.st_inj I hz q1]; exact hx, fun zs hz => by rw [SK.st_inj I hz q2]; exact hy⟩, ⟨st''.1, st''.2.1, st''.2.2.1, ofS1 _ _ st''.2.2.2.1, ofS2 _ _ st''.2.2.2.2⟩, fun b hb => ?_⟩
    have hb' : b < s.heap.objs.size := by
      have e' : b = N + 4 ∨ b = N + 2 ∨ b = N + 3 ∨ b = N ∨ b = N + 1 := by simpa using hb
      rcases e' with z | z | z | z | z
      · rw [z]; exact Heap.lt_size h1
      · rw [z]; exact Heap.lt_size h2
      · rw [z]; obtain ⟨a1, a2, h3⟩ := h3; exact Heap.lt_size h3
      · rw [z]; obtain ⟨o, ho, _⟩ := SK.it_get h4; exact Heap.lt_size ho
      · rw [z]; obtain ⟨o, ho, _⟩ := SK.it_get h5; exact Heap.lt_size ho
    rw [upd_ne (Nat.ne_of_lt (Nat.lt_of_lt_of_le hb' hT))]
    exact (hfp b hb).1
  done := by
    intro X hP hw hK hc i pins s σ H E I hfp st hg
    subst hP hw hK
    obtain ⟨h1, h2, h3, h4, h5⟩ := st
    obtain ⟨xs, ys, q1, q2, hx⟩ := hg
    obtain ⟨P1, St1, dr1, toS1, ofS1, val1⟩ := sk_draw (it := N) I q1 fun a ha => Nat.ne_of_lt (hf1 a ha)
    obtain ⟨P2, St2, dr2, toS2, ofS2, val2⟩ := sk_draw (it := N + 1) I q2 fun a ha => Nat.ne_of_lt (Nat.lt_succ_of_lt (hf2 a ha))
    have W := WalksT.zipD2 (prog := X.prog) (w := X.w) (A := X.A) (zip_sep2 hf1 hf2) (dr1 X.A.in1 (I.ok.hd hc)) (dr2 X.A.in1 (I.ok.hd hc))
    subst hx
    have sub : ∀ b ∈ [N + 4, N + 3, N, N + 1], b ∈ [N + 4, N + 2, N + 3, N, N + 1] := fun b hb => by
      have e' : b = N + 4 ∨ b = N + 3 ∨ b = N ∨ b = N + 1 := by simpa using hb
      rcases e' with z | z | z | z <;> rw [z] <;> simp
    exact W.done s _ _ ⟨h1, h2, h3, toS1 _ h4, toS2 _ h5⟩ fun h' tk hk => ⟨rfl, I.turnedL (ch := [N + 4, N + 3, N, N + 1]) hk fun b hb => hfp b (sub b hb)⟩
  self := fun A i s Q E st h => wpAny_pyIter_zip st.1 h
end PD

/-! PDI: what loops and comprehensions walk, as lists of data. -/
namespace PD
open PySem PySem.Spec PyProof.Rows L2
/-- the items come in turn -/
def Yld (K : PySem.W.Frag) (κ : Kp) (F0 : Hp) (J : It) (items : List D) : Prop := ∀ (i : Nat) (F H : Hp), Same F0 F → Same F H →
  (∀ x, items[i]? = some x → J.go i H ∧ ∀ v H', J.yld i H v H' → ∃ F', Nxt κ F H F' H' ∧ (∀ b, H b ≠ none → H' b = H b) ∧ Rep K F' v x) ∧ (i = items.length → J.stop i H)
inductive SR where
  | ok (items : List D) (S : Cs) | exc (n : Str) (S : Cs) | stuck
abbrev Fi := En → Cs → SR
def IP (K : PySem.W.Frag) (mg : Str → Option Value) (Z : WX) (κ : Kp) (F H : Hp) (σ : L2.St) (r : SR) (Rr : It → Hp → Prop) : Prop := match r with
  | .ok items S' => ∀ J H' F', Nxt κ F H F' H' → Cel K κ F' H' S' → items.length ≤ sizeLine → Yld K κ F' J items → Rr J H'
  | .exc n S' => ∀ C H' F', mg n = some (.ref C) → Nxt κ F H F' H' → Cel K κ F' H' S' → Z (.ref C) none σ H'
  | .stuck => False
def tvi (K : PySem.W.Frag) (mg : Str → Option Value) (Z : WX) (src : Fi) : TI := fun σ H Rr => ∃ κ F ρ S, At K κ F ρ S σ H ∧ IP K mg Z κ F H σ (src ρ S) Rr
theorem IP.up {K : PySem.W.Frag} {mg : Str → Option Value} {Z : WX} {κ : Kp} {F H F1 H1 : Hp} {σ : L2.St} {r : SR} {Rr : It → Hp → Prop} (h : IP K mg Z κ F H σ r Rr) (n : Nxt κ F H F1 H1) : IP K mg Z κ F1 H1 σ r Rr := by
  cases r with
  | ok items S' => exact fun J H' F' a => h J H' F' (n.trans a)
  | exc m S' => exact fun C H' F' g a => h C H' F' g (n.trans a)
  | stuck => exact h
def R.bi (r : R) (k : A → Cs → SR) : SR := match r with
  | .ok w S => match w.toA with
    | some x => k x S
    | none => .stuck
  | .exc n S => .exc n S
  | .stuck => .stuck
theorem at_bi {K : PySem.W.Frag} {mg : Str → Option Value} {Z : WX} {κ : Kp} {F H : Hp} {ρ : En} {S : Cs} {σ : L2.St} {fa : Fe} {k : A → Cs → SR} {Rr : It → Hp → Prop} {Q' : VK} (t : At K κ F ρ S σ H) (p : IP K mg Z κ F H σ ((fa ρ S).bi k) Rr)
    (g : ∀ v H1 F1 S1 x, Nxt κ F H F1 H1 → At K κ F1 ρ S1 σ H1 → RepA K κ F1 v x → IP K mg Z κ F1 H1 σ (k x S1) Rr → Q' v H1) : tv K mg Z fa σ H Q' := by
  refine ⟨κ, F, ρ, S, t, ?_⟩
  cases q : fa ρ S with
  | stuck => rw [q] at p; exact p
  | exc m S1 => rw [q] at p; exact p
  | ok w S1 =>
    rw [q] at p
    intro v H1 F1 L n c r nd nw
    cases e : w.toA with
    | none => simp only [R.bi, e] at p; exact p.elim
    | some x =>
      simp only [R.bi, e] at p
      obtain ⟨F2, n2, c2, r2⟩ := frz_mix n c t.hk r nw e
      exact g v H1 F2 S1 x n2 (t.nxt n2 c2) r2 (p.up n2)
abbrev VI (X : Cx) (Z : WX) (tg iter : Expr) (src : Fi) : Prop := PI X tg iter (tvi X.K X.mg Z src)
/-- a sequence's items -/
def seqD : A → Option (List D)
  | .d (.list ds) => some ds
  | .d (.tuple ds) => some ds
  | .d (.str x) => if x.length ≤ sizeLine then some (x.cps.toList.map fun c => .str ⟨#[c]⟩) else none
  | .s ns => some (ns.map .int)
  | _ => none
theorem RepAll.intL {K : PySem.W.Frag} {F : Hp} : ∀ ns : List Int, RepAll K F (ns.map V.int) (ns.map PyData.int)
  | [] => .nil
  | n :: ns => .cons (.int n) (RepAll.intL ns)
theorem RepAll.signs {K : PySem.W.Frag} {F : Hp} : ∀ cs : List Nat, RepAll K F (cs.map fun c => V.str ⟨#[c]⟩) (cs.map fun c => PyData.str ⟨#[c]⟩)
  | [] => .nil
  | n :: ns => .cons (.str _) (RepAll.signs ns)
theorem sk_of {K : PySem.W.Frag} {κ : Kp} {F : Hp} {v : V} {u : Value} {x : A} {ds : List D} (r : RepA K κ F v x) (e : seqD x = some ds) (ru : RelV v u) : ∃ (k : SK) (xs : List V), k.u = u ∧ (∀ H, Same F H → k.st K H xs) ∧ RepAll K F xs ds := by
  unfold seqD at e
  split at e
  · cases e
    obtain ⟨a, vs, rfl, h, q⟩ := Rep.lstv r
    cases ru
    exact ⟨.l a, vs, rfl, fun H hs => .of (hs _ _ h), q⟩
  · cases e
    obtain ⟨a, vs, rfl, h, q⟩ := Rep.tupv r
    cases ru
    exact ⟨.t a, vs, rfl, fun H hs => Same.seqT hs h, q⟩
  · split at e
    · cases e
      rename_i z hz
      rw [Rep.strv r] at ru
      obtain ⟨t, rfl⟩ := ru
      exact ⟨.s z t, _, rfl, fun H hs => rfl, .signs _⟩
    · cases e
  · cases e
    obtain ⟨a, rfl, h⟩ := r
    cases ru
    exact ⟨.l a, _, rfl, fun H hs => hs.seq h, .intL _⟩
  · cases e
theorem sk_size {X : Cx} {pins : List (Addr × Obj)} {σ : L2.St} {H : Hp} {s : Shared} (I : Inv X pins σ H s) {xs : List V} : ∀ {k : SK}, k.st X.K H xs → (∀ z t, k ≠ .s z t) → xs.length ≤ sizeLine
  | .l a, h, _ => by obtain ⟨_, _, _, q⟩ := I.list h; exact q
  | .t a, h, _ => by obtain ⟨_, _, _, q⟩ := I.tuple h; exact q
  | .s z t, h, n => absurd rfl (n z t)
theorem seq_size {X : Cx} {pins : List (Addr × Obj)} {σ : L2.St} {H F : Hp} {s : Shared} {κ : Kp} {v : V} {x : A} {ds : List D} (I : Inv X pins σ H s) (fh : Same F H) (r : RepA X.K κ F v x) (e : seqD x = some ds) : ds.length ≤ sizeLine := by
  unfold seqD at e
  split at e
  · cases e
    obtain ⟨a, vs, rfl, h, q⟩ := Rep.lstv r
    obtain ⟨_, _, _, z⟩ := I.list (.of (fh _ _ h))
    rw [← q.len]; exact z
  · cases e
    obtain ⟨a, vs, rfl, h, q⟩ := Rep.tupv r
    obtain ⟨_, _, _, z⟩ := I.tuple (Same.seqT fh h)
    rw [← q.len]; exact z
  · split at e
    · rename_i z hz
      cases e
      rw [List.length_map]
      simpa [Str.length] using hz
    · cases e
  · cases e
    obtain ⟨a, rfl, h⟩ := r
    obtain ⟨_, _, _, z⟩ := I.list (fh.seq h)
    rw [List.length_map] at z ⊢
    exact z
  · cases e
def SR.of (o : Option (List D)) (S : Cs) : SR := match o with
  | some ds => .ok ds S
  | none => .stuck
def iSeq (f : Fe) : Fi := fun ρ S => (f ρ S).bi fun x S1 => SR.of (seqD x) S1
section
variable {X : Cx} {Z : WX}
theorem Yld.same {K : PySem.W.Frag} {κ : Kp} {F0 : Hp} {J : It} {xs : List V} {ds : List D} (r : RepAll K F0 xs ds) (hg : ∀ i H x, Same F0 H → xs[i]? = some x → J.go i H) (hy : ∀ i H v H', Same F0 H → J.yld i H v H' → H' = H ∧ xs[i]? = some v) (hs : ∀ H, Same F0 H → J.stop xs.length H) : Yld K κ F0 J ds := fun i F H h1 h2 => by
  refine ⟨fun x hx => ?_, fun hi => ?_⟩
  · obtain ⟨v, e, _⟩ := r.get hx
    refine ⟨hg i H v (h1.trans h2) e, fun v' H' y => ?_⟩
    obtain ⟨rfl, e'⟩ := hy i H v' H' (h1.trans h2) y
    rw [e] at e'
    cases e'
    obtain ⟨v2, e2, r2⟩ := r.get hx
    rw [e] at e2
    cases e2
    exact ⟨F, .refl h2, fun _ _ => rfl, Rep.up h1 _ _ r2⟩
  · rw [hi, ← r.len]
    exact hs H (h1.trans h2)
theorem vi_seq {tg e : Expr} {f : Fe} (h : VE X Z e f) : VI X Z tg e (iSeq f) := by
  refine ⟨fun pins s σ H Rr I q => ?_⟩
  obtain ⟨κ, F, ρ, S, t, p⟩ := q
  have key : tv X.K X.mg Z f σ H (fun v H1 => ∃ F1 S1 x ds, At X.K κ F1 ρ S1 σ H1 ∧ RepA X.K κ F1 v x ∧ seqD x = some ds ∧ ∀ J, ds.length ≤ sizeLine → Yld X.K κ F1 J ds → Rr J H1) := at_bi t p fun v H1 F1 S1 x n1 t1 r1 p1 => by
    cases e3 : seqD x with
    | none => rw [e3] at p1; exact p1.elim
    | some ds =>
      rw [e3] at p1
      exact ⟨F1, S1, x, ds, t1, r1, e3, fun J c d => p1 J H1 F1 (.refl t1.fh) t1.cel c d⟩
  refine thn (h.run pins s σ H _ I key) fun u s1 ⟨v, H1, I1, r1, F1, S1, x, ds, t1, ra, e1, q1⟩ => ?_
  have hz := seq_size I1 t1.fh ra e1
  obtain ⟨k, xs, rfl, hst, hr⟩ := sk_of ra e1 r1
  have fin := fun J => q1 J hz
  have old : ∀ b, b ∈ [s1.heap.objs.size] → FpOk X pins H1 b := fun b hb => by
    have e : b = s1.heap.objs.size := by simpa using hb
    subst e
    exact I1.fpOk (Nat.le_refl _) (I1.hok.fresh (Nat.le_refl _))
  cases k with
  | l a =>
    have hq : SqL X.K H1 a xs := hst H1 t1.fh
    obtain ⟨its, rv, p, _⟩ := I1.list hq
    refine wpAny_pyIter_list p.isList ?_
    refine ⟨s1.heap.objs.size, [s1.heap.objs.size], _, _, H1, rfl, I1.kept (t' := s1.toks) fun b o e => Heap.get?_push_of_some _ e, turn_list a _, ⟨_, Heap.get?_push_size _ rfl, rfl, rfl⟩, old, fin _ (Yld.same hr (fun i H x hs e => ⟨xs, x, hst H hs, e⟩) (fun i H v H' hs y => ⟨y.1, y.2 xs (hst H hs)⟩) fun H hs => ⟨xs, hst H hs, Nat.le_refl _⟩)⟩
  | t a =>
    have hq : SqT X.K H1 a xs := hst H1 t1.fh
    obtain ⟨its, rv, p, _⟩ := I1.tuple hq
    refine wpAny_pyIter_tuple (show s1.heap.IsTuple a its.toArray from p) ?_
    refine ⟨s1.heap.objs.size, [s1.heap.objs.size], _, _, H1, rfl, I1.kept (t' := s1.toks) fun b o e => Heap.get?_push_of_some _ e, turn_tuple a _, ⟨_, Heap.get?_push_size _ rfl, rfl, rfl⟩, old, fin _ (Yld.same hr (fun i H x hs e => ⟨xs, x, hst H hs, e⟩) (fun i H v H' hs y => ⟨y.1, y.2 xs (hst H hs)⟩) fun H hs => ⟨xs, hst H hs, Nat.le_refl _⟩)⟩
  | s z t =>
    have hq : xs = z.cps.toList.map fun c => V.str ⟨#[c]⟩ := hst H1 t1.fh
    have hl : z.cps.size = xs.length := by rw [hq]; simp
    have y : Yld X.K κ F1 (Its z) ds := Yld.same hr (fun i H x hs e => by
        show i < z.cps.size
        rw [hl]
        exact (List.getElem?_eq_some_iff.mp e).1) (fun i H v H' hs y => by
        obtain ⟨e1, c, e2, e3⟩ := y
        refine ⟨e1, ?_⟩
        rw [hq, List.getElem?_map, e3]
        have e4 : z.cps.toList[i]? = some c := by simpa using e2
        rw [e4]
        rfl) fun H hs => by
        show z.cps.size ≤ xs.length
        omega
    cases ha : z.cps.all (· < 128)
    · exact wpAny_pyIter_wide ha (pi_one (tk := s1.toks) I1 _ (turn_str _ z t "str_iterator" (.inr rfl)) ⟨_, Heap.get?_push_size _ rfl, rfl, rfl⟩ (fin _ y))
    · exact wpAny_pyIter_ascii ha (pi_one (tk := s1.toks) I1 _ (turn_str _ z t "str_ascii_iterator" (.inl rfl)) ⟨_, Heap.get?_push_size _ rfl, rfl, rfl⟩ (fin _ y))
/-! ### ranges -/
def rngD (lo : Int) (n : Nat) : List D := (List.range n).map fun (i : Nat) => .int (lo + (i : Int))
def rng1 : A → Option (List D)
  | .d (.int n) => if n ≤ 1000000 ∧ -1000000 ≤ n then some (rngD 0 n.toNat) else none
  | _ => none
def iRng1 (f : Fe) : Fi := fun ρ S => (f ρ S).bi fun x S1 => SR.of (rng1 x) S1
def rng2 : A → A → Option (List D)
  | .d (.int m), .d (.int n) => if n ≤ 1000000 ∧ -1000000 ≤ n ∧ m ≤ 1000000 ∧ -1000000 ≤ m then some (rngD m (n - m).toNat) else none
  | _, _ => none
def iRng2 (f g : Fe) : Fi := fun ρ S => (f ρ S).bi fun x S1 => (g ρ S1).bi fun y S2 => SR.of (rng2 x y) S2
theorem Yld.rng {K : PySem.W.Frag} {κ : Kp} {F0 : Hp} {lo : Int} {n : Nat} : Yld K κ F0 (Itr lo n) (rngD lo n) := fun i F H h1 h2 => by
  unfold rngD
  refine ⟨fun x hx => ?_, fun hi => ?_⟩
  · rw [List.getElem?_map] at hx
    cases q : (List.range n)[i]? with
    | none => rw [q] at hx; cases hx
    | some j =>
      rw [q] at hx
      cases hx
      obtain ⟨hi, e⟩ := List.getElem?_eq_some_iff.mp q
      rw [List.getElem_range] at e
      subst e
      rw [List.length_range] at hi
      refine ⟨hi, fun v' H' y => ?_⟩
      obtain ⟨rfl, rfl⟩ := y
      exact ⟨F, .refl h2, fun _ _ => rfl, .int _⟩
  · rw [hi, List.length_map, List.length_range]
    exact Nat.le_refl n
theorem rng_len {lo : Int} {n : Nat} (h : n ≤ 2000000) : (rngD lo n).length ≤ sizeLine := by
  unfold rngD
  rw [List.length_map, List.length_range, sizeLine_eq]
  omega
theorem vi_rng1 {tg a : Expr} {f : Fe} {p pos : Pos} (hg : Gl X "range") (hm : X.mg "range" = none) (ha : VE X Z a f) (he : starEach [a] X.env = (false, eval a X.env) :: starEach [] X.env := by rfl) : VI X Z tg (.Call (.Name "range" p) [a] [] pos) (iRng1 f) := by
  have hp := pi_range1 (tg := tg) (p := p) (pos := pos) hg hm (va_cons ha va_nil he) he
  refine ⟨fun pins s σ H Rr I q => hp.run pins s σ H Rr I ?_⟩
  obtain ⟨κ, F, ρ, S, t, p⟩ := q
  refine at_bi t p fun v H1 F1 S1 x n1 t1 r1 p1 => ?_
  cases e : rng1 x with
  | none => rw [e] at p1; exact p1.elim
  | some ds =>
    rw [e] at p1
    unfold rng1 at e
    split at e
    · split at e
      · rename_i n h
        cases e
        rw [Rep.intv r1]
        exact ⟨n, rfl, by omega, by omega, p1 _ H1 F1 (.refl t1.fh) t1.cel (rng_len (by omega)) Yld.rng⟩
      · cases e
    · cases e
theorem vi_rng2 {tg a b : Expr} {f g : Fe} {p pos : Pos} (hg : Gl X "range") (hm : X.mg "range" = none) (ha : VE X Z a f) (hb : VE X Z b g) (he : starEach [a, b] X.env = (false, eval a X.env) :: starEach [b] X.env := by rfl) (he2 : starEach [b] X.env = (false, eval b X.env) :: starEach [] X.env := by rfl) : VI X Z tg (.Call (.Name "range" p) [a, b] [] pos) (iRng2 f g) := by
  have hp := pi_range2 (tg := tg) (p := p) (pos := pos) hg hm (va_cons ha (va_cons hb va_nil he2) he) (by rw [he, he2] <;> rfl) (by rw [he2] <;> rfl)
  refine ⟨fun pins s σ H Rr I q => hp.run pins s σ H Rr I ?_⟩
  obtain ⟨κ, F, ρ, S, t, p⟩ := q
  refine at_bi t p fun v H1 F1 S1 x n1 t1 r1 p1 => ?_
  refine at_bi t1 p1 fun u H2 F2 S2 y n2 t2 r2 p2 => ?_
  cases e : rng2 x y with
  | none => rw [e] at p2; exact p2.elim
  | some ds =>
    rw [e] at p2
    unfold rng2 at e
    split at e
    · split at e
      · rename_i m n h
        cases e
        rw [Rep.intv r1, Rep.intv r2]
        exact ⟨m, n, rfl, by omega, p2 _ H2 F2 (.refl t2.fh) t2.cel (rng_len (by omega)) Yld.rng⟩
      · cases e
    · cases e
/-! ### enumerate, zip -/
def enumD (ds : List D) : List D := ds.zipIdx.map fun p => .tuple [.int (p.2 : Nat), p.1]
theorem enumD_get {ds : List D} {i : Nat} {x : D} : (enumD ds)[i]? = some x ↔ ∃ d, ds[i]? = some d ∧ x = .tuple [.int (i : Nat), d] := by
  unfold enumD
  rw [List.getElem?_map, List.getElem?_zipIdx]
  cases ds[i]? with
  | none => simp
  | some d => simp [eq_comm]
theorem enumD_len {ds : List D} : (enumD ds).length = ds.length := by simp [enumD]
def iEnum (f : Fe) : Fi := fun ρ S => (f ρ S).bi fun x S1 => SR.of ((seqD x).map enumD) S1
theorem vi_enum {e : Expr} {elts : List Expr} {kk : Nat} {f : Fe} {p pos tpos : Pos} (hg : Gl X "enumerate") (hm : X.mg "enumerate" = none) (ha : VE X Z e f) (he : starEach [e] X.env = (false, eval e X.env) :: starEach [] X.env := by rfl) : VI X Z (.Tuple elts kk tpos) (.Call (.Name "enumerate" p) [e] [] pos) (iEnum f) := by
  refine ⟨fun pins s σ H Rr I q => ?_⟩
  obtain ⟨κ, F, ρ, S, t, p⟩ := q
  have key : tvs X.K X.mg Z [f] σ H (fun vs H1 => ∃ v F1 S1 x ds, vs = [v] ∧ At X.K κ F1 ρ S1 σ H1 ∧ RepA X.K κ F1 v x ∧ seqD x = some ds ∧ ∀ J, ds.length ≤ sizeLine → Yld X.K κ F1 J (enumD ds) → Rr J H1) := at_bi t p fun v H1 F1 S1 x n1 t1 r1 p1 => by
    cases e3 : seqD x with
    | none => rw [e3] at p1; exact p1.elim
    | some ds =>
      rw [e3] at p1
      exact ⟨v, F1, S1, x, ds, rfl, t1, r1, e3, fun J c d => p1 J H1 F1 (.refl t1.fh) t1.cel (by rw [enumD_len]; exact c) d⟩
  refine Call_ (ld_blt I hg hm boot_enumerate (PyProof.Rows.callWith_type1 (thn ((va_cons ha va_nil he).run pos pins s σ H _ I key) fun us s1 ⟨vs, H1, I1, r1, q1⟩ => ?_) he rfl))
  obtain ⟨v, F1, S1, x, ds, rfl, t1, ra, e1, q1⟩ := q1
  cases r1 with
  | cons r rr =>
    cases rr
    have hz := seq_size I1 t1.fh ra e1
    obtain ⟨k, xs, rfl, hst, hr⟩ := sk_of ra e1 r
    have hq := hst H1 t1.fh
    obtain ⟨o, Hh, B, hh, h0⟩ := sk_begin I1 hq
    refine enum_begins1 B hh fun h' he' hit hsz hk => wpAny_pyIter_enum he' ?_
    have I2 : Inv X pins σ H1 { s1 with heap := h' } := I1.kept (t' := s1.toks) hk
    have hlt := sk_lt I1 hq
    refine ⟨s1.heap.objs.size + 1, [s1.heap.objs.size + 1, s1.heap.objs.size], _, _, H1, rfl, I2, turn_enumK k (s1.heap.objs.size + 1) s1.heap.objs.size hlt (Nat.lt_succ_self _), ⟨⟨.none, he'⟩, h0 _ _ hit⟩, fun b hb => ?_, q1 _ hz fun i F H h1 h2 => ⟨fun z hz' => ?_, fun hi => ?_⟩⟩
    · have e' : b = s1.heap.objs.size + 1 ∨ b = s1.heap.objs.size := by simpa using hb
      have hle : s1.heap.objs.size ≤ b := by
        rcases e' with z | z
        · rw [z]; exact Nat.le_add_right _ _
        · rw [z]; exact Nat.le_refl _
      exact I1.fpOk hle (I1.hok.fresh hle)
    · obtain ⟨d, hd, rfl⟩ := enumD_get.mp hz'
      obtain ⟨w, hw, rw'⟩ := hr.get hd
      refine ⟨⟨xs, w, hst H (h1.trans h2), hw⟩, fun v' H' y => ?_⟩
      obtain ⟨T, w', rfl, hT, rfl, hy⟩ := y
      have e2 := hy xs (hst H (h1.trans h2))
      rw [hw] at e2
      cases e2
      have n := Nxt.newF (κ := κ) (o := .tup [.int (i : Nat), w]) h2 hT
      exact ⟨_, n, fun b hb => upd_ne (fun z => hb (by rw [z]; exact hT)), .tup (.of upd_same) (.cons (.int _) (.cons (Rep.up (h1.trans n.ff) _ _ rw') .nil))⟩
    · rw [enumD_len] at hi
      exact ⟨xs, hst H (h1.trans h2), by rw [hi, hr.len]⟩
def zipD (ds es : List D) : List D := (ds.zip es).map fun p => .tuple [p.1, p.2]
theorem zipD_get {ds es : List D} {i : Nat} {x : D} (h : (zipD ds es)[i]? = some x) : ∃ d e, ds[i]? = some d ∧ es[i]? = some e ∧ x = .tuple [d, e] := by
  unfold zipD at h
  rw [List.getElem?_map] at h
  cases q : (ds.zip es)[i]? with
  | none => rw [q] at h; cases h
  | some p =>
    rw [q] at h
    cases h
    rw [List.getElem?_zip_eq_some] at q
    exact ⟨p.1, p.2, q.1, q.2, rfl⟩
theorem zipD_len {ds es : List D} : (zipD ds es).length = min ds.length es.length := by simp [zipD]
def zip2 (a b : Option (List D)) : Option (List D) := match a, b with
  | some ds, some es => some (zipD ds es)
  | _, _ => none
def iZip (f g : Fe) : Fi := fun ρ S => (f ρ S).bi fun x S1 => (g ρ S1).bi fun y S2 => SR.of (zip2 (seqD x) (seqD y)) S2
theorem vi_zip {e e2 : Expr} {elts : List Expr} {kk : Nat} {f g : Fe} {p pos tpos : Pos} (hg : Gl X "zip") (hm : X.mg "zip" = none) (ha : VE X Z e f) (hb : VE X Z e2 g) (he : starEach [e, e2] X.env = (false, eval e X.env) :: starEach [e2] X.env := by rfl) (he2 : starEach [e2] X.env = (false, eval e2 X.env) :: starEach [] X.env := by rfl)
    (hpl : (backTo pos (starEach [e2] X.env)).any (·.1) = false := by rfl) : VI X Z (.Tuple elts kk tpos) (.Call (.Name "zip" p) [e, e2] [] pos) (iZip f g) := by
  refine ⟨fun pins s σ H Rr I q => ?_⟩
  obtain ⟨κ, F, ρ, S, t, p⟩ := q
  have key : tvs X.K X.mg Z [f, g] σ H (fun vs H1 => ∃ v u F1 S1 x y ds es, vs = [v, u] ∧ At X.K κ F1 ρ S1 σ H1 ∧ RepA X.K κ F1 v x ∧ RepA X.K κ F1 u y ∧ seqD x = some ds ∧ seqD y = some es ∧ ∀ J, (zipD ds es).length ≤ sizeLine → Yld X.K κ F1 J (zipD ds es) → Rr J H1) := at_bi t p fun v H1 F1 S1 x n1 t1 r1 p1 => by
    refine at_bi t1 p1 fun u H2 F2 S2 y n2 t2 r2 p2 => ?_
    cases e3 : seqD x with
    | none => rw [e3] at p2; exact p2.elim
    | some ds =>
      cases e4 : seqD y with
      | none => rw [e3, e4] at p2; exact p2.elim
      | some es =>
        rw [e3, e4] at p2
        exact ⟨v, u, F2, S2, x, y, ds, es, rfl, t2, r1.up n2.ff, r2, e3, e4, fun J c d => p2 J H2 F2 (.refl t2.fh) t2.cel c d⟩
  refine Call_ (ld_blt I hg hm PyProof.Rows.boot_zip (PyProof.Rows.callWith_type1 (thn ((va_cons ha (va_cons hb va_nil he2) he).run pos pins s σ H _ I key) fun us s1 ⟨vs, H1, I1, r1, q1⟩ => ?_) he hpl))
  obtain ⟨v, u, F1, S1, x, y, ds, es, rfl, t1, ra, rb, e1, e2', q1⟩ := q1
  cases r1 with
  | cons r rr =>
    cases rr with
    | cons r' rr =>
      cases rr
      have hz := seq_size I1 t1.fh ra e1
      obtain ⟨k1, xs, rfl, hst1, hr1⟩ := sk_of ra e1 r
      obtain ⟨k2, ys, rfl, hst2, hr2⟩ := sk_of rb e2' r'
      have hq1 := hst1 H1 t1.fh
      have hq2 := hst2 H1 t1.fh
      obtain ⟨o1, Hh1, B1, hh1, h01⟩ := sk_begin I1 hq1
      obtain ⟨o2, Hh2, B2, hh2, h02⟩ := sk_begin I1 hq2
      refine zip_begins2 B1 B2 hh1 hh2 fun h' hzz hTI hTO h1 h2 hsz hk => wpAny_pyIter_zip hzz ?_
      have I2 : Inv X pins σ H1 { s1 with heap := h' } := I1.kept (t' := s1.toks) hk
      refine ⟨s1.heap.objs.size + 4, [s1.heap.objs.size + 4, s1.heap.objs.size + 2, s1.heap.objs.size + 3, s1.heap.objs.size, s1.heap.objs.size + 1], _, _, H1, rfl, I2, turn_zipK k1 k2 s1.heap.objs.size (sk_lt I1 hq1) (sk_lt I1 hq2), ⟨hzz, hTI, ⟨_, _, hTO⟩, h01 _ _ h1, h02 _ _ h2⟩, fun c hcm => ?_,
        q1 _ (by rw [zipD_len]; omega) fun i F H h1 h2 => ⟨fun z hz' => ?_, fun hi => ?_⟩⟩
      · have e' : c = s1.heap.objs.size + 4 ∨ c = s1.heap.objs.size + 2 ∨ c = s1.heap.objs.size + 3 ∨ c = s1.heap.objs.size ∨ c = s1.heap.objs.size + 1 := by simpa using hcm
        have hle : s1.heap.objs.size ≤ c := by
          rcases e' with z | z | z | z | z
          · rw [z]; exact Nat.le_add_right _ _
          · rw [z]; exact Nat.le_add_right _ _
          · rw [z]; exact Nat.le_add_right _ _
          · rw [z]; exact Nat.le_refl _
          · rw [z]; exact Nat.le_add_right _ _
        exact I1.fpOk hle (I1.hok.fresh hle)
      · obtain ⟨d, d2, hd, hd2, rfl⟩ := zipD_get hz'
        obtain ⟨w, hw, rw1⟩ := hr1.get hd
        obtain ⟨w2, hw2, rw2⟩ := hr2.get hd2
        refine ⟨⟨xs, ys, w, w2, hst1 H (h1.trans h2), hst2 H (h1.trans h2), hw, hw2⟩, fun v' H' y => ?_⟩
        obtain ⟨T, w', w2', rfl, hT, rfl, hy, hy2⟩ := y
        have e3 := hy xs (hst1 H (h1.trans h2))
        rw [hw] at e3
        cases e3
        have e4 := hy2 ys (hst2 H (h1.trans h2))
        rw [hw2] at e4
        cases e4
        have n := Nxt.newF (κ := κ) (o := .tup [w, w2]) h2 hT
        exact ⟨_, n, fun b hb => upd_ne (fun z => hb (by rw [z]; exact hT)), .tup (.of upd_same) (.cons (Rep.up (h1.trans n.ff) _ _ rw1) (.cons (Rep.up (h1.trans n.ff) _ _ rw2) .nil))⟩
      · rw [zipD_len] at hi
        exact ⟨xs, ys, hst1 H (h1.trans h2), hst2 H (h1.trans h2), by rw [hi, hr1.len, hr2.len]⟩
end
end PD

/-! PDJ: targets and list comprehensions. -/
namespace PD
open PySem PySem.Spec PyProof.Rows L2
abbrev Gt := D → En → Option En
def tgt (K : PySem.W.Frag) (sl : List Nat) (g : Gt) : TG := fun v σ H Q => ∃ κ F ρ S x ρ', At K κ F ρ S σ H ∧ Rep K F v x ∧ g x ρ = some ρ' ∧ ∀ σ', At K κ F ρ' S σ' H → (∀ j, j ∉ sl → σ'[j]? = σ[j]?) → σ'.length = σ.length → Q σ' H
abbrev VG (X : Cx) (tg : Expr) (sl : List Nat) (g : Gt) : Prop := PG X tg (tgt X.K sl g)
theorem _root_.L2.PG.imp {X : Cx} {e : Expr} {t t' : TG} (h : PG X e t) (i : ∀ v σ H Q, t' v σ H Q → t v σ H Q) : PG X e t' := ⟨fun pins s σ H v u Q I r q => h.run pins s σ H v u Q I r (i v σ H Q q)⟩
def gNm (i : Nat) : Gt := fun x ρ => some (ρ.set i (some (.d x)))
theorem At.set {K : PySem.W.Frag} {κ : Kp} {F H : Hp} {ρ : En} {S : Cs} {σ : L2.St} {v : V} {x : A} (t : At K κ F ρ S σ H) (i : Nat) (r : RepA K κ F v x) : At K κ F (ρ.set i (some x)) S (σ.set i (some v)) H := by
  refine ⟨fun j y h => ?_, t.fh, t.cel, by rw [List.length_set, List.length_set]; exact t.ln⟩
  by_cases hj : i = j
  · subst hj
    by_cases hi : i < ρ.length
    · rw [List.getElem?_set_self hi] at h
      cases h
      exact ⟨v, List.getElem?_set_self (Nat.lt_of_lt_of_le hi t.ln), r⟩
    · rw [List.getElem?_eq_none (by rw [List.length_set]; omega)] at h
      cases h
  · rw [List.getElem?_set_ne hj] at h
    obtain ⟨w, h1, h2⟩ := t.rel j y h
    exact ⟨w, by rw [List.getElem?_set_ne hj]; exact h1, h2⟩
section
variable {X : Cx} {Z : WX}
theorem vg_name (i : Nat) {x : Str} {pos : Pos} (hN : X.N.Nodup) (hi : X.N[i]? = some x := by rfl) (hx : Loc X.env.scope x := by first | exact Or.inl rfl | exact Or.inr rfl) (hf : X.fn x = true ∨ X.env.scope.names.lookup x = some .local := by first | exact .inl rfl | exact .inr rfl | assumption) : VG X (.Name x pos) [i] (gNm i) :=
  (pg_name hN hi hx hf).imp fun v σ H Q h => by
    obtain ⟨κ, F, ρ, S, x, ρ', t, r, e, g⟩ := h
    cases e
    exact g _ (t.set i (show RepA X.K κ F v (.d x) from r)) (fun j hj => List.getElem?_set_ne (fun z => hj (by simp [z]))) (by simp)
def gNs : List Nat → TGs
  | [] => gNil
  | i :: is => gCons (gName i) (gNs is)
def setD : List Nat → List D → En → En
  | i :: is, d :: ds, ρ => setD is ds (ρ.set i (some (.d d)))
  | _, _, ρ => ρ
def gTp (is : List Nat) : Gt := fun x ρ => match x with
  | .tuple ds => if ds.length = is.length then some (setD is ds ρ) else none
  | _ => none
theorem gNs_of {K : PySem.W.Frag} {κ : Kp} {F H : Hp} {S : Cs} : ∀ {is : List Nat} {vs : List V} {ds : List D} {ρ : En} {σ : L2.St} {Q : L2.St → Hp → Prop}, At K κ F ρ S σ H → RepAll K F vs ds → ds.length = is.length →
    (∀ σ', At K κ F (setD is ds ρ) S σ' H → (∀ j, j ∉ is → σ'[j]? = σ[j]?) → σ'.length = σ.length → Q σ' H) → gNs is vs σ H Q
  | [], _, _, ρ, σ, Q, t, .nil, _, g => ⟨rfl, g σ t (fun _ _ => rfl) rfl⟩
  | i :: is, _, _, ρ, σ, Q, t, .cons (v := v) (vs := vs) (d := d) (ds := ds) r rs, e, g => by
    refine ⟨v, vs, rfl, ?_⟩
    refine gNs_of (t.set i (show RepA K κ F v (.d d) from r)) rs (by simpa using e) fun σ' t' h1 h2 => ?_
    refine g σ' t' (fun j hj => ?_) (by rw [h2, List.length_set])
    rw [h1 j (fun z => hj (List.mem_cons_of_mem _ z)), List.getElem?_set_ne (fun z => hj (by simp [z]))]
  | [], _, _, _, _, _, _, .cons _ _, e, _ => by simp at e
  | _ :: _, _, _, _, _, _, _, .nil, e, _ => by simp at e
theorem vg_tup {es : List Expr} {k : Nat} {is : List Nat} {pos : Pos} (hc : X.calm = true) (h : PGs X es (gNs is)) (hn : (assignEach es X.env).length = is.length := by rfl) (hst : (assignEach es X.env).findIdx? (·.1) = none := by rfl) : VG X (.Tuple es k pos) is (gTp is) :=
  (pg_tup (n := is.length) hc h hn hst).imp fun v σ H Q q => by
    obtain ⟨κ, F, ρ, S, x, ρ', t, r, e, g⟩ := q
    cases x with
    | tuple ds =>
      unfold gTp at e
      simp only at e
      split at e
      · rename_i hl
        cases e
        obtain ⟨a, vs, rfl, h1, h2⟩ := Rep.tupv r
        exact ⟨a, vs, rfl, Same.seqT t.fh h1, h2.len.trans hl, gNs_of t h2 hl g⟩
      · cases e
    | _ => cases e
theorem gns_nil : PGs X [] (gNs []) := pgs_nil
theorem gns_cons (i : Nat) {is : List Nat} {x : Str} {p : Pos} {es : List Expr} (hN : X.N.Nodup) (hs : PGs X es (gNs is)) (he : (assignEach (.Name x p :: es) X.env).map (·.2) = assign (.Name x p) X.env :: (assignEach es X.env).map (·.2) := by rfl) (hi : X.N[i]? = some x := by rfl) (hx : Loc X.env.scope x := by first | exact Or.inl rfl | exact Or.inr rfl)
    (hf : X.fn x = true ∨ X.env.scope.names.lookup x = some .local := by first | exact .inl rfl | exact .inr rfl | assumption) : PGs X (.Name x p :: es) (gNs (i :: is)) := pgs_cons (pg_name hN hi hx hf) hs he
/-! ### comprehensions -/
def wipeE (ρ : En) : List Nat → En
  | [] => ρ
  | v :: vs => (wipeE ρ vs).set v none
theorem wipeE_some {ρ : En} {i : Nat} {x : A} : ∀ {vs : List Nat}, (wipeE ρ vs)[i]? = some (some x) → ρ[i]? = some (some x) ∧ i ∉ vs
  | [], h => ⟨h, by simp⟩
  | v :: vs, h => by
    unfold wipeE at h
    by_cases hi : v = i
    · subst hi
      by_cases hv : v < (wipeE ρ vs).length
      · rw [List.getElem?_set_self hv] at h; cases h
      · rw [List.getElem?_eq_none (by simpa using hv)] at h; cases h
    · rw [List.getElem?_set_ne hi] at h
      obtain ⟨h1, h2⟩ := wipeE_some h
      exact ⟨h1, by simp only [List.mem_cons, not_or]; exact ⟨fun e => hi e.symm, h2⟩⟩
theorem wipeE_len (ρ : En) : ∀ vs : List Nat, (wipeE ρ vs).length = ρ.length
  | [] => rfl
  | v :: vs => by unfold wipeE; rw [List.length_set, wipeE_len ρ vs]
theorem wipe_at {σ : L2.St} {i : Nat} : ∀ {vs : List Nat}, i ∈ vs → (wipe σ vs)[i]? = if i < σ.length then some none else none
  | [], h => by simp at h
  | v :: vs, h => by
    unfold wipe
    by_cases hi : v = i
    · subst hi
      rw [List.getElem?_set]
      simp [wipe_length]
    · rw [List.getElem?_set_ne hi]
      exact wipe_at ((List.mem_cons.mp h).resolve_left fun e => hi e.symm)
theorem wipe_eq {σ σ' : L2.St} {vs sl : List Nat} (h : ∀ j, j ∉ sl → σ'[j]? = (wipe σ vs)[j]?) (hs : ∀ i ∈ sl, i ∈ vs) (hl : σ'.length = (wipe σ vs).length) : wipe σ' vs = wipe σ vs := by
  apply List.ext_getElem?
  intro j
  have hl' : σ'.length = σ.length := hl.trans (wipe_length σ vs)
  by_cases hj : j ∈ vs
  · rw [wipe_at hj, wipe_at hj, hl']
  · rw [wipe_out hj]
    exact h j fun z => hj (hs j z)
theorem At.wipe {K : PySem.W.Frag} {κ : Kp} {F H : Hp} {ρ : En} {S : Cs} {σ : L2.St} (t : At K κ F ρ S σ H) (vs : List Nat) : At K κ F (wipeE ρ vs) S (L2.wipe σ vs) H := by
  refine ⟨fun i x h => ?_, t.fh, t.cel, by rw [wipeE_len, wipe_length]; exact t.ln⟩
  obtain ⟨h1, h2⟩ := wipeE_some h
  obtain ⟨v, h3, h4⟩ := t.rel i x h1
  exact ⟨v, by rw [wipe_out h2]; exact h3, h4⟩
def compL (g : Gt) (fc fe : Fe) (ρ : En) : List D → Cs → List W → R
  | [], S, acc => .ok (.own acc) S
  | x :: xs, S, acc => match g x ρ with
    | none => .stuck
    | some ρ1 => match fc ρ1 S with
      | .ok (.a (.d (.bool true))) S1 => match fe ρ1 S1 with
        | .ok w S2 => compL g fc fe ρ xs S2 (acc ++ [w])
        | _ => .stuck
      | .ok (.a (.d (.bool false))) S1 => compL g fc fe ρ xs S1 acc
      | _ => .stuck
def fComp (vs : List Nat) (src : Fi) (g : Gt) (fc fe : Fe) : Fe := fun ρ S => match src ρ S with
  | .ok items S1 => compL g fc fe (wipeE ρ vs) items S1 []
  | .exc n S1 => .exc n S1
  | .stuck => .stuck
def fTrue : Fe := fun _ S => .ok (bD true) S
abbrev Z0 : WX := fun _ _ _ _ => False
abbrev VTs (X : Cx) (Z : WX) (ifs : List Expr) (f : Fe) : Prop := PTs X ifs (tB (tv X.K X.mg Z f))
theorem vts_nil : VTs X Z [] fTrue := ⟨fun pins s σ H Q I h => pts_nil.run pins s σ H Q I (by
  obtain ⟨κ, F, ρ, S, t, p⟩ := h
  have q : ∃ c, V.bl true = .bl c ∧ Q c H := Post.bl p t
  obtain ⟨c, e, q⟩ := q
  cases e
  exact q)⟩
theorem vts_one {c : Expr} {f : Fe} (h : VT X Z c f) : VTs X Z [c] f := pts_one h
theorem tabs_wr {H : Hp} {p : Addr} {o : HO} {vs : List V} (hd : H p = some (.lst vs)) (T : List (Addr × Str)) (h : LamX.Tabs T H) : LamX.Tabs T (upd H p o) := by
  intro q hq
  obtain ⟨ps, h5, h6, h7⟩ := h q hq
  refine ⟨ps, by rw [upd_ne (fun z => by rw [z, hd] at h5; cases h5)]; exact h5, h6, fun pp cv hcv => ?_⟩
  obtain ⟨c0, e1, e2⟩ := h7 pp cv hcv
  exact ⟨c0, e1, by rw [upd_ne (fun z => by rw [z, hd] at e2; cases e2)]; exact e2⟩
/-- a list of one's own is written -/
theorem Nxt.wr {κ : Kp} {F1 H1 F H : Hp} {p : Addr} {vs vs' : List V} (n : Nxt κ F1 H1 F H) (h0 : FrT H1 p) (fd : F p = none) (hd : H p = some (.lst vs)) : Nxt κ F1 H1 F (upd H p (.lst vs')) := by
  refine ⟨n.ff, fun b u e => ?_, fun b u e a z => ?_, fun b e => ?_, fun h => ?_, n.fn, n.nt⟩
  · rw [upd_ne (fun z => by rw [z, fd] at e; cases e)]; exact n.fh b u e
  · rw [upd_ne (fun zz => by
      rw [zz] at e
      obtain ⟨ps, q⟩ := h0 _ e
      exact z ps q)]
    exact n.kp b u e a z
  · exact frT_wr (n.dm b e)
  · intro q hq
    obtain ⟨ps, h5, h6, h7⟩ := n.tb h q hq
    refine ⟨ps, by rw [upd_ne (fun z => by rw [z, hd] at h5; cases h5)]; exact h5, h6, fun pp cv hcv => ?_⟩
    obtain ⟨c0, e1, e2⟩ := h7 pp cv hcv
    exact ⟨c0, e1, by rw [upd_ne (fun z => by rw [z, hd] at e2; cases e2)]; exact e2⟩
theorem Cel.wr {K : PySem.W.Frag} {κ : Kp} {F H : Hp} {S : Cs} {p : Addr} {o : HO} {vs : List V} (c : Cel K κ F H S) (hk : p ∉ κ.l) (hd : H p = some (.lst vs)) : Cel K κ F (upd H p o) S := by
  refine ⟨c.len, c.nd, fun k a ds e1 e2 => ?_, c.fz, ⟨c.tb.1, tabs_wr hd _ c.tb.2⟩, c.nt⟩
  obtain ⟨vs, h1, h2⟩ := c.cl k a ds e1 e2
  exact ⟨vs, by rw [upd_ne (show a ≠ p from fun z => hk (by rw [← z]; exact List.mem_of_getElem? e1))]; exact h1, h2⟩
theorem Nxt.own1 {κ : Kp} {F H F' H' : Hp} {p : Addr} {vs : List V} (n : Nxt κ F H F' H') (hd : H p = some (.lst vs)) (fd : F p = none) (hk : p ∉ κ.l) : H' p = some (.lst vs) ∧ F' p = none := by
  obtain ⟨h1, h2⟩ := n.own (L := [p]) (fun a ha => ⟨vs, by rw [List.mem_singleton.mp ha]; exact hd⟩) (fun a ha => by rw [List.mem_singleton.mp ha]; exact fd) (fun a ha => by rw [List.mem_singleton.mp ha]; exact hk)
  exact ⟨h1 p (by simp) _ hd, h2 p (by simp)⟩
/-- what the block holds at a turn -/
structure CInv (K : PySem.W.Frag) (κ : Kp) (F1 H1 : Hp) (Dd : Addr) (i : Nat) (F H : Hp) (S : Cs) (acc : List W) (vs : List V) (L : List Addr) : Prop where
  n : Nxt κ F1 H1 F H
  c : Cel K κ F H S
  d : H Dd = some (.lst vs)
  fd : F Dd = none
  r : RepWs K κ F H acc vs L
  nd : (Dd :: L).Nodup
  nw : ∀ p ∈ L, FrT H1 p ∧ F p = none
  ln : vs.length ≤ i
theorem lc_of {src : Fi} {sl ow : List Nat} {g : Gt} {fc fe : Fe} {K : PySem.W.Frag} {mg : Str → Option Value} {Z : WX} (hsl : ∀ i ∈ sl, i ∈ ow) {σ : L2.St} {H : Hp} {Q : VK} (q : tv K mg Z (fComp ow src g fc fe) σ H Q) : tLc (tvi K mg Z src) (tgt K sl g) (tB (tv K mg Z0 fc)) (tv K mg Z0 fe) ow σ H Q := by
  obtain ⟨κ, F, ρ, S, t, p⟩ := q
  refine ⟨κ, F, ρ, S, t, ?_⟩
  unfold fComp at p
  cases q : src ρ S with
  | stuck => rw [q] at p; exact p
  | exc m S1 => rw [q] at p; exact p
  | ok items S1 =>
    rw [q] at p
    simp only at p
    intro J H1 F1 n1 c1 len y Dd hD
    have dk : Dd ∉ κ.l := fun z => by
      obtain ⟨vs, e⟩ := c1.there Dd z
      rw [hD] at e; cases e
    refine ⟨fun i m H' => m = items.length - i ∧ i ≤ items.length ∧ ∃ F' S' acc vs L, CInv K κ F1 H1 Dd i F' H' S' acc vs L ∧ Post K mg Z κ F H σ (compL g fc fe (wipeE ρ ow) (items.drop i) S' acc) Q,
      ⟨items.length, by simp, Nat.zero_le _, F1, S1, [], [], [], ⟨Nxt.newH n1.fh hD, c1.newH n1.fh hD, upd_same, n1.fh.free hD, ⟨rfl, rfl⟩, by simp, fun _ h => absurd h (by simp), Nat.le_refl _⟩, p⟩, ?_⟩
    rintro i m H' ⟨rfl, hi, F', S', acc, vs, L, ci, p'⟩
    by_cases hlt : i < items.length
    · obtain ⟨yg, yy⟩ := (y i F' H' ci.n.ff ci.n.fh).1 items[i] (List.getElem?_eq_getElem hlt)
      refine .inr ⟨yg, fun H' => i + 1 ≤ items.length ∧ ∃ F' S' acc vs L, CInv K κ F1 H1 Dd (i + 1) F' H' S' acc vs L ∧ Post K mg Z κ F H σ (compL g fc fe (wipeE ρ ow) (items.drop (i + 1)) S' acc) Q, fun H' h => ⟨items.length - (i + 1), by omega, rfl, h⟩, fun v H2 y2 => ?_⟩
      obtain ⟨F2, n2, k2, r2⟩ := yy v H2 y2
      have dr : items.drop i = items[i] :: items.drop (i + 1) := List.drop_eq_getElem_cons hlt
      rw [dr] at p'
      unfold compL at p'
      cases eg : g items[i] (wipeE ρ ow) with
      | none => rw [eg] at p'; exact p'.elim
      | some ρ1 =>
        rw [eg] at p'
        simp only at p'
        have c2 : Cel K κ F2 H2 S' := ci.c.up n2 fun a ha => by
          obtain ⟨vs, e⟩ := ci.c.there a ha
          exact k2 a (by rw [e]; simp)
        have tw : At K κ F2 (wipeE ρ ow) S' (wipe σ ow) H2 := (t.nxt (n1.trans (ci.n.trans n2)) c2).wipe _
        refine ⟨κ, F2, _, S', items[i], ρ1, tw, r2, eg, fun σ2 t2 h1 h2 => ⟨wipe_eq h1 hsl h2, ?_⟩⟩
        refine ⟨κ, F2, ρ1, S', t2, ?_⟩
        -- what stands across a step from (F2, H2)
        have dD2 : H2 Dd = some (.lst vs) := by rw [k2 Dd (by rw [ci.d]; simp)]; exact ci.d
        have own2 : ∀ {Fa Ha : Hp}, Nxt κ F2 H2 Fa Ha → Ha Dd = some (.lst vs) ∧ Fa Dd = none ∧ RepWs K κ Fa Ha acc vs L ∧ (∀ p ∈ L, FrT H1 p ∧ Fa p = none) := fun {Fa Ha} na => by
          have nn := n2.trans na
          have th := RepWs.there acc vs L ci.r
          have lk : ∀ a ∈ L, a ∉ κ.l := fun a ha z => by
            obtain ⟨us, e⟩ := c1.there a z
            exact (ci.nw a ha).1.no e
          obtain ⟨k1, k3⟩ := nn.own th (fun a ha => (ci.nw a ha).2) lk
          obtain ⟨k4, k5⟩ := nn.own1 ci.d ci.fd dk
          exact ⟨k4, k5, RepWs.up nn.ff acc vs L k1 ci.r, fun p hp => ⟨(ci.nw p hp).1, k3 p hp⟩⟩
        cases ec : fc ρ1 S' with
        | stuck => rw [ec] at p'; exact p'.elim
        | exc m S2 => rw [ec] at p'; exact p'.elim
        | ok w S2 =>
          rw [ec] at p'
          intro vb H3 F3 L3 n3 c3 r3 nd3 nw3
          match w, r3, p', ec with
          | .a (.d (.bool false)), r3, p', _ =>
            have eb : vb = .bl false := Rep.blv r3.2
            refine ⟨false, eb, iteF ⟨hlt, F3, S2, acc, vs, L, ?_, p'⟩⟩
            obtain ⟨o1, o2, o3, o4⟩ := own2 n3
            exact ⟨ci.n.trans (n2.trans n3), c3, o1, o2, o3, ci.nd, o4, Nat.le_succ_of_le ci.ln⟩
          | .a (.d (.bool true)), r3, p', _ =>
            have eb : vb = .bl true := Rep.blv r3.2
            refine ⟨true, eb, iteT ?_⟩
            have t3 := t2.nxt n3 c3
            refine ⟨κ, F3, ρ1, S2, t3, ?_⟩
            cases ee : fe ρ1 S2 with
            | stuck => simp only [ee] at p'; exact p'.elim
            | exc m S3 => simp only [ee] at p'; exact p'.elim
            | ok w2 S3 =>
              simp only [ee] at p'
              intro ve H4 F4 L4 n4 c4 r4 nd4 nw4
              obtain ⟨o1, o2, o3, o4⟩ := own2 (n3.trans n4)
              refine ⟨vs, o1, Nat.lt_of_le_of_lt ci.ln (Nat.lt_of_lt_of_le hlt len), hlt, F4, S3, acc ++ [w2], vs ++ [ve], L ++ L4, ?_, p'⟩
              have d4 : ∀ a ∈ L4, a ≠ Dd := fun a ha z => by
                have := (nw4 a ha).1
                rw [z] at this
                exact this.no (own2 n3).1
              have dL : ∀ a ∈ L, a ≠ Dd := fun a ha z => (List.nodup_cons.mp ci.nd).1 (z ▸ ha)
              have th4 := RepW.there w2 ve L4 r4
              have thL := RepWs.there acc vs L (own2 n3).2.2.1
              have nn := ci.n.trans (n2.trans (n3.trans n4))
              have n5 : Nxt κ F1 H1 F4 (upd H4 Dd (.lst (vs ++ [ve]))) := nn.wr (frT_none hD) o2 o1
              refine ⟨n5, c4.wr dk o1, upd_same, o2, ?_, ?_, fun a ha => ?_, ?_⟩
              · refine RepWs.app (RepWs.up (Same.refl _) acc vs L (fun a ha o e => by rw [upd_ne (dL a ha)]; exact e) o3) ⟨ve, [], L4, [], rfl, by simp, RepW.up (Same.refl _) w2 ve L4 (fun a ha o e => by rw [upd_ne (d4 a ha)]; exact e) r4, rfl, rfl⟩
              · refine List.nodup_cons.mpr ⟨fun z => ?_, List.nodup_append.mpr ⟨(List.nodup_cons.mp ci.nd).2, nd4, fun a ha b hb => ?_⟩⟩
                · rcases List.mem_append.mp z with z | z
                  · exact dL Dd z rfl
                  · exact d4 Dd z rfl
                · rintro rfl
                  obtain ⟨us, hu⟩ := thL a ha
                  have := (nw4 a hb).1
                  exact this.no hu
              · rcases List.mem_append.mp ha with z | z
                · exact o4 a z
                · exact ⟨(ci.n.trans (n2.trans n3)).back (nw4 a z).1, (nw4 a z).2⟩
              · rw [List.length_append]
                have := ci.ln
                show vs.length + 1 ≤ i + 1
                omega
          | .own _, _, p', _ => exact p'.elim
          | .a (.c _), _, p', _ => exact p'.elim
          | .a (.s _), _, p', _ => exact p'.elim
          | .a (.e _), _, p', _ => exact p'.elim
          | .a (.d .none), _, p', _ => exact p'.elim
          | .a (.d (.int _)), _, p', _ => exact p'.elim
          | .a (.d (.str _)), _, p', _ => exact p'.elim
          | .a (.d (.list _)), _, p', _ => exact p'.elim
          | .a (.d (.tuple _)), _, p', _ => exact p'.elim
          | .a (.d (.dict _)), _, p', _ => exact p'.elim
    · have e : i = items.length := by omega
      subst e
      refine .inl ⟨(y _ F' H' ci.n.ff ci.n.fh).2 rfl, ?_⟩
      rw [List.drop_length] at p'
      have nn := n1.trans ci.n
      exact p' (.ref Dd) H' F' (Dd :: L) nn ci.c ⟨Dd, vs, L, rfl, ci.d, rfl, ci.r⟩ ci.nd fun a ha => by
        rcases List.mem_cons.mp ha with rfl | ha
        · exact ⟨n1.back (frT_none hD), ci.fd⟩
        · exact ⟨n1.back (ci.nw a ha).1, (ci.nw a ha).2⟩
theorem ve_comp {elt tg iter : Expr} {ifs : List Expr} {scope : Scope} {own : List (Str × Nat)} {pos : Pos} {src : Fi} {sl : List Nat} {g : Gt} {fc fe : Fe} (hc : X.calm = true) (hN : X.N.Nodup) (hi : VI X Z tg iter src) (ok : BlkOk X.N X.env.scope scope own)
    (hg : ∀ (s : Shared) (H : Hp) (C : Addr) (cl : List (Str × Addr)) (fp : List Addr), VG (X.blk s H scope (compEnvC scope cl C X.env) fp) tg sl g) (ht : ∀ (s : Shared) (H : Hp) (C : Addr) (cl : List (Str × Addr)) (fp : List Addr), VTs (X.blk s H scope (compEnvC scope cl C X.env) fp) Z0 ifs fc)
    (he : ∀ (s : Shared) (H : Hp) (C : Addr) (cl : List (Str × Addr)) (fp : List Addr), VE (X.blk s H scope (compEnvC scope cl C X.env) fp) Z0 elt fe) (hsl : ∀ i ∈ sl, i ∈ own.map (·.2) := by decide) (hs : ∀ x, foldedSetIterable iter X.env x = pure x := by intro _; rfl) :
    VE X Z (.ListComp elt [⟨tg, iter, ifs, 0⟩] scope pos) (fComp (own.map (·.2)) src g fc fe) := (pe_lc (g := tgt X.K sl g) (tt := tB (tv X.K X.mg Z0 fc)) (te := tv X.K X.mg Z0 fe) hc hN hi ok hg ht he hs).imp fun σ H Q q => lc_of hsl q
end
end PD

/-! PDK: statements. -/
namespace PD
open PySem PySem.Spec PyProof.Rows L2
abbrev Ev := List (Option W)
inductive Fl where
  | nx (ρ : Ev) (S : Cs) | rt (w : W) (S : Cs) | exc (n : Str) (S : Cs) | stuck
abbrev Fs := Ev → Cs → Fl
/-- the slots' results and what they own -/
structure Slots (K : PySem.W.Frag) (κ : Kp) (H0 F H : Hp) (ρ : Ev) (σ : L2.St) (fp : Nat → List Addr) : Prop where
  rep : ∀ (i : Nat) (w : W), ρ[i]? = some (some w) → ∃ v, σ[i]? = some (some v) ∧ RepW K κ F H w v (fp i)
  non : ∀ (i : Nat), (∀ w : W, ρ[i]? ≠ some (some w)) → fp i = []
  nd : ∀ i : Nat, (fp i).Nodup
  dis : ∀ i j : Nat, i ≠ j → ∀ a ∈ fp i, a ∉ fp j
  nw : ∀ i : Nat, ∀ a ∈ fp i, FrT H0 a ∧ F a = none
structure Ats (K : PySem.W.Frag) (κ : Kp) (F0 H0 F : Hp) (ρ : Ev) (S : Cs) (σ : L2.St) (H : Hp) : Prop where
  n : Nxt κ F0 H0 F H
  c : Cel K κ F H S
  ck : ∀ a ∈ κ.l, ¬ FrT H0 a
  ln : ρ.length ≤ σ.length
  sl : ∃ fp, Slots K κ H0 F H ρ σ fp
/-- what an expression sees -/
def ev1 : Option W → Option A
  | some (.a x) => some x
  | _ => none
def ev (ρ : Ev) : En := ρ.map ev1
def frz1 (i : Nat) (ρ : Ev) : Ev := match ρ[i]? with
  | some (some (.own ws)) => match W.toA (.own ws) with
    | some x => ρ.set i (some (.a x))
    | none => ρ
  | _ => ρ
def frzE : List Nat → Ev → Ev
  | [], ρ => ρ
  | i :: is, ρ => frzE is (frz1 i ρ)
section
variable {K : PySem.W.Frag} {mg : Str → Option Value} {Z : WX} {κ : Kp} {F0 H0 F H F1 H1 : Hp} {ρ : Ev} {S S1 : Cs} {σ : L2.St}
theorem Ats.at_ (t : Ats K κ F0 H0 F ρ S σ H) : At K κ F (ev ρ) S σ H := by
  obtain ⟨fp, sl⟩ := t.sl
  refine ⟨fun i x h => ?_, t.n.fh, t.c, by unfold ev; rw [List.length_map]; exact t.ln⟩
  unfold ev at h
  rw [List.getElem?_map] at h
  cases q : ρ[i]? with
  | none => rw [q] at h; cases h
  | some o =>
    rw [q] at h
    match o, q, h with
    | some (.a y), q, h =>
      cases h
      obtain ⟨v, h1, h2⟩ := sl.rep i _ q
      exact ⟨v, h1, h2.2⟩
    | some (.own ws), q, h => cases h
    | none, q, h => cases h
theorem Ats.nok (t : Ats K κ F0 H0 F ρ S σ H) {fp : Nat → List Addr} (sl : Slots K κ H0 F H ρ σ fp) (i : Nat) : ∀ a ∈ fp i, a ∉ κ.l := fun a ha z => t.ck a z (sl.nw i a ha).1
theorem Slots.there {fp : Nat → List Addr} (sl : Slots K κ H0 F H ρ σ fp) (i : Nat) : ∀ a ∈ fp i, ∃ vs, H a = some (.lst vs) := fun a ha => by
  by_cases h : ∃ w, ρ[i]? = some (some w)
  · obtain ⟨w, h⟩ := h
    obtain ⟨v, _, r⟩ := sl.rep i w h
    exact RepW.there w v _ r a ha
  · rw [sl.non i fun w e => h ⟨w, e⟩] at ha
    exact absurd ha (by simp)
theorem Ats.nxt (t : Ats K κ F0 H0 F ρ S σ H) (n : Nxt κ F H F1 H1) (c : Cel K κ F1 H1 S1) : Ats K κ F0 H0 F1 ρ S1 σ H1 := by
  obtain ⟨fp, sl⟩ := t.sl
  refine ⟨t.n.trans n, c, t.ck, t.ln, fp, fun i w h => ?_, sl.non, sl.nd, sl.dis, fun i a ha => ?_⟩
  · obtain ⟨v, h1, h2⟩ := sl.rep i w h
    obtain ⟨k1, _⟩ := n.own (sl.there i) (fun a ha => (sl.nw i a ha).2) (t.nok sl i)
    exact ⟨v, h1, RepW.up n.ff w v _ k1 h2⟩
  · obtain ⟨_, k2⟩ := n.own (sl.there i) (fun a ha => (sl.nw i a ha).2) (t.nok sl i)
    exact ⟨(sl.nw i a ha).1, k2 a ha⟩
/-- a slot is set to a new result -/
theorem Ats.set {w : W} {v : V} {L : List Addr} (t : Ats K κ F0 H0 F ρ S σ H) (i : Nat) (r : RepW K κ F H w v L) (nd : L.Nodup) (nw : ∀ a ∈ L, FrT H0 a ∧ F a = none) (ap : ∀ fp, Slots K κ H0 F H ρ σ fp → ∀ j, j ≠ i → ∀ a ∈ fp j, a ∉ L) : Ats K κ F0 H0 F (ρ.set i (some w)) S (σ.set i (some v)) H := by
  obtain ⟨fp, sl⟩ := t.sl
  refine ⟨t.n, t.c, t.ck, by rw [List.length_set, List.length_set]; exact t.ln, fun j => if j = i then (if i < ρ.length then L else []) else fp j, fun j w' h => ?_, fun j h => ?_, fun j => ?_, fun j k hjk a ha => ?_, fun j a ha => ?_⟩
  · by_cases hj : j = i
    · subst hj
      by_cases hi : j < ρ.length
      · rw [List.getElem?_set_self hi] at h
        cases h
        refine ⟨v, List.getElem?_set_self (Nat.lt_of_lt_of_le hi t.ln), ?_⟩
        show RepW K κ F H _ v (if j = j then (if j < ρ.length then L else []) else fp j)
        rw [if_pos rfl, if_pos hi]
        exact r
      · rw [List.getElem?_eq_none (by rw [List.length_set]; omega)] at h
        cases h
    · rw [List.getElem?_set_ne (Ne.symm hj)] at h
      obtain ⟨v', h1, h2⟩ := sl.rep j w' h
      refine ⟨v', by rw [List.getElem?_set_ne (Ne.symm hj)]; exact h1, ?_⟩
      show RepW K κ F H _ v' (if j = i then (if i < ρ.length then L else []) else fp j)
      rw [if_neg hj]
      exact h2
  · show (if j = i then (if i < ρ.length then L else []) else fp j) = []
    by_cases hj : j = i
    · subst hj
      rw [if_pos rfl]
      by_cases hi : j < ρ.length
      · exact absurd (List.getElem?_set_self hi) (h w)
      · rw [if_neg hi]
    · rw [if_neg hj]
      exact sl.non j fun w' e => h w' (by rw [List.getElem?_set_ne (Ne.symm hj)]; exact e)
  · show (if j = i then (if i < ρ.length then L else []) else fp j).Nodup
    split
    · split
      · exact nd
      · exact .nil
    · exact sl.nd j
  · show a ∉ (if k = i then (if i < ρ.length then L else []) else fp k)
    have ha : a ∈ (if j = i then (if i < ρ.length then L else []) else fp j) := ha
    by_cases hj : j = i
    · rw [if_pos hj] at ha
      split at ha
      · rw [if_neg (fun z => hjk (hj.trans z.symm))]
        exact fun z => ap fp sl k (fun e => hjk (hj.trans e.symm)) a z ha
      · exact absurd ha (by simp)
    · rw [if_neg hj] at ha
      split
      · split
        · exact ap fp sl j hj a ha
        · simp
      · exact sl.dis j k hjk a ha
  · have ha : a ∈ (if j = i then (if i < ρ.length then L else []) else fp j) := ha
    split at ha
    · split at ha
      · exact nw a ha
      · exact absurd ha (by simp)
    · exact sl.nw j a ha
theorem Ats.setA {x : A} {v : V} (t : Ats K κ F0 H0 F ρ S σ H) (i : Nat) (r : RepA K κ F v x) : Ats K κ F0 H0 F (ρ.set i (some (.a x))) S (σ.set i (some v)) H :=
  t.set i (L := []) ⟨rfl, r⟩ .nil (fun a ha => absurd ha (by simp)) fun _ _ _ _ _ _ => by simp
/-- fresh results lie apart of the slots' own ones -/
theorem Ats.setN {w : W} {v : V} {L : List Addr} (t : Ats K κ F0 H0 F ρ S σ H) (i : Nat) (n : Nxt κ F H F1 H1) (c : Cel K κ F1 H1 S1) (r : RepW K κ F1 H1 w v L) (nd : L.Nodup) (nw : ∀ a ∈ L, FrT H a ∧ F1 a = none) : Ats K κ F0 H0 F1 (ρ.set i (some w)) S1 (σ.set i (some v)) H1 := by
  have t1 := t.nxt n c
  obtain ⟨fp, sl⟩ := t.sl
  refine ⟨t1.n, t1.c, t1.ck, by rw [List.length_set, List.length_set]; exact t.ln, ?_⟩
  have t2 : ∀ fp, Slots K κ H0 F H ρ σ fp → ∀ j, ∀ a ∈ fp j, a ∉ L := fun fp sl j a ha z => by
    obtain ⟨us, e⟩ := sl.there j a ha
    exact (nw a z).1.no e
  -- the same footprints behind the step
  have sl1 : Slots K κ H0 F1 H1 ρ σ fp := by
    refine ⟨fun i w h => ?_, sl.non, sl.nd, sl.dis, fun i a ha => ?_⟩
    · obtain ⟨v, h1, h2⟩ := sl.rep i w h
      obtain ⟨k1, _⟩ := n.own (sl.there i) (fun a ha => (sl.nw i a ha).2) (t.nok sl i)
      exact ⟨v, h1, RepW.up n.ff w v _ k1 h2⟩
    · obtain ⟨_, k2⟩ := n.own (sl.there i) (fun a ha => (sl.nw i a ha).2) (t.nok sl i)
      exact ⟨(sl.nw i a ha).1, k2 a ha⟩
  have nw0 : ∀ a ∈ L, FrT H0 a ∧ F1 a = none := fun a ha => ⟨t.n.back (nw a ha).1, (nw a ha).2⟩
  have ap := t2 fp sl
  refine ⟨fun j => if j = i then (if i < ρ.length then L else []) else fp j, fun j w' h => ?_, fun j h => ?_, fun j => ?_, fun j k hjk a ha => ?_, fun j a ha => ?_⟩
  · by_cases hj : j = i
    · subst hj
      by_cases hi : j < ρ.length
      · rw [List.getElem?_set_self hi] at h
        cases h
        refine ⟨v, List.getElem?_set_self (Nat.lt_of_lt_of_le hi t.ln), ?_⟩
        show RepW K κ F1 H1 _ v (if j = j then (if j < ρ.length then L else []) else fp j)
        rw [if_pos rfl, if_pos hi]
        exact r
      · rw [List.getElem?_eq_none (by rw [List.length_set]; omega)] at h
        cases h
    · rw [List.getElem?_set_ne (Ne.symm hj)] at h
      obtain ⟨v', h1, h2⟩ := sl1.rep j w' h
      refine ⟨v', by rw [List.getElem?_set_ne (Ne.symm hj)]; exact h1, ?_⟩
      show RepW K κ F1 H1 _ v' (if j = i then (if i < ρ.length then L else []) else fp j)
      rw [if_neg hj]
      exact h2
  · show (if j = i then (if i < ρ.length then L else []) else fp j) = []
    by_cases hj : j = i
    · subst hj
      rw [if_pos rfl]
      by_cases hi : j < ρ.length
      · exact absurd (List.getElem?_set_self hi) (h w)
      · rw [if_neg hi]
    · rw [if_neg hj]
      exact sl.non j fun w' e => h w' (by rw [List.getElem?_set_ne (Ne.symm hj)]; exact e)
  · show (if j = i then (if i < ρ.length then L else []) else fp j).Nodup
    split
    · split
      · exact nd
      · exact .nil
    · exact sl.nd j
  · show a ∉ (if k = i then (if i < ρ.length then L else []) else fp k)
    have ha : a ∈ (if j = i then (if i < ρ.length then L else []) else fp j) := ha
    by_cases hj : j = i
    · rw [if_pos hj] at ha
      split at ha
      · rw [if_neg (fun z => hjk (hj.trans z.symm))]
        exact fun z => ap k a z ha
      · exact absurd ha (by simp)
    · rw [if_neg hj] at ha
      split
      · split
        · exact ap j a ha
        · simp
      · exact sl.dis j k hjk a ha
  · have ha : a ∈ (if j = i then (if i < ρ.length then L else []) else fp j) := ha
    split at ha
    · split at ha
      · exact nw0 a ha
      · exact absurd ha (by simp)
    · exact sl1.nw j a ha
/-- a slot's own list is frozen -/
theorem Ats.frz1 (t : Ats K κ F0 H0 F ρ S σ H) (i : Nat) : ∃ F1, Same F F1 ∧ Ats K κ F0 H0 F1 (frz1 i ρ) S σ H := by
  unfold PD.frz1
  split
  · rename_i ws q
    split
    · rename_i x e
      obtain ⟨fp, sl⟩ := t.sl
      obtain ⟨v, h1, h2⟩ := sl.rep i _ q
      have e' : (W.toDs ws).map (fun ds => A.d (.list ds)) = some x := e
      cases e2 : W.toDs ws with
      | none => rw [e2] at e'; cases e'
      | some ds =>
        rw [e2] at e'
        cases e'
        have ff : Same F (mix F H (fp i)) := mix_ff t.n.fh
        have lk := t.nok sl i
        have r2 : Rep K (mix F H (fp i)) v (.list ds) := RepW.frz ff (.own ws) v (fp i) (.list ds) (by simp [W.toD, e2]) (fun a ha => mix_in ha) h2
        have hi : i < ρ.length := (List.getElem?_eq_some_iff.mp q).1
        have mixT : NoT F → NoT (mix F H (fp i)) := fun h b ps e => by
          by_cases hb : b ∈ fp i
          · rw [mix_in hb] at e
            obtain ⟨us, e2⟩ := sl.there i b hb
            rw [e2] at e; cases e
          · rw [mix_out hb] at e; exact h b ps e
        refine ⟨mix F H (fp i), ff, ⟨t.n.ff.trans ff, mix_fh t.n.fh, t.n.kp, t.n.dm, t.n.tb, fun a h => ?_, fun h => mixT (t.n.nt h)⟩, ⟨t.c.len, t.c.nd, fun k a ds e1 e2 => ?_, fun a ha => ?_, t.c.tb, mixT t.c.nt⟩, t.ck, by rw [List.length_set]; exact t.ln, fun j => if j = i then [] else fp j, fun j w h => ?_, fun j h => ?_, fun j => ?_, fun j k hjk a ha => ?_, fun j a ha => ?_⟩
        · by_cases ha : a ∈ fp i
          · exact .inr (sl.nw i a ha).1
          · rw [mix_out ha] at h; exact t.n.fn a h
        · obtain ⟨vs, h1, h2⟩ := t.c.cl k a ds e1 e2
          exact ⟨vs, h1, RepAll.up ff ds vs h2⟩
        · rw [mix_out (fun z => lk a z ha)]
          exact t.c.fz a ha
        · by_cases hj : j = i
          · subst hj
            rw [List.getElem?_set_self hi] at h
            cases h
            exact ⟨v, h1, by show _ = _ ∧ _; exact ⟨if_pos rfl, r2⟩⟩
          · rw [List.getElem?_set_ne (Ne.symm hj)] at h
            obtain ⟨v', h3, h4⟩ := sl.rep j w h
            refine ⟨v', h3, ?_⟩
            show RepW K κ _ H w v' (if j = i then [] else fp j)
            rw [if_neg hj]
            exact RepW.up ff w v' _ (fun a _ o e => e) h4
        · show (if j = i then [] else fp j) = []
          by_cases hj : j = i
          · rw [if_pos hj]
          · rw [if_neg hj]
            exact sl.non j fun w' e => h w' (by rw [List.getElem?_set_ne (Ne.symm hj)]; exact e)
        · show (if j = i then [] else fp j).Nodup
          split
          · exact .nil
          · exact sl.nd j
        · show a ∉ (if k = i then [] else fp k)
          have ha : a ∈ (if j = i then [] else fp j) := ha
          split at ha
          · exact absurd ha (by simp)
          · split
            · simp
            · exact sl.dis j k hjk a ha
        · have ha : a ∈ (if j = i then [] else fp j) := ha
          by_cases hj : j = i
          · rw [if_pos hj] at ha; exact absurd ha (by simp)
          · rw [if_neg hj] at ha
            exact ⟨(sl.nw j a ha).1, by rw [mix_out (sl.dis j i hj a ha)]; exact (sl.nw j a ha).2⟩
    · exact ⟨F, Same.refl _, t⟩
  · exact ⟨F, Same.refl _, t⟩
theorem Ats.frzE : ∀ {is : List Nat} {ρ : Ev} {F : Hp}, Ats K κ F0 H0 F ρ S σ H → ∃ F1, Same F F1 ∧ Ats K κ F0 H0 F1 (PD.frzE is ρ) S σ H
  | [], ρ, F, t => ⟨F, Same.refl _, t⟩
  | i :: is, ρ, F, t => by
    obtain ⟨F1, s1, t1⟩ := t.frz1 i
    obtain ⟨F2, s2, t2⟩ := Ats.frzE (is := is) t1
    exact ⟨F2, s1.trans s2, t2⟩
end
end PD

/-! PDL: the rules of statements. -/
namespace PD
open PySem PySem.Spec PyProof.Rows L2
def flatCs (S : Cs) : Bool := S.all flatAll
def W.flat : W → Bool
  | .a (.d x) => flatD x
  | _ => false
def PostS (K : PySem.W.Frag) (mg : Str → Option Value) (Z : WX) (κ : Kp) (F0 H0 F : Hp) (r : Fl) (Dn : Ends) : Prop := match r with
  | .nx ρ S => ∀ σ' H' F', Same F F' → Ats K κ F0 H0 F' ρ S σ' H' → Dn.nx σ' H'
  | .rt w S => ∀ v H' F' L, Nxt κ F0 H0 F' H' → Cel K κ F' H' S → RepW K κ F' H' w v L → L.Nodup → (∀ p ∈ L, FrT H0 p ∧ F' p = none) → Dn.rt v H'
  | .exc n S => ∀ C σ' H' F', mg n = some (.ref C) → Nxt κ F0 H0 F' H' → Cel K κ F' H' S → Z (.ref C) none σ' H'
  | .stuck => False
def ts (K : PySem.W.Frag) (mg : Str → Option Value) (Z : WX) (g : Fs) : TS := fun Dn σ H => ∃ κ F0 H0 F ρ S, Ats K κ F0 H0 F ρ S σ H ∧ PostS K mg Z κ F0 H0 F (g ρ S) Dn
theorem PostS.upF {K : PySem.W.Frag} {mg : Str → Option Value} {Z : WX} {κ : Kp} {F0 H0 F F1 : Hp} {r : Fl} {Dn : Ends} (p : PostS K mg Z κ F0 H0 F r Dn) (s : Same F F1) : PostS K mg Z κ F0 H0 F1 r Dn := by
  cases r with
  | nx ρ S => exact fun σ' H' F' a b => p σ' H' F' (s.trans a) b
  | rt w S => exact p
  | exc n S => exact p
  | stuck => exact p
abbrev VS (X : Cx) (Z : WX) (st : Stmt) (g : Fs) : Prop := PS X st (ts X.K X.mg Z g)
abbrev VSs (X : Cx) (Z : WX) (st : List Stmt) (g : Fs) : Prop := PSs X st (ts X.K X.mg Z g)
theorem RepAll.flatF {K : PySem.W.Frag} {F F' : Hp} : ∀ {vs : List V} {ds : List D}, flatAll ds = true → RepAll K F vs ds → RepAll K F' vs ds
  | _, _, _, .nil => .nil
  | v :: vs, d :: ds, f, .cons r t => by
    have f' : flatD d = true ∧ flatAll ds = true := by simpa [flatAll] using f
    refine .cons ?_ (RepAll.flatF f'.2 t)
    cases r with
    | non => exact .non
    | bl b => exact .bl b
    | int b => exact .int b
    | str b => exact .str b
    | lst _ _ => exact absurd f'.1 (by simp [flatD])
    | tup _ _ => exact absurd f'.1 (by simp [flatD])
    | dct _ => exact absurd f'.1 (by simp [flatD])
theorem Rep.flatF {K : PySem.W.Frag} {F F' : Hp} {v : V} {d : D} (f : flatD d = true) (r : Rep K F v d) : Rep K F' v d := by
  cases r with
  | non => exact .non
  | bl b => exact .bl b
  | int b => exact .int b
  | str b => exact .str b
  | lst _ _ => exact absurd f (by simp [flatD])
  | tup _ _ => exact absurd f (by simp [flatD])
  | dct _ => exact absurd f (by simp [flatD])
section
variable {K : PySem.W.Frag} {mg : Str → Option Value} {Z : WX} {κ : Kp} {F0 H0 F H F1 H1 Fs : Hp} {ρ : Ev} {S S1 : Cs} {σ : L2.St}
/-- what was frozen for a while is one's own again -/
theorem Ats.borrow (t : Ats K κ F0 H0 F ρ S σ H) (s : Same F Fs) (n : Nxt κ Fs H F1 H1) (c : Cel K κ F1 H1 S1) (fl : flatCs S1 = true) : Ats K κ F0 H0 F ρ S1 σ H1 := by
  obtain ⟨fp, sl⟩ := t.sl
  have nn : Nxt κ F H F H1 := ⟨Same.refl _, (s.trans n.ff).trans n.fh, n.kp, n.dm, n.tb, fun a h => .inl h, fun h => h⟩
  have c2 : Cel K κ F H1 S1 := ⟨c.len, c.nd, fun k a ds e1 e2 => by
    obtain ⟨vs, h1, h2⟩ := c.cl k a ds e1 e2
    refine ⟨vs, h1, RepAll.flatF ?_ h2⟩
    exact List.all_eq_true.mp fl ds (List.mem_of_getElem? e2), t.c.fz, c.tb, t.c.nt⟩
  exact t.nxt nn c2
theorem PostS.exc {n : Str} {S' : Cs} {Dn : Ends} {Q : VK} (p : PostS K mg Z κ F0 H0 F1 (.exc n S') Dn) (t : Nxt κ F0 H0 F H) : Post K mg Z κ F H σ (.exc n S') Q := fun C H' F' g a b => p C σ H' F' g (t.trans a) b
end
section
variable {X : Cx} {Z : WX} {e c : Expr} {f fc : Fe} {pos : Pos} {st : Stmt} {rest a b : List Stmt} {g g1 g2 : Fs}
/-! ### blocks -/
def sSkip : Fs := fun ρ S => .nx ρ S
def sSeq (g1 g2 : Fs) : Fs := fun ρ S => match g1 ρ S with
  | .nx ρ1 S1 => g2 ρ1 S1
  | r => r
theorem vss_nil : VSs X Z [] sSkip := pss_nil.imp fun Dn σ H h => by
  obtain ⟨κ, F0, H0, F, ρ, S, t, p⟩ := h
  exact p σ H F (Same.refl _) t
theorem vs_pass : VS X Z (.Pass pos) sSkip := ps_pass.imp fun Dn σ H h => by
  obtain ⟨κ, F0, H0, F, ρ, S, t, p⟩ := h
  exact p σ H F (Same.refl _) t
theorem vs_doc {x : Str} {j : Nat} {pos pos' : Pos} : VS X Z (.Expr (.Constant (.str x) j pos) pos') sSkip := ps_doc.imp fun Dn σ H h => by
  obtain ⟨κ, F0, H0, F, ρ, S, t, p⟩ := h
  exact p σ H F (Same.refl _) t
theorem vss_cons (h1 : VS X Z st g1) (h2 : VSs X Z rest g2) : VSs X Z (st :: rest) (sSeq g1 g2) := (pss_cons h1 h2).imp fun Dn σ H h => by
  obtain ⟨κ, F0, H0, F, ρ, S, t, p⟩ := h
  refine ⟨κ, F0, H0, F, ρ, S, t, ?_⟩
  unfold sSeq at p
  cases q : g1 ρ S with
  | nx ρ1 S1 =>
    rw [q] at p
    exact fun σ' H' F' s' t' => ⟨κ, F0, H0, F', ρ1, S1, t', p.upF s'⟩
  | rt w S1 => rw [q] at p; exact p
  | exc n S1 => rw [q] at p; exact p
  | stuck => rw [q] at p; exact p
theorem vss_one (h : VS X Z st g) : VSs X Z [st] g := pss_one h
/-! ### names -/
def sSet (i : Nat) (is : List Nat) (f : Fe) : Fs := fun ρ S => match f (ev (frzE is ρ)) S with
  | .ok w S1 => .nx ((frzE is ρ).set i (some w)) S1
  | .exc n S1 => .exc n S1
  | .stuck => .stuck
def sSetB (i : Nat) (is : List Nat) (f : Fe) : Fs := fun ρ S => match f (ev (frzE is ρ)) S with
  | .ok w S1 => if (w.flat && flatCs S1) = true then .nx (ρ.set i (some w)) S1 else .stuck
  | .exc n S1 => .exc n S1
  | .stuck => .stuck
theorem set_of {K : PySem.W.Frag} {mg : Str → Option Value} {i : Nat} {is : List Nat} {Dn : Ends} {σ : L2.St} {H : Hp} (h : ts K mg Z (sSet i is f) Dn σ H) : tAsg (tv K mg Z f) (gName i) Dn σ H := by
  obtain ⟨κ, F0, H0, F, ρ, S, t, p⟩ := h
  obtain ⟨F1, s1, t1⟩ := t.frzE (is := is)
  show tv K mg Z f σ H fun x H1 => Dn.nx (σ.set i (some x)) H1
  refine ⟨κ, F1, _, S, t1.at_, ?_⟩
  unfold sSet at p
  cases q : f (ev (frzE is ρ)) S with
  | stuck => rw [q] at p; exact p
  | exc n S1 => rw [q] at p; exact PostS.exc p t1.n
  | ok w S1 =>
    rw [q] at p
    exact fun v H' F' L n c r nd nw => p _ _ F' (s1.trans n.ff) (t1.setN i n c r nd nw)
theorem setB_of {K : PySem.W.Frag} {mg : Str → Option Value} {i : Nat} {is : List Nat} {Dn : Ends} {σ : L2.St} {H : Hp} (h : ts K mg Z (sSetB i is f) Dn σ H) : tAsg (tv K mg Z f) (gName i) Dn σ H := by
  obtain ⟨κ, F0, H0, F, ρ, S, t, p⟩ := h
  obtain ⟨F1, s1, t1⟩ := t.frzE (is := is)
  show tv K mg Z f σ H fun x H1 => Dn.nx (σ.set i (some x)) H1
  refine ⟨κ, F1, _, S, t1.at_, ?_⟩
  unfold sSetB at p
  cases q : f (ev (frzE is ρ)) S with
  | stuck => rw [q] at p; exact p
  | exc n S1 => rw [q] at p; exact PostS.exc p t1.n
  | ok w S1 =>
    rw [q] at p
    simp only at p
    split at p
    · rename_i hf
      rw [Bool.and_eq_true] at hf
      intro v H' F' L n c r nd nw
      have t2 := t.borrow s1 n c hf.2
      match w, r, hf, p with
      | .a (.d x), r, hf, p => exact p _ _ F (Same.refl _) (t2.setA i (show Rep K F v x from Rep.flatF hf.1 r.2))
      | .a (.c _), _, hf, _ => exact absurd hf.1 (by simp [W.flat])
      | .a (.s _), _, hf, _ => exact absurd hf.1 (by simp [W.flat])
      | .a (.e _), _, hf, _ => exact absurd hf.1 (by simp [W.flat])
      | .own _, _, hf, _ => exact absurd hf.1 (by simp [W.flat])
    · exact p.elim
theorem vs_set (i : Nat) (is : List Nat) {x : Str} {pos' : Pos} (hN : X.N.Nodup) (he : VE X Z e f) (hi : X.N[i]? = some x := by rfl) (hx : Loc X.env.scope x := by first | exact Or.inl rfl | exact Or.inr rfl) (hs : swapsWith e (some (.Name x pos')) pos.line X.env = pure false := by rfl)
    (hf : X.fn x = true ∨ X.env.scope.names.lookup x = some .local := by first | exact .inl rfl | exact .inr rfl | assumption) : VS X Z (.Assign [.Name x pos'] e pos) (sSet i is f) := (ps_set hN hi hx he hs hf).imp fun Dn σ H h => set_of h
theorem vs_setB (i : Nat) (is : List Nat) {x : Str} {pos' : Pos} (hN : X.N.Nodup) (he : VE X Z e f) (hi : X.N[i]? = some x := by rfl) (hx : Loc X.env.scope x := by first | exact Or.inl rfl | exact Or.inr rfl) (hs : swapsWith e (some (.Name x pos')) pos.line X.env = pure false := by rfl)
    (hf : X.fn x = true ∨ X.env.scope.names.lookup x = some .local := by first | exact .inl rfl | exact .inr rfl | assumption) : VS X Z (.Assign [.Name x pos'] e pos) (sSetB i is f) := (ps_set hN hi hx he hs hf).imp fun Dn σ H h => setB_of h
/-! ### return, expressions -/
def sRet (is : List Nat) (f : Fe) : Fs := fun ρ S => match f (ev (frzE is ρ)) S with
  | .ok w S1 => .rt w S1
  | .exc n S1 => .exc n S1
  | .stuck => .stuck
theorem vs_ret (is : List Nat) (he : VE X Z e f) : VS X Z (.Return (some e) pos) (sRet is f) := (ps_ret he).imp fun Dn σ H h => by
  obtain ⟨κ, F0, H0, F, ρ, S, t, p⟩ := h
  obtain ⟨F1, s1, t1⟩ := t.frzE (is := is)
  show tv X.K X.mg Z f σ H Dn.rt
  refine ⟨κ, F1, _, S, t1.at_, ?_⟩
  unfold sRet at p
  cases q : f (ev (frzE is ρ)) S with
  | stuck => rw [q] at p; exact p
  | exc n S1 => rw [q] at p; exact PostS.exc p t1.n
  | ok w S1 =>
    rw [q] at p
    exact fun v H' F' L n c r nd nw => p v H' F' L (t1.n.trans n) c r nd fun a ha => ⟨t1.n.back (nw a ha).1, (nw a ha).2⟩
/-- a list of one's own is handed back -/
def sRetV (i : Nat) : Fs := fun ρ S => match ρ[i]? with
  | some (some w) => .rt w S
  | _ => .stuck
theorem vs_retV (i : Nat) {x : Str} {pos' : Pos} (hN : X.N[i]? = some x := by rfl) (hv : Vis X.env.scope x := by first | exact Or.inl rfl | exact Or.inr (Or.inl rfl) | exact Or.inr (Or.inr rfl)) (hd : (x == ("__debug__" : Str)) = false := by decide)
    (hcd : (x == ("__classdict__" : Str)) = false := by decide) : VS X Z (.Return (some (.Name x pos')) pos) (sRetV i) := (ps_ret (pe_var hN hv hd hcd)).imp fun Dn σ H h => by
  obtain ⟨κ, F0, H0, F, ρ, S, t, p⟩ := h
  unfold sRetV at p
  split at p
  · rename_i w q
    obtain ⟨fp, sl⟩ := t.sl
    obtain ⟨v, h1, h2⟩ := sl.rep i w q
    exact ⟨v, h1, p v H F (fp i) t.n t.c h2 (sl.nd i) fun a ha => sl.nw i a ha⟩
  · exact p.elim
def sRetN : Fs := fun ρ S => .rt nD S
theorem vs_retN : VS X Z (.Return none pos) sRetN := ps_retN.imp fun Dn σ H h => by
  obtain ⟨κ, F0, H0, F, ρ, S, t, p⟩ := h
  exact p .non H F [] t.n t.c ⟨rfl, .non⟩ .nil fun a ha => absurd ha (by simp)
def sExp (is : List Nat) (f : Fe) : Fs := fun ρ S => match f (ev (frzE is ρ)) S with
  | .ok w S1 => if flatCs S1 = true then .nx ρ S1 else .stuck
  | .exc n S1 => .exc n S1
  | .stuck => .stuck
theorem vs_exp (is : List Nat) (he : VE X Z e f) (hs : swapsWith e none pos.line X.env = pure false := by rfl) : VS X Z (.Expr e pos) (sExp is f) := (ps_expr he hs).imp fun Dn σ H h => by
  obtain ⟨κ, F0, H0, F, ρ, S, t, p⟩ := h
  obtain ⟨F1, s1, t1⟩ := t.frzE (is := is)
  refine ⟨κ, F1, _, S, t1.at_, ?_⟩
  unfold sExp at p
  cases q : f (ev (frzE is ρ)) S with
  | stuck => rw [q] at p; exact p
  | exc n S1 => rw [q] at p; exact PostS.exc p t1.n
  | ok w S1 =>
    rw [q] at p
    simp only at p
    split at p
    · rename_i hf
      exact fun v H' F' L n c r nd nw => p σ H' F (Same.refl _) (t.borrow s1 n c hf)
    · exact p.elim
/-! ### if -/
def sIf (is : List Nat) (fc : Fe) (g1 g2 : Fs) : Fs := fun ρ S => match fc (ev (frzE is ρ)) S with
  | .ok (.a (.d (.bool b))) S1 => if flatCs S1 = true then (if b = true then g1 ρ S1 else g2 ρ S1) else .stuck
  | .exc n S1 => .exc n S1
  | _ => .stuck
theorem if_of {K : PySem.W.Frag} {mg : Str → Option Value} {is : List Nat} {Dn : Ends} {σ : L2.St} {H : Hp} {κ : Kp} {F0 H0 F : Hp} {ρ : Ev} {S : Cs} {k : Bool → Cs → Fl} (t : Ats K κ F0 H0 F ρ S σ H)
    (p : PostS K mg Z κ F0 H0 F (match fc (ev (frzE is ρ)) S with
      | .ok (.a (.d (.bool b))) S1 => if flatCs S1 = true then k b S1 else .stuck
      | .exc n S1 => .exc n S1
      | _ => .stuck) Dn) {Q : Bool → Hp → Prop} (g : ∀ b H' S1, Ats K κ F0 H0 F ρ S1 σ H' → PostS K mg Z κ F0 H0 F (k b S1) Dn → Q b H') : tB (tv K mg Z fc) σ H Q := by
  obtain ⟨F1, s1, t1⟩ := t.frzE (is := is)
  refine ⟨κ, F1, _, S, t1.at_, ?_⟩
  cases q : fc (ev (frzE is ρ)) S with
  | stuck => rw [q] at p; exact p
  | exc n S1 => rw [q] at p; exact PostS.exc p t1.n
  | ok w S1 =>
    rw [q] at p
    match w, p with
    | .a (.d (.bool b)), p =>
      simp only at p
      split at p
      · rename_i hf
        exact fun v H' F' L n c r nd nw => ⟨b, Rep.blv r.2, g b H' S1 (t.borrow s1 n c hf) p⟩
      · exact p.elim
    | .a (.d .none), p => exact p.elim
    | .a (.d (.int _)), p => exact p.elim
    | .a (.d (.str _)), p => exact p.elim
    | .a (.d (.list _)), p => exact p.elim
    | .a (.d (.tuple _)), p => exact p.elim
    | .a (.d (.dict _)), p => exact p.elim
    | .a (.c _), p => exact p.elim
    | .a (.s _), p => exact p.elim
    | .a (.e _), p => exact p.elim
    | .own _, p => exact p.elim
theorem vs_if (is : List Nat) (hc : VT X Z c fc) (ha : VSs X Z a g1) (hb : VSs X Z b g2) : VS X Z (.If c a b pos) (sIf is fc g1 g2) := (ps_if hc ha hb).imp fun Dn σ H h => by
  obtain ⟨κ, F0, H0, F, ρ, S, t, p⟩ := h
  refine if_of (k := fun b S1 => if b = true then g1 ρ S1 else g2 ρ S1) t p fun b H' S1 t' p' => ?_
  cases b with
  | true => exact iteT ⟨κ, F0, H0, F, ρ, S1, t', by rw [if_pos rfl] at p'; exact p'⟩
  | false => exact iteF ⟨κ, F0, H0, F, ρ, S1, t', by rw [if_neg Bool.false_ne_true] at p'; exact p'⟩
/-! ### raise -/
def sRaise (n : Str) : Fs := fun ρ S => .exc n S
theorem vs_raise {x m : Str} {j : Nat} {p1 p2 p3 pos : Pos} {C : Addr} {bmB : List Value} {B newId initId : String} (hc : X.calm = true) (tk : Takes X Z) (Fb : ExcBaseFacts B newId initId bmB) (q : PySem.W.excIn X.K C bmB newId = true) (gC : X.mg x = some (.ref C)) (kC : PySem.W.keepIn X.K (.ref C) = true) (r : Raises X (.ref C)) (hg : Gl X x)
    (hdb : (x == ("__debug__" : Str)) = false := by decide) : VS X Z (.Raise (some (.Call (.Name x p1) [.Constant (.str m) j p2] [] p3)) none pos) (sRaise x) := (ps_raise hc tk (pmk_own Fb q gC kC r hg hdb)).imp fun Dn σ H h => by
  obtain ⟨κ, F0, H0, F, ρ, S, t, p⟩ := h
  exact p C σ H F gC t.n t.c
end
end PD

/-! PDM: lists of one's own written; for; while; a def's promise. -/
namespace PD
open PySem PySem.Spec PyProof.Rows L2
section
variable {K : PySem.W.Frag} {mg : Str → Option Value} {Z : WX} {κ : Kp} {F0 H0 F H F1 H1 Fs : Hp} {ρ : Ev} {S S1 : Cs} {σ : L2.St}
/-- the list of one's own in slot i is written anew -/
theorem Ats.wr {fp : Nat → List Addr} {i : Nat} {ws ws' : List W} {a : Addr} {vs vs' : List V} {L' : List Addr} (t : Ats K κ F0 H0 F ρ S σ H) (sl : Slots K κ H0 F H ρ σ fp) (hi : ρ[i]? = some (some (.own ws))) (hσ : σ[i]? = some (some (.ref a))) (hd : H a = some (.lst vs)) (fa : a ∈ fp i)
    (r : RepWs K κ F (upd H a (.lst vs')) ws' vs' L') (nd : (a :: L').Nodup) (nw : ∀ b ∈ L', FrT H0 b ∧ F b = none) (ap : ∀ j, j ≠ i → ∀ b ∈ fp j, b ∉ L') : Ats K κ F0 H0 F (ρ.set i (some (.own ws'))) S σ (upd H a (.lst vs')) := by
  have h0 := sl.nw i a fa
  have hl : i < ρ.length := (List.getElem?_eq_some_iff.mp hi).1
  refine ⟨t.n.wr h0.1 h0.2 hd, t.c.wr (t.nok sl i a fa) hd, t.ck, by rw [List.length_set]; exact t.ln, fun j => if j = i then a :: L' else fp j, fun j w h => ?_, fun j h => ?_, fun j => ?_, fun j k hjk b hb => ?_, fun j b hb => ?_⟩
  · by_cases hj : j = i
    · subst hj
      rw [List.getElem?_set_self hl] at h
      cases h
      refine ⟨.ref a, hσ, ?_⟩
      show RepW K κ F _ _ _ (if j = j then a :: L' else fp j)
      rw [if_pos rfl]
      exact ⟨a, vs', L', rfl, upd_same, rfl, r⟩
    · rw [List.getElem?_set_ne (Ne.symm hj)] at h
      obtain ⟨v, h1, h2⟩ := sl.rep j w h
      refine ⟨v, h1, ?_⟩
      show RepW K κ F _ w v (if j = i then a :: L' else fp j)
      rw [if_neg hj]
      exact RepW.up (Same.refl _) w v _ (fun b hb o e => by rw [upd_ne (show b ≠ a from fun z => sl.dis j i hj b hb (z ▸ fa))]; exact e) h2
  · show (if j = i then a :: L' else fp j) = []
    by_cases hj : j = i
    · subst hj
      exact absurd (List.getElem?_set_self hl) (h _)
    · rw [if_neg hj]
      exact sl.non j fun w' e => h w' (by rw [List.getElem?_set_ne (Ne.symm hj)]; exact e)
  · show (if j = i then a :: L' else fp j).Nodup
    split
    · exact nd
    · exact sl.nd j
  · show b ∉ (if k = i then a :: L' else fp k)
    have hb' : b ∈ (if j = i then a :: L' else fp j) := hb
    clear hb
    by_cases hj : j = i
    · rw [if_pos hj] at hb'
      rw [if_neg (fun z => hjk (hj.trans z.symm))]
      intro z
      rcases List.mem_cons.mp hb' with e | hb'
      · exact sl.dis k i (fun e => hjk (hj.trans e.symm)) b z (by rw [e]; exact fa)
      · exact ap k (fun e => hjk (hj.trans e.symm)) b z hb'
    · rw [if_neg hj] at hb'
      split
      · intro z
        rcases List.mem_cons.mp z with e | z
        · exact sl.dis j i hj b hb' (by rw [e]; exact fa)
        · exact ap j hj b hb' z
      · exact sl.dis j k hjk b hb'
  · have hb : b ∈ (if j = i then a :: L' else fp j) := hb
    split at hb
    · rcases List.mem_cons.mp hb with rfl | hb
      · exact h0
      · exact nw b hb
    · exact sl.nw j b hb
/-- the slots behind a step, with the very footprints -/
theorem Ats.step {fp : Nat → List Addr} (t : Ats K κ F0 H0 F ρ S σ H) (sl : Slots K κ H0 F H ρ σ fp) (n : Nxt κ F H F1 H1) : Slots K κ H0 F1 H1 ρ σ fp := by
  refine ⟨fun i w h => ?_, sl.non, sl.nd, sl.dis, fun i a ha => ?_⟩
  · obtain ⟨v, h1, h2⟩ := sl.rep i w h
    obtain ⟨k1, _⟩ := n.own (sl.there i) (fun a ha => (sl.nw i a ha).2) (t.nok sl i)
    exact ⟨v, h1, RepW.up n.ff w v _ k1 h2⟩
  · obtain ⟨_, k2⟩ := n.own (sl.there i) (fun a ha => (sl.nw i a ha).2) (t.nok sl i)
    exact ⟨(sl.nw i a ha).1, k2 a ha⟩
end
section
variable {X : Cx} {Z : WX} {e c o : Expr} {f fc fi : Fe} {pos apos cpos : Pos} {st : Stmt} {rest a b body : List Stmt} {g g1 g2 : Fs}
/-! ### append, extend -/
def sApp (i : Nat) (is : List Nat) (f : Fe) : Fs := fun ρ S => match (frzE is ρ)[i]? with
  | some (some (.own ws)) => match f (ev (frzE is ρ)) S with
    | .ok w S1 => if ws.length < 1000000 then .nx ((frzE is ρ).set i (some (.own (ws ++ [w])))) S1 else .stuck
    | .exc n S1 => .exc n S1
    | .stuck => .stuck
  | _ => .stuck
theorem vs_app (i : Nat) (is : List Nat) {x : Str} {px : Pos} (he : VE X Z e f) (hN : X.N[i]? = some x := by rfl) (hv : Vis X.env.scope x := by first | exact Or.inl rfl | exact Or.inr (Or.inl rfl) | exact Or.inr (Or.inr rfl)) (hd : (x == ("__debug__" : Str)) = false := by decide)
    (hcd : (x == ("__classdict__" : Str)) = false := by decide) (hbase : attributeBase (.Name x px) "append" X.env (eval (.Name x px) X.env) = eval (.Name x px) X.env := by rfl)
    (hfew : ((backTo cpos (starEach [e] X.env)).all (fun x => !x.1) && (backToKw cpos (keywordEach [] X.env)).all (fun x => x.1.isSome) && decide ([e].length + ([] : List Keyword).length + (if ([] : List Keyword).isEmpty then 0 else 1) < 30)) = true := by rfl)
    (hline : (apos.endLine == cpos.line) = true := by rfl) (hs : starEach [e] X.env = (false, eval e X.env) :: starEach [] X.env := by rfl) (hplain : (backTo cpos (starEach [] X.env)).any (·.1) = false := by rfl) (hsw : swapsWith (.Call (.Attribute (.Name x px) "append" apos) [e] [] cpos) none pos.line X.env = pure false := by rfl) :
    VS X Z (.Expr (.Call (.Attribute (.Name x px) "append" apos) [e] [] cpos) pos) (sApp i is f) :=
  (ps_expr (pe_bm PySem.F.plainAttrs_list PySem.F.slot_list_append PySem.F.type_list_append mt_append (pe_var hN hv hd hcd) (va_cons he va_nil hs) hbase hfew hline hs hplain) hsw).imp fun Dn σ H h => by
    obtain ⟨κ, F0, H0, F, ρ, S, t, p⟩ := h
    obtain ⟨F1, s1, t1⟩ := t.frzE (is := is)
    unfold sApp at p
    cases q : (frzE is ρ)[i]? with
    | none => rw [q] at p; exact p.elim
    | some ow =>
      rw [q] at p
      match ow, p, q with
      | some (.own ws), p, q =>
        obtain ⟨fp, sl⟩ := t1.sl
        obtain ⟨v, hσ, hr⟩ := sl.rep i _ q
        obtain ⟨a, vs, L, rfl, hd, hL, rr⟩ := hr
        have fa : a ∈ fp i := by rw [hL]; exact List.mem_cons_self
        refine ⟨.ref a, hσ, Or.inl ⟨rfl, vs, .of hd⟩, ?_⟩
        show tv X.K X.mg Z f σ H fun y H2 => rAppend (.ref a) [y] H2 fun _ H3 => Dn.nx σ H3
        refine ⟨κ, F1, _, S, t1.at_, ?_⟩
        simp only at p
        cases qe : f (ev (frzE is ρ)) S with
        | stuck => rw [qe] at p; exact p
        | exc n S1 => rw [qe] at p; exact PostS.exc p t1.n
        | ok w S1 =>
          rw [qe] at p
          simp only at p
          split at p
          · rename_i hlen
            intro y H2 F2 L2 n c r nd nw
            have t2 := t1.nxt n c
            have sl2 := t1.step sl n
            obtain ⟨hd2, fd2⟩ := n.own1 hd (sl.nw i a fa).2 (t1.nok sl i a fa)
            have hr2 := (sl2.rep i _ q)
            obtain ⟨v2, e2, a2, vs2, L2', e3, e4, e5, rr2⟩ := hr2
            rw [hσ] at e2
            cases e2
            cases e3
            rw [hd2] at e4
            cases e4
            rw [hL] at e5
            cases e5
            have th2 := RepWs.there ws vs L rr2
            have aL : a ∉ L := by have := sl.nd i; rw [hL] at this; exact (List.nodup_cons.mp this).1
            have ndL : L.Nodup := by have := sl.nd i; rw [hL] at this; exact (List.nodup_cons.mp this).2
            have thn := RepW.there w y L2 r
            have aL2 : a ∉ L2 := fun z => (nw a z).1.no hd
            have apart : ∀ j, ∀ b ∈ fp j, b ∉ L2 := fun j b hb z => by
              obtain ⟨us, e⟩ := sl.there j b hb
              exact (nw b z).1.no e
            refine ⟨a, vs, y, rfl, rfl, hd2, ?_, p σ _ F2 (s1.trans n.ff) (t2.wr sl2 q hσ hd2 fa (L' := L ++ L2) ?_ ?_ ?_ ?_)⟩
            · rw [RepWs.len rr2, sizeLine_eq]; omega
            · exact RepWs.app (RepWs.up (Same.refl _) ws vs L (fun b hb o e => by rw [upd_ne (show b ≠ a from fun z => aL (z ▸ hb))]; exact e) rr2) ⟨y, [], L2, [], rfl, by simp, RepW.up (Same.refl _) w y L2 (fun b hb o e => by rw [upd_ne (show b ≠ a from fun z => aL2 (z ▸ hb))]; exact e) r, rfl, rfl⟩
            · refine List.nodup_cons.mpr ⟨fun z => ?_, List.nodup_append.mpr ⟨ndL, nd, fun x hx z hz => ?_⟩⟩
              · rcases List.mem_append.mp z with z | z
                · exact aL z
                · exact aL2 z
              · rintro rfl
                exact apart i x (by rw [hL]; exact List.mem_cons_of_mem _ hx) hz
            · intro x hx
              rcases List.mem_append.mp hx with hx | hx
              · exact sl2.nw i x (by rw [hL]; exact List.mem_cons_of_mem _ hx)
              · exact ⟨t1.n.back (nw x hx).1, (nw x hx).2⟩
            · intro j hj x hx z
              rcases List.mem_append.mp z with z | z
              · exact sl.dis j i hj x hx (by rw [hL]; exact List.mem_cons_of_mem _ z)
              · exact apart j x hx z
          · exact p.elim
      | some (.a _), p, _ => exact p.elim
      | none, p, _ => exact p.elim
def sExt (i : Nat) (is : List Nat) (f : Fe) : Fs := fun ρ S => match (frzE is ρ)[i]? with
  | some (some (.own ws)) => match f (ev (frzE is ρ)) S with
    | .ok (.own us) S1 => if ws.length + us.length < 1000000 then .nx ((frzE is ρ).set i (some (.own (ws ++ us)))) S1 else .stuck
    | .exc n S1 => .exc n S1
    | _ => .stuck
  | _ => .stuck
theorem vs_ext (i : Nat) (is : List Nat) {x : Str} {px : Pos} (he : VE X Z e f) (hN : X.N[i]? = some x := by rfl) (hv : Vis X.env.scope x := by first | exact Or.inl rfl | exact Or.inr (Or.inl rfl) | exact Or.inr (Or.inr rfl)) (hd : (x == ("__debug__" : Str)) = false := by decide)
    (hcd : (x == ("__classdict__" : Str)) = false := by decide) (hbase : attributeBase (.Name x px) "extend" X.env (eval (.Name x px) X.env) = eval (.Name x px) X.env := by rfl)
    (hfew : ((backTo cpos (starEach [e] X.env)).all (fun x => !x.1) && (backToKw cpos (keywordEach [] X.env)).all (fun x => x.1.isSome) && decide ([e].length + ([] : List Keyword).length + (if ([] : List Keyword).isEmpty then 0 else 1) < 30)) = true := by rfl)
    (hline : (apos.endLine == cpos.line) = true := by rfl) (hs : starEach [e] X.env = (false, eval e X.env) :: starEach [] X.env := by rfl) (hplain : (backTo cpos (starEach [] X.env)).any (·.1) = false := by rfl) (hsw : swapsWith (.Call (.Attribute (.Name x px) "extend" apos) [e] [] cpos) none pos.line X.env = pure false := by rfl) :
    VS X Z (.Expr (.Call (.Attribute (.Name x px) "extend" apos) [e] [] cpos) pos) (sExt i is f) :=
  (ps_expr (pe_bm PySem.F.plainAttrs_list PySem.F.slot_list_extend PySem.F.type_list_extend mt_extend (pe_var hN hv hd hcd) (va_cons he va_nil hs) hbase hfew hline hs hplain) hsw).imp fun Dn σ H h => by
    obtain ⟨κ, F0, H0, F, ρ, S, t, p⟩ := h
    obtain ⟨F1, s1, t1⟩ := t.frzE (is := is)
    unfold sExt at p
    cases q : (frzE is ρ)[i]? with
    | none => rw [q] at p; exact p.elim
    | some ow =>
      rw [q] at p
      match ow, p, q with
      | some (.own ws), p, q =>
        obtain ⟨fp, sl⟩ := t1.sl
        obtain ⟨v, hσ, hr⟩ := sl.rep i _ q
        obtain ⟨a, vs, L, rfl, hd, hL, rr⟩ := hr
        have fa : a ∈ fp i := by rw [hL]; exact List.mem_cons_self
        refine ⟨.ref a, hσ, Or.inl ⟨rfl, vs, .of hd⟩, ?_⟩
        show tv X.K X.mg Z f σ H fun y H2 => rExtend (.ref a) [y] H2 fun _ H3 => Dn.nx σ H3
        refine ⟨κ, F1, _, S, t1.at_, ?_⟩
        simp only at p
        cases qe : f (ev (frzE is ρ)) S with
        | stuck => rw [qe] at p; exact p
        | exc n S1 => rw [qe] at p; exact PostS.exc p t1.n
        | ok w S1 =>
          rw [qe] at p
          match w, p with
          | .own us, p =>
            simp only at p
            split at p
            · rename_i hlen
              intro y H2 F2 L2 n c r nd nw
              obtain ⟨b, zs, L3, rfl, hb, hL2, r3⟩ := r
              subst hL2
              have t2 := t1.nxt n c
              have sl2 := t1.step sl n
              obtain ⟨hd2, fd2⟩ := n.own1 hd (sl.nw i a fa).2 (t1.nok sl i a fa)
              have hr2 := (sl2.rep i _ q)
              obtain ⟨v2, e2, a2, vs2, L2', e3, e4, e5, rr2⟩ := hr2
              rw [hσ] at e2
              cases e2
              cases e3
              rw [hd2] at e4
              cases e4
              rw [hL] at e5
              cases e5
              have aL : a ∉ L := by have := sl.nd i; rw [hL] at this; exact (List.nodup_cons.mp this).1
              have ndL : L.Nodup := by have := sl.nd i; rw [hL] at this; exact (List.nodup_cons.mp this).2
              have aL2 : a ∉ L3 := fun z => (nw a (List.mem_cons_of_mem _ z)).1.no hd
              have apart : ∀ j, ∀ b ∈ fp j, b ∉ L3 := fun j b hb z => by
                obtain ⟨us, e⟩ := sl.there j b hb
                exact (nw b (List.mem_cons_of_mem _ z)).1.no e
              refine ⟨a, b, vs, zs, rfl, rfl, hd2, hb, ?_, p σ _ F2 (s1.trans n.ff) (t2.wr sl2 q hσ hd2 fa (L' := L ++ L3) ?_ ?_ ?_ ?_)⟩
              · rw [RepWs.len rr2, RepWs.len r3, sizeLine_eq]; omega
              · exact RepWs.app (RepWs.up (Same.refl _) ws vs L (fun b hb o e => by rw [upd_ne (show b ≠ a from fun z => aL (z ▸ hb))]; exact e) rr2) (RepWs.up (Same.refl _) us zs L3 (fun b hb o e => by rw [upd_ne (show b ≠ a from fun z => aL2 (z ▸ hb))]; exact e) r3)
              · refine List.nodup_cons.mpr ⟨fun z => ?_, List.nodup_append.mpr ⟨ndL, (List.nodup_cons.mp nd).2, fun x hx z hz => ?_⟩⟩
                · rcases List.mem_append.mp z with z | z
                  · exact aL z
                  · exact aL2 z
                · rintro rfl
                  exact apart i x (by rw [hL]; exact List.mem_cons_of_mem _ hx) hz
              · intro x hx
                rcases List.mem_append.mp hx with hx | hx
                · exact sl2.nw i x (by rw [hL]; exact List.mem_cons_of_mem _ hx)
                · exact ⟨t1.n.back (nw x (List.mem_cons_of_mem _ hx)).1, (nw x (List.mem_cons_of_mem _ hx)).2⟩
              · intro j hj x hx z
                rcases List.mem_append.mp z with z | z
                · exact sl.dis j i hj x hx (by rw [hL]; exact List.mem_cons_of_mem _ z)
                · exact apart j x hx z
            · exact p.elim
          | .a _, p => exact p.elim
      | some (.a _), p, _ => exact p.elim
      | none, p, _ => exact p.elim
/-! ### for -/
abbrev Gs := D → Ev → Option Ev
def tgs (K : PySem.W.Frag) (g : Gs) : TG := fun v σ H Q => ∃ κ F0 H0 F ρ S x ρ', Ats K κ F0 H0 F ρ S σ H ∧ Rep K F v x ∧ g x ρ = some ρ' ∧ ∀ σ', Ats K κ F0 H0 F ρ' S σ' H → Q σ' H
abbrev VGS (X : Cx) (tg : Expr) (g : Gs) : Prop := PG X tg (tgs X.K g)
def sNm (i : Nat) : Gs := fun x ρ => some (ρ.set i (some (.a (.d x))))
theorem vgs_name (i : Nat) {x : Str} {pos : Pos} (hN : X.N.Nodup) (hi : X.N[i]? = some x := by rfl) (hx : Loc X.env.scope x := by first | exact Or.inl rfl | exact Or.inr rfl) (hf : X.fn x = true ∨ X.env.scope.names.lookup x = some .local := by first | exact .inl rfl | exact .inr rfl | assumption) : VGS X (.Name x pos) (sNm i) :=
  (pg_name hN hi hx hf).imp fun v σ H Q h => by
    obtain ⟨κ, F0, H0, F, ρ, S, x, ρ', t, r, e, g⟩ := h
    cases e
    exact g _ (t.setA i (show RepA X.K κ F v (.d x) from r))
def setW : List Nat → List D → Ev → Ev
  | i :: is, d :: ds, ρ => setW is ds (ρ.set i (some (.a (.d d))))
  | _, _, ρ => ρ
def sTp (is : List Nat) : Gs := fun x ρ => match x with
  | .tuple ds => if ds.length = is.length then some (setW is ds ρ) else none
  | _ => none
theorem gNs_ofS {K : PySem.W.Frag} {κ : Kp} {F0 H0 F H : Hp} {S : Cs} : ∀ {is : List Nat} {vs : List V} {ds : List D} {ρ : Ev} {σ : L2.St} {Q : L2.St → Hp → Prop}, Ats K κ F0 H0 F ρ S σ H → RepAll K F vs ds → ds.length = is.length →
    (∀ σ', Ats K κ F0 H0 F (setW is ds ρ) S σ' H → Q σ' H) → gNs is vs σ H Q
  | [], _, _, ρ, σ, Q, t, .nil, _, g => ⟨rfl, g σ t⟩
  | i :: is, _, _, ρ, σ, Q, t, .cons (v := v) (vs := vs) (d := d) (ds := ds) r rs, e, g => ⟨v, vs, rfl, gNs_ofS (t.setA i (show RepA K κ F v (.d d) from r)) rs (by simpa using e) g⟩
  | [], _, _, _, _, _, _, .cons _ _, e, _ => by simp at e
  | _ :: _, _, _, _, _, _, _, .nil, e, _ => by simp at e
theorem vgs_tup {es : List Expr} {k : Nat} {is : List Nat} {pos : Pos} (hc : X.calm = true) (h : PGs X es (gNs is)) (hn : (assignEach es X.env).length = is.length := by rfl) (hst : (assignEach es X.env).findIdx? (·.1) = none := by rfl) : VGS X (.Tuple es k pos) (sTp is) :=
  (pg_tup (n := is.length) hc h hn hst).imp fun v σ H Q q => by
    obtain ⟨κ, F0, H0, F, ρ, S, x, ρ', t, r, e, g⟩ := q
    cases x with
    | tuple ds =>
      unfold sTp at e
      simp only at e
      split at e
      · rename_i hl
        cases e
        obtain ⟨a, vs, rfl, h1, h2⟩ := Rep.tupv r
        exact ⟨a, vs, rfl, Same.seqT t.n.fh h1, h2.len.trans hl, gNs_ofS t h2 hl g⟩
      · cases e
    | _ => cases e
/-- only the slots that were set stay -/
def mask (dm : List Bool) (ρ : Ev) : Ev := List.zipWith (fun b o => if b = true then o else none) dm ρ
theorem mask_at {dm : List Bool} {ρ : Ev} {i : Nat} {w : W} (h : (mask dm ρ)[i]? = some (some w)) : ρ[i]? = some (some w) := by
  unfold mask at h
  rw [List.getElem?_zipWith] at h
  cases q1 : dm[i]? with
  | none => rw [q1] at h; simp at h
  | some b =>
    cases q2 : ρ[i]? with
    | none => rw [q1, q2] at h; simp at h
    | some o =>
      rw [q1, q2] at h
      cases b with
      | true => simpa using h
      | false => simp at h
theorem Ats.mask {K : PySem.W.Frag} {κ : Kp} {F0 H0 F H : Hp} {ρ : Ev} {S : Cs} {σ : L2.St} (t : Ats K κ F0 H0 F ρ S σ H) (dm : List Bool) : Ats K κ F0 H0 F (PD.mask dm ρ) S σ H := by
  obtain ⟨fp, sl⟩ := t.sl
  classical
  refine ⟨t.n, t.c, t.ck, ?_, fun i => if ∃ w, (PD.mask dm ρ)[i]? = some (some w) then fp i else [], fun i w h => ?_, fun i h => ?_, fun i => ?_, fun i j hij a ha => ?_, fun i a ha => ?_⟩
  · have h1 : (PD.mask dm ρ).length ≤ ρ.length := by unfold PD.mask; rw [List.length_zipWith]; omega
    exact Nat.le_trans h1 t.ln
  · obtain ⟨v, h1, h2⟩ := sl.rep i w (mask_at h)
    refine ⟨v, h1, ?_⟩
    show RepW K κ F H w v (if ∃ w, (PD.mask dm ρ)[i]? = some (some w) then fp i else [])
    rw [if_pos ⟨w, h⟩]
    exact h2
  · show (if ∃ w, (PD.mask dm ρ)[i]? = some (some w) then fp i else []) = []
    rw [if_neg (fun ⟨w, z⟩ => h w z)]
  · show (if ∃ w, (PD.mask dm ρ)[i]? = some (some w) then fp i else []).Nodup
    split
    · exact sl.nd i
    · exact .nil
  · have ha : a ∈ (if ∃ w, (PD.mask dm ρ)[i]? = some (some w) then fp i else []) := ha
    show a ∉ (if ∃ w, (PD.mask dm ρ)[j]? = some (some w) then fp j else [])
    split at ha
    · split
      · exact sl.dis i j hij a ha
      · simp
    · exact absurd ha (by simp)
  · have ha : a ∈ (if ∃ w, (PD.mask dm ρ)[i]? = some (some w) then fp i else []) := ha
    split at ha
    · exact sl.nw i a ha
    · exact absurd ha (by simp)
def dom (ρ : Ev) : List Bool := ρ.map Option.isSome
def forL (g : Gs) (body : Fs) (dm : List Bool) : List D → Ev → Cs → Fl
  | [], ρ, S => .nx ρ S
  | x :: xs, ρ, S => match g x ρ with
    | none => .stuck
    | some ρ1 => match body ρ1 S with
      | .nx ρ2 S2 => forL g body dm xs (mask dm ρ2) S2
      | r => r
def sFor (is : List Nat) (src : Fi) (g : Gs) (body : Fs) : Fs := fun ρ S => match src (ev (frzE is ρ)) S with
  | .ok items S1 => forL g body (dom (frzE is ρ)) items (frzE is ρ) S1
  | .exc n S1 => .exc n S1
  | .stuck => .stuck
theorem vs_for (is : List Nat) {tg iter : Expr} {src : Fi} {gt : Gs} (hp : PassesOwn (model X.prog X.w) X.A X.env X.xe) (hc : X.calm = true) (hi : VI X Z tg iter src) (hg : VGS X tg gt) (hb : VSs X Z body g) (hs : ∀ x, foldedSetIterable iter X.env x = pure x := by intro _; rfl) :
    VS X Z (.For tg iter body [] pos) (sFor is src gt g) := (ps_for hp hc hi hg hb hs).imp fun Dn σ H h => by
  obtain ⟨κ, F0, H0, F, ρ, S, t, p⟩ := h
  obtain ⟨F1, s1, t1⟩ := t.frzE (is := is)
  refine ⟨κ, F1, _, S, t1.at_, ?_⟩
  unfold sFor at p
  cases q : src (ev (frzE is ρ)) S with
  | stuck => rw [q] at p; exact p
  | exc m S1 =>
    rw [q] at p
    exact fun C H' F' g a b => p C σ H' F' g (t1.n.trans a) b
  | ok items S1 =>
    rw [q] at p
    simp only at p
    intro J H1 F2 n2 c2 len y
    have t2 := t1.nxt n2 c2
    refine ⟨fun i m σ' H' => m = items.length - i ∧ i ≤ items.length ∧ ∃ F' ρ' S', Same F2 F' ∧ Same F F' ∧ Ats X.K κ F0 H0 F' ρ' S' σ' H' ∧ PostS X.K X.mg Z κ F0 H0 F (forL gt g (dom (frzE is ρ)) (items.drop i) ρ' S') Dn,
      ⟨items.length, by simp, Nat.zero_le _, F2, _, S1, Same.refl _, s1.trans n2.ff, t2, p⟩, ?_⟩
    rintro i m σ' H' ⟨rfl, hi, F', ρ', S', s2, sF, t', p'⟩
    by_cases hlt : i < items.length
    · obtain ⟨yg, yy⟩ := (y i F' H' s2 t'.n.fh).1 items[i] (List.getElem?_eq_getElem hlt)
      refine .inr ⟨yg, fun σ' H' => i + 1 ≤ items.length ∧ ∃ F' ρ' S', Same F2 F' ∧ Same F F' ∧ Ats X.K κ F0 H0 F' ρ' S' σ' H' ∧ PostS X.K X.mg Z κ F0 H0 F (forL gt g (dom (frzE is ρ)) (items.drop (i + 1)) ρ' S') Dn, fun σ' H' h => ⟨items.length - (i + 1), by omega, rfl, h⟩, fun v H3 y3 => ?_⟩
      obtain ⟨F3, n3, k3, r3⟩ := yy v H3 y3
      have dr : items.drop i = items[i] :: items.drop (i + 1) := List.drop_eq_getElem_cons hlt
      rw [dr] at p'
      unfold forL at p'
      cases eg : gt items[i] ρ' with
      | none => rw [eg] at p'; exact p'.elim
      | some ρ1 =>
        rw [eg] at p'
        simp only at p'
        have c3 : Cel X.K κ F3 H3 S' := t'.c.up n3 fun a ha => by
          obtain ⟨vs, e⟩ := t'.c.there a ha
          exact k3 a (by rw [e]; simp)
        refine ⟨κ, F0, H0, F3, ρ', S', items[i], ρ1, t'.nxt n3 c3, r3, eg, fun σ4 t4 => ?_⟩
        refine ⟨κ, F0, H0, F3, ρ1, S', t4, ?_⟩
        cases eb : g ρ1 S' with
        | nx ρ2 S2 =>
          rw [eb] at p'
          exact fun σ5 H5 F5 s5 t5 => ⟨hlt, F5, _, S2, (s2.trans n3.ff).trans s5, (sF.trans n3.ff).trans s5, t5.mask _, p'⟩
        | rt w S2 => rw [eb] at p'; exact p'
        | exc n S2 => rw [eb] at p'; exact p'
        | stuck => rw [eb] at p'; exact p'
    · have e : i = items.length := by omega
      subst e
      refine .inl ⟨(y _ F' H' s2 t'.n.fh).2 rfl, ?_⟩
      rw [List.drop_length] at p'
      exact p' σ' H' F' sF t'
/-! ### while -/
def whileL (is : List Nat) (fc : Fe) (body : Fs) (dm : List Bool) : Nat → Ev → Cs → Fl
  | 0, _, _ => .stuck
  | n + 1, ρ, S => match fc (ev (frzE is ρ)) S with
    | .ok (.a (.d (.bool b))) S1 => if flatCs S1 = true then (if b = true then (match body ρ S1 with
      | .nx ρ2 S2 => whileL is fc body dm n (mask dm ρ2) S2
      | r => r) else .nx ρ S1) else .stuck
    | .exc n S1 => .exc n S1
    | _ => .stuck
def sWhile (fuel : Nat) (is : List Nat) (fc : Fe) (body : Fs) : Fs := fun ρ S => whileL is fc body (dom ρ) fuel ρ S
theorem vs_while (fuel : Nat) (is : List Nat) (hp : PassesOwn (model X.prog X.w) X.A X.env X.xe) (hc : VT X Z c fc) (hb : VSs X Z body g) : VS X Z (.While c body [] pos) (sWhile fuel is fc g) := (ps_while hp hc hb).imp fun Dn σ H h => by
  obtain ⟨κ, F0, H0, F, ρ, S, t, p⟩ := h
  refine ⟨fun m σ' H' => ∃ F' ρ' S', Ats X.K κ F0 H0 F' ρ' S' σ' H' ∧ PostS X.K X.mg Z κ F0 H0 F' (whileL is fc g (dom ρ) m ρ' S') Dn, ⟨fuel, F, ρ, S, t, p⟩, ?_⟩
  rintro m σ' H' ⟨F', ρ', S', t', p'⟩
  cases m with
  | zero => exact p'.elim
  | succ m =>
    unfold whileL at p'
    refine if_of (k := fun b S1 => if b = true then (match g ρ' S1 with
      | .nx ρ2 S2 => whileL is fc g (dom ρ) m (PD.mask (dom ρ) ρ2) S2
      | r => r) else .nx ρ' S1) t' p' fun b H2 S1 t2 p2 => ?_
    cases b with
    | false =>
      rw [if_neg Bool.false_ne_true] at p2
      exact iteF (p2 σ' H2 F' (Same.refl _) t2)
    | true =>
      rw [if_pos rfl] at p2
      refine iteT ⟨fun σ' H' => ∃ F' ρ' S', Ats X.K κ F0 H0 F' ρ' S' σ' H' ∧ PostS X.K X.mg Z κ F0 H0 F' (whileL is fc g (dom ρ) m ρ' S') Dn, fun σ' H' h => ⟨m, Nat.lt_succ_self _, h⟩, ⟨κ, F0, H0, F', ρ', S1, t2, ?_⟩⟩
      cases eb : g ρ' S1 with
      | nx ρ2 S2 =>
        rw [eb] at p2
        exact fun σ5 H5 F5 s5 t5 => ⟨F5, _, S2, t5.mask _, p2.upF s5⟩
      | rt w S2 => rw [eb] at p2; exact p2
      | exc n S2 => rw [eb] at p2; exact p2
      | stuck => rw [eb] at p2; exact p2
/-! ### a def -/
def startE (n : Nat) (xs : List A) : Ev := xs.map (fun x => some (.a x)) ++ List.replicate (n - xs.length) none
def bodySem (n : Nat) (g : Fs) : Sem_ := fun xs S => match g (startE n xs) S with
  | .nx _ S1 => .ok nD S1
  | .rt w S1 => .ok w S1
  | .exc m S1 => .exc m S1
  | .stuck => .stuck
theorem startE_get {n : Nat} {xs : List A} {i : Nat} {w : W} (h : (startE n xs)[i]? = some (some w)) : ∃ x, xs[i]? = some x ∧ w = .a x := by
  unfold startE at h
  by_cases hi : i < xs.length
  · rw [List.getElem?_append_left (by simpa using hi), List.getElem?_map] at h
    cases q : xs[i]? with
    | none => rw [q] at h; cases h
    | some x => rw [q] at h; cases h; exact ⟨x, rfl, rfl⟩
  · rw [List.getElem?_append_right (by simpa using hi), List.getElem?_replicate] at h
    split at h <;> cases h
theorem RepAs.get {K : PySem.W.Frag} {κ : Kp} {F : Hp} : ∀ {vs : List V} {xs : List A} {i : Nat} {x : A}, RepAs K κ F vs xs → xs[i]? = some x → ∃ v, vs[i]? = some v ∧ RepA K κ F v x
  | _, _, _, _, .nil, e => by simp at e
  | _, _, 0, _, .cons r _, e => by simp at e; subst e; exact ⟨_, rfl, r⟩
  | _, _, i + 1, x, .cons _ t, e => by
    obtain ⟨v, h1, h2⟩ := RepAs.get (i := i) (x := x) t (by simpa using e)
    exact ⟨v, by simpa using h1, h2⟩
theorem body_ok {K : PySem.W.Frag} {mg : Str → Option Value} {N : List Str} {m : Nat} {vs : List V} {H : Hp} {Q : VK} {E : XK} (hm : m ≤ N.length) (h : spD K mg m (bodySem N.length g) vs H Q E) : ts K mg (fun cls d _ H' => E cls d H') g { nx := fun _ H' => Q .non H', rt := Q } (L2.start N vs) H := by
  obtain ⟨hl, κ, F, S, xs, fh, c, r, p⟩ := h
  have hx : xs.length = vs.length := r.len.symm
  refine ⟨κ, F, H, F, startE N.length xs, S, ⟨.refl fh, c, fun a ha => ?_, ?_, fun _ => [], fun i w h => ?_, fun _ _ => rfl, fun _ => .nil, fun _ _ _ _ ha => absurd ha (by simp), fun _ _ ha => absurd ha (by simp)⟩, ?_⟩
  · obtain ⟨us, e⟩ := c.there a ha
    exact not_frT e
  · unfold startE L2.start
    simp only [List.length_append, List.length_map, List.length_replicate]
    omega
  · obtain ⟨x, h1, rfl⟩ := startE_get h
    obtain ⟨v, h2, h3⟩ := r.get h1
    refine ⟨v, ?_, rfl, h3⟩
    unfold L2.start
    have hi : i < vs.length := (List.getElem?_eq_some_iff.mp h2).1
    rw [List.getElem?_append_left (by simpa using hi), List.getElem?_map, h2]
    rfl
  · unfold bodySem at p
    cases q : g (startE N.length xs) S with
    | nx ρ1 S1 =>
      rw [q] at p
      intro σ' H' F' _ t
      exact p .non H' F' [] t.n t.c ⟨rfl, .non⟩ .nil fun _ ha => absurd ha (by simp)
    | rt w S1 => rw [q] at p; exact p
    | exc n S1 => rw [q] at p; exact fun C σ' H' F' a b c => p C H' F' a b c
    | stuck => rw [q] at p; exact p
/-- THE RULE for a def -/
theorem def_ok {P : Program} {w : World} {K : PySem.W.Frag} {mg : Str → Option Value} {base : Heap} {x qual : Str} {st : Stmt} {f : Addr} {fd : FuncData} {N ps : List Str} {k : Nat} (Fn : Fun K x qual st f fd) (Sc : FnScope N ps (defScope st)) (hm : ps.length ≤ N.length)
    (hb : ∀ (cdv : Value) (A : Around) (outer : List Env) (s : Shared) (H : Hp) (E : XK), Room k (A.deeper (envOfC qual (defScope st) s.heap.objs.size f cdv)) →
      PSs (cxOf (L2.CX P w) P w K mg base N qual (defScope st) f cdv A outer s H E) (defBody st) (ts K mg (fun cls d _ H' => E cls d H') g)) : FnOk P w K mg base (L2.CX P w) (k + 1) f fd ps (spD K mg ps.length (bodySem N.length g)) :=
  Fn.okX Sc (fun vs H Q E h => h.1) fun cdv A outer s H vs Q E hr h => ⟨_, hb cdv A outer s H E hr, body_ok hm h⟩
end
end PD

/-! PDN: defs by their promise, names of the top, dicts of the top, sorted, join, stores. -/
namespace PD
open PySem PySem.Spec PyProof.Rows L2
/-! ### defs -/
structure OkAt (P : Program) (w : World) (K : PySem.W.Frag) (mg : Str → Option Value) (base : Heap) (k : Nat) (x : Str) (ps : List Str) (sem : Sem_) : Prop where
  ex : ∃ f fd, mg x = some (.ref f) ∧ PySem.W.keepIn K (.ref f) = true ∧ Binds K fd ps [] ∧ FnOk P w K mg base (L2.CX P w) k f fd ps (spD K mg ps.length sem)
structure DefAt (K : PySem.W.Frag) (mg : Str → Option Value) (x : Str) (st : Stmt) (ps : List Str) : Prop where
  ex : ∃ f fd, mg x = some (.ref f) ∧ Binds K fd ps [] ∧ Fun K x x st f fd
theorem ok_of {P : Program} {w : World} {K : PySem.W.Frag} {mg : Str → Option Value} {base : Heap} {x : Str} {st : Stmt} {N ps : List Str} {k : Nat} {g : Fs} (Dx : DefAt K mg x st ps) (Sc : FnScope N ps (defScope st)) (hm : ps.length ≤ N.length)
    (hb : ∀ (f : Addr) (cdv : Value) (A : Around) (outer : List Env) (s : Shared) (H : Hp) (E : XK), Room k (A.deeper (envOfC x (defScope st) s.heap.objs.size f cdv)) →
      VSs (cxOf (L2.CX P w) P w K mg base N x (defScope st) f cdv A outer s H E) (fun cls d _ H' => E cls d H') (defBody st) g) : OkAt P w K mg base (k + 1) x ps (bodySem N.length g) := by
  obtain ⟨f, fd, e1, e2, e3⟩ := Dx.ex
  exact ⟨f, fd, e1, e3.kp, e2, def_ok e3 Sc hm fun cdv A outer s H E hr => hb f cdv A outer s H E hr⟩
/-- a def that is never reached -/
theorem OkAt.never {P : Program} {w : World} {K : PySem.W.Frag} {mg : Str → Option Value} {base : Heap} {x : Str} {st : Stmt} {ps : List Str} {k : Nat} (Dx : DefAt K mg x st ps) : OkAt P w K mg base k x ps (fun _ _ => .stuck) := by
  obtain ⟨f, fd, e1, e2, e3⟩ := Dx.ex
  refine ⟨f, fd, e1, e3.kp, e2, ⟨fun vs H Q E h => h.1, fun A outer s H args us vs Q E hr e0 hb r h => ?_⟩⟩
  obtain ⟨_, κ, F, S, xs, _, _, _, p⟩ := h
  exact p.elim
theorem OkAt.mono {P : Program} {w : World} {K : PySem.W.Frag} {mg : Str → Option Value} {base : Heap} {x : Str} {ps : List Str} {sem : Sem_} {j k : Nat} (G : OkAt P w K mg base j x ps sem) (h : j ≤ k) : OkAt P w K mg base k x ps sem := by
  obtain ⟨f, fd, e1, e2, e3, e4⟩ := G.ex
  exact ⟨f, fd, e1, e2, e3, e4.mono h⟩
section
variable {X : Cx} {Z : WX} {e c a b o : Expr} {es : List Expr} {f fa fb : Fe} {fs : List Fe} {p pos apos : Pos} {g : Fs}
theorem ve_callO {k j : Nat} {x : Str} {ps : List Str} {sem : Sem_} (hr : Room k X.A) (tk : Takes X Z) (G : OkAt X.prog X.w X.K X.mg X.base j x ps sem) (ha : VA X Z (e :: es) fs) (hj : j ≤ k := by first | omega | (simp only [Nat.add_eq]; omega)) (hx : Gl X x := by rfl) (hn : fs.length = ps.length := by rfl)
    (hdb : (x == ("__debug__" : Str)) = false := by decide) (he : starEach (e :: es) X.env = (false, eval e X.env) :: starEach es X.env := by rfl) (hpl : (backTo pos (starEach es X.env)).any (·.1) = false := by rfl) :
    VE X Z (.Call (.Name x p) (e :: es) [] pos) (fCall sem fs) := by
  obtain ⟨f, fd, e1, e2, e3, e4⟩ := G.ex
  exact ve_call e4 (hr.mono hj) tk hx e1 e2 e3 ha hn hdb he hpl
/-! ### names of the top -/
theorem ve_cint {x : Str} {i : Int} {t : Tok} (hm : X.mg x = some (.int i t)) (hg : Gl X x := by rfl) (hd : (x == ("__debug__" : Str)) = false := by decide) : VE X Z (.Name x pos) (fC (.int i)) := ve_c (pe_glob hg hm (show RelV (.int i) (.int i t) from ⟨t, rfl⟩) hd) fun _ _ => .int i
theorem ve_cstr {x z : Str} {t : Tok} (hm : X.mg x = some (.str z t)) (hg : Gl X x := by rfl) (hd : (x == ("__debug__" : Str)) = false := by decide) : VE X Z (.Name x pos) (fC (.str z)) := ve_c (pe_glob hg hm (show RelV (.str z) (.str z t) from ⟨t, rfl⟩) hd) fun _ _ => .str z
/-! ### a dict of the top, its keys ints -/
structure KInt (K : PySem.W.Frag) (mg : Str → Option Value) (x : Str) (kvs : List (Int × Int)) : Prop where
  ex : ∃ (d : Addr) (es : Array DictEntry) (n : Nat), mg x = some (.ref d) ∧ K.lookup d = some ⟨.type "dict", none, .dict es n, #[]⟩ ∧ (d == sysModules) = false ∧ (∀ e ∈ es, ∃ k t, e.key = .int k t ∧ e.hash = hashInt k) ∧ ∀ k, match kvs.lookup k with
    | some v => ∃ t, findBy Value.isInt es k = some (.int v t)
    | none => findBy Value.isInt es k = none
theorem KInt.map {K : PySem.W.Frag} {P : Program} {w : World} {h : Heap} {d : Addr} {es : Array DictEntry} {n : Nat} (X : K.In h) (l : K.lookup d = some ⟨.type "dict", none, .dict es n, #[]⟩) (hk : ∀ e ∈ es, ∃ k t, e.key = .int k t ∧ e.hash = hashInt k) : h.MapOf (PySem.intKind P w) d (fun k => findBy Value.isInt es k) :=
  ⟨_, es, n, X _ _ l, ⟨rfl, rfl, rfl⟩, rfl, fun e he => by
    obtain ⟨k, t, e1, e2⟩ := hk e he
    exact ⟨k, by rw [e1]; exact PySem.intKind_is P w k t, e2⟩, fun _ => rfl⟩
def dInKI (kvs : List (Int × Int)) : D → Option W
  | .int i => some (bD (kvs.lookup i).isSome)
  | _ => none
def dAtKI (kvs : List (Int × Int)) : D → Option W
  | .int i => (kvs.lookup i).map iD
  | _ => none
theorem inKI_core {x : Str} {kvs : List (Int × Int)} (M : KInt X.K X.mg x kvs) : ∃ (d : Addr) (r : R2), X.mg x = some (.ref d) ∧ OpR X (compareOp .In) r ∧ ∀ (fa : Fe) (σ : L2.St) (H : Hp) (Q : VK), tv X.K X.mg Z (fUn (onD1 (dInKI kvs)) fa) σ H Q → tOp r (tv X.K X.mg Z fa) (tC (.ref d)) σ H Q := by
  obtain ⟨d, es, n, e1, e2, e3, e4, e5⟩ := M.ex
  have ho : OpR X (compareOp .In) (fun y z H Q => ∃ i, y = .int i ∧ z = .ref d ∧ Q (.bl (kvs.lookup i).isSome) H) := by
    intro pins s σ H y z v u Q I ry rz h
    obtain ⟨i, rfl, rfl, q⟩ := h
    obtain ⟨t, rfl⟩ := ry
    cases rz
    refine wpAny_in_of (PySem.intKind_is X.prog X.w i t) e3 (KInt.map I.kIn e2 e4) ?_
    have e6 := e5 i
    have e7 : (findBy Value.isInt es i).isSome = (kvs.lookup i).isSome := by
      cases q2 : kvs.lookup i with
      | none => rw [q2] at e6; rw [e6]; rfl
      | some v => rw [q2] at e6; obtain ⟨t, e6⟩ := e6; rw [e6]; rfl
    show EP X pins σ Q (.bool (findBy Value.isInt es i).isSome) _
    rw [e7]
    exact ⟨.bl _, H, I.tok _, rfl, q⟩
  refine ⟨d, _, e1, ho, fun fa σ H Q h => ?_⟩
  refine tUn_of (r := fun y H Q => ∃ i, y = .int i ∧ V.ref d = .ref d ∧ Q (.bl (kvs.lookup i).isSome) H) (OpS1.onD fun κ F ρ S σ H v x w Q t r e p => ?_) h
  cases x with
  | int i =>
    cases e
    rw [Rep.intv r]
    exact ⟨i, rfl, rfl, p.bl t⟩
  | _ => cases e
theorem ve_inKI {x : Str} {kvs : List (Int × Int)} (M : KInt X.K X.mg x kvs) (ha : VE X Z a fa) (hg : Gl X x := by rfl) (hd : (x == ("__debug__" : Str)) = false := by decide) (hm : behindInMarks .In (.Name x p) = false := by rfl) : VE X Z (.Compare a [.In] [.Name x p] pos) (fUn (onD1 (dInKI kvs)) fa) := by
  obtain ⟨d, r, e1, ho, hh⟩ := inKI_core (Z := Z) M
  exact (pe_cmpR ho ha (pe_glob (v := .ref d) hg e1 rfl hd) hm).imp fun σ H Q h => hh fa σ H Q h
theorem vt_inKI {x : Str} {kvs : List (Int × Int)} (M : KInt X.K X.mg x kvs) (ha : VE X Z a fa) (hg : Gl X x := by rfl) (hd : (x == ("__debug__" : Str)) = false := by decide) (hm : behindInMarks .In (.Name x p) = false := by rfl) : VT X Z (.Compare a [.In] [.Name x p] pos) (fUn (onD1 (dInKI kvs)) fa) := by
  obtain ⟨d, r, e1, ho, hh⟩ := inKI_core (Z := Z) M
  exact (pt_cmpR ho ha (pe_glob (v := .ref d) hg e1 rfl hd) hm).imp fun σ H Q h => hh fa σ H _ h
theorem ve_atKI {x : Str} {kvs : List (Int × Int)} (M : KInt X.K X.mg x kvs) (ha : VE X Z a fa) (hg : Gl X x := by rfl) (hd : (x == ("__debug__" : Str)) = false := by decide) (hs : PlainIx a := by intro _ _; rfl) : VE X Z (.Subscript (.Name x p) a pos) (fUn (onD1 (dAtKI kvs)) fa) := by
  obtain ⟨d, es, n, e1, e2, e3, e4, e5⟩ := M.ex
  have hi : IxR X (fun z y H Q => ∃ i v, y = .int i ∧ z = .ref d ∧ kvs.lookup i = some v ∧ Q (.int v) H) := by
    intro value slice pins s σ H z y v u Q I rz ry h hs
    obtain ⟨i, w, rfl, rfl, l, q⟩ := h
    obtain ⟨t, rfl⟩ := ry
    obtain rfl : v = Value.ref d := rz
    have e6 := e5 i
    rw [l] at e6
    obtain ⟨t', e6⟩ := e6
    have hm := KInt.map (P := X.prog) (w := X.w) I.kIn e2 e4
    exact tail_any hm.typeIs slot_dict_getitem.lookup (wpAny_getItem_of (PySem.intKind_is X.prog X.w i t) hm e6 ⟨.int w, H, I.tok _, ⟨t', rfl⟩, q⟩) hs
  refine (pe_ix hi (pe_glob (v := .ref d) hg e1 rfl hd) ha hs).imp fun σ H Q h => ?_
  refine tUn_of (r := fun y H Q => ∃ i v, y = .int i ∧ V.ref d = .ref d ∧ kvs.lookup i = some v ∧ Q (.int v) H) (OpS1.onD fun κ F ρ S σ H v x w Q t r e p => ?_) h
  cases x with
  | int i =>
    simp only [dAtKI] at e
    cases q : kvs.lookup i with
    | none => rw [q] at e; cases e
    | some z =>
      rw [q] at e
      cases e
      rw [Rep.intv r]
      exact ⟨i, z, rfl, rfl, q, p.int t⟩
  | _ => cases e
/-! ### a dict display, its keys and values ints, read at once -/
def tKV (kvs : List (Int × Int)) : List (TE × TE) := kvs.map fun kv => (tC (.int kv.1), tC (.int kv.2))
theorem pps_int {k v : Int} {j1 j2 : Nat} {p1 p2 : Pos} {kvs : List (Int × Int)} {ks : List (Option Expr)} {vs : List Expr} (h : PPs X pos ks vs (tKV kvs)) : PPs X pos (some (.Constant (.int k) j1 p1) :: ks) (.Constant (.int v) j2 p2 :: vs) (tKV ((k, v) :: kvs)) := pps_cons pe_int pe_int h
theorem tPairs_int {σ : L2.St} {H : Hp} : ∀ {kvs : List (Int × Int)} {Q : List (V × V) → Hp → Prop}, Q (kvs.map fun kv => (.int kv.1, .int kv.2)) H → tPairs (tKV kvs) σ H Q
  | [], Q, h => h
  | kv :: kvs, Q, h => tPairs_int (kvs := kvs) h
theorem ve_disp {keys : List (Option Expr)} {values : List Expr} {kvs : List (Int × Int)} {k : Nat} {p2 : Pos} (hr : Room k X.A) (h : PPs X p2 keys values (tKV kvs)) (ha : VE X Z a fa) (hall : keys.all (·.isSome) = true := by rfl) (hl : keys.length = values.length := by rfl) (h0 : keys ≠ [] := by simp) (h15 : keys.length ≤ 15 := by decide) (k15 : kvs.length ≤ 15 := by decide)
    (hv : ∀ i, valV (mergeK [] (kvs.map fun kv => (Sum.inl kv.1, V.int kv.2))) (.inl i) = (kvs.lookup i).map V.int) (hs : NoSl a := by intro _ _; rfl) : VE X Z (.Subscript (.Dict keys values p2) a pos) (fUn (onD1 (dAtKI kvs)) fa) := by
  refine (pe_dget (hu_of hr) (pe_disp h hall hl h0 h15) ha hs).imp fun σ H Q q => ?_
  intro p hp
  refine tPairs_int ⟨upd_same, kvs.map fun kv => (Sum.inl kv.1, V.int kv.2), ?_, by rw [List.length_map]; exact k15, ?_⟩
  · rw [List.map_map]; rfl
  obtain ⟨κ, F, ρ, S, t, po⟩ := q
  generalize hM : mergeK [] (kvs.map fun kv => (Sum.inl kv.1, V.int kv.2)) = M at *
  have e : upd (upd H p (.dK [])) p (.dK M) = upd H p (.dK M) := by
    funext b
    by_cases hb : b = p
    · subst hb; rw [upd_same, upd_same]
    · rw [upd_ne hb, upd_ne hb, upd_ne hb]
  rw [e]
  have n0 : Nxt κ F H F (upd H p (.dK M)) := Nxt.newH t.fh hp
  have c0 := t.cel.newH (o := .dK M) t.fh hp
  have pk : p ∉ κ.l := fun z => by
    obtain ⟨vs, e⟩ := t.cel.there p z
    rw [hp] at e; cases e
  unfold fUn at po
  refine at_bind (t.nxt n0 c0) (po.up n0) fun v H1 F1 S1 x n1 t1 r1 p1 => ?_
  have hd := n1.kp p (.dK M) upd_same pk (fun ps z => by cases z)
  cases x with
  | d x =>
    cases x with
    | int i =>
      unfold onD1 dAtKI at p1
      simp only at p1
      cases ql : kvs.lookup i with
      | none => simp only [ql, Option.map_none] at p1; exact p1.elim
      | some z =>
        simp only [ql, Option.map_some] at p1
        rw [Rep.intv r1]
        refine ⟨p, .int z, rfl, .inl ⟨M, .inl i, .inl hd, rfl, ?_⟩, p1.int t1⟩
        rw [hv i, ql]; rfl
    | _ => exact p1.elim
  | _ => exact p1.elim
/-! ### methods of texts -/
def fSm (g : Str → D → Option W) (fa fb : Fe) : Fe := fun ρ S => (fa ρ S).bnd fun x S1 => match x with
  | .d (.str z) => (fb ρ S1).bnd fun y S2 => match y with
    | .d d => match g z d with
      | some w => .ok w S2
      | none => .stuck
    | _ => .stuck
  | _ => .stuck
def fSm0 (g : Str → Option W) (fa : Fe) : Fe := fun ρ S => (fa ρ S).bnd fun x S1 => match x with
  | .d (.str z) => match g z with
    | some w => .ok w S1
    | none => .stuck
  | _ => .stuck
theorem sm_of {r : V → List V → Hp → VK → Prop} {g : Str → D → Option W} {K : PySem.W.Frag} {mg : Str → Option Value} (hg : ∀ κ F ρ S σ H z u d w Q, At K κ F ρ S σ H → Rep K F u d → g z d = some w → Post K mg Z κ F H σ (.ok w S) Q → r (.str z) [u] H Q)
    {σ : L2.St} {H : Hp} {Q : VK} (h : tv K mg Z (fSm g fa fb) σ H Q) : tM1 r (tv K mg Z fa) (tv K mg Z fb) σ H Q := by
  obtain ⟨κ, F, ρ, S, t, p⟩ := h
  refine at_bind t p fun v H1 F1 S1 x n1 t1 r1 p1 => ?_
  cases x with
  | d x =>
    cases x with
    | str z =>
      obtain rfl := Rep.strv r1
      refine ⟨⟨z, rfl⟩, at_bind t1 p1 fun u H2 F2 S2 y n2 t2 r2 p2 => ?_⟩
      cases y with
      | d d =>
        simp only at p2
        cases q : g z d with
        | none => rw [q] at p2; exact p2.elim
        | some w => rw [q] at p2; exact hg κ F2 ρ S2 σ H2 z u d w Q t2 r2 q p2
      | _ => exact p2.elim
    | _ => exact p1.elim
  | _ => exact p1.elim
theorem sm0_of {r : V → List V → Hp → VK → Prop} {g : Str → Option W} {K : PySem.W.Frag} {mg : Str → Option Value} (hg : ∀ κ F ρ S σ H z w Q, At K κ F ρ S σ H → g z = some w → Post K mg Z κ F H σ (.ok w S) Q → r (.str z) [] H Q)
    {σ : L2.St} {H : Hp} {Q : VK} (h : tv K mg Z (fSm0 g fa) σ H Q) : tM0 r (tv K mg Z fa) σ H Q := by
  obtain ⟨κ, F, ρ, S, t, p⟩ := h
  refine at_bind t p fun v H1 F1 S1 x n1 t1 r1 p1 => ?_
  cases x with
  | d x =>
    cases x with
    | str z =>
      obtain rfl := Rep.strv r1
      simp only at p1
      cases q : g z with
      | none => rw [q] at p1; exact p1.elim
      | some w => rw [q] at p1; exact ⟨⟨z, rfl⟩, hg κ F1 ρ S1 σ H1 z w Q t1 q p1⟩
    | _ => exact p1.elim
  | _ => exact p1.elim
def dJoin (a : Str) : D → Option W
  | .list ds => match strsOf ds with
    | some ys => if (ys.map (·.length)).sum + ys.length * a.length ≤ 16777216 then some (sD (Txt.join a ys)) else none
    | none => none
  | .tuple ds => match strsOf ds with
    | some ys => if (ys.map (·.length)).sum + ys.length * a.length ≤ 16777216 then some (sD (Txt.join a ys)) else none
    | none => none
  | _ => none
theorem ve_join (ho : VE X Z o fa) (he : VE X Z e fb) (hs : starEach [e] X.env = [(false, eval e X.env)] := by rfl) (hbase : attributeBase o "join" X.env (eval o X.env) = eval o X.env := by rfl) (hline : (apos.endLine == pos.line) = true := by rfl) : VE X Z (.Call (.Attribute o "join" apos) [e] [] pos) (fSm dJoin fa fb) :=
  (pe_join ho he hs hbase hline).imp fun σ H Q h => sm_of (fun κ F ρ S σ H z u d w Q t r e p => by
    unfold dJoin at e
    split at e
    · split at e
      · rename_i ys q
        split at e
        · rename_i hl
          cases e
          obtain ⟨a, vs, rfl, h1, h2⟩ := Rep.lstv r
          rw [RepAll.strs h2 q] at h1
          exact ⟨z, a, ys, rfl, rfl, .inl (.of (t.fh _ _ h1)), hl, p.str t⟩
        · cases e
      · cases e
    · split at e
      · rename_i ys q
        split at e
        · rename_i hl
          cases e
          obtain ⟨a, vs, rfl, h1, h2⟩ := Rep.tupv r
          rw [RepAll.strs h2 q] at h1
          exact ⟨z, a, ys, rfl, rfl, .inr (Same.seqT t.fh h1), hl, p.str t⟩
        · cases e
      · cases e
    · cases e) h
def dCount (a : Str) : D → Option W
  | .str b => some (iD (Txt.count a b))
  | _ => none
theorem ve_count (ho : VE X Z o fa) (he : VE X Z e fb) (hs : starEach [e] X.env = [(false, eval e X.env)] := by rfl) (hbase : attributeBase o "count" X.env (eval o X.env) = eval o X.env := by rfl) (hline : (apos.endLine == pos.line) = true := by rfl) : VE X Z (.Call (.Attribute o "count" apos) [e] [] pos) (fSm dCount fa fb) :=
  (pe_m1 F.slot_str_count F.type_str_count mt_count ho he hs hbase hline).imp fun σ H Q h => sm_of (fun κ F ρ S σ H z u d w Q t r e p => by
    cases d with
    | str b =>
      cases e
      rw [Rep.strv r]
      exact ⟨z, b, rfl, rfl, p.int t⟩
    | _ => cases e) h
def dIndex (a : Str) : D → Option W
  | .str b => match Builtin.Str.occurrences a b 0 a.length 1 with
    | i :: _ => some (iD (i : Nat))
    | [] => none
  | _ => none
theorem ve_index (ho : VE X Z o fa) (he : VE X Z e fb) (hs : starEach [e] X.env = [(false, eval e X.env)] := by rfl) (hbase : attributeBase o "index" X.env (eval o X.env) = eval o X.env := by rfl) (hline : (apos.endLine == pos.line) = true := by rfl) : VE X Z (.Call (.Attribute o "index" apos) [e] [] pos) (fSm dIndex fa fb) :=
  (pe_m1 F.slot_str_index F.type_str_index mt_sindex ho he hs hbase hline).imp fun σ H Q h => sm_of (fun κ F ρ S σ H z u d w Q t r e p => by
    cases d with
    | str b =>
      unfold dIndex at e
      simp only at e
      split at e
      · rename_i i rest q
        cases e
        rw [Rep.strv r]
        exact ⟨z, b, i, rest, rfl, rfl, q, p.int t⟩
      · cases e
    | _ => cases e) h
def dStrip (a : Str) : Option W := if a.length ≤ sizeLine then some (sD (Txt.strip a)) else none
def dUpper (a : Str) : Option W := if a.length ≤ 5592405 then some (sD (Txt.upper a)) else none
theorem ve_strip (ho : VE X Z o fa) (hbase : attributeBase o "strip" X.env (eval o X.env) = eval o X.env := by rfl) (hline : (apos.endLine == pos.line) = true := by rfl) : VE X Z (.Call (.Attribute o "strip" apos) [] [] pos) (fSm0 dStrip fa) :=
  (pe_strip ho hbase hline).imp fun σ H Q h => sm0_of (fun κ F ρ S σ H z w Q t e p => by
    unfold dStrip at e
    split at e
    · cases e
      exact ⟨z, rfl, rfl, ‹_›, p.str t⟩
    · cases e) h
theorem ve_upper (ho : VE X Z o fa) (hbase : attributeBase o "upper" X.env (eval o X.env) = eval o X.env := by rfl) (hline : (apos.endLine == pos.line) = true := by rfl) : VE X Z (.Call (.Attribute o "upper" apos) [] [] pos) (fSm0 dUpper fa) :=
  (pe_upper ho hbase hline).imp fun σ H Q h => sm0_of (fun κ F ρ S σ H z w Q t e p => by
    unfold dUpper at e
    split at e
    · cases e
      exact ⟨z, rfl, rfl, ‹_›, p.str t⟩
    · cases e) h
/-! ### stores -/
theorem vs_setc (i : Nat) (is : List Nat) {x : Str} {pos' : Pos} {elt tg iter : Expr} {ifs : List Expr} {scope : Scope} {own : List (Str × Nat)} {src : Fi} {sl : List Nat} {gt : Gt} {fc fe : Fe} (hN : X.N.Nodup) (hi : VI X Z tg iter src) (ok : BlkOk X.N X.env.scope scope own)
    (hg : ∀ (s : Shared) (H : Hp) (C : Addr) (cl : List (Str × Addr)) (fp : List Addr), VG (X.blk s H scope (compEnvC scope cl C X.env) fp) tg sl gt) (ht : ∀ (s : Shared) (H : Hp) (C : Addr) (cl : List (Str × Addr)) (fp : List Addr), VTs (X.blk s H scope (compEnvC scope cl C X.env) fp) Z0 ifs fc)
    (he : ∀ (s : Shared) (H : Hp) (C : Addr) (cl : List (Str × Addr)) (fp : List Addr), VE (X.blk s H scope (compEnvC scope cl C X.env) fp) Z0 elt fe) (hc : X.calm = true := by rfl) (hsl : ∀ i ∈ sl, i ∈ own.map (·.2) := by decide) (hs : ∀ x, foldedSetIterable iter X.env x = pure x := by intro _; rfl)
    (hy : X.N[i]? = some x := by rfl) (hyl : X.env.scope.names.lookup x = some .local := by rfl) (hsw : swapsWith (.ListComp elt [⟨tg, iter, ifs, 0⟩] scope pos) (some (.Name x pos')) p.line X.env = pure true := by exact sw_true rfl rfl rfl (by decide +kernel)) :
    VS X Z (.Assign [.Name x pos'] (.ListComp elt [⟨tg, iter, ifs, 0⟩] scope pos) p) (sSet i is (fComp (own.map (·.2)) src gt fc fe)) :=
  (ps_setLc (wi := tvi X.K X.mg Z src) (g := tgt X.K sl gt) (tt := tB (tv X.K X.mg Z0 fc)) (te := tv X.K X.mg Z0 fe) hc hN hy hyl hsw hi ok hg ht he hs).imp fun Dn σ H h => lc_of hsl (set_of h)
end
end PD

/-! PDO: stores into tuples, lists and cells; nested lists written; sorted. -/
namespace PD
open PySem PySem.Spec PyProof.Rows L2
section
variable {K : PySem.W.Frag} {mg : Str → Option Value} {Z : WX} {κ : Kp} {F0 H0 F H F1 H1 : Hp} {ρ : Ev} {S S1 : Cs} {σ : L2.St}
/-- an address of slot i's own ones is written -/
theorem Ats.wrG {fp : Nat → List Addr} {i : Nat} {w' : W} {v : V} {b : Addr} {vs vs' : List V} {L' : List Addr} (t : Ats K κ F0 H0 F ρ S σ H) (sl : Slots K κ H0 F H ρ σ fp) (hl : i < ρ.length) (hσ : σ[i]? = some (some v)) (hd : H b = some (.lst vs)) (fb : b ∈ fp i)
    (r : RepW K κ F (upd H b (.lst vs')) w' v L') (nd : L'.Nodup) (nw : ∀ c ∈ L', FrT H0 c ∧ F c = none) (ap : ∀ j, j ≠ i → ∀ c ∈ fp j, c ∉ L') : Ats K κ F0 H0 F (ρ.set i (some w')) S σ (upd H b (.lst vs')) := by
  have h0 := sl.nw i b fb
  refine ⟨t.n.wr h0.1 h0.2 hd, t.c.wr (t.nok sl i b fb) hd, t.ck, by rw [List.length_set]; exact t.ln, fun j => if j = i then L' else fp j, fun j w h => ?_, fun j h => ?_, fun j => ?_, fun j k hjk c hc => ?_, fun j c hc => ?_⟩
  · by_cases hj : j = i
    · subst hj
      rw [List.getElem?_set_self hl] at h
      cases h
      refine ⟨v, hσ, ?_⟩
      show RepW K κ F _ _ _ (if j = j then L' else fp j)
      rw [if_pos rfl]
      exact r
    · rw [List.getElem?_set_ne (Ne.symm hj)] at h
      obtain ⟨u, h1, h2⟩ := sl.rep j w h
      refine ⟨u, h1, ?_⟩
      show RepW K κ F _ w u (if j = i then L' else fp j)
      rw [if_neg hj]
      exact RepW.up (Same.refl _) w u _ (fun c hc o e => by rw [upd_ne (show c ≠ b from fun z => sl.dis j i hj c hc (z ▸ fb))]; exact e) h2
  · show (if j = i then L' else fp j) = []
    by_cases hj : j = i
    · subst hj
      exact absurd (List.getElem?_set_self hl) (h _)
    · rw [if_neg hj]
      exact sl.non j fun w' e => h w' (by rw [List.getElem?_set_ne (Ne.symm hj)]; exact e)
  · show (if j = i then L' else fp j).Nodup
    split
    · exact nd
    · exact sl.nd j
  · show c ∉ (if k = i then L' else fp k)
    have hc' : c ∈ (if j = i then L' else fp j) := hc
    clear hc
    by_cases hj : j = i
    · rw [if_pos hj] at hc'
      rw [if_neg (fun z => hjk (hj.trans z.symm))]
      exact fun z => ap k (fun e => hjk (hj.trans e.symm)) c z hc'
    · rw [if_neg hj] at hc'
      split
      · exact ap j hj c hc'
      · exact sl.dis j k hjk c hc'
  · have hc : c ∈ (if j = i then L' else fp j) := hc
    split at hc
    · exact nw c hc
    · exact sl.nw j c hc
theorem RepWs.get : ∀ {ws : List W} {vs : List V} {L : List Addr} {j : Nat} {w : W}, RepWs K κ F H ws vs L → ws[j]? = some w → ∃ v L1 L2 L3, vs[j]? = some v ∧ L = L1 ++ (L2 ++ L3) ∧ RepW K κ F H w v L2 ∧
    ∀ (F' H' : Hp) (w' : W) (v' : V) (L2' : List Addr), Same F F' → (∀ a ∈ L1 ++ L3, ∀ o, H a = some o → H' a = some o) → RepW K κ F' H' w' v' L2' → RepWs K κ F' H' (ws.set j w') (vs.set j v') (L1 ++ (L2' ++ L3))
  | [], _, _, _, _, _, e => by simp at e
  | w0 :: ws, _, _, 0, w, h, e => by
    obtain ⟨v, r, La, Lb, rfl, rfl, h1, h2⟩ := h
    simp at e
    subst e
    refine ⟨v, [], La, Lb, rfl, rfl, h1, fun F' H' w' v' L2' s k r' => ?_⟩
    exact ⟨v', r, L2', Lb, rfl, rfl, r', RepWs.up s ws r Lb (fun a ha => k a (by simpa using ha)) h2⟩
  | w0 :: ws, _, _, j + 1, w, h, e => by
    obtain ⟨v, r, La, Lb, rfl, rfl, h1, h2⟩ := h
    obtain ⟨v1, L1, L2, L3, e1, rfl, e3, e4⟩ := RepWs.get (j := j) (w := w) h2 (by simpa using e)
    refine ⟨v1, La ++ L1, L2, L3, by simpa using e1, by simp, e3, fun F' H' w' v' L2' s k r' => ?_⟩
    refine ⟨v, r.set j v', La, L1 ++ (L2' ++ L3), rfl, by simp, RepW.up s w0 v La (fun a ha => k a (by simp [ha])) h1, e4 F' H' w' v' L2' s (fun a ha => k a ?_) r'⟩
    rcases List.mem_append.mp ha with z | z <;> simp [z]
theorem nodup_at {α : Type} : ∀ {l : List α} {i j : Nat} {a : α}, l.Nodup → l[i]? = some a → l[j]? = some a → i = j
  | [], _, _, _, _, e, _ => by simp at e
  | x :: l, 0, 0, _, _, _, _ => rfl
  | x :: l, 0, j + 1, a, n, e1, e2 => by
    simp at e1 e2
    subst e1
    exact absurd (List.mem_of_getElem? e2) (List.nodup_cons.mp n).1
  | x :: l, i + 1, 0, a, n, e1, e2 => by
    simp at e1 e2
    subst e2
    exact absurd (List.mem_of_getElem? e1) (List.nodup_cons.mp n).1
  | x :: l, i + 1, j + 1, a, n, e1, e2 => congrArg (· + 1) (nodup_at (List.nodup_cons.mp n).2 (by simpa using e1) (by simpa using e2))
/-- the k-th cell is written -/
theorem Ats.cell {k j : Nat} {a : Addr} {ds : List D} {vs : List V} {v : V} {d : D} (t : Ats K κ F0 H0 F ρ S σ H) (hk : κ.l[k]? = some a) (hs : S[k]? = some ds) (hd : H a = some (.lst vs)) (rr : RepAll K F vs ds) (r : Rep K F v d) : Ats K κ F0 H0 F ρ (S.set k (ds.set j d)) σ (upd H a (.lst (vs.set j v))) := by
  obtain ⟨fp, sl⟩ := t.sl
  have ak : a ∈ κ.l := List.mem_of_getElem? hk
  have fa : F a = none := t.c.fz a ak
  have ne : ∀ i, ∀ b ∈ fp i, b ≠ a := fun i b hb z => t.nok sl i b hb (z ▸ ak)
  refine ⟨⟨t.n.ff, fun b o e => ?_, fun b o e nb nt => ?_, fun b e => ?_, fun h => tabs_wr hd _ (t.n.tb h), t.n.fn, t.n.nt⟩, ⟨by rw [List.length_set]; exact t.c.len, t.c.nd, fun i b es e1 e2 => ?_, t.c.fz, ⟨t.c.tb.1, tabs_wr hd _ t.c.tb.2⟩, t.c.nt⟩, t.ck, t.ln, fp, fun i w h => ?_, sl.non, sl.nd, sl.dis, sl.nw⟩
  · rw [upd_ne (show b ≠ a from fun z => by rw [z, fa] at e; cases e)]; exact t.n.fh b o e
  · rw [upd_ne (show b ≠ a from fun z => nb (z ▸ ak))]; exact t.n.kp b o e nb nt
  · exact frT_wr (t.n.dm b e)
  · by_cases hi : i = k
    · subst hi
      rw [hk] at e1
      cases e1
      rw [List.getElem?_set_self (List.getElem?_eq_some_iff.mp hs).1] at e2
      cases e2
      exact ⟨_, upd_same, RepAll.set r j rr⟩
    · rw [List.getElem?_set_ne (Ne.symm hi)] at e2
      obtain ⟨us, h1, h2⟩ := t.c.cl i b es e1 e2
      refine ⟨us, ?_, h2⟩
      have hb : b ≠ a := fun z => hi (by
        subst z
        exact nodup_at t.c.nd e1 hk)
      rw [upd_ne hb]; exact h1
  · obtain ⟨u, h1, h2⟩ := sl.rep i w h
    exact ⟨u, h1, RepW.up (Same.refl _) w u _ (fun b hb o e => by rw [upd_ne (ne i b hb)]; exact e) h2⟩
end
section
variable {X : Cx} {Z : WX} {e c o ix a b : Expr} {f fc fi fa fb : Fe} {pos apos cpos p : Pos} {g : Fs}
/-! ### a, b = a tuple -/
def sSetT (ks is : List Nat) (f : Fe) : Fs := fun ρ S => match f (ev (frzE is ρ)) S with
  | .ok (.a (.d (.tuple ds))) S1 => if ds.length = ks.length then .nx (setW ks ds (frzE is ρ)) S1 else .stuck
  | .exc n S1 => .exc n S1
  | _ => .stuck
theorem vs_setT (is : List Nat) {ks : List Nat} {es : List Expr} {k : Nat} (hg : PGs X es (gNs ks)) (he : VE X Z e f) (hc : X.calm = true := by rfl) (hn : (assignEach es X.env).length = ks.length := by rfl) (hst : (assignEach es X.env).findIdx? (·.1) = none := by rfl)
    (hs : swapsWithSole [.Tuple es k p] e pos.line X.env = pure false := by rfl) (hw : swappedStores [.Tuple es k p] e X.env = pure none := by rfl) (h1 : (assignEach [.Tuple es k p] X.env).map (·.2) = [assign (.Tuple es k p) X.env] := by rfl) : VS X Z (.Assign [.Tuple es k p] e pos) (sSetT ks is f) :=
  (ps_asg he (pg_tup (n := ks.length) hc hg hn hst) hs hw h1).imp fun Dn σ H h => by
    obtain ⟨κ, F0, H0, F, ρ, S, t, p⟩ := h
    obtain ⟨F1, s1, t1⟩ := t.frzE (is := is)
    refine ⟨κ, F1, _, S, t1.at_, ?_⟩
    unfold sSetT at p
    cases q : f (ev (frzE is ρ)) S with
    | stuck => rw [q] at p; exact p
    | exc n S1 => rw [q] at p; exact PostS.exc p t1.n
    | ok w S1 =>
      rw [q] at p
      match w, p with
      | .a (.d (.tuple ds)), p =>
        simp only at p
        split at p
        · rename_i hl
          intro v H' F' L n c r nd nw
          obtain ⟨a, vs, rfl, h1, h2⟩ := Rep.tupv r.2
          exact ⟨a, vs, rfl, Same.seqT n.fh h1, h2.len.trans hl, gNs_ofS (t1.nxt n c) h2 hl fun σ' t' => p σ' H' F' (s1.trans n.ff) t'⟩
        · exact p.elim
      | .a (.d .none), p => exact p.elim
      | .a (.d (.bool _)), p => exact p.elim
      | .a (.d (.int _)), p => exact p.elim
      | .a (.d (.str _)), p => exact p.elim
      | .a (.d (.list _)), p => exact p.elim
      | .a (.d (.dict _)), p => exact p.elim
      | .a (.c _), p => exact p.elim
      | .a (.s _), p => exact p.elim
      | .a (.e _), p => exact p.elim
      | .own _, p => exact p.elim
/-! ### a, b = e1, e2 -/
def sPar (i j : Nat) (is : List Nat) (f1 f2 : Fe) : Fs := fun ρ S => match f1 (ev (frzE is ρ)) S with
  | .ok w S1 => match f2 (ev (frzE is ρ)) S1 with
    | .ok u S2 => .nx (((frzE is ρ).set i (some w)).set j (some u)) S2
    | .exc n S2 => .exc n S2
    | .stuck => .stuck
  | .exc n S1 => .exc n S1
  | .stuck => .stuck
theorem vs_par (i j : Nat) (is : List Nat) {x y : Str} {px py pt : Pos} {kt k2 : Nat} {pt2 : Pos} (hN : X.N.Nodup) (ha : VE X Z a fa) (hb : VE X Z b fb) (hc : X.calm = true := by rfl) (hi : X.N[i]? = some x := by rfl) (hj : X.N[j]? = some y := by rfl) (hij : i ≠ j := by decide)
    (hx : X.env.scope.names.lookup x = some .local := by rfl) (hy : X.env.scope.names.lookup y = some .local := by rfl) (hw : swappedStores [.Tuple [.Name x px, .Name y py] kt pt] (.Tuple [a, b] k2 pt2) X.env = pure (some [x, y]) := by rfl)
    (hs : swapsWithSole [.Tuple [.Name x px, .Name y py] kt pt] (.Tuple [a, b] k2 pt2) pos.line X.env = pure false := by rfl) (he : starEach [a, b] X.env = (false, eval a X.env) :: starEach [b] X.env := by rfl) (he2 : starEach [b] X.env = (false, eval b X.env) :: starEach [] X.env := by rfl) :
    VS X Z (.Assign [.Tuple [.Name x px, .Name y py] kt pt] (.Tuple [a, b] k2 pt2) pos) (sPar i j is fa fb) :=
  (ps_par hc hN hi hj hij hx hy (pa2 ha hb he he2) hw hs).imp fun Dn σ H h => by
    obtain ⟨κ, F0, H0, F, ρ, S, t, p⟩ := h
    obtain ⟨F1, s1, t1⟩ := t.frzE (is := is)
    refine ⟨κ, F1, _, S, t1.at_, ?_⟩
    unfold sPar at p
    cases q : fa (ev (frzE is ρ)) S with
    | stuck => rw [q] at p; exact p
    | exc n S1 => rw [q] at p; exact PostS.exc p t1.n
    | ok w S1 =>
      rw [q] at p
      simp only at p
      intro v H2 F2 L n c r nd nw
      have t2 := t1.setN i n c r nd nw
      have t2' := t1.nxt n c
      refine ⟨κ, F2, _, S1, t2'.at_, ?_⟩
      cases q2 : fb (ev (frzE is ρ)) S1 with
      | stuck => rw [q2] at p; exact p
      | exc n S1 => rw [q2] at p; exact PostS.exc p t2'.n
      | ok u S2 =>
        rw [q2] at p
        intro v2 H3 F3 L3 n3 c3 r3 nd3 nw3
        exact ⟨v, v2, rfl, p _ H3 F3 ((s1.trans n.ff).trans n3.ff) (t2.setN j n3 c3 r3 nd3 nw3)⟩
/-! ### x[i] = e -/
def sSetIx (k : Nat) (is : List Nat) (f g : Fe) : Fs := fun ρ S => match f (ev (frzE is ρ)) S with
  | .ok (.a (.d d)) S1 => match g (ev (frzE is ρ)) S1 with
    | .ok (.a (.d (.int i))) S2 => match (frzE is ρ)[k]? with
      | some (some (.a (.c c))) => match S2[c]? with
        | some ds => match ixN ds.length i with
          | some j => .nx (frzE is ρ) (S2.set c (ds.set j d))
          | none => .stuck
        | none => .stuck
      | some (some (.own ws)) => match ixN ws.length i with
        | some j => .nx ((frzE is ρ).set k (some (.own (ws.set j (.a (.d d)))))) S2
        | none => .stuck
      | _ => .stuck
    | _ => .stuck
  | .exc n S1 => .exc n S1
  | _ => .stuck
theorem vs_setIx (k : Nat) (is : List Nat) {x : Str} {px : Pos} (he : VE X Z e f) (hi : VE X Z ix fi) (hN : X.N[k]? = some x := by rfl) (hv : Vis X.env.scope x := by first | exact Or.inl rfl | exact Or.inr (Or.inl rfl) | exact Or.inr (Or.inr rfl)) (hdb : (x == ("__debug__" : Str)) = false := by decide)
    (hcd : (x == ("__classdict__" : Str)) = false := by decide) (hs : swapsWithSole [.Subscript (.Name x px) ix p] e pos.line X.env = pure false := by rfl) (hw : swappedStores [.Subscript (.Name x px) ix p] e X.env = pure none := by rfl) (h1 : (assignEach [.Subscript (.Name x px) ix p] X.env).map (·.2) = [assign (.Subscript (.Name x px) ix p) X.env] := by rfl)
    (ha : ∀ v, assign (.Subscript (.Name x px) ix p) X.env v = (do
      let ov ← holding [v] (eval (.Name x px) X.env)
      let iv ← holding [v, ov] (eval ix X.env)
      standAt p
      holding [v, ov, iv] (setItem ov iv v)
      release [v, ov, iv] []) := by intro _; rfl) : VS X Z (.Assign [.Subscript (.Name x px) ix p] e pos) (sSetIx k is f fi) :=
  (ps_asg he (pg_sub (pe_var (i := k) hN hv hdb hcd) hi set_list ha) hs hw h1).imp fun Dn σ H h => by
    obtain ⟨κ, F0, H0, F, ρ, S, t, p⟩ := h
    obtain ⟨F1, s1, t1⟩ := t.frzE (is := is)
    refine ⟨κ, F1, _, S, t1.at_, ?_⟩
    unfold sSetIx at p
    cases q : f (ev (frzE is ρ)) S with
    | stuck => rw [q] at p; exact p
    | exc n S1 => rw [q] at p; exact PostS.exc p t1.n
    | ok w S1 =>
      rw [q] at p
      match w, p with
      | .a (.d d), p =>
        simp only at p
        intro v H2 F2 L n c r nd nw
        have t2 := t1.nxt n c
        have r2 := r.2
        -- what the slot holds
        cases qi : fi (ev (frzE is ρ)) S1 with
        | stuck => rw [qi] at p; exact p.elim
        | exc m S2 =>
          rw [qi] at p
          exact p.elim
        | ok w2 S2 =>
          rw [qi] at p
          match w2, p with
          | .a (.d (.int i)), p =>
            simp only at p
            have fin : ∀ (o : V), σ[k]? = some (some o) → (∀ (H3 F3 : Hp) (S' : Cs), Ats X.K κ F0 H0 F3 (frzE is ρ) S2 σ H3 → Rep X.K F3 v d → Same F F3 → rSetL o (.int i) v H3 fun H4 => Dn.nx σ H4) → ∃ o', σ[k]? = some (some o') ∧ tv X.K X.mg Z fi σ H2 (fun y H3 => rSetL o' y v H3 fun H4 => Dn.nx σ H4) := fun o ho hh => by
              refine ⟨o, ho, κ, F2, _, S1, t2.at_, ?_⟩
              rw [qi]
              intro y H3 F3 L3 n3 c3 r3 nd3 nw3
              rw [Rep.intv r3.2]
              exact hh H3 F3 S2 (t2.nxt n3 c3) (Rep.up n3.ff _ _ r2) ((s1.trans n.ff).trans n3.ff)
            cases qk : (frzE is ρ)[k]? with
            | none => rw [qk] at p; exact p.elim
            | some ow =>
              rw [qk] at p
              match ow, p, qk with
              | some (.a (.c c')), p, qk =>
                simp only at p
                cases qs : S2[c']? with
                | none => rw [qs] at p; exact p.elim
                | some ds =>
                  rw [qs] at p
                  simp only at p
                  cases qj : ixN ds.length i with
                  | none => rw [qj] at p; exact p.elim
                  | some j =>
                    rw [qj] at p
                    obtain ⟨fp, sl⟩ := t1.sl
                    obtain ⟨o, ho, hr⟩ := sl.rep k _ qk
                    obtain ⟨a, ha, rfl⟩ := hr.2
                    refine fin _ ho fun H3 F3 S' t3 r3 s3 => ?_
                    obtain ⟨vs, h1, h2⟩ := t3.c.cl c' a ds ha qs
                    exact ⟨a, vs, i, j, rfl, rfl, h1, by rw [h2.len]; exact qj, p σ _ F3 s3 (t3.cell ha qs h1 h2 r3)⟩
              | some (.own ws), p, qk =>
                simp only at p
                cases qj : ixN ws.length i with
                | none => rw [qj] at p; exact p.elim
                | some j =>
                  rw [qj] at p
                  obtain ⟨fp, sl⟩ := t1.sl
                  obtain ⟨o, ho, hr⟩ := sl.rep k _ qk
                  obtain ⟨a, vs, L', rfl, hd, hL, rr⟩ := hr
                  refine fin _ ho fun H3 F3 S' t3 r3 s3 => ?_
                  obtain ⟨fp3, sl3⟩ := t3.sl
                  obtain ⟨o3, ho3, hr3⟩ := sl3.rep k _ qk
                  obtain ⟨a3, vs3, L3, e3, hd3, hL3, rr3⟩ := hr3
                  rw [ho] at ho3
                  cases ho3
                  cases e3
                  have hj : j < ws.length := by
                    have := (ixN_seq qj).2.1
                    exact this
                  obtain ⟨v1, L1, Lj, L2, e1, e2, e3, e4⟩ := RepWs.get (j := j) rr3 (List.getElem?_eq_getElem hj)
                  have fa : a ∈ fp3 k := by rw [hL3]; exact List.mem_cons_self
                  have nd3 : (a :: L3).Nodup := by have := sl3.nd k; rw [hL3] at this; exact this
                  have sub : ∀ b ∈ L1 ++ ([] ++ L2), b ∈ L3 := fun b hb => by
                    rw [e2]
                    rcases List.mem_append.mp hb with z | z <;> simp at z ⊢ <;> simp [z]
                  refine ⟨a, vs3, i, j, rfl, rfl, hd3, by rw [RepWs.len rr3]; exact qj, p σ _ F3 s3 (t3.wrG sl3 (List.getElem?_eq_some_iff.mp qk).1 ho hd3 fa (L' := a :: (L1 ++ ([] ++ L2))) ?_ ?_ ?_ ?_)⟩
                  · refine ⟨a, vs3.set j v, L1 ++ ([] ++ L2), rfl, upd_same, rfl, e4 F3 _ _ _ [] (Same.refl _) (fun b hb o ho => ?_) ⟨rfl, r3⟩⟩
                    have : b ≠ a := fun z => (List.nodup_cons.mp nd3).1 (z ▸ sub b (by simpa using hb))
                    rw [upd_ne this]; exact ho
                  · refine List.nodup_cons.mpr ⟨fun z => (List.nodup_cons.mp nd3).1 (sub a z), ?_⟩
                    have q := (List.nodup_cons.mp nd3).2
                    rw [e2] at q
                    simp only [List.nodup_append] at q ⊢
                    obtain ⟨q1, ⟨q2, q3, q4⟩, q5⟩ := q
                    exact ⟨q1, ⟨.nil, q3, by simp⟩, fun x hx y hy => q5 x hx y (by simpa using Or.inr hy)⟩
                  · intro b hb
                    rcases List.mem_cons.mp hb with z | z
                    · rw [z]; exact sl3.nw k a fa
                    · exact sl3.nw k b (by rw [hL3]; exact List.mem_cons_of_mem _ (sub b z))
                  · intro m hm b hb z
                    rcases List.mem_cons.mp z with z | z
                    · exact sl3.dis m k hm b hb (by rw [z]; exact fa)
                    · exact sl3.dis m k hm b hb (by rw [hL3]; exact List.mem_cons_of_mem _ (sub b z))
              | some (.a (.d _)), p, _ => exact p.elim
              | some (.a (.s _)), p, _ => exact p.elim
              | some (.a (.e _)), p, _ => exact p.elim
              | none, p, _ => exact p.elim
          | .a (.d .none), p => exact p.elim
          | .a (.d (.bool _)), p => exact p.elim
          | .a (.d (.str _)), p => exact p.elim
          | .a (.d (.list _)), p => exact p.elim
          | .a (.d (.tuple _)), p => exact p.elim
          | .a (.d (.dict _)), p => exact p.elim
          | .a (.c _), p => exact p.elim
          | .a (.s _), p => exact p.elim
          | .a (.e _), p => exact p.elim
          | .own _, p => exact p.elim
      | .a (.c _), p => exact p.elim
      | .a (.s _), p => exact p.elim
      | .a (.e _), p => exact p.elim
      | .own _, p => exact p.elim
/-! ### x[i] = x[j], x a list of one's own -/
def sCopy (k : Nat) (i j : Int) : Fs := fun ρ S => match ρ[k]? with
  | some (some (.own ws)) => match ixN ws.length j with
    | some j' => match ws[j']? with
      | some (.a (.d d)) => match ixN ws.length i with
        | some i' => .nx (ρ.set k (some (.own (ws.set i' (.a (.d d)))))) S
        | none => .stuck
      | _ => .stuck
    | none => .stuck
  | _ => .stuck
theorem vs_copy (k : Nat) {x : Str} {i j : Int} {n1 n2 : Nat} {px px2 p1 p2 p3 : Pos} (hN : X.N[k]? = some x := by rfl) (hv : Vis X.env.scope x := by first | exact Or.inl rfl | exact Or.inr (Or.inl rfl) | exact Or.inr (Or.inr rfl)) (hdb : (x == ("__debug__" : Str)) = false := by decide)
    (hcd : (x == ("__classdict__" : Str)) = false := by decide) (hs : swapsWithSole [.Subscript (.Name x px) (.Constant (.int i) n1 p1) p] (.Subscript (.Name x px2) (.Constant (.int j) n2 p2) p3) pos.line X.env = pure false := by rfl) (hw : swappedStores [.Subscript (.Name x px) (.Constant (.int i) n1 p1) p] (.Subscript (.Name x px2) (.Constant (.int j) n2 p2) p3) X.env = pure none := by rfl)
    (h1 : (assignEach [.Subscript (.Name x px) (.Constant (.int i) n1 p1) p] X.env).map (·.2) = [assign (.Subscript (.Name x px) (.Constant (.int i) n1 p1) p) X.env] := by rfl)
    (ha : ∀ v, assign (.Subscript (.Name x px) (.Constant (.int i) n1 p1) p) X.env v = (do
      let ov ← holding [v] (eval (.Name x px) X.env)
      let iv ← holding [v, ov] (eval (.Constant (.int i) n1 p1) X.env)
      standAt p
      holding [v, ov, iv] (setItem ov iv v)
      release [v, ov, iv] []) := by intro _; rfl) (hpl : PlainIx (.Constant (.int j) n2 p2) := by intro _ _; rfl) : VS X Z (.Assign [.Subscript (.Name x px) (.Constant (.int i) n1 p1) p] (.Subscript (.Name x px2) (.Constant (.int j) n2 p2) p3) pos) (sCopy k i j) :=
  (ps_asg (pe_ix ix_seq (pe_var (i := k) hN hv hdb hcd) pe_int hpl) (pg_sub (pe_var (i := k) hN hv hdb hcd) pe_int set_list ha) hs hw h1).imp fun Dn σ H h => by
    obtain ⟨κ, F0, H0, F, ρ, S, t, p⟩ := h
    unfold sCopy at p
    cases qk : ρ[k]? with
    | none => rw [qk] at p; exact p.elim
    | some ow =>
      rw [qk] at p
      match ow, p, qk with
      | some (.own ws), p, qk =>
        simp only at p
        cases qj : ixN ws.length j with
        | none => rw [qj] at p; exact p.elim
        | some j' =>
          rw [qj] at p
          simp only at p
          cases qw : ws[j']? with
          | none => rw [qw] at p; exact p.elim
          | some w =>
            rw [qw] at p
            match w, p, qw with
            | .a (.d d), p, qw =>
              simp only at p
              cases qi : ixN ws.length i with
              | none => rw [qi] at p; exact p.elim
              | some i' =>
                rw [qi] at p
                obtain ⟨fp, sl⟩ := t.sl
                obtain ⟨o, ho, hr⟩ := sl.rep k _ qk
                obtain ⟨a, vs, L3, rfl, hd, hL, rr⟩ := hr
                obtain ⟨v, La, Lb, Lc, e1, e2, e3, _⟩ := RepWs.get (j := j') rr qw
                have hi : i' < ws.length := (ixN_seq qi).2.1
                obtain ⟨v1, L1, Lj, L2, f1, f2, f3, f4⟩ := RepWs.get (j := i') rr (List.getElem?_eq_getElem hi)
                have fa : a ∈ fp k := by rw [hL]; exact List.mem_cons_self
                have nd3 : (a :: L3).Nodup := by have := sl.nd k; rw [hL] at this; exact this
                have sub : ∀ b ∈ L1 ++ ([] ++ L2), b ∈ L3 := fun b hb => by
                  rw [f2]
                  rcases List.mem_append.mp hb with z | z <;> simp at z ⊢ <;> simp [z]
                have at_ : _root_.L2.atI vs j = some v := by
                  unfold _root_.L2.atI
                  rw [RepWs.len rr, qj]
                  exact e1
                refine ⟨.ref a, ho, .inl ⟨a, vs, j, v, rfl, rfl, .of hd, at_, .ref a, ho, a, vs, i, i', rfl, rfl, hd, by rw [RepWs.len rr]; exact qi, p σ _ F (Same.refl _) (t.wrG sl (List.getElem?_eq_some_iff.mp qk).1 ho hd fa (L' := a :: (L1 ++ ([] ++ L2))) ?_ ?_ ?_ ?_)⟩⟩
                · refine ⟨a, vs.set i' v, L1 ++ ([] ++ L2), rfl, upd_same, rfl, f4 F _ _ _ [] (Same.refl _) (fun b hb o ho => ?_) ⟨rfl, e3.2⟩⟩
                  have : b ≠ a := fun z => (List.nodup_cons.mp nd3).1 (z ▸ sub b (by simpa using hb))
                  rw [upd_ne this]; exact ho
                · refine List.nodup_cons.mpr ⟨fun z => (List.nodup_cons.mp nd3).1 (sub a z), ?_⟩
                  have q := (List.nodup_cons.mp nd3).2
                  rw [f2] at q
                  simp only [List.nodup_append] at q ⊢
                  obtain ⟨q1, ⟨q2, q3, q4⟩, q5⟩ := q
                  exact ⟨q1, ⟨.nil, q3, by simp⟩, fun x hx y hy => q5 x hx y (by simpa using Or.inr hy)⟩
                · intro b hb
                  rcases List.mem_cons.mp hb with z | z
                  · rw [z]; exact sl.nw k a fa
                  · exact sl.nw k b (by rw [hL]; exact List.mem_cons_of_mem _ (sub b z))
                · intro m hm b hb z
                  rcases List.mem_cons.mp z with z | z
                  · exact sl.dis m k hm b hb (by rw [z]; exact fa)
                  · exact sl.dis m k hm b hb (by rw [hL]; exact List.mem_cons_of_mem _ (sub b z))
            | .a (.c _), p, _ => exact p.elim
            | .a (.s _), p, _ => exact p.elim
            | .a (.e _), p, _ => exact p.elim
            | .own _, p, _ => exact p.elim
      | some (.a _), p, _ => exact p.elim
      | none, p, _ => exact p.elim
end
end PD

/-! PDP: sorted; nested lists written; cells. -/
namespace PD
open PySem PySem.Spec PyProof.Rows L2
/-! ### sorted -/
mutual
theorem Rep.reads {X : Cx} {pins : List (Addr × Obj)} {σ : L2.St} {H F : Hp} {s : Shared} (I : Inv X pins σ H s) (fh : Same F H) : ∀ (d : D) (v : V) (u : Value), PySem.W.alike d d = true → Rep X.K F v d → RelV v u → ∃ as, Reads s.heap u d as
  | .none, _, _, _, .non, rv => by cases rv; exact ⟨_, .none⟩
  | .bool b, _, _, _, .bl _, rv => by cases rv; exact ⟨_, .bool b⟩
  | .int i, _, _, _, .int _, rv => by obtain ⟨t, rfl⟩ := rv; exact ⟨_, .int i t⟩
  | .str x, _, _, _, .str _, rv => by obtain ⟨t, rfl⟩ := rv; exact ⟨_, .str x t⟩
  | .list ds, _, _, al, .lst h r, rv => by
    cases rv
    obtain ⟨its, rr, pl, hz⟩ := I.list (.of (fh _ _ h))
    obtain ⟨o, ho, hc, n, hd⟩ := pl.isList
    obtain ⟨as, q⟩ := RepAll.reads I fh ds _ its (by simpa [PySem.W.alike] using al) r rr
    exact ⟨_, .list ho hc hd (by simpa using q)⟩
  | .tuple ds, _, _, al, .tup h r, rv => by
    cases rv
    obtain ⟨its, rr, ⟨o, ho, hc, n, hd⟩, hz⟩ := I.tuple (Same.seqT fh h)
    obtain ⟨as, q⟩ := RepAll.reads I fh ds _ its (by simpa [PySem.W.alike] using al) r rr
    exact ⟨_, .tuple ho hc hd (by simpa using q)⟩
  | .dict _, _, _, al, _, _ => by simp [PySem.W.alike] at al
theorem RepAll.reads {X : Cx} {pins : List (Addr × Obj)} {σ : L2.St} {H F : Hp} {s : Shared} (I : Inv X pins σ H s) (fh : Same F H) : ∀ (ds : List D) (vs : List V) (us : List Value), PySem.W.alikeAll ds ds = true → RepAll X.K F vs ds → Vals vs us → ∃ as, ReadsAll s.heap us ds as
  | [], _, _, _, .nil, rv => by cases rv; exact ⟨_, .nil⟩
  | d :: ds, _, _, al, .cons r t, rv => by
    cases rv with
    | cons r1 r2 =>
      obtain ⟨a1, q1⟩ := Rep.reads I fh d _ _ (PySem.W.alike_all_cons al).1 r r1
      obtain ⟨a2, q2⟩ := RepAll.reads I fh ds _ _ (PySem.W.alike_all_cons al).2 t r2
      exact ⟨_, .cons q1 q2⟩
end
def isTupNE : D → Bool
  | .tuple (_ :: _) => true
  | _ => false
def noTupN : D → Bool
  | .tuple _ => false
  | .none => false
  | _ => true
def sortOk (ds : List D) : Bool := ds.all (fun d => decide (d.depth ≤ 16)) && ds.all (fun d => ds.all fun e => PySem.W.alike d e) && (ds.all isTupNE || ds.all noTupN)
def sortD (ds : List D) : List D := ds.mergeSort (PySem.W.dataLe false id)
theorem zip_each {us : List Value} : ∀ {xs : List V} {ds : List D} {us : List Value}, Vals xs us → xs.length = ds.length → PySem.W.EachIs (fun (u : Value) (p : V × D) => RelV p.1 u) us (xs.zip ds)
  | [], [], _, .nil, _ => .nil
  | _ :: _, _ :: _, _, .cons r t, e => .cons r (zip_each (us := us) t (by simpa using e))
theorem each_vals : ∀ {ps : List (V × D)} {us : List Value}, PySem.W.EachIs (fun (u : Value) (p : V × D) => RelV p.1 u) us ps → Vals (ps.map (·.1)) us
  | [], _, .nil => .nil
  | _ :: _, _, .cons r t => .cons r (each_vals t)
theorem repAll_zip {K : PySem.W.Frag} {F : Hp} : ∀ {xs : List V} {ds : List D}, RepAll K F xs ds → ∀ p ∈ xs.zip ds, Rep K F p.1 p.2
  | _, _, .nil => by simp
  | _, _, .cons r t => by
    intro p hp
    rw [List.zip_cons_cons] at hp
    rcases List.mem_cons.mp hp with rfl | hp
    · exact r
    · exact repAll_zip t p hp
theorem repAll_of {K : PySem.W.Frag} {F : Hp} : ∀ {ps : List (V × D)}, (∀ p ∈ ps, Rep K F p.1 p.2) → RepAll K F (ps.map (·.1)) (ps.map (·.2))
  | [], _ => .nil
  | p :: ps, h => .cons (h p List.mem_cons_self) (repAll_of fun q hq => h q (List.mem_cons_of_mem _ hq))
def rSrt (K : PySem.W.Frag) : List V → Hp → VK → Prop := fun vs H Q => ∃ (F : Hp) (a : Addr) (xs : List V) (ds : List D), vs = [.ref a] ∧ Same F H ∧ SqL K H a xs ∧ RepAll K F xs ds ∧ sortOk ds = true ∧ ∀ (ys : List V) (p : Addr), RepAll K F ys (sortD ds) → H p = none → Q (.ref p) (upd H p (.lst ys))
theorem cr_srt {X : Cx} {k : Nat} (hr : Room k X.A) : CallR X (.builtin "sorted") (rSrt X.K) := by
  intro pins s σ H vs us Q I r h
  obtain ⟨F, a, xs, ds, rfl, fh, hs, rr, ok, q⟩ := h
  obtain ⟨its, rv, hl, hz⟩ := I.list hs
  rw [Vals.ref1 r]
  unfold sortOk at ok
  simp only [Bool.and_eq_true, Bool.or_eq_true, List.all_eq_true, decide_eq_true_eq] at ok
  obtain ⟨⟨o1, o2⟩, o3⟩ := ok
  have hlen := rr.len
  have hzip : (xs.zip ds).map (·.2) = ds := by rw [List.map_snd_zip] <;> omega
  have er : PySem.W.EachIs (fun v (b : V × D) => ∃ as, Reads s.heap v b.2 as) its (xs.zip ds) := by
    have g : ∀ {xs : List V} {es : List D} {us : List Value}, RepAll X.K F xs es → Vals xs us → (∀ d ∈ es, PySem.W.alike d d = true) → PySem.W.EachIs (fun v (b : V × D) => ∃ as, Reads s.heap v b.2 as) us (xs.zip es) := by
      intro xs
      induction xs with
      | nil => intro es us r v _; cases r; cases v; exact .nil
      | cons x xs ih =>
        intro es us r v al
        cases r with
        | cons r t =>
          cases v with
          | cons v1 v2 => exact .cons (Rep.reads I fh _ _ _ (al _ List.mem_cons_self) r v1) (ih t v2 fun d hd => al d (List.mem_cons_of_mem _ hd))
    exact g rr rv fun d hd => o2 d hd d hd
  refine PySem.W.sorted_data (bs := xs.zip ds) (enc := (·.2)) hl.isList (zip_each (us := us) rv hlen) er (fun d hd d' hd' => ?_) ?_ (by rw [List.length_zip]; omega) (fun b hb => ?_) fun out ho eo => ?_
  · rw [hzip] at hd hd'
    exact o2 d hd d' hd'
  · rw [hzip]
    rcases o3 with o3 | o3
    · refine .inl fun d hd => ?_
      have := o3 d hd
      unfold isTupNE at this
      split at this
      · exact ⟨_, _, rfl⟩
      · cases this
    · refine .inr fun d hd => ?_
      have := o3 d hd
      unfold noTupN at this
      constructor
      · rintro rfl; cases this
      · rintro xs rfl; cases this
  · have h2 : b.2 ∈ ds := by rw [← hzip]; exact List.mem_map.mpr ⟨b, hb, rfl⟩
    have := o1 _ h2
    have hu := hr.units
    show X.A.units + 2 + b.2.depth < cLine
    omega
  · obtain ⟨ep, he'⟩ := PyProof.Rows.sortedAll_at s.heap its out.toArray
    have e2 : ((xs.zip ds).mergeSort (PySem.W.dataLe false (·.2))).map (·.2) = sortD ds := by
      unfold sortD
      have e3 := List.map_mergeSort (f := fun p : V × D => p.2) (r := PySem.W.dataLe false (·.2)) (s := PySem.W.dataLe false id) (l := xs.zip ds) (fun a _ b _ => by unfold PySem.W.dataLe; rfl)
      rw [hzip] at e3
      exact e3
    have rp : RepAll X.K F (((xs.zip ds).mergeSort (PySem.W.dataLe false (·.2))).map (·.1)) (sortD ds) := by
      rw [← e2]
      refine repAll_of fun p hp => repAll_zip rr p ?_
      exact (List.mergeSort_perm _ _).mem_iff.mp hp
    have hl2 : (((xs.zip ds).mergeSort (PySem.W.dataLe false (·.2))).map (·.1)).length ≤ sizeLine := by
      rw [List.length_map, List.length_mergeSort, List.length_zip]
      omega
    exact ⟨.ref _, upd H (s.heap.objs.size + 1) (.lst _), I.laid (t' := s.toks) (fun _ _ => PyProof.Rows.sortedAll_old) (Nat.le_succ _) ⟨hl2, out, ep, each_vals eo, he'⟩, rfl, q _ _ rp (I.hok.fresh (Nat.le_succ _))⟩
def dSort : D → Option W
  | .list ds => if sortOk ds = true then some (ownD (sortD ds)) else none
  | _ => none
section
variable {X : Cx} {Z : WX} {e c o ix a b : Expr} {f fc fi fa fb : Fe} {pos apos cpos p : Pos} {g : Fs}
theorem ve_sorted {k : Nat} (hr : Room k X.A) (hm : X.mg "sorted" = none) (ha : VE X Z e f) (hx : Gl X "sorted" := by rfl) (he : starEach [e] X.env = (false, eval e X.env) :: starEach [] X.env := by rfl) : VE X Z (.Call (.Name "sorted" p) [e] [] pos) (fCall (on1 dSort) [f]) :=
  ve_callB (cr_srt hr) (OpSs.on1 fun κ F ρ S σ H v x w Q t r e p => by
    unfold dSort at e
    split at e
    · split at e
      · rename_i hs
        cases e
        obtain ⟨a, vs, rfl, h1, h2⟩ := Rep.lstv r
        exact ⟨F, a, vs, _, rfl, t.fh, .of (t.fh _ _ h1), h2, hs, fun ys q rr hq => p.lst t rr hq⟩
      · cases e
    · cases e) hx hm rfl (va_cons ha va_nil he) (by decide) (by decide) he (by rfl)
end
end PD

/-! PDQ: cells made; nested lists written. -/
namespace PD
open PySem PySem.Spec PyProof.Rows L2
def flatWs : List W → Option (List D)
  | [] => some []
  | .a (.d x) :: ws => (flatWs ws).map (x :: ·)
  | _ :: _ => none
theorem flatWs_rep {K : PySem.W.Frag} {κ : Kp} {F H : Hp} : ∀ {ws : List W} {vs : List V} {L : List Addr} {ds : List D}, flatWs ws = some ds → RepWs K κ F H ws vs L → L = [] ∧ RepAll K F vs ds
  | [], _, _, ds, e, r => by
    cases e
    rw [r.1]
    exact ⟨r.2, .nil⟩
  | .a (.d x) :: ws, _, _, ds, e, r => by
    obtain ⟨v, r', L1, L2, rfl, rfl, h1, h2⟩ := r
    cases q : flatWs ws with
    | none => simp [flatWs, q] at e
    | some es =>
      simp [flatWs, q] at e
      subst e
      obtain ⟨e1, e2⟩ := flatWs_rep q h2
      exact ⟨by rw [h1.1, e1]; rfl, .cons h1.2 e2⟩
  | .a (.c _) :: ws, _, _, ds, e, r => by cases e
  | .a (.s _) :: ws, _, _, ds, e, r => by cases e
  | .a (.e _) :: ws, _, _, ds, e, r => by cases e
  | .own _ :: ws, _, _, ds, e, r => by cases e
mutual
/-- no cell from the n-th on -/
def W.keepC (n : Nat) : W → Bool
  | .a (.c k) => decide (k < n)
  | .a _ => true
  | .own ws => W.keepCs n ws
def W.keepCs (n : Nat) : List W → Bool
  | [] => true
  | w :: ws => w.keepC n && W.keepCs n ws
end
def Kp.more (κ : Kp) (a : Addr) : Kp := ⟨κ.l ++ [a], κ.T⟩
theorem RepA.more {K : PySem.W.Frag} {κ : Kp} {F : Hp} {v : V} {a : Addr} : ∀ {x : A}, RepA K κ F v x → RepA K (κ.more a) F v x
  | .d _, h => h
  | .c k, ⟨b, e1, e2⟩ => ⟨b, by
      show (κ.l ++ [a])[k]? = some b
      rw [List.getElem?_append_left (List.getElem?_eq_some_iff.mp e1).1]; exact e1, e2⟩
  | .s _, h => h
  | .e _, h => h
theorem RepA.less {K : PySem.W.Frag} {κ : Kp} {F : Hp} {v : V} {a : Addr} : ∀ {x : A}, W.keepC κ.l.length (.a x) = true → RepA K (κ.more a) F v x → RepA K κ F v x
  | .d _, _, h => h
  | .c k, hk, ⟨b, e1, e2⟩ => ⟨b, by
      have hk : k < κ.l.length := by simpa [W.keepC] using hk
      have e1 : (κ.l ++ [a])[k]? = some b := e1
      rw [List.getElem?_append_left hk] at e1; exact e1, e2⟩
  | .s _, _, h => h
  | .e _, _, h => h
mutual
theorem RepW.less {K : PySem.W.Frag} {κ : Kp} {F H : Hp} {a : Addr} : ∀ (w : W) (v : V) (L : List Addr), w.keepC κ.l.length = true → RepW K (κ.more a) F H w v L → RepW K κ F H w v L
  | .a x, v, L, hk, h => ⟨h.1, RepA.less hk h.2⟩
  | .own ws, v, L, hk, h => by
    obtain ⟨b, vs, L', e1, e2, e3, h⟩ := h
    exact ⟨b, vs, L', e1, e2, e3, RepWs.less ws vs L' (by simpa [W.keepC] using hk) h⟩
theorem RepWs.less {K : PySem.W.Frag} {κ : Kp} {F H : Hp} {a : Addr} : ∀ (ws : List W) (vs : List V) (L : List Addr), W.keepCs κ.l.length ws = true → RepWs K (κ.more a) F H ws vs L → RepWs K κ F H ws vs L
  | [], _, _, _, h => h
  | w :: ws, _, _, hk, h => by
    obtain ⟨v, r, L1, L2, e1, e2, h1, h2⟩ := h
    have hk : w.keepC κ.l.length = true ∧ W.keepCs κ.l.length ws = true := by simpa [W.keepCs] using hk
    exact ⟨v, r, L1, L2, e1, e2, RepW.less w v L1 hk.1 h1, RepWs.less ws r L2 hk.2 h2⟩
end
section
variable {K : PySem.W.Frag} {mg : Str → Option Value} {Z : WX} {κ : Kp} {F0 H0 F H F1 H1 : Hp} {S S1 : Cs} {σ : L2.St} {a : Addr}
theorem Nxt.less (x : Nxt κ F0 H0 F H) (h0 : FrT H0 a) (y : Nxt (κ.more a) F H F1 H1) : Nxt κ F0 H0 F1 H1 := by
  refine ⟨x.ff.trans y.ff, y.fh, fun b o e n t => y.kp b o (x.kp b o e n t) (fun z => ?_) t, fun b h => y.dm b (x.dm b h), fun h => y.tb (x.tb h), fun b h => ?_, fun h => y.nt (x.nt h)⟩
  · rcases List.mem_append.mp (show b ∈ κ.l ++ [a] from z) with z | z
    · exact n z
    · rw [List.mem_singleton.mp z] at e
      obtain ⟨ps, q⟩ := h0 _ e
      exact t ps q
  · rcases y.fn b h with h | h
    · exact x.fn b h
    · exact .inr (Classical.byContradiction fun z => x.dm b z h)
theorem Cel.less (c : Cel K (κ.more a) F H S) : Cel K κ F H S.dropLast := by
  have hl : κ.l.length + 1 = S.length := by rw [← c.len]; simp [Kp.more]
  refine ⟨by rw [List.length_dropLast]; omega, ?_, fun k b ds e1 e2 => ?_, fun b hb => c.fz b (List.mem_append_left _ hb), c.tb, c.nt⟩
  · have := c.nd
    exact (List.nodup_append.mp (show (κ.l ++ [a]).Nodup from this)).1
  · have hk : k < κ.l.length := (List.getElem?_eq_some_iff.mp e1).1
    refine c.cl k b ds ?_ ?_
    · show (κ.l ++ [a])[k]? = some b
      rw [List.getElem?_append_left hk]; exact e1
    · rw [List.getElem?_dropLast] at e2
      split at e2
      · exact e2
      · cases e2
theorem Cel.more {vs : List V} {ds : List D} (c : Cel K κ F H S) (ha : H a = some (.lst vs)) (hk : a ∉ κ.l) (hf : F a = none) (r : RepAll K F vs ds) : Cel K (κ.more a) F H (S ++ [ds]) := by
  refine ⟨by simp [Kp.more, c.len], ?_, fun k b es e1 e2 => ?_, fun b hb => ?_, c.tb, c.nt⟩
  · show (κ.l ++ [a]).Nodup
    exact List.nodup_append.mpr ⟨c.nd, by simp, fun x hx y hy z => hk (by rw [List.mem_singleton.mp hy] at z; exact z ▸ hx)⟩
  · have e1 : (κ.l ++ [a])[k]? = some b := e1
    by_cases h : k < κ.l.length
    · rw [List.getElem?_append_left h] at e1
      rw [List.getElem?_append_left (by rw [← c.len]; exact h)] at e2
      exact c.cl k b es e1 e2
    · have h2 : k = κ.l.length := by
        have := (List.getElem?_eq_some_iff.mp e1).1
        simp at this
        omega
      subst h2
      rw [List.getElem?_append_right (Nat.le_refl _), Nat.sub_self] at e1
      rw [c.len, List.getElem?_append_right (Nat.le_refl _), Nat.sub_self] at e2
      cases e1; cases e2
      exact ⟨vs, ha, r⟩
  · rcases List.mem_append.mp (show b ∈ κ.l ++ [a] from hb) with z | z
    · exact c.fz b z
    · rw [List.mem_singleton.mp z]; exact hf
end
def okOwn : Option W → Bool
  | some (.own _) => false
  | _ => true
def noOwn (ρ : Ev) : Bool := ρ.all okOwn
def unC1 (n : Nat) : Option W → Option W
  | some w => if w.keepC n = true then some w else none
  | none => none
def unC (n : Nat) (ρ : Ev) : Ev := ρ.map (unC1 n)
theorem unC_at {n : Nat} {ρ : Ev} {i : Nat} {w : W} (h : (unC n ρ)[i]? = some (some w)) : ρ[i]? = some (some w) ∧ w.keepC n = true := by
  unfold unC at h
  rw [List.getElem?_map] at h
  cases q : ρ[i]? with
  | none => rw [q] at h; cases h
  | some o =>
    rw [q] at h
    cases o with
    | none => cases h
    | some u =>
      have h : unC1 n (some u) = some w := by simpa using h
      unfold unC1 at h
      simp only at h
      split at h
      · cases h; exact ⟨rfl, ‹_›⟩
      · cases h
theorem Ats.less {K : PySem.W.Frag} {κ : Kp} {F0 H0 Fa Ha F H : Hp} {ρ : Ev} {S : Cs} {σ : L2.St} {a : Addr} (x : Nxt κ F0 H0 Fa Ha) (h0 : FrT H0 a) (hc : ∀ b ∈ κ.l, ¬ FrT H0 b) (t : Ats K (κ.more a) Fa Ha F ρ S σ H) : Ats K κ F0 H0 F (unC κ.l.length ρ) S.dropLast σ H := by
  obtain ⟨fp, sl⟩ := t.sl
  classical
  refine ⟨x.less h0 t.n, t.c.less, hc, by unfold unC; rw [List.length_map]; exact t.ln, fun i => if ∃ w, (unC κ.l.length ρ)[i]? = some (some w) then fp i else [], fun i w h => ?_, fun i h => ?_, fun i => ?_, fun i j hij b hb => ?_, fun i b hb => ?_⟩
  · obtain ⟨h1, h2⟩ := unC_at h
    obtain ⟨v, h3, h4⟩ := sl.rep i w h1
    refine ⟨v, h3, ?_⟩
    show RepW K κ F H w v (if ∃ w, (unC κ.l.length ρ)[i]? = some (some w) then fp i else [])
    rw [if_pos ⟨w, h⟩]
    exact RepW.less w v _ h2 h4
  · show (if ∃ w, (unC κ.l.length ρ)[i]? = some (some w) then fp i else []) = []
    rw [if_neg (fun ⟨w, z⟩ => h w z)]
  · show (if ∃ w, (unC κ.l.length ρ)[i]? = some (some w) then fp i else []).Nodup
    split
    · exact sl.nd i
    · exact .nil
  · have hb : b ∈ (if ∃ w, (unC κ.l.length ρ)[i]? = some (some w) then fp i else []) := hb
    show b ∉ (if ∃ w, (unC κ.l.length ρ)[j]? = some (some w) then fp j else [])
    split at hb
    · split
      · exact sl.dis i j hij b hb
      · simp
    · exact absurd hb (by simp)
  · have hb : b ∈ (if ∃ w, (unC κ.l.length ρ)[i]? = some (some w) then fp i else []) := hb
    split at hb
    · exact ⟨x.back (sl.nw i b hb).1, (sl.nw i b hb).2⟩
    · exact absurd hb (by simp)
/-- a fresh list becomes a cell -/
theorem Ats.more {K : PySem.W.Frag} {κ : Kp} {F0 H0 F H F1 H1 : Hp} {ρ : Ev} {S S1 : Cs} {σ : L2.St} {a : Addr} {vs : List V} {ds : List D} {i : Nat} (t : Ats K κ F0 H0 F ρ S σ H) (no : noOwn ρ = true) (n : Nxt κ F H F1 H1) (c : Cel K κ F1 H1 S1) (ha : H1 a = some (.lst vs)) (h0 : FrT H a) (hf : F1 a = none) (r : RepAll K F1 vs ds) :
    Ats K (κ.more a) F1 H1 F1 (ρ.set i (some (.a (.c S1.length)))) (S1 ++ [ds]) (σ.set i (some (.ref a))) H1 := by
  have ak : a ∉ κ.l := fun z => by
    obtain ⟨us, e⟩ := t.c.there a z
    exact h0.no e
  have c' := c.more ha ak hf r
  obtain ⟨fp, sl⟩ := t.sl
  refine ⟨.refl n.fh, c', fun b hb => ?_, by rw [List.length_set, List.length_set]; exact t.ln, fun _ => [], fun j w h => ?_, fun _ _ => rfl, fun _ => .nil, fun _ _ _ _ hb => absurd hb (by simp), fun _ _ hb => absurd hb (by simp)⟩
  · obtain ⟨us, e⟩ := c'.there b hb
    exact not_frT e
  · by_cases hj : j = i
    · subst hj
      by_cases hl : j < ρ.length
      · rw [List.getElem?_set_self hl] at h
        cases h
        refine ⟨.ref a, List.getElem?_set_self (Nat.lt_of_lt_of_le hl t.ln), rfl, a, ?_, rfl⟩
        show (κ.l ++ [a])[S1.length]? = some a
        rw [← c.len, List.getElem?_append_right (Nat.le_refl _), Nat.sub_self]
        rfl
      · rw [List.getElem?_eq_none (by rw [List.length_set]; omega)] at h
        cases h
    · rw [List.getElem?_set_ne (Ne.symm hj)] at h
      obtain ⟨v, h1, h2⟩ := sl.rep j w h
      have hm : okOwn (some w) = true := by
        unfold noOwn at no
        exact List.all_eq_true.mp no _ (List.mem_of_getElem? h)
      cases w with
      | own ws => cases hm
      | a x => exact ⟨v, by rw [List.getElem?_set_ne (Ne.symm hj)]; exact h1, rfl, RepA.more (RepA.up n.ff h2.2)⟩
section
variable {X : Cx} {Z : WX} {e c o ix a b : Expr} {f fc fi fa fb : Fe} {pos apos cpos p : Pos} {g : Fs} {rest : List Stmt}
def sCell (i : Nat) (f : Fe) (g : Fs) : Fs := fun ρ S => if noOwn ρ = true then (match f (ev ρ) S with
  | .ok (.own ws) S1 => match flatWs ws with
    | some ds => match g (ρ.set i (some (.a (.c S1.length)))) (S1 ++ [ds]) with
      | .nx ρ2 S2 => .nx (unC S1.length ρ2) S2.dropLast
      | .rt (.a (.d d)) S2 => .rt (.a (.d d)) S2.dropLast
      | .exc n S2 => .exc n S2.dropLast
      | _ => .stuck
    | none => .stuck
  | .exc n S1 => .exc n S1
  | _ => .stuck) else .stuck
theorem vss_cell (i : Nat) {x : Str} {pos' : Pos} (hN : X.N.Nodup) (he : VE X Z e f) (hr : VSs X Z rest g) (hi : X.N[i]? = some x := by rfl) (hx : Loc X.env.scope x := by first | exact Or.inl rfl | exact Or.inr rfl) (hs : swapsWith e (some (.Name x pos')) pos.line X.env = pure false := by rfl)
    (hf : X.fn x = true ∨ X.env.scope.names.lookup x = some .local := by first | exact .inl rfl | exact .inr rfl | assumption) : VSs X Z (.Assign [.Name x pos'] e pos :: rest) (sCell i f g) := (pss_cons (ps_set hN hi hx he hs hf) hr).imp fun Dn σ H h => by
  obtain ⟨κ, F0, H0, F, ρ, S, t, p⟩ := h
  unfold sCell at p
  split at p
  · rename_i no
    show tv X.K X.mg Z f σ H fun v H1 => ts X.K X.mg Z g Dn (σ.set i (some v)) H1
    refine ⟨κ, F, _, S, t.at_, ?_⟩
    cases q : f (ev ρ) S with
    | stuck => rw [q] at p; exact p.elim
    | exc n S1 => rw [q] at p; exact PostS.exc p t.n
    | ok w S1 =>
      rw [q] at p
      match w, p with
      | .a _, p => exact p.elim
      | .own ws, p =>
        simp only at p
        cases qf : flatWs ws with
        | none => rw [qf] at p; exact p.elim
        | some ds =>
          rw [qf] at p
          simp only at p
          intro v H1 F1 L n c r nd nw
          obtain ⟨a, vs, L', rfl, ha, rfl, rr⟩ := r
          obtain ⟨rfl, ra⟩ := flatWs_rep qf rr
          have h0 := (nw a List.mem_cons_self).1
          have hf := (nw a List.mem_cons_self).2
          have t1 := t.more (i := i) no n c ha h0 hf ra
          have x1 := t.n.trans n
          have hh : FrT H0 a := t.n.back h0
          have hl := c.len
          refine ⟨κ.more a, F1, H1, F1, _, _, t1, ?_⟩
          cases qg : g (ρ.set i (some (.a (.c S1.length)))) (S1 ++ [ds]) with
          | stuck => rw [qg] at p; exact p.elim
          | nx ρ2 S2 =>
            rw [qg] at p
            intro σ' H' F' s' t'
            have := t'.less x1 hh t.ck
            rw [hl] at this
            exact p σ' H' F' (n.ff.trans s') this
          | exc m S2 =>
            rw [qg] at p
            exact fun C σ' H' F' g n' c' => p C σ' H' F' g (x1.less hh n') c'.less
          | rt w S2 =>
            rw [qg] at p
            match w, p with
            | .a (.d d), p => exact fun v H' F' L n' c' r' nd' nw' => p v H' F' [] (x1.less hh n') c'.less ⟨rfl, r'.2⟩ .nil fun _ hb => absurd hb (by simp)
            | .a (.c _), p => exact p.elim
            | .a (.s _), p => exact p.elim
            | .a (.e _), p => exact p.elim
            | .own _, p => exact p.elim
  · exact p.elim
/-- f(a fresh list): a cell while f runs -/
def fLetC (sem : Sem_) (f : Fe) : Fe := fun ρ S => match f ρ S with
  | .ok (.own ws) S1 => match flatWs ws with
    | some ds => match sem [.c S1.length] (S1 ++ [ds]) with
      | .ok w S2 => if w.keepC S1.length = true then .ok w S2.dropLast else .stuck
      | .exc n S2 => .exc n S2.dropLast
      | .stuck => .stuck
    | none => .stuck
  | .exc n S1 => .exc n S1
  | _ => .stuck
theorem Post.less {K : PySem.W.Frag} {mg : Str → Option Value} {κ : Kp} {F H F1 H1 : Hp} {σ : L2.St} {a : Addr} {Q : VK} {n : Nat} {r : R} (hl : κ.l.length = n) (x : Nxt κ F H F1 H1) (h0 : FrT H a) (p : Post K mg Z κ F H σ (match r with
      | .ok w S2 => if w.keepC n = true then .ok w S2.dropLast else .stuck
      | .exc n S2 => .exc n S2.dropLast
      | .stuck => .stuck) Q) : Post K mg Z (κ.more a) F1 H1 σ r Q := by
  cases r with
  | stuck => exact p
  | exc m S2 => exact fun C H' F' g n' c' => p C H' F' g (x.less h0 n') c'.less
  | ok w S2 =>
    simp only at p
    split at p
    · rename_i hk
      subst hl
      exact fun v H' F' L n' c' r' nd' nw' => p v H' F' L (x.less h0 n') c'.less (RepW.less w v L hk r') nd' fun b hb => ⟨x.back (nw' b hb).1, (nw' b hb).2⟩
    · exact p.elim
theorem ve_callC {k j : Nat} {x : Str} {ps : List Str} {sem : Sem_} (hr : Room k X.A) (tk : Takes X Z) (G : OkAt X.prog X.w X.K X.mg X.base j x ps sem) (ha : VE X Z e f) (hj : j ≤ k := by first | omega | (simp only [Nat.add_eq]; omega)) (hx : Gl X x := by rfl) (hn : 1 = ps.length := by rfl)
    (hdb : (x == ("__debug__" : Str)) = false := by decide) (he : starEach [e] X.env = (false, eval e X.env) :: starEach [] X.env := by rfl) (hpl : (backTo pos (starEach [] X.env)).any (·.1) = false := by rfl) :
    VE X Z (.Call (.Name x p) [e] [] pos) (fLetC sem f) := by
  obtain ⟨ff, fd, e1, e2, e3, e4⟩ := G.ex
  refine (pe_callS e4 (hr.mono hj) hx e1 e2 e3 (fun σ => passAt tk σ) (pa_cons ha pa_nil he) hdb he hpl).imp fun σ H Q h => ?_
  obtain ⟨κ, F, ρ, S, t, q⟩ := h
  show tv X.K X.mg Z f σ H _
  refine ⟨κ, F, ρ, S, t, ?_⟩
  unfold fLetC at q
  cases qf : f ρ S with
  | stuck => rw [qf] at q; exact q
  | exc n S1 => rw [qf] at q; exact q
  | ok w S1 =>
    rw [qf] at q
    match w, q with
    | .a _, q => exact q.elim
    | .own ws, q =>
      simp only at q
      cases qw : flatWs ws with
      | none => rw [qw] at q; exact q.elim
      | some ds =>
        rw [qw] at q
        simp only at q
        intro v H1 F1 L n c r nd nw
        obtain ⟨a, vs, L', rfl, ha, rfl, rr⟩ := r
        obtain ⟨rfl, ra⟩ := flatWs_rep qw rr
        have h0 := (nw a List.mem_cons_self).1
        have hf := (nw a List.mem_cons_self).2
        have ak : a ∉ κ.l := fun z => by
          obtain ⟨us, e⟩ := t.cel.there a z
          exact h0.no e
        refine ⟨hn, κ.more a, F1, S1 ++ [ds], [.c S1.length], n.fh, c.more ha ak hf ra, .cons ⟨a, ?_, rfl⟩ .nil, ?_⟩
        · show (κ.l ++ [a])[S1.length]? = some a
          rw [← c.len, List.getElem?_append_right (Nat.le_refl _), Nat.sub_self]
          rfl
        · exact Post.zx (Post.less c.len n h0 q) fun c d H' z => z
end
end PD

/-! PDR: what the top has written; the end. -/
namespace PD
open PySem PySem.Spec PyProof.Rows L2
/-! ### exceptions -/
structure ExcAt (K : PySem.W.Frag) (mg : Str → Option Value) (x : Str) : Prop where
  ex : ∃ C : Addr, mg x = some (.ref C) ∧ PySem.W.excIn K C [.type "ValueError", .type "Exception", .type "BaseException", .type "object"] "ValueError.__new__" = true ∧ PySem.W.keepIn K (.ref C) = true ∧ PySem.W.subIn K (.ref C) (.type "BaseException") = some true ∧ PySem.W.typeIn K (.ref C) = some (.type "type")
theorem vs_raiseO {X : Cx} {Z : WX} {x m : Str} {j : Nat} {p1 p2 p3 pos : Pos} (tk : Takes X Z) (E : ExcAt X.K X.mg x) (hc : X.calm = true := by rfl) (hg : Gl X x := by rfl) (hdb : (x == ("__debug__" : Str)) = false := by decide) : VS X Z (.Raise (some (.Call (.Name x p1) [.Constant (.str m) j p2] [] p3)) none pos) (sRaise x) := by
  obtain ⟨C, e1, e2, e3, e4, e5⟩ := E.ex
  exact vs_raise hc tk PySem.F.excBase_ValueError e2 e1 e3 (raises_own e4 e5) hg hdb
theorem exc_at {K : PySem.W.Frag} {h : Heap} {mg : Str → Option Value} (X : K.In h) (G : h.Ns mainGlobals mg) {x : Str} {C : Addr} (a : PySem.W.nsIn K mainGlobals x = some (some (.ref C))) (q : PySem.W.excIn K C [.type "ValueError", .type "Exception", .type "BaseException", .type "object"] "ValueError.__new__" = true)
    (k : PySem.W.keepIn K (.ref C) = true) (b : PySem.W.subIn K (.ref C) (.type "BaseException") = some true) (t : PySem.W.typeIn K (.ref C) = some (.type "type")) : ExcAt K mg x := ⟨C, PySem.W.mg_of X G a, q, k, b, t⟩
/-! ### defs -/
theorem def_at {K : PySem.W.Frag} {h : Heap} {mg : Str → Option Value} (X : K.In h) (G : h.Ns mainGlobals mg) {x : Str} {st : Stmt} {ps : List Str} {f : Addr} {oc : Value} {od an : Option Addr} {osl : Array (Option Value)} {kV doc pm cdv ct : Value}
    (a : PySem.W.nsIn K mainGlobals x = some (some (.ref f))) (l : K.lookup f = some ⟨oc, od, .func (PySem.W.fnOf x x (defArgs st) (defBody st) (defScope st) .none kV doc pm an cdv ct), osl⟩) (c : PySem.W.codeIn K cdv x = true) (k : PySem.W.keepIn K (.ref f) = true)
    (hb : ∀ (kV doc pm : Value) (an : Option Addr) (cdv ct : Value) (us : List Value), us.length = ps.length → bindArgs (PySem.W.fnOf x x (defArgs st) (defBody st) (defScope st) .none kV doc pm an cdv ct) ⟨us, []⟩ = pure (ps.zip us)) : DefAt K mg x st ps :=
  have F := fun_mk (x := x) (qual := x) (st := st) l c k
  ⟨f, _, PySem.W.mg_of X G a, F.binds hb, F⟩
theorem int_at {K : PySem.W.Frag} {h : Heap} {mg : Str → Option Value} (X : K.In h) (G : h.Ns mainGlobals mg) {x : Str} {i : Int} {t : Tok} (a : PySem.W.nsIn K mainGlobals x = some (some (.int i t))) : ∃ t, mg x = some (.int i t) := ⟨t, PySem.W.mg_of X G a⟩
theorem str_at {K : PySem.W.Frag} {h : Heap} {mg : Str → Option Value} (X : K.In h) (G : h.Ns mainGlobals mg) {x z : Str} {t : Tok} (a : PySem.W.nsIn K mainGlobals x = some (some (.str z t))) : ∃ t, mg x = some (.str z t) := ⟨t, PySem.W.mg_of X G a⟩
theorem sizes_at {K : PySem.W.Frag} {h : Heap} {mg : Str → Option Value} (X : K.In h) (G : h.Ns mainGlobals mg) {x : Str} {d : Addr} {n : Nat} {t1 t2 t3 t4 u1 u2 u3 u4 : Tok} (a : PySem.W.nsIn K mainGlobals x = some (some (.ref d)))
    (l : K.lookup d = some ⟨.type "dict", none, .dict #[⟨2, .int 2 t1, .int 1 u1⟩, ⟨4, .int 4 t2, .int 2 u2⟩, ⟨8, .int 8 t3, .int 3 u3⟩, ⟨16, .int 16 t4, .int 4 u4⟩] n, #[]⟩) (s : (d == sysModules) = false) : KInt K mg x [(2, 1), (4, 2), (8, 3), (16, 4)] := by
  refine ⟨d, _, n, PySem.W.mg_of X G a, l, s, fun e he => ?_, fun k => ?_⟩
  · simp at he
    rcases he with rfl | rfl | rfl | rfl
    · exact ⟨2, t1, rfl, by show (2 : Int) = hashInt 2; decide⟩
    · exact ⟨4, t2, rfl, by show (4 : Int) = hashInt 4; decide⟩
    · exact ⟨8, t3, rfl, by show (8 : Int) = hashInt 8; decide⟩
    · exact ⟨16, t4, rfl, by show (16 : Int) = hashInt 16; decide⟩
  · by_cases h2 : k = 2
    · subst h2; exact ⟨u1, rfl⟩
    · by_cases h4 : k = 4
      · subst h4; exact ⟨u2, rfl⟩
      · by_cases h8 : k = 8
        · subst h8; exact ⟨u3, rfl⟩
        · by_cases h16 : k = 16
          · subst h16; exact ⟨u4, rfl⟩
          · have e1 : List.lookup k [((2 : Int), (1 : Int)), (4, 2), (8, 3), (16, 4)] = none := by
              have b2 : (k == 2) = false := beq_false_of_ne h2
              have b4 : (k == 4) = false := beq_false_of_ne h4
              have b8 : (k == 8) = false := beq_false_of_ne h8
              have b16 : (k == 16) = false := beq_false_of_ne h16
              simp only [List.lookup, b2, b4, b8, b16]
            rw [e1]
            have h2' : ¬ 2 = k := fun z => h2 z.symm
            have h4' : ¬ 4 = k := fun z => h4 z.symm
            have h8' : ¬ 8 = k := fun z => h8 z.symm
            have h16' : ¬ 16 = k := fun z => h16 z.symm
            simp [findBy, Value.isInt, h2', h4', h8', h16']
theorem kv_sizes : ∀ i, valV (mergeK [] (([(2, 1), (4, 2), (8, 3), (16, 4)] : List (Int × Int)).map fun kv => (Sum.inl kv.1, V.int kv.2))) (.inl i) = (([(2, 1), (4, 2), (8, 3), (16, 4)] : List (Int × Int)).lookup i).map V.int := by
  intro i
  have e : mergeK [] (([(2, 1), (4, 2), (8, 3), (16, 4)] : List (Int × Int)).map fun kv => (Sum.inl kv.1, V.int kv.2)) = ([(2, 1), (4, 2), (8, 3), (16, 4)] : List (Int × Int)).map fun kv => (Sum.inl kv.1, V.int kv.2) := by decide
  rw [e]
  by_cases h2 : i = 2
  · subst h2; rfl
  · by_cases h4 : i = 4
    · subst h4; rfl
    · by_cases h8 : i = 8
      · subst h8; rfl
      · by_cases h16 : i = 16
        · subst h16; rfl
        · have b2 : (i == 2) = false := beq_false_of_ne h2
          have b4 : (i == 4) = false := beq_false_of_ne h4
          have b8 : (i == 8) = false := beq_false_of_ne h8
          have b16 : (i == 16) = false := beq_false_of_ne h16
          have c2 : ¬ (2 : Int) = i := fun z => h2 z.symm
          have c4 : ¬ (4 : Int) = i := fun z => h4 z.symm
          have c8 : ¬ (8 : Int) = i := fun z => h8 z.symm
          have c16 : ¬ (16 : Int) = i := fun z => h16 z.symm
          simp [List.lookup, b2, b4, b8, b16, valV, c2, c4, c8, c16]
/-! ### the end -/
theorem law_at {l : PySem.W.OpenLaw} {w : World} {K : PySem.W.Frag} {mg : Str → Option Value} {fa : Addr} {h : Heap} {k n : Nat} {x : Str} {fd : FuncData} {sem : Sem_} {c P : Addr} (hK : PySem.W.tabIn K "law" = some (c, P)) (hT : h.get? P = some { cls := .none, data := .fields #[] }) (nT : K.lookup P = none) (C : PySem.W.CodeHd h c P)
    (hb : ∀ (s : Shared) (u : Value), BindsTo s fd ⟨[u], []⟩ [(x, u)]) (hF : ∀ base : Heap, K.In base → base.Ns mainGlobals mg → LamX.TabB base mg c P → FnOk l.prog w K mg base (L2.CX l.prog w) k fa fd [x] (spD K mg 1 sem))
    (hlaw : ∀ ns : List Int, ns.length ≤ n → (∀ z ∈ ns, Builtin.Int.intBits z ≤ 1048576) → ∃ S, sem [.s ns] [] = .ok (bD true) S) : LamX.LawAtS l w K (L2.CX l.prog w) k n x mg fa h := by
  refine ⟨fd, [(c, P)], spD K mg 1 sem, fun p hp => by rw [List.mem_singleton.mp hp]; exact hT, fun p hp => by rw [List.mem_singleton.mp hp]; exact nT, fun p hp => by rw [List.mem_singleton.mp hp]; exact C, hb, fun H a ns hl hbits hH hS => ?_, fun base h1 h2 h3 => hF base h1 h2 (h3 (c, P) (List.mem_singleton.mpr rfl))⟩
  obtain ⟨S, e⟩ := hlaw ns hl hbits
  refine ⟨rfl, ⟨[], tabsK K⟩, fun b => match H b with | some (.tbl _) => none | o => o, [], [.s ns], fun b o q => ?_, ⟨rfl, .nil, fun k a ds e1 _ => by simp at e1, fun a ha => by simp at ha, ⟨rfl, fun p hp => ?_⟩, fun b ps q => ?_⟩, .cons ⟨a, rfl, ?_⟩ .nil, ?_⟩
  · have q : (match H b with | some (.tbl _) => none | o => o) = some o := q
    split at q
    · cases q
    · exact q
  · have hp : p ∈ tabsK K := hp
    unfold tabsK at hp
    rw [hK] at hp
    rw [List.mem_singleton.mp hp]
    exact LamX.TabS.nil (hH (c, P) (List.mem_singleton.mpr rfl))
  · have q : (match H b with | some (.tbl _) => none | o => o) = some (.tbl ps) := q
    split at q
    · cases q
    · rename_i hn
      exact hn ps q
  · rcases hS with (hS | ⟨o, hS⟩) | hS
    · exact .inl (.inl (by show (match H a with | some (.tbl _) => none | o => o) = _; rw [hS]))
    · exact .inl (.inr ⟨o, by show (match H a with | some (.tbl _) => none | o => o) = _; rw [hS]⟩)
    · exact .inr hS
  · rw [e]
    exact fun v H' F' L n c r nd nw => Rep.blv r.2
theorem law_at0 {l : PySem.W.OpenLaw} {w : World} {K : PySem.W.Frag} {mg : Str → Option Value} {fa : Addr} {h : Heap} {k n : Nat} {x : Str} {fd : FuncData} {sem : Sem_} (hK : tabsK K = [])
    (hb : ∀ (s : Shared) (u : Value), BindsTo s fd ⟨[u], []⟩ [(x, u)]) (hF : ∀ base : Heap, K.In base → base.Ns mainGlobals mg → FnOk l.prog w K mg base (L2.CX l.prog w) k fa fd [x] (spD K mg 1 sem))
    (hlaw : ∀ ns : List Int, ns.length ≤ n → (∀ z ∈ ns, Builtin.Int.intBits z ≤ 1048576) → ∃ S, sem [.s ns] [] = .ok (bD true) S) : LamX.LawAtS l w K (L2.CX l.prog w) k n x mg fa h := by
  refine ⟨fd, [], spD K mg 1 sem, fun p hp => absurd hp (by simp), fun p hp => absurd hp (by simp), fun p hp => absurd hp (by simp), hb, fun H a ns hl hbits hH hS => ?_, fun base h1 h2 _ => hF base h1 h2⟩
  obtain ⟨S, e⟩ := hlaw ns hl hbits
  refine ⟨rfl, ⟨[], tabsK K⟩, fun b => match H b with | some (.tbl _) => none | o => o, [], [.s ns], fun b o q => ?_, ⟨rfl, .nil, fun k a ds e1 _ => by simp at e1, fun a ha => by simp at ha, ⟨rfl, fun p hp => absurd (show p ∈ tabsK K from hp) (by rw [hK]; simp)⟩, fun b ps q => ?_⟩, .cons ⟨a, rfl, ?_⟩ .nil, ?_⟩
  · have q : (match H b with | some (.tbl _) => none | o => o) = some o := q
    split at q
    · cases q
    · exact q
  · have q : (match H b with | some (.tbl _) => none | o => o) = some (.tbl ps) := q
    split at q
    · cases q
    · rename_i hn
      exact hn ps q
  · rcases hS with (hS | ⟨o, hS⟩) | hS
    · exact .inl (.inl (by show (match H a with | some (.tbl _) => none | o => o) = _; rw [hS]))
    · exact .inl (.inr ⟨o, by show (match H a with | some (.tbl _) => none | o => o) = _; rw [hS]⟩)
    · exact .inr hS
  · rw [e]
    exact fun v H' F' L n c r nd nw => Rep.blv r.2
theorem hCX0 {l : PySem.W.OpenLaw} (w : World) (H : Hp) (s : Shared) (e : Value) (s' : Shared) (z : L2.CX l.prog w [] H s (fun _ _ _ => False) e s') : False := by
  obtain ⟨_, _, _, _, _, _, _, _, _, _, _, _, z⟩ := z
  exact z
end PD

/-! PDS: an exception that is caught and kept; calls that hand on a lambda. -/
namespace PD
open PySem PySem.Spec PyProof.Rows L2
section
variable {X : Cx} {pins : List (Addr × Obj)} {σ : L2.St} {H : Hp} {s : Shared} {a : Addr}
theorem exH_ok {P : Program} {w : World} {h : Heap} {cls : Value} {oe : Obj} {vs : Array Value} (e : h.get? a = some oe) (z : Zc cls none oe) (d : oe.data = .fields vs) : ObjOk P w H h a (ExH cls a) :=
  ⟨⟨oe, vs, e, z, d⟩, ⟨oe, e⟩, fun _ _ ⟨o, v, q, r⟩ k => ⟨o, v, k o q, r⟩⟩
/-- a new object that nothing tracked is tracked from now on -/
theorem Inv_track {o : HO} (I : Inv X pins σ H s) (n : H a = none) (hs : X.s_0.heap.get? a = none) (ho : ObjOk X.prog X.w (upd H a o) s.heap a o) (nL : a ≠ X.env.locals) (nC : ∀ x c, X.env.cells.lookup x = some c → c ≠ a) (nP : ∀ p ∈ X.pn ++ pins, p.1 ≠ a) : Inv X pins σ (upd H a o) s := by
  refine ⟨I.ok, I.os, I.bare, ⟨fun b u e m hb hx => I.base.keep b u e m hb hx, fun b u e m hb hx => I.base.slot b u e m hb hx, fun b u e m hx => ?_, I.base.there, fun b xs e => ?_, fun b u v e => ?_, fun b ps e => ?_⟩, I.loc, I.cell, ?_, fun x c e => ?_, fun p hp => ?_, HOk.laidN I.hok (fun b u e => e) n ho, I.len⟩
  · rw [upd_ne (fun z => by rw [z, hs] at e; cases e)]
    exact I.base.free b u e m hx
  · have := I.base.tups b xs e
    rw [upd_ne (ne_of_none this n)]; exact this
  · have := I.base.frzs b u v e
    rw [upd_ne (ne_of_none this n)]; exact this
  · obtain ⟨more, this⟩ := I.base.tbls b ps e
    exact ⟨more, by rw [upd_ne (ne_of_none this n)]; exact this⟩
  · rw [upd_ne (Ne.symm nL)]; exact I.free
  · rw [upd_ne (nC x c e)]; exact I.freeC x c e
  · obtain ⟨h1, h2, h3, h4, h5⟩ := I.pin p hp
    exact ⟨h1, by rw [upd_ne (nP p hp)]; exact h2, h3, h4, h5⟩
end
/-- what 'except c as n', its error kept, wishes of an exception -/
def wKeep (K : PySem.W.Frag) (c : Value) (i : Nat) (ts : Addr → Value → TS) (D : Ends) : WX := fun cls d σ H =>
  PySem.W.exmOne K cls c = some true ∧ d = none ∧ ∀ a, H a = none → ts a cls { nx := fun σ1 H1 => D.nx (σ1.set i none) (upd H1 a (ExH cls a)), rt := fun _ _ => False, bk := fun _ _ => False, ct := fun _ _ => False } (σ.set i (some (.ref a))) H
section
variable {X : Cx} {x n : Str} {c : Value} {i : Nat} {body suite : List Stmt} {st0 : Stmt} {np pos pos2 : Pos} {tb : WX → TS} {ts : Addr → Value → TS}
theorem ps_try_keep (hstk : X.stack = X.env :: X.outer) (hfra : X.env.frame = some X.env.locals) (hex : X.ex = []) (hnd : X.N.Nodup) (hix : X.N[i]? = some n) (hkind : X.env.kindOf n = some .local) (hnm : Names X x c)
    (hbody : ∀ (W : WX) (pn : List (Addr × Obj)) (xe : Value → Shared → Prop), Takes (X.tr pn xe) W → PSs (X.tr pn xe) body (tb W))
    (hsuite : ∀ (a : Addr) (oe : Obj) (cls : Value) (pn : List (Addr × Obj)), Zc cls none oe → (∃ vs, oe.data = .fields vs) → PSs (X.suite a ((a, oe) :: pn)) (st0 :: suite) (ts a cls)) :
    PS X (.Try body [.ExceptHandler (some (.Name x np)) (some n) (st0 :: suite) pos2] [] [] pos) (fun D σ H => tb (fun cls d σ1 H1 => σ1.length = X.N.length → wKeep X.K c i ts D cls d σ1 H1) D σ H) := by
  refine ⟨fun pinz st σ H Dn Iv hq => ?_⟩
  have okk := Iv.ok
  have frames := okk.frames
  rw [hstk] at frames
  refine wpAny_Try_except ?_
  have run := (hbody (fun cls d σ1 H1 => σ1.length = X.N.length → wKeep X.K c i ts Dn cls d σ1 H1) (X.pn ++ pinz) (fun ev sa => wpAny (model X.prog X.w) X.A (noteFrame ev X.env) (fun _ sb => wpAny (model X.prog X.w) X.A (setFlight ev none)
    (fun _ sc => wpAny (model X.prog X.w) X.A (handleBy ev X.env [.ExceptHandler (some (.Name x np)) (some n) (st0 :: suite) pos2]) (SP X pinz Dn) X.xe sc) X.xe sb) X.xe sa) (fun uv sz air => ?_)).run [] st σ H Dn (Iv.toTry _) hq
  · refine wpAny_mono run (fun fl sz res => ?_) (fun ev sz he => he)
    cases fl with
    | next => obtain ⟨σz, Hz, Jz, q⟩ := res; exact wpAny_execs_nil ⟨σz, Hz, Jz.ofTry okk, q⟩
    | brk => obtain ⟨σz, Hz, Jz, q⟩ := res; exact ⟨σz, Hz, Jz.ofTry okk, q⟩
    | cont => obtain ⟨σz, Hz, Jz, q⟩ := res; exact ⟨σz, Hz, Jz.ofTry okk, q⟩
    | ret uv => obtain ⟨vz, σz, Hz, Jz, rz, q⟩ := res; exact ⟨vz, σz, Hz, Jz.ofTry okk, rz, q⟩
  obtain ⟨a, Bh, sIn, pinq, σq, Hq, cls, d, rfl, Jq, nb, ups, sk, na, eos, ag, wish⟩ := air
  obtain ⟨exm, rfl, go⟩ := wish Jq.len
  have J0 : Inv X pinz σq Hq sIn := Jq.ofTry okk
  rw [show (X.tr (X.pn ++ pinz) _).stack = X.env :: X.outer from hstk] at sk
  refine Sky.land Zc.steady frames hfra sk fun ha fla upa => ?_
  have Ja : Inv X pinz σq Hq { sz with heap := ha } := J0.landed nb fla.1 (ups.trans upa) eos ag
  obtain ⟨oa, va, ga, za, da⟩ := fla.there
  -- where the error's object is not
  have offFrames : a ∉ frs (X.env :: X.outer) := fun hm => by
    obtain ⟨_, o1, e1, hnf⟩ := fla.2.2.1.mem hm
    rw [ga] at e1
    cases e1
    exact hnf _ da
  have offLoc : a ≠ X.env.locals := fun z => offFrames (List.mem_filterMap.mpr ⟨X.env, List.mem_cons_self, by rw [hfra, z]⟩)
  have offFs : a ∉ X.fs := fun hm => by
    obtain ⟨ee, hee, q⟩ := List.mem_filterMap.mp hm
    exact offFrames (List.mem_filterMap.mpr ⟨ee, List.mem_cons_of_mem _ hee, q⟩)
  have newB : Bh.get? a = none := fla.2.1
  have newI : ∀ o, sIn.heap.get? a ≠ some o := fun o e => by
    have := nb a o e (by rw [show (X.tr (X.pn ++ pinz) _).stack = X.env :: X.outer from hstk]; exact offFrames)
    rw [newB] at this
    cases this
  have new0 : X.s_0.heap.get? a = none := by
    cases q : X.s_0.heap.get? a with
    | none => rfl
    | some o =>
      obtain ⟨o2, e2⟩ := J0.base.there a o q (by rw [hex]; simp)
      exact absurd e2 (newI o2)
  have Sa := Ja.suite ga da na offLoc offFs
  refine wpAny_handleBy_cons (codeAny_handlers_test ?_) (by intro q; cases q)
  have LT : PySem.W.Looks (model X.prog X.w) ha (typeOf (.ref a)) cls := fun A Qz Ez sy k q => wpAny_typeOf_ref (k _ _ ga) (by rw [za.1]; exact q)
  have LM := PySem.W.exm_one (M := model X.prog X.w) Ja.kIn LT exm
  have named : ∀ {Qz Ez : Value → Shared → Prop}, Qz c { sz with heap := ha } → wpAny (model X.prog X.w) (X.A.mark (some (.ref a))) (eval (.Name x np) X.env) Qz Ez { sz with heap := ha } := fun {Qz Ez} q => by
    obtain ⟨hg, hdb, hm | ⟨hm, hv, hnn⟩⟩ := hnm
    · exact ld_glob (X := X.suite a ((a, oa) :: (X.pn ++ pinz))) Sa hg hm q hdb
    · exact ld_blt (X := X.suite a ((a, oa) :: (X.pn ++ pinz))) Sa hg hm hv q hnn hdb
  refine named (LM.here (codeAny_handlers_suite_as ?_))
  refine HandSPX.lands_againZ fla fun hb flb upb => ?_
  have Jb : Inv X pinz σq Hq { sz with heap := hb } := J0.landed nb flb.1 ((ups.trans upa).trans upb) eos ag
  obtain ⟨ob, vb, gb, zb, db⟩ := flb.there
  have Sb := Jb.suite gb db na offLoc offFs
  refine store_ok (X := X.suite a ((a, ob) :: (X.pn ++ pinz))) (v := .ref a) Sb hnd hix (.inl hkind) rfl (fun s5 S5 => ?_) (.inr hkind)
  refine wpAny_mono ((hsuite a ob cls (X.pn ++ pinz) zb ⟨_, db⟩).run [] s5 _ Hq _ S5 (go a na)) (fun fl s6 res => ?_) (fun _ _ z => False.elim z)
  cases fl with
  | brk => obtain ⟨_, _, _, q⟩ := res; exact q.elim
  | cont => obtain ⟨_, _, _, q⟩ := res; exact q.elim
  | ret uv => obtain ⟨_, _, _, _, _, q⟩ := res; exact q.elim
  | next =>
    obtain ⟨σ6, H6, S6, q6⟩ := res
    obtain ⟨p1, p2, _, _, _⟩ := S6.pin (a, ob) (List.mem_append.mpr (.inl List.mem_cons_self))
    have J6 := S6.unsuite okk
    have T6 : Inv X pinz σ6 (upd H6 a (ExH cls a)) s6 := by
      refine Inv_track J6 p2 new0 (exH_ok p1 zb db) offLoc (fun y cc e z => ?_) fun p hp z => ?_
      · obtain ⟨w, o, ho, hd⟩ := J6.cell y cc e
        rw [z, p1] at ho
        cases ho
        rw [db] at hd
        cases hd
      · obtain ⟨e, _⟩ := J0.pin p hp
        rw [z] at e
        exact newI _ e
    exact gone_ok T6 hnd hix hkind fun s7 J7 => ⟨_, _, J7, q6⟩
end
/-! ### isinstance of the error kept, or of None -/
def rIsX (K : PySem.W.Frag) : List V → Hp → VK → Prop := fun xs H Q => ∃ (x y : V) (cv : Value) (b : Bool), xs = [x, y] ∧ (∀ u, RelV y u → u = cv) ∧ Q (.bl b) H ∧
  ((∃ (a D : Addr), x = .ref a ∧ H a = some (ExH (.ref D) a) ∧ ExcC K D ∧ PySem.W.kitOne K (.ref D) cv = some b) ∨ (x = .non ∧ PySem.W.kitOne K (.type "NoneType") cv = some b))
theorem call_isX {X : Cx} : CallR X (.builtin "isinstance") (rIsX X.K) := by
  intro pins s σ H xs us Q I r h
  obtain ⟨x, y, cv, b, rfl, hy, q, h⟩ := h
  cases r with
  | cons rx rr =>
    cases rr with
    | cons ry rr =>
      cases rr
      have ec := hy _ ry
      subst ec
      rcases h with ⟨a, D, rfl, ha, C, e⟩ | ⟨rfl, e⟩
      · cases rx
        obtain ⟨⟨oe, vs, g1, g2, g3⟩, _, _⟩ := I.hok a _ ha
        have J : PySem.W.InstAt s.heap a oe D none := by
          obtain ⟨k1, k2, k3, k4⟩ := oe
          obtain ⟨z1, z2⟩ := g2
          dsimp only at z1 z2 g3
          subst z1 z2 g3
          exact ⟨g1, rfl, rfl, trivial⟩
        exact PySem.W.kia_one (PySem.W.handS_kitx_exc C.hg C.hk C.hs C.hd C.ha C.hn C.ht C.hm) I.kIn J e (fun z => nomatch z) fun tk => ⟨.bl b, H, I.kept (t' := tk) fun _ _ z => z, rfl, q⟩
      · cases rx
        exact PySem.W.kia_one PySem.W.kitx_none I.kIn True.intro e (fun z => nomatch z) fun tk => ⟨.bl b, H, I.kept (t' := tk) fun _ _ z => z, rfl, q⟩
/-- Ds: classes that isinstance asks rightly -/
def gIsX (K : PySem.W.Frag) (Ds : List Addr) (cv : Value) : A → Cs → R := fun x S => match x with
  | .e D => if D ∈ Ds then (match PySem.W.kitOne K (.ref D) cv with
    | some b => .ok (bD b) S
    | none => .stuck) else .stuck
  | .d .none => match PySem.W.kitOne K (.type "NoneType") cv with
    | some b => .ok (bD b) S
    | none => .stuck
  | _ => .stuck
section
variable {X : Cx} {Z : WX} {e : Expr} {f : Fe} {p pos pt : Pos}
theorem isX_of {Ds : List Addr} {cv : Value} {y : V} (hD : ∀ D ∈ Ds, ExcC X.K D) (hy : ∀ u, RelV y u → u = cv) {σ : L2.St} {H : Hp} {Q : VK} (q : tv X.K X.mg Z (fUn (gIsX X.K Ds cv) f) σ H Q) : tv X.K X.mg Z f σ H fun x H1 => rIsX X.K [x, y] H1 Q := by
  refine tUn_of (r := fun x H1 Q => rIsX X.K [x, y] H1 Q) (fun κ F ρ S σ H v x Q t r p => ?_) q
  unfold gIsX at p
  split at p
  · split at p
    · rename_i D hd
      split at p
      · rename_i b hb
        obtain ⟨a, rfl, ha⟩ := r
        exact ⟨.ref a, y, cv, b, rfl, hy, p.bl t, .inl ⟨a, D, rfl, t.fh _ _ ha, hD D hd, hb⟩⟩
      · exact p.elim
    · exact p.elim
  · split at p
    · rename_i b hb
      rw [Rep.nonv r]
      exact ⟨.non, y, cv, b, rfl, hy, p.bl t, .inr ⟨rfl, hb⟩⟩
    · exact p.elim
  · exact p.elim
/-- isinstance(e, an own class) -/
theorem ve_isC {Ds : List Addr} {x : Str} {C : Addr} (hD : ∀ D ∈ Ds, ExcC X.K D) (hm : X.mg "isinstance" = none) (hC : X.mg x = some (.ref C)) (ha : VE X Z e f) (hx : Gl X "isinstance" := by rfl) (hg : Gl X x := by rfl) (hd : (x == ("__debug__" : Str)) = false := by decide)
    (he : starEach [e, .Name x pt] X.env = (false, eval e X.env) :: starEach [.Name x pt] X.env := by rfl) (he2 : starEach [.Name x pt] X.env = (false, eval (.Name x pt) X.env) :: starEach [] X.env := by rfl) (hpl : (backTo pos (starEach [.Name x pt] X.env)).any (·.1) = false := by rfl) :
    VE X Z (.Call (.Name "isinstance" p) [e, .Name x pt] [] pos) (fUn (gIsX X.K Ds (.ref C)) f) :=
  (pe_callB call_isX hx hm (by decide +kernel) (pa2 ha (pe_glob (v := .ref C) hg hC rfl hd) he he2) (by decide) (by decide) he hpl).imp fun σ H Q q => isX_of (y := .ref C) hD (fun u r => r) q
/-- isinstance(e, ValueError) -/
theorem ve_isV {Ds : List Addr} {T : String} (hD : ∀ D ∈ Ds, ExcC X.K D) (hm : X.mg "isinstance" = none) (hmT : X.mg (Str.ofString T) = none) (ha : VE X Z e f) (hv : bootBuiltins (Str.ofString T) = some (.type T) := by decide +kernel) (hx : Gl X "isinstance" := by rfl) (hg : Gl X (Str.ofString T) := by rfl)
    (hnT : (Str.ofString T) ≠ "__name__" := by decide) (hd : ((Str.ofString T) == ("__debug__" : Str)) = false := by decide)
    (he : starEach [e, .Name (Str.ofString T) pt] X.env = (false, eval e X.env) :: starEach [.Name (Str.ofString T) pt] X.env := by rfl) (he2 : starEach [.Name (Str.ofString T) pt] X.env = (false, eval (.Name (Str.ofString T) pt) X.env) :: starEach [] X.env := by rfl) (hpl : (backTo pos (starEach [.Name (Str.ofString T) pt] X.env)).any (·.1) = false := by rfl) :
    VE X Z (.Call (.Name "isinstance" p) [e, .Name (Str.ofString T) pt] [] pos) (fUn (gIsX X.K Ds (.type T)) f) :=
  (pe_callB call_isX hx hm (by decide +kernel) (pa2 ha (pe_bltn (v := .ty T) (u := .type T) hg hmT hv rfl hnT hd) he he2) (by decide) (by decide) he hpl).imp fun σ H Q q => isX_of (y := .ty T) hD (fun u r => r) q
end
/-! ### the classes' facts, in one look -/
def excCB (K : PySem.W.Frag) (D : Addr) : Bool :=
  decide (PySem.W.findIn K (.ref D) "__getattribute__" = some (some (.builtin "BaseException.__getattribute__"))) && decide (PySem.W.findIn K (.ref D) "__getattr__" = some none) && decide (PySem.W.subIn K (.ref D) (.type "BaseException") = some true) && decide (PySem.W.hasDictIn K D = true)
    && decide (PySem.W.findIn K (.ref D) "__class__" = some (some (.builtin "object.__class__"))) && decide (PySem.W.specialIn K (.builtin "object.__class__") "__get__" = some (some (.builtin "getset_descriptor.__get__"))) && decide (PySem.W.takesIn K (.builtin "object.__class__") = some true) && decide (PySem.W.mroIn K D (.type "object") = some true)
theorem excC_of {K : PySem.W.Frag} {D : Addr} (h : excCB K D = true) : ExcC K D := by
  unfold excCB at h
  simp only [Bool.and_eq_true, decide_eq_true_eq] at h
  obtain ⟨⟨⟨⟨⟨⟨⟨h1, h2⟩, h3⟩, h4⟩, h5⟩, h6⟩, h7⟩, h8⟩ := h
  exact ⟨h1, h2, h3, h4, h5, h6, h7, h8⟩
/-- Cs: the classes in the order of the marks; T: what is caught -/
def refOk (K : PySem.W.Frag) (Cs : List Addr) (T : Addr) : Bool :=
  Cs.all (fun C => excCB K C && decide (PySem.W.exmOne K (.ref C) (.ref T) = some true) && decide (PySem.W.kitOne K (.ref C) (.type "ValueError") = some true) && decide (PySem.W.kitOne K (.type "NoneType") (.ref C) = some false) && Cs.all fun D => decide (PySem.W.kitOne K (.ref C) (.ref D) = some (decide (C = D))))
    && decide (PySem.W.kitOne K (.type "NoneType") (.type "ValueError") = some false)
end PD

/-! PDT: a def that gets a lambda and tells which error comes of it. -/
namespace PD
open PySem PySem.Spec PyProof.Rows L2
/-- ords: the classes in the order of the marks -/
def refR (ords : List Str) (r : R) : R := match r with
  | .ok _ S1 => if flatCs S1 = true then .ok nD S1 else .stuck
  | .exc n S1 => if flatCs S1 = true then (match ords.findIdx? (fun m => m == n) with
    | some k => .ok (ownD [.int (k : Nat)]) S1
    | none => .stuck) else .stuck
  | .stuck => .stuck
def fRef (ords : List Str) (f : Fe) : Fe := fun ρ S => refR ords (f ρ S)
def TTR (K : PySem.W.Frag) (mg : Str → Option Value) (ords : List Str) : (XK → Hp → VK → Prop) → Hp → VK → Prop := fun tl H Q => ∃ κ F S r, Same F H ∧ Cel K κ F H S ∧
  (∀ (E' : XK) (Q' : VK), Post K mg (fun cls d _ H' => E' cls d H') κ F H [] r Q' → tl E' H Q') ∧ Post K mg (fun _ _ _ _ => False) κ F H [] (refR ords r) Q
theorem ve_ref {X : Cx} {Z : WX} {x a : Str} {st : Stmt} {Ng ords : List Str} {c P : Addr} {k : Nat} {params : Arguments} {body : Expr} {scope : Scope} {f : Fe} {p lpos pos : Pos} (hr : Room (k + 2) X.A) (Dg : DefAt X.K X.mg x st [a]) (Sg : FnScope Ng [a] (defScope st)) (hNg : Ng[0]? = some a) (hva : Vis (defScope st) a)
    (hG : ∀ (g : Addr) (cdg : Value), LamX.GivesTo X Ng x (defScope st) g cdg (defBody st) a (X.env.qual ++ "<lambda>") (TTR X.K X.mg ords)) (TB : LamX.TabB X.base X.mg c P) (hcode : X.env.code = .ref c) (hT : tabsK X.K = [(P, X.env.qual ++ "<lambda>")]) (L : LamX.LamS X.env.scope scope)
    (hbody : ∀ (A : Around) (outer : List Env) (s : Shared) (H : Hp) (E : XK) (f1 c1 : Addr), Room k (A.deeper (LamX.lamEnv X scope s.heap.objs.size f1 c1)) → VE (LamX.lamCx X A outer s H E scope f1 c1) (fun cls d _ H' => E cls d H') body f)
    (hdef : defaultsOf params X.env = ([], []) := by rfl) (hbind : ∀ (q : Str) (cl : List (Str × Addr)) (pm cv ctv : Value), bindArgs (PySem.W.kla_fn "<lambda>" q params body scope cl pm cv ctv) ⟨[], []⟩ = pure [] := by intro _ _ _ _ _; rfl)
    (hg : Gl X x := by rfl) (hdb : (x == ("__debug__" : Str)) = false := by decide) (hd : (a == ("__debug__" : Str)) = false := by decide) (hcd : (a == ("__classdict__" : Str)) = false := by decide) :
    VE X Z (.Call (.Name x p) [.Lambda params body scope lpos] [] pos) (fRef ords f) := by
  obtain ⟨g, fd, e1, e2, e3⟩ := Dg.ex
  have kp := e3.kp
  obtain ⟨oc, od, kV, doc, pm, an, cdv, ct, osl, rfl, lk, hcd2⟩ := e3.ex
  have hm : (P, X.env.qual ++ "<lambda>") ∈ tabsK X.K := by rw [hT]; exact List.mem_singleton.mpr rfl
  refine (LamX.pe_lamcall (T := tabsK X.K) (t := fun E => tv X.K X.mg (fun cls d _ H' => E cls d H') f) hg e1 kp lk hcd2 e2 Sg hNg hva (hG g cdv) TB hcode hm (fun q hq hP => by rw [hT] at hq; rw [List.mem_singleton.mp hq]) hr L hdef hbind hbody hdb hd hcd).imp fun σ H Q q => ?_
  obtain ⟨κ, F, ρ, S, t, po⟩ := q
  have eT := t.cel.tb.1
  refine ⟨by rw [← eT]; exact t.cel.tb.2, fun H1 eN T1 => ?_⟩
  rw [← eT] at T1
  have fh1 : Same F H1 := fun b o e => eN b o (t.fh b o e) fun ps z => t.cel.nt b ps (by rw [e, z])
  have c1 : Cel X.K κ F H1 S := ⟨t.cel.len, t.cel.nd, fun i b ds h1 h2 => by
    obtain ⟨vs, h3, h4⟩ := t.cel.cl i b ds h1 h2
    exact ⟨vs, eN b _ h3 (fun ps z => by cases z), h4⟩, t.cel.fz, ⟨eT, T1⟩, t.cel.nt⟩
  have t1 : At X.K κ F ρ S σ H1 := ⟨t.rel, fh1, c1, t.ln⟩
  -- what is more than a table in H is so in H1
  have up : ∀ b, ¬ FrT H b → ¬ FrT H1 b := fun b h g => h fun o e => Classical.byContradiction fun z => by
    obtain ⟨ps, q⟩ := g o (eN b o e fun ps q => z ⟨ps, q⟩)
    exact z ⟨ps, q⟩
  have nx : ∀ {F' H' : Hp}, Nxt κ F H1 F' H' → Nxt κ F H F' H' := fun {F' H'} n =>
    ⟨n.ff, n.fh, fun b o e nk nt => n.kp b o (eN b o e nt) nk nt, fun b e => n.dm b (up b e), fun _ => n.tb T1, fun b e => (n.fn b e).imp_right fun g => Classical.byContradiction fun z => up b z g, n.nt⟩
  refine ⟨κ, F, S, f ρ S, fh1, c1, fun E' Q' p => ⟨κ, F, ρ, S, t1, ?_⟩, ?_⟩
  · exact p.zx fun c d H' z => z
  · unfold fRef at po
    cases r : refR ords (f ρ S) with
    | stuck => rw [r] at po; exact po
    | exc m S1 =>
      exfalso
      unfold refR at r
      split at r
      · split at r <;> cases r
      · split at r
        · split at r <;> cases r
        · cases r
      · cases r
    | ok w S1 =>
      rw [r] at po
      exact fun v H' F' L n c' r' nd nw => po v H' F' L (nx n) c' r' nd fun b hb => ⟨Classical.byContradiction fun z => up b z (nw b hb).1, (nw b hb).2⟩
end PD

/-! PDU: what `_law_refused` does with the lambda it gets. -/
namespace PD
open PySem PySem.Spec PyProof.Rows L2
/-- only slot i is known -/
def one (n i : Nat) (w : W) : Ev := (List.replicate n none).set i (some w)
theorem Ats.one {K : PySem.W.Frag} {κ : Kp} {F H : Hp} {S : Cs} {σ : L2.St} {n i : Nat} {x : A} {v : V} (fh : Same F H) (c : Cel K κ F H S) (hn : n ≤ σ.length) (hv : σ[i]? = some (some v)) (r : RepA K κ F v x) : Ats K κ F H F (PD.one n i (.a x)) S σ H := by
  refine ⟨.refl fh, c, fun b hb => ?_, by unfold PD.one; rw [List.length_set, List.length_replicate]; exact hn, fun _ => [], fun j w h => ?_, fun _ _ => rfl, fun _ => .nil, fun _ _ _ _ hb => absurd hb (by simp), fun _ _ hb => absurd hb (by simp)⟩
  · obtain ⟨us, e⟩ := c.there b hb
    exact not_frT e
  · unfold PD.one at h
    by_cases hj : j = i
    · subst hj
      by_cases hl : j < n
      · rw [List.getElem?_set_self (by rw [List.length_replicate]; exact hl)] at h
        cases h
        exact ⟨v, hv, rfl, r⟩
      · rw [List.getElem?_eq_none (by rw [List.length_set, List.length_replicate]; omega)] at h
        cases h
    · rw [List.getElem?_set_ne (Ne.symm hj), List.getElem?_replicate] at h
      split at h <;> cases h
theorem ref_gives {X : Cx} {Ng ords : List Str} {x a er e T q : Str} {sg : Scope} {g CT : Addr} {cdg : Value} {j : Nat} {p1 p2 p3 p4 p5 p6 p7 p8 p9 p10 p11 p12 : Pos} {rest : List Stmt} {gr : Fs} {ie ix : Nat} (hnd : Ng.Nodup) (hNe : Ng[ie]? = some er) (hNx : Ng[ix]? = some e) (hne : ie ≠ ix) (h0e : ie ≠ 0) (h0x : ix ≠ 0)
    (hle : sg.names.lookup er = some .local) (hlx : sg.names.lookup e = some .local) (hgT : sg.names.lookup T = some .globalImplicit) (hmT : X.mg T = some (.ref CT)) (hdT : (T == ("__debug__" : Str)) = false) (hdx : (e == ("__debug__" : Str)) = false) (hcx : (e == ("__classdict__" : Str)) = false)
    (hkind : sg.kind = .function)
    (hords : ∀ n ∈ ords, ∃ C : Addr, X.mg n = some (.ref C) ∧ PySem.W.exmOne X.K (.ref C) (.ref CT) = some true)
    (hrest : ∀ (s : Shared) (H : Hp), VSs (cxOf C8.CX0 X.prog X.w X.K X.mg X.base Ng x sg g cdg X.A X.stack s H C8.E0).nox (fun _ _ _ _ => False) rest gr)
    (hnone : ∀ S, flatCs S = true → gr (PD.one Ng.length ie (.a (.d .none))) S = .rt (.a (.d .none)) S)
    (herr : ∀ S n k C, flatCs S = true → ords.findIdx? (fun m => m == n) = some k → X.mg n = some (.ref C) → gr (PD.one Ng.length ie (.a (.e C))) S = .rt (ownD [.int (k : Nat)]) S) :
    LamX.GivesTo X Ng x sg g cdg (.Assign [.Name er p1] (.Constant .none j p2) p3 :: .Try [.Expr (.Call (.Name a p4) [] [] p5) p6] [.ExceptHandler (some (.Name T p7)) (some e) [.Assign [.Name er p8] (.Name e p9) p10] p11] [] [] p12 :: rest) a q (TTR X.K X.mg ords) := by
  intro f c' s H Q tl act hco hTT
  obtain ⟨κ, F, S, r, fh, c, give, po⟩ := hTT
  have hNl : ie < Ng.length := (List.getElem?_eq_some_iff.mp hNe).1
  have hNlx : ix < Ng.length := (List.getElem?_eq_some_iff.mp hNx).1
  refine ⟨_, pss_cons (ps_set (i := ie) hnd hNe (.inl hle) pe_non) (pss_cons (ps_try_keep (X := (cxOf C8.CX0 X.prog X.w X.K X.mg X.base Ng x sg g cdg X.A X.stack s H C8.E0).nox) (i := ix) (c := .ref CT)
      (tb := fun W D σ H => ∃ Ech : XK, (∀ cls d σ' H', Ech cls d H' → W cls d σ' H') ∧ σ[0]? = some (some (.ref f)) ∧ H c' = some (LamX.CodeO c' q) ∧ tl Ech H (fun _ H' => D.nx σ H')) (ts := fun _ _ => tAsg (tVar ix) (gName ie))
      rfl rfl rfl hnd hNx hlx ⟨hgT, hdT, .inl hmT⟩ (fun W pn xe tk => ?_) (fun a1 oe cls pn _ _ => pss_one (ps_set (i := ie) hnd hNe (.inl hle) (pe_var hNx (.inl hlx) hdx hcx)))) (hrest s H)), ?_⟩
  · refine ⟨fun pins s2 σ H2 D I h => ?_⟩
    obtain ⟨Ech, hW, h1, h2, h3⟩ := h
    have hp := act W pn xe Ech p4 p5 tk hW
    exact (pss_one (ps_expr (pos := p6) hp)).run pins s2 σ H2 D I ⟨h1, h2, h3⟩
  · -- from None on
    have len0 : (L2.start Ng [V.ref f]).length = Ng.length := by unfold L2.start; simp; omega
    have hz : ((L2.start Ng [V.ref f]).set ie (some .non))[0]? = some (some (.ref f)) := by
      rw [List.getElem?_set_ne h0e]; unfold L2.start; simp
    refine ⟨fun cls d H' => ∃ C S1 F' n, cls = .ref C ∧ d = none ∧ r = .exc n S1 ∧ X.mg n = some (.ref C) ∧ Nxt κ F H F' H' ∧ Cel X.K κ F' H' S1, ?_, hz, hco, ?_⟩
    · rintro cls d σ' H' ⟨C, S1, F', n, rfl, rfl, rfl, hm, nx, c1⟩ hl
      have hl : σ'.length = Ng.length := hl
      unfold refR at po
      simp only at po
      split at po
      · rename_i fl
        split at po
        · rename_i k hk
          obtain ⟨hi, hn, _⟩ := List.findIdx?_eq_some_iff_getElem.mp hk
          have en : ords[k] = n := by simpa using hn
          have mem : n ∈ ords := by rw [← en]; exact List.getElem_mem hi
          obtain ⟨C2, m2, x2⟩ := hords n mem
          rw [hm] at m2
          cases m2
          refine ⟨x2, rfl, fun a1 ha1 => ?_⟩
          refine ⟨.ref a1, List.getElem?_set_self (by rw [hl]; exact hNlx), ?_⟩
          have nw1 : Nxt κ F' H' (upd F' a1 (ExH (.ref C) a1)) (upd H' a1 (ExH (.ref C) a1)) := Nxt.newF nx.fh ha1 (by intro ps z; unfold ExH at z; cases z)
          have cw : Cel X.K κ (upd F' a1 (ExH (.ref C) a1)) (upd H' a1 (ExH (.ref C) a1)) S1 := c1.newF nx.fh ha1 (by intro ps z; unfold ExH at z; cases z)
          refine ⟨κ, _, _, _, _, S1, Ats.one (n := Ng.length) (i := ie) (x := .e C) (v := .ref a1) nw1.fh cw (by simp only [List.length_set, hl]; exact Nat.le_refl _) ?_ ⟨a1, rfl, upd_same⟩, ?_⟩
          · rw [List.getElem?_set_ne (Ne.symm hne), List.getElem?_set_self (by rw [List.length_set, hl]; exact hNl)]
          · rw [herr S1 n k C fl hk hm]
            have n2 := nx.trans nw1
            exact fun v3 H3 F3 L3 n3 c3 r3 nd3 nw3 => po v3 H3 F3 L3 (n2.trans n3) c3 r3 nd3 fun b hb => ⟨n2.back (nw3 b hb).1, (nw3 b hb).2⟩
        · exact po.elim
      · exact po.elim
    · refine give _ _ ?_
      cases r with
      | stuck => exact po.elim
      | exc n S1 => exact fun C H' F' hm nx c1 => ⟨C, S1, F', n, rfl, rfl, rfl, hm, nx, c1⟩
      | ok w S1 =>
        intro v H' F' L nx c1 _ _ _
        unfold refR at po
        simp only at po
        split at po
        · rename_i fl
          refine ⟨κ, F', H', F', _, S1, Ats.one (n := Ng.length) (i := ie) (x := .d .none) (v := .non) nx.fh c1 (by rw [List.length_set, len0]; exact Nat.le_refl _) (List.getElem?_set_self (by rw [len0]; exact hNl)) Rep.non, ?_⟩
          rw [hnone S1 fl]
          exact fun v3 H3 F3 L3 n3 c3 r3 nd3 nw3 => po v3 H3 F3 L3 (nx.trans n3) c3 r3 nd3 fun b hb => ⟨nx.back (nw3 b hb).1, (nw3 b hb).2⟩
        · exact po.elim
end PD

/-! PE1: reckoning with the combinators. -/
namespace PD
open PySem PySem.Spec PyProof.Rows L2
/-! ### comprehensions over encoded lists -/
theorem ownD_toA (ds : List D) : (ownD ds).toA = some (.d (.list ds)) := by
  have h : ∀ ds : List D, W.toDs (ds.map fun d => .a (.d d)) = some ds := by
    intro ds
    induction ds with
    | nil => rfl
    | cons d ds ih => simp [W.toDs, W.toD, ih]
  simp [ownD, W.toA, h]
theorem bnd_a (x : A) (S : Cs) (k : A → Cs → R) : (R.ok (.a x) S).bnd k = k x S := rfl
theorem bnd_own (ds : List D) (S : Cs) (k : A → Cs → R) : (R.ok (ownD ds) S).bnd k = k (.d (.list ds)) S := by
  simp [R.bnd, ownD_toA]
theorem bi_a (x : A) (S : Cs) (k : A → Cs → SR) : (R.ok (.a x) S).bi k = k x S := rfl
theorem bi_own (ds : List D) (S : Cs) (k : A → Cs → SR) : (R.ok (ownD ds) S).bi k = k (.d (.list ds)) S := by
  simp [R.bi, ownD_toA]
theorem br_bool (b : Bool) (S : Cs) (x y : Cs → R) : (R.ok (bD b) S).br x y = if b = true then x S else y S := by cases b <;> rfl
theorem compL_fm {α : Type} {g : Gt} {fc fe : Fe} {ρ : En} {S : Cs} (en : α → D) (c : α → Bool) (w : α → D) : ∀ (xs : List α) (acc : List D), (∀ x ∈ xs, ∃ ρ1, g (en x) ρ = some ρ1 ∧ fc ρ1 S = .ok (bD (c x)) S ∧ (c x = true → fe ρ1 S = .ok (.a (.d (w x))) S)) →
    compL g fc fe ρ (xs.map en) S (acc.map fun d => .a (.d d)) = .ok (ownD (acc ++ (xs.filter c).map w)) S
  | [], acc, _ => by simp [compL, ownD]
  | x :: xs, acc, h => by
    obtain ⟨ρ1, h1, h2, h3⟩ := h x List.mem_cons_self
    rw [List.map_cons]
    unfold compL
    rw [h1]
    simp only [h2]
    cases hc : c x with
    | false =>
      simp only [hc]
      rw [compL_fm en c w xs acc fun y hy => h y (List.mem_cons_of_mem _ hy)]
      simp [hc]
    | true =>
      simp only [h3 hc]
      have e : (acc.map fun d => W.a (.d d)) ++ [W.a (.d (w x))] = (acc ++ [w x]).map fun d => W.a (.d d) := by simp
      rw [e, compL_fm en c w xs (acc ++ [w x]) fun y hy => h y (List.mem_cons_of_mem _ hy)]
      simp [hc]
theorem compL_f {α : Type} {g : Gt} {fc fe : Fe} {ρ : En} {S : Cs} (en : α → D) (c : α → Bool) (w : α → D) (xs : List α) (h : ∀ x ∈ xs, ∃ ρ1, g (en x) ρ = some ρ1 ∧ fc ρ1 S = .ok (bD (c x)) S ∧ (c x = true → fe ρ1 S = .ok (.a (.d (w x))) S)) :
    compL g fc fe ρ (xs.map en) S [] = .ok (ownD ((xs.filter c).map w)) S := by
  have := compL_fm (g := g) (fc := fc) (fe := fe) (ρ := ρ) (S := S) en c w xs [] h
  simpa using this
theorem compL_m {α : Type} {g : Gt} {fe : Fe} {ρ : En} {S : Cs} (en : α → D) (w : α → D) (xs : List α) (h : ∀ x ∈ xs, ∃ ρ1, g (en x) ρ = some ρ1 ∧ fe ρ1 S = .ok (.a (.d (w x))) S) :
    compL g fTrue fe ρ (xs.map en) S [] = .ok (ownD (xs.map w)) S := by
  rw [compL_f en (fun _ => true) w xs fun x hx => by
    obtain ⟨ρ1, h1, h2⟩ := h x hx
    exact ⟨ρ1, h1, rfl, fun _ => h2⟩]
  rw [List.filter_eq_self.mpr (by simp)]
/-- with a state that goes along -/
theorem compL_st {g : Gt} {fe : Fe} {ρ : En} (I : Cs → Prop) (P : D → Prop) : ∀ (xs : List D) (acc : List D) (S : Cs), I S → (∀ x ∈ xs, ∀ S, I S → ∃ ρ1 d S1, g x ρ = some ρ1 ∧ fe ρ1 S = .ok (.a (.d d)) S1 ∧ P d ∧ I S1) →
    ∃ ds S1, compL g fTrue fe ρ xs S (acc.map fun d => .a (.d d)) = .ok (ownD (acc ++ ds)) S1 ∧ ds.length = xs.length ∧ (∀ d ∈ ds, P d) ∧ I S1
  | [], acc, S, hI, _ => ⟨[], S, by simp [compL, ownD], rfl, by simp, hI⟩
  | x :: xs, acc, S, hI, h => by
    obtain ⟨ρ1, d, S1, h1, h2, h3, h4⟩ := h x List.mem_cons_self S hI
    obtain ⟨ds, S2, k1, k2, k3, k4⟩ := compL_st I P xs (acc ++ [d]) S1 h4 fun y hy => h y (List.mem_cons_of_mem _ hy)
    refine ⟨d :: ds, S2, ?_, by simp [k2], fun e he => ?_, k4⟩
    · unfold compL
      rw [h1]
      simp only [fTrue, h2]
      have e : (acc.map fun d => W.a (.d d)) ++ [W.a (.d d)] = (acc ++ [d]).map fun d => W.a (.d d) := by simp
      rw [e, k1]
      simp
    · rcases List.mem_cons.mp he with rfl | he
      · exact h3
      · exact k3 e he
theorem rngD_map (n : Nat) : rngD 0 n = (List.range n).map fun (i : Nat) => PyData.int (i : Int) := by
  unfold rngD
  simp
/-! ### texts -/
def tS (cs : List Nat) : Str := ⟨cs.toArray⟩
theorem tS_len (cs : List Nat) : (tS cs).length = cs.length := by simp [tS, Str.length]
theorem tS_cps (cs : List Nat) : (tS cs).cps.toList = cs := by simp [tS]
theorem tS_inj {cs ds : List Nat} : tS cs = tS ds ↔ cs = ds := by
  constructor
  · intro h
    have := congrArg (fun z : Str => z.cps.toList) h
    simpa [tS] using this
  · rintro rfl; rfl
theorem tS_app (cs ds : List Nat) : tS cs ++ tS ds = tS (cs ++ ds) := by
  show (⟨cs.toArray ++ ds.toArray⟩ : Str) = tS (cs ++ ds)
  simp [tS]
theorem strsOf_map {α : Type} (f : α → Str) : ∀ xs : List α, strsOf (xs.map fun x => PyData.str (f x)) = some (xs.map f)
  | [] => rfl
  | x :: xs => by simp [strsOf, strsOf_map f xs]
theorem boolsOf_map {α : Type} (f : α → Bool) : ∀ xs : List α, boolsOf (xs.map fun x => PyData.bool (f x)) = some (xs.map f)
  | [] => rfl
  | x :: xs => by simp [boolsOf, boolsOf_map f xs]
theorem intsOf_map {α : Type} (f : α → Int) : ∀ xs : List α, intsOf (xs.map fun x => PyData.int (f x)) = some (xs.map f)
  | [] => rfl
  | x :: xs => by simp [intsOf, intsOf_map f xs]
theorem join0 : ∀ cs : List Nat, Txt.join (Str.ofString "") (cs.map fun c => tS [c]) = tS cs := by
  have e : Str.ofString "" = tS [] := by decide
  have h : ∀ (cs acc : List Nat), (cs.map fun c => tS [c]).foldl (fun acc p => acc ++ (tS []).cps ++ p.cps) acc.toArray = (acc ++ cs).toArray := by
    intro cs
    induction cs with
    | nil => intro acc; simp
    | cons c cs ih =>
      intro acc
      rw [List.map_cons, List.foldl_cons]
      have : acc.toArray ++ (tS []).cps ++ (tS [c]).cps = (acc ++ [c]).toArray := by simp [tS]
      rw [this, ih]
      simp
  intro cs
  rw [e]
  unfold Txt.join Builtin.Str.glued
  cases cs with
  | nil => rfl
  | cons c cs =>
    have h2 := h cs [c]
    simp only [List.map_cons, List.drop_succ_cons, List.drop_zero, List.headD_cons]
    have e2 : (tS [c]).cps = [c].toArray := rfl
    rw [e2, h2]
    rfl
theorem dJoin0 {α : Type} (f : α → Nat) (xs : List α) (h : xs.length ≤ 1000) : dJoin (Str.ofString "") (.list (xs.map fun x => PyData.str (tS [f x]))) = some (sD (tS (xs.map f))) := by
  have e : (xs.map fun x => tS [f x]) = (xs.map f).map fun c => tS [c] := by simp
  unfold dJoin
  simp only [strsOf_map fun x => tS [f x]]
  have h0 : (Str.ofString "").length = 0 := by decide
  have hs : ∀ l : List α, ((l.map fun x => tS [f x]).map (·.length)).sum = l.length := by
    intro l
    induction l with
    | nil => rfl
    | cons x l ih => simp only [List.map_cons, List.sum_cons, ih, tS_len, List.length_cons, List.length_nil]; omega
  rw [h0, hs, List.length_map]
  rw [if_pos (by omega), e, join0]
theorem seqD_txt (cs : List Nat) (h : cs.length ≤ 1000) : seqD (.d (.str (tS cs))) = some (cs.map fun c => .str (tS [c])) := by
  show (if (tS cs).length ≤ sizeLine then some ((tS cs).cps.toList.map fun c => PyData.str ⟨#[c]⟩) else none) = _
  rw [tS_len, if_pos (by rw [sizeLine_eq]; omega), tS_cps]
  rfl
theorem seqD_lst (ds : List D) : seqD (.d (.list ds)) = some ds := rfl
theorem seqD_tup (ds : List D) : seqD (.d (.tuple ds)) = some ds := rfl
theorem gLen_txt (cs : List Nat) (h : cs.length ≤ 1000) (S : Cs) : gLen [.d (.str (tS cs))] S = .ok (iD cs.length) S := by
  unfold gLen
  simp only [tS_len]
  rw [if_pos (by rw [sizeLine_eq]; omega)]
theorem zipD_map {α β : Type} (f : α → D) (g : β → D) : ∀ (xs : List α) (ys : List β), zipD (xs.map f) (ys.map g) = (xs.zip ys).map fun p => .tuple [f p.1, g p.2] := by
  intro xs ys
  unfold zipD
  rw [List.zip_map, List.map_map]
  rfl
/-! ### bits, signs, answers -/
def sg (b : Bool) : Nat := if b = true then 49 else 48
def sgO : Option Bool → Nat
  | none => 45
  | some b => sg b
def aO : Option Bool → D
  | none => .none
  | some b => .int (if b = true then 1 else 0)
abbrev Tm := List (Option Bool)
abbrev Fn := List (Option Bool)
def eT (t : Tm) : D := .str (tS (t.map sgO))
def eF (f : Fn) : D := .tuple (f.map aO)
theorem sg_inj {a b : Bool} : sg a = sg b ↔ a = b := by cases a <;> cases b <;> decide
theorem sgO_inj {a b : Option Bool} : sgO a = sgO b ↔ a = b := by
  cases a with
  | none => cases b with
    | none => simp
    | some b => cases b <;> decide
  | some a => cases b with
    | none => cases a <;> decide
    | some b => cases a <;> cases b <;> decide
theorem map_sgO_inj : ∀ {s t : Tm}, s.map sgO = t.map sgO ↔ s = t := by
  intro s t
  constructor
  · induction s generalizing t with
    | nil => cases t with
      | nil => intro _; rfl
      | cons y t => intro h; simp at h
    | cons x s ih => cases t with
      | nil => intro h; simp at h
      | cons y t =>
        intro h
        rw [List.map_cons, List.map_cons, List.cons.injEq] at h
        rw [sgO_inj.mp h.1, ih h.2]
  · rintro rfl; rfl
theorem eT_inj {s t : Tm} : eT s = eT t ↔ s = t := by
  unfold eT
  constructor
  · intro h
    have : tS (s.map sgO) = tS (t.map sgO) := by injection h
    exact map_sgO_inj.mp (tS_inj.mp this)
  · rintro rfl; rfl
def bits (n p : Nat) : List Bool := (List.range n).map fun k => p.testBit (n - 1 - k)
theorem bits_len (n p : Nat) : (bits n p).length = n := by simp [bits]
theorem bitAnd1 (q : Nat) : Builtin.bitAnd (q : Int) 1 = if q.testBit 0 = true then 1 else 0 := by
  have h : Builtin.bitAnd (q : Int) 1 = ((q &&& 1 : Nat) : Int) := by
    unfold Builtin.bitAnd
    simp
  rw [h, Nat.and_one_is_mod]
  have := Nat.testBit_zero q
  rw [this]
  by_cases h2 : q % 2 = 1
  · simp [h2]
  · have : q % 2 = 0 := by omega
    simp [this]
/-! ### slots -/
theorem frz1_own {i : Nat} {ρ : Ev} {ds : List D} (h : ρ[i]? = some (some (ownD ds))) : frz1 i ρ = ρ.set i (some (.a (.d (.list ds)))) := by
  unfold frz1
  rw [h]
  show (match (ownD ds).toA with | some x => ρ.set i (some (.a x)) | none => ρ) = _
  rw [ownD_toA]
theorem frz1_a {i : Nat} {ρ : Ev} {x : A} (h : ρ[i]? = some (some (.a x))) : frz1 i ρ = ρ := by
  unfold frz1
  rw [h]
theorem frz1_no {i : Nat} {ρ : Ev} (h : ρ[i]? = some none) : frz1 i ρ = ρ := by
  unfold frz1
  rw [h]
theorem ev1_own (ws : List W) : ev1 (some (.own ws)) = none := rfl
theorem ev1_ownD (ds : List D) : ev1 (some (ownD ds)) = none := rfl
theorem ev1_a (x : A) : ev1 (some (.a x)) = some x := rfl
theorem ev1_no : ev1 none = none := rfl
theorem evs_nil (ρ : En) (S : Cs) (k : List A → Cs → R) : evs [] ρ S k = k [] S := rfl
theorem evs_cons (f : Fe) (fs : List Fe) (ρ : En) (S : Cs) (k : List A → Cs → R) : evs (f :: fs) ρ S k = (f ρ S).bnd fun x S1 => evs fs ρ S1 fun xs S2 => k (x :: xs) S2 := rfl
theorem i2n (n : Nat) : ((n : Int)).toNat = n := Int.toNat_natCast n
/-! ### operators -/
section
variable (i j : Int) (S : Cs)
theorem o_add : onD dAdd (.d (.int i)) (.d (.int j)) S = .ok (iD (i + j)) S := rfl
theorem o_sub : onD dSub (.d (.int i)) (.d (.int j)) S = .ok (iD (i - j)) S := rfl
theorem o_band : onD dBAnd (.d (.int i)) (.d (.int j)) S = .ok (iD (Builtin.bitAnd i j)) S := rfl
theorem o_bor : onD dBOr (.d (.int i)) (.d (.int j)) S = .ok (iD (Builtin.bitOr i j)) S := rfl
theorem o_bxor : onD dBXor (.d (.int i)) (.d (.int j)) S = .ok (iD (Builtin.bitXor i j)) S := rfl
theorem o_mod (h : 0 < j) : onD dMod (.d (.int i)) (.d (.int j)) S = .ok (iD (i % j)) S := by
  simp [onD, dMod, dI, h]
theorem o_div (h : 0 < j ∧ j < 1073741824) : onD dDiv (.d (.int i)) (.d (.int j)) S = .ok (iD (i / j)) S := by
  simp [onD, dDiv, dI, h]
theorem o_pow (h : 0 ≤ j ∧ j ≤ 1000000 ∧ i.natAbs < 2 ^ 64) : onD dPow (.d (.int i)) (.d (.int j)) S = .ok (iD (i ^ j.toNat)) S := by
  show (match dI (fun i j => decide (0 ≤ j ∧ j ≤ 1000000 ∧ i.natAbs < 2 ^ 64)) (fun i j => i ^ j.toNat) (.int i) (.int j) with | some w => R.ok w S | none => .stuck) = _
  unfold dI
  simp only [decide_eq_true h, if_true]
theorem o_shl (n : Nat) (h : n ≤ 60) : onD dShl (.d (.int 1)) (.d (.int n)) S = .ok (iD ((2 ^ n : Nat) : Int)) S := by
  show (match dI (fun i j => decide (0 ≤ j ∧ j ≤ 1000000 ∧ i.natAbs < 2 ^ 64)) (fun i j => i * 2 ^ j.toNat) (.int 1) (.int n) with | some w => R.ok w S | none => .stuck) = _
  unfold dI
  have e : decide (0 ≤ (n : Int) ∧ (n : Int) ≤ 1000000 ∧ (1 : Int).natAbs < 2 ^ 64) = true := by
    apply decide_eq_true
    refine ⟨by omega, by omega, by decide⟩
  simp only [e, if_true, Int.toNat_natCast, Int.one_mul]
  norm_cast
theorem o_shr (n k : Nat) : onD dShr (.d (.int n)) (.d (.int k)) S = .ok (iD ((n / 2 ^ k : Nat) : Int)) S := by
  simp [onD, dShr, dI]
theorem o_mul (h : (-(2 ^ 64) < i ∧ i < 2 ^ 64) ∨ (-(2 ^ 64) < j ∧ j < 2 ^ 64)) : onD dMul (.d (.int i)) (.d (.int j)) S = .ok (iD (i * j)) S := by
  show (match dMul (.int i) (.int j) with | some w => R.ok w S | none => .stuck) = _
  unfold dMul
  simp only [h, if_true]
theorem o_add_txt (a b : List Nat) (h : a.length + b.length ≤ 1000) : onD dAdd (.d (.str (tS a))) (.d (.str (tS b))) S = .ok (sD (tS (a ++ b))) S := by
  show (match dAdd (.str (tS a)) (.str (tS b)) with | some w => R.ok w S | none => .stuck) = _
  unfold dAdd
  simp only [tS_len, tS_app]
  rw [if_pos (by rw [sizeLine_eq]; omega)]
theorem o_lt : onD dLt (.d (.int i)) (.d (.int j)) S = .ok (bD (decide (i < j))) S := rfl
theorem o_le : onD dLe (.d (.int i)) (.d (.int j)) S = .ok (bD (decide (i ≤ j))) S := rfl
theorem o_gt : onD dGt (.d (.int i)) (.d (.int j)) S = .ok (bD (decide (j < i))) S := rfl
theorem o_ge : onD dGe (.d (.int i)) (.d (.int j)) S = .ok (bD (decide (j ≤ i))) S := rfl
theorem o_eq {x y : D} (h : eqOk x y = true) : onD dEq (.d x) (.d y) S = .ok (bD (PyData.eqv x y)) S := by
  show (match dEq x y with | some w => R.ok w S | none => .stuck) = _
  unfold dEq
  rw [if_pos h]
theorem o_ne {x y : D} (h : eqOk x y = true) : onD dNe (.d x) (.d y) S = .ok (bD (!PyData.eqv x y)) S := by
  show (match dNe x y with | some w => R.ok w S | none => .stuck) = _
  unfold dNe
  rw [if_pos h]
theorem eqOk_flat {x y : D} (h1 : flatD x = true) (h2 : flatD y = true) : eqOk x y = true := by simp [eqOk, h1, h2]
theorem eqOk_sh {x y : D} (h1 : SeqAt.shaped x = true) (h2 : SeqAt.shaped y = true) : eqOk x y = true := by simp [eqOk, h1, h2]
theorem o_in_tup {x : D} {ds : List D} (h1 : flatD x = true) (h2 : flatAll ds = true) : onD dIn (.d x) (.d (.tuple ds)) S = .ok (bD (inD x ds)) S := by
  cases x <;> first | (simp [flatD] at h1; done) | (show (match dIn _ (.tuple ds) with | some w => R.ok w S | none => .stuck) = _; unfold dIn; simp only [h1, h2, Bool.and_self, if_true])
theorem o_nin_tup {x : D} {ds : List D} (h1 : flatD x = true) (h2 : flatAll ds = true) : onD dNotIn (.d x) (.d (.tuple ds)) S = .ok (bD (!inD x ds)) S := by
  cases x <;> first | (simp [flatD] at h1; done) | (show (match notW (dIn _ (.tuple ds)) with | some w => R.ok w S | none => .stuck) = _; unfold dIn; simp only [h1, h2, Bool.and_self, if_true, notW])
theorem o_in_lst {x : D} {ds : List D} (h1 : flatD x = true) (h2 : flatAll ds = true) : onD dIn (.d x) (.d (.list ds)) S = .ok (bD (inD x ds)) S := by
  cases x <;> first | (simp [flatD] at h1; done) | (show (match dIn _ (.list ds) with | some w => R.ok w S | none => .stuck) = _; unfold dIn; simp only [h1, h2, Bool.and_self, if_true])
theorem o_nin_lst {x : D} {ds : List D} (h1 : flatD x = true) (h2 : flatAll ds = true) : onD dNotIn (.d x) (.d (.list ds)) S = .ok (bD (!inD x ds)) S := by
  cases x <;> first | (simp [flatD] at h1; done) | (show (match notW (dIn _ (.list ds)) with | some w => R.ok w S | none => .stuck) = _; unfold dIn; simp only [h1, h2, Bool.and_self, if_true, notW])
end
/-! ### equality of plain data -/
mutual
def plainD : D → Bool
  | .none => true
  | .bool _ => false
  | .int _ => true
  | .str _ => true
  | .list ds => plainAll ds
  | .tuple ds => plainAll ds
  | .dict _ => false
def plainAll : List D → Bool
  | [] => true
  | d :: ds => plainD d && plainAll ds
end
mutual
theorem eqv_plain : ∀ (x y : D), plainD x = true → plainD y = true → (PyData.eqv x y = true ↔ x = y)
  | .none, y, _, h => by cases y <;> simp [PyData.eqv, plainD] at h ⊢
  | .int i, y, _, h => by cases y <;> simp [PyData.eqv, plainD] at h ⊢
  | .str i, y, _, h => by cases y <;> simp [PyData.eqv, plainD] at h ⊢
  | .bool _, _, h, _ => by simp [plainD] at h
  | .dict _, _, h, _ => by simp [plainD] at h
  | .list xs, y, h1, h2 => by
    cases y with
    | list ys =>
      rw [PyData.eqv, eqvAll_plain xs ys (by simpa [plainD] using h1) (by simpa [plainD] using h2)]
      simp
    | _ => simp [PyData.eqv, plainD] at h2 ⊢
  | .tuple xs, y, h1, h2 => by
    cases y with
    | tuple ys =>
      rw [PyData.eqv, eqvAll_plain xs ys (by simpa [plainD] using h1) (by simpa [plainD] using h2)]
      simp
    | _ => simp [PyData.eqv, plainD] at h2 ⊢
theorem eqvAll_plain : ∀ (xs ys : List D), plainAll xs = true → plainAll ys = true → (PyData.eqvAll xs ys = true ↔ xs = ys)
  | [], [], _, _ => by simp [PyData.eqvAll]
  | [], _ :: _, _, _ => by simp [PyData.eqvAll]
  | _ :: _, [], _, _ => by simp [PyData.eqvAll]
  | x :: xs, y :: ys, h1, h2 => by
    have h1 : plainD x = true ∧ plainAll xs = true := by simpa [plainAll] using h1
    have h2 : plainD y = true ∧ plainAll ys = true := by simpa [plainAll] using h2
    rw [PyData.eqvAll, Bool.and_eq_true, eqv_plain x y h1.1 h2.1, eqvAll_plain xs ys h1.2 h2.2]
    simp
end
theorem plainAll_map {α : Type} {f : α → D} : ∀ {xs : List α}, (∀ x ∈ xs, plainD (f x) = true) → plainAll (xs.map f) = true
  | [], _ => rfl
  | x :: xs, h => by
    rw [List.map_cons]
    unfold plainAll
    rw [h x List.mem_cons_self, plainAll_map fun y hy => h y (List.mem_cons_of_mem _ hy)]
    rfl
/-- data that comparisons meet: no dict, short texts, not deep -/
def okD (n : Nat) (d : D) : Prop := d.canLay0 = true ∧ d.depth ≤ n
theorem okD.sh {n : Nat} {d : D} (h : okD n d) (hn : n ≤ 64 := by decide) : SeqAt.shaped d = true := by
  have : d.depth ≤ 64 := Nat.le_trans h.2 hn
  simp [SeqAt.shaped, h.1, this]
theorem canLayAll_map {α : Type} {f : α → D} : ∀ {xs : List α}, (∀ x ∈ xs, (f x).canLay0 = true) → PyData.canLayAll0 (xs.map f) = true
  | [], _ => rfl
  | x :: xs, h => by
    rw [List.map_cons]
    unfold PyData.canLayAll0
    rw [h x List.mem_cons_self, canLayAll_map fun y hy => h y (List.mem_cons_of_mem _ hy)]
    rfl
theorem depthAll_map {α : Type} {f : α → D} {n : Nat} : ∀ {xs : List α}, (∀ x ∈ xs, (f x).depth ≤ n) → PyData.depthAll (xs.map f) ≤ n
  | [], _ => by simp [PyData.depthAll]
  | x :: xs, h => by
    rw [List.map_cons, PyData.depthAll]
    have h1 := h x List.mem_cons_self
    have h2 := depthAll_map (n := n) fun y hy => h y (List.mem_cons_of_mem x hy)
    omega
theorem okD.lst {α : Type} {f : α → D} {n : Nat} {xs : List α} (h : ∀ x ∈ xs, okD n (f x)) : okD (n + 1) (.list (xs.map f)) := by
  refine ⟨by unfold PyData.canLay0; exact canLayAll_map fun x hx => (h x hx).1, ?_⟩
  rw [PyData.depth]
  have := depthAll_map (n := n) fun x hx => (h x hx).2
  omega
theorem okD.tup {α : Type} {f : α → D} {n : Nat} {xs : List α} (h : ∀ x ∈ xs, okD n (f x)) : okD (n + 1) (.tuple (xs.map f)) := by
  refine ⟨by unfold PyData.canLay0; exact canLayAll_map fun x hx => (h x hx).1, ?_⟩
  rw [PyData.depth]
  have := depthAll_map (n := n) fun x hx => (h x hx).2
  omega
theorem okD.int (n : Nat) (i : Int) : okD n (.int i) := ⟨by simp [PyData.canLay0], by simp [PyData.depth]⟩
theorem okD.non (n : Nat) : okD n .none := ⟨by simp [PyData.canLay0], by simp [PyData.depth]⟩
theorem okD.txt (n : Nat) {cs : List Nat} (h : ∀ c ∈ cs, c < 1114112) : okD n (.str (tS cs)) := by
  refine ⟨?_, by simp [PyData.depth]⟩
  unfold PyData.canLay0 PyData.strOk tS
  simp only [Array.all_eq_true_iff_forall_mem, decide_eq_true_eq]
  intro c hc
  have := h c (by simpa using hc)
  omega
theorem sgO_lt (a : Option Bool) : sgO a < 1114112 := by
  cases a with
  | none => decide
  | some b => cases b <;> decide
theorem okD.eT (n : Nat) (t : Tm) : okD n (eT t) := okD.txt n fun c hc => by
  obtain ⟨a, _, rfl⟩ := List.mem_map.mp hc
  exact sgO_lt a
theorem okD.aO (n : Nat) (a : Option Bool) : okD n (aO a) := by
  cases a with
  | none => exact okD.non n
  | some b => exact okD.int n _
theorem okD.eF (n : Nat) (f : Fn) : okD (n + 1) (eF f) := okD.tup fun a _ => okD.aO n a
theorem plain_eT (t : Tm) : plainD (eT t) = true := by simp [eT, plainD]
theorem plain_aO (a : Option Bool) : plainD (aO a) = true := by
  cases a with
  | none => rfl
  | some b => rfl
theorem flat_aO (a : Option Bool) : flatD (aO a) = true := by
  cases a with
  | none => rfl
  | some b => rfl
theorem plain_eF (f : Fn) : plainD (eF f) = true := by
  unfold eF plainD
  exact plainAll_map fun a _ => plain_aO a
/-! ### loops -/
theorem forL_fold {α β : Type} {g : Gs} {body : Fs} {dm : List Bool} {S : Cs} (en : α → D) (r : β → Ev) (step : β → α → β) : ∀ (xs : List α) (b : β), (∀ x ∈ xs, ∀ b, ∃ ρ1 ρ2, g (en x) (r b) = some ρ1 ∧ body ρ1 S = .nx ρ2 S ∧ mask dm ρ2 = r (step b x)) →
    forL g body dm (xs.map en) (r b) S = .nx (r (xs.foldl step b)) S
  | [], b, _ => rfl
  | x :: xs, b, h => by
    obtain ⟨ρ1, ρ2, h1, h2, h3⟩ := h x List.mem_cons_self b
    rw [List.map_cons]
    unfold forL
    rw [h1]
    simp only [h2]
    rw [h3, forL_fold en r step xs _ fun y hy => h y (List.mem_cons_of_mem _ hy)]
    rfl
theorem forL_any {α : Type} {g : Gs} {body : Fs} {dm : List Bool} {S : Cs} {ρ : Ev} (en : α → D) (c : α → Bool) (w : W) : ∀ (xs : List α), (∀ x ∈ xs, ∃ ρ1, g (en x) ρ = some ρ1 ∧ (c x = true → body ρ1 S = .rt w S) ∧ (c x = false → ∃ ρ2, body ρ1 S = .nx ρ2 S ∧ mask dm ρ2 = ρ)) →
    forL g body dm (xs.map en) ρ S = if xs.any c = true then .rt w S else .nx ρ S
  | [], _ => rfl
  | x :: xs, h => by
    obtain ⟨ρ1, h1, h2, h3⟩ := h x List.mem_cons_self
    rw [List.map_cons]
    unfold forL
    rw [h1]
    cases hc : c x with
    | true => simp [h2 hc, hc]
    | false =>
      obtain ⟨ρ2, e1, e2⟩ := h3 hc
      simp only [e1]
      rw [e2, forL_any en c w xs fun y hy => h y (List.mem_cons_of_mem _ hy)]
      simp [hc]
/-- .. that only asks that the state stays good -/
theorem forL_inv {g : Gs} {body : Fs} {dm : List Bool} (J : Ev → Cs → Prop) : ∀ (xs : List D) (ρ : Ev) (S : Cs), J ρ S → (∀ x ∈ xs, ∀ ρ S, J ρ S → ∃ ρ1 ρ2 S2, g x ρ = some ρ1 ∧ body ρ1 S = .nx ρ2 S2 ∧ J (mask dm ρ2) S2) →
    ∃ ρ2 S2, forL g body dm xs ρ S = .nx ρ2 S2 ∧ J ρ2 S2
  | [], ρ, S, hJ, _ => ⟨ρ, S, rfl, hJ⟩
  | x :: xs, ρ, S, hJ, h => by
    obtain ⟨ρ1, ρ2, S2, h1, h2, h3⟩ := h x List.mem_cons_self ρ S hJ
    obtain ⟨ρ3, S3, h4, h5⟩ := forL_inv J xs _ S2 h3 fun y hy => h y (List.mem_cons_of_mem _ hy)
    refine ⟨ρ3, S3, ?_, h5⟩
    unfold forL
    rw [h1]
    simp only [h2]
    exact h4
/-! ### the terms of n switches -/
def Tms : Nat → List Tm
  | 0 => [[]]
  | n + 1 => (Tms n).flatMap fun t => [t ++ [none], t ++ [some false], t ++ [some true]]
theorem Tms_len : ∀ {n : Nat} {t : Tm}, t ∈ Tms n → t.length = n
  | 0, t, h => by
    have : t = [] := by simpa [Tms] using h
    subst this; rfl
  | n + 1, t, h => by
    unfold Tms at h
    obtain ⟨u, hu, ht⟩ := List.mem_flatMap.mp h
    have := Tms_len hu
    simp at ht
    rcases ht with rfl | rfl | rfl <;> simp [this]
def holdsM (t : Tm) (p : Nat) : Bool := (t.zip (bits t.length p)).all fun q => q.1 == none || q.1 == some q.2
def ptsM (t : Tm) : List Nat := (List.range (2 ^ t.length)).filter (holdsM t)
def liesM (a b : Tm) : Bool := (a.zip b).all fun q => q.2 == none || q.2 == q.1
def koM (f : Fn) (t : Tm) : Bool := (ptsM t).all fun p => f[p]? != some (some false)
/-! ### sorted terms -/
def leT (a b : Tm) : Bool := decide (a.map sgO ≤ b.map sgO)
def srt (l : List Tm) : List Tm := l.mergeSort leT
theorem sortOk_txt {α : Type} (f : α → Str) (l : List α) : sortOk (l.map fun x => PyData.str (f x)) = true := by
  simp only [sortOk, List.all_map, Bool.and_eq_true, Bool.or_eq_true, List.all_eq_true, Function.comp_apply, decide_eq_true_eq]
  exact ⟨⟨fun x _ => by simp [PyData.depth], fun x _ y _ => by simp [PySem.W.alike]⟩, .inr fun x _ => rfl⟩
theorem sortD_eT (l : List Tm) : sortD (l.map eT) = (srt l).map eT := by
  unfold sortD srt
  refine (List.map_mergeSort (f := eT) (r := leT) (s := PySem.W.dataLe false id) fun a _ b _ => ?_).symm
  have h := congrFun (congrFun (PySem.W.dataLe_str fun t : Tm => tS (t.map sgO)) a) b
  have h2 : PySem.W.dataLe false id (eT a) (eT b) = PySem.W.dataLe false (fun t : Tm => PyData.str (tS (t.map sgO))) a b := rfl
  rw [h2, h, tS_cps, tS_cps]
  rfl
theorem dSort_eT (l : List Tm) : dSort (.list (l.map eT)) = some (ownD ((srt l).map eT)) := by
  show (if sortOk (l.map eT) = true then some (ownD (sortD (l.map eT))) else none) = _
  rw [if_pos (show sortOk (l.map eT) = true from sortOk_txt (fun t : Tm => tS (t.map sgO)) l), sortD_eT]
theorem leT_antisymm {a b : Tm} (h1 : leT a b = true) (h2 : leT b a = true) : a = b := by
  have h1 := of_decide_eq_true h1
  have h2 := of_decide_eq_true h2
  exact map_sgO_inj.mp (List.le_antisymm h1 h2)
theorem leT_trans {a b c : Tm} (h1 : leT a b = true) (h2 : leT b c = true) : leT a c = true := decide_eq_true (List.le_trans (of_decide_eq_true h1) (of_decide_eq_true h2))
theorem leT_total (a b : Tm) : (leT a b || leT b a) = true := by
  unfold leT
  rcases List.le_total (a.map sgO) (b.map sgO) with h | h <;> simp [h]
theorem srt_pw (l : List Tm) : (srt l).Pairwise fun a b => leT a b = true := List.pairwise_mergeSort (le := leT) (fun _ _ _ h1 h2 => leT_trans h1 h2) leT_total l
theorem srt_perm (l : List Tm) : (srt l).Perm l := List.mergeSort_perm l leT
theorem srt_eq {l m : List Tm} (h : l.Perm m) (hm : m.Pairwise fun a b => leT a b = true) : srt l = m :=
  List.Perm.eq_of_pairwise (fun _ _ _ _ => leT_antisymm) (srt_pw l) hm ((srt_perm l).trans h)
theorem Tms_sorted : ∀ n, n ≤ 4 → (Tms n).Pairwise fun a b => leT a b = true := by
  intro n hn
  have : n = 0 ∨ n = 1 ∨ n = 2 ∨ n = 3 ∨ n = 4 := by omega
  rcases this with rfl | rfl | rfl | rfl | rfl <;> decide +kernel
def putM (ts : List Tm) : List Tm := ts.flatMap fun t => [t ++ [some false], t ++ [some true], t ++ [none]]
def rawM : Nat → List Tm
  | 0 => [[]]
  | n + 1 => putM (rawM n)
theorem raw_srt : ∀ n, n ≤ 4 → srt (rawM n) = Tms n := by
  intro n hn
  refine srt_eq ?_ (Tms_sorted n hn)
  clear hn
  induction n with
  | zero => exact .refl _
  | succ n ih =>
    unfold rawM Tms putM
    refine List.Perm.trans (List.Perm.flatMap_right _ ih) ?_
    induction Tms n with
    | nil => exact .refl _
    | cons t ts ih2 =>
      rw [List.flatMap_cons, List.flatMap_cons]
      refine List.Perm.append ?_ ih2
      refine List.Perm.trans ?_ (List.perm_append_comm (l₁ := [t ++ [some false], t ++ [some true]]) (l₂ := [t ++ [none]]))
      exact .refl _
theorem foldl_app {α β : Type} (f : α → List β) : ∀ (xs : List α) (acc : List β), xs.foldl (fun acc x => acc ++ f x) acc = acc ++ xs.flatMap f
  | [], acc => by simp
  | x :: xs, acc => by rw [List.foldl_cons, foldl_app f xs]; simp
/-! ### lists of one's own -/
theorem own0 : W.own [] = ownD [] := rfl
theorem own1 (x0 : D) : W.own [W.a (A.d x0)] = ownD [x0] := rfl
theorem own2 (x0 x1 : D) : W.own [W.a (A.d x0), W.a (A.d x1)] = ownD [x0, x1] := rfl
theorem own3 (x0 x1 x2 : D) : W.own [W.a (A.d x0), W.a (A.d x1), W.a (A.d x2)] = ownD [x0, x1, x2] := rfl
theorem own4 (x0 x1 x2 x3 : D) : W.own [W.a (A.d x0), W.a (A.d x1), W.a (A.d x2), W.a (A.d x3)] = ownD [x0, x1, x2, x3] := rfl
theorem own5 (x0 x1 x2 x3 x4 : D) : W.own [W.a (A.d x0), W.a (A.d x1), W.a (A.d x2), W.a (A.d x3), W.a (A.d x4)] = ownD [x0, x1, x2, x3, x4] := rfl
theorem own6 (x0 x1 x2 x3 x4 x5 : D) : W.own [W.a (A.d x0), W.a (A.d x1), W.a (A.d x2), W.a (A.d x3), W.a (A.d x4), W.a (A.d x5)] = ownD [x0, x1, x2, x3, x4, x5] := rfl
theorem own7 (x0 x1 x2 x3 x4 x5 x6 : D) : W.own [W.a (A.d x0), W.a (A.d x1), W.a (A.d x2), W.a (A.d x3), W.a (A.d x4), W.a (A.d x5), W.a (A.d x6)] = ownD [x0, x1, x2, x3, x4, x5, x6] := rfl
theorem own8 (x0 x1 x2 x3 x4 x5 x6 x7 : D) : W.own [W.a (A.d x0), W.a (A.d x1), W.a (A.d x2), W.a (A.d x3), W.a (A.d x4), W.a (A.d x5), W.a (A.d x6), W.a (A.d x7)] = ownD [x0, x1, x2, x3, x4, x5, x6, x7] := rfl
theorem own9 (x0 x1 x2 x3 x4 x5 x6 x7 x8 : D) : W.own [W.a (A.d x0), W.a (A.d x1), W.a (A.d x2), W.a (A.d x3), W.a (A.d x4), W.a (A.d x5), W.a (A.d x6), W.a (A.d x7), W.a (A.d x8)] = ownD [x0, x1, x2, x3, x4, x5, x6, x7, x8] := rfl
theorem own10 (x0 x1 x2 x3 x4 x5 x6 x7 x8 x9 : D) : W.own [W.a (A.d x0), W.a (A.d x1), W.a (A.d x2), W.a (A.d x3), W.a (A.d x4), W.a (A.d x5), W.a (A.d x6), W.a (A.d x7), W.a (A.d x8), W.a (A.d x9)] = ownD [x0, x1, x2, x3, x4, x5, x6, x7, x8, x9] := rfl
theorem own11 (x0 x1 x2 x3 x4 x5 x6 x7 x8 x9 x10 : D) : W.own [W.a (A.d x0), W.a (A.d x1), W.a (A.d x2), W.a (A.d x3), W.a (A.d x4), W.a (A.d x5), W.a (A.d x6), W.a (A.d x7), W.a (A.d x8), W.a (A.d x9), W.a (A.d x10)] = ownD [x0, x1, x2, x3, x4, x5, x6, x7, x8, x9, x10] := rfl
theorem own12 (x0 x1 x2 x3 x4 x5 x6 x7 x8 x9 x10 x11 : D) : W.own [W.a (A.d x0), W.a (A.d x1), W.a (A.d x2), W.a (A.d x3), W.a (A.d x4), W.a (A.d x5), W.a (A.d x6), W.a (A.d x7), W.a (A.d x8), W.a (A.d x9), W.a (A.d x10), W.a (A.d x11)] = ownD [x0, x1, x2, x3, x4, x5, x6, x7, x8, x9, x10, x11] := rfl
theorem x_ext {i : Nat} {is : List Nat} {f : Fe} {ρ : Ev} {S S1 : Cs} {a b : List D} (h : (frzE is ρ)[i]? = some (some (ownD a))) (hf : f (ev (frzE is ρ)) S = .ok (ownD b) S1) (hl : a.length + b.length < 1000000) : sExt i is f ρ S = .nx ((frzE is ρ).set i (some (ownD (a ++ b)))) S1 := by
  unfold sExt
  rw [h, hf]
  simp only [ownD, List.length_map, hl, if_true, List.map_append]
theorem x_app {i : Nat} {is : List Nat} {f : Fe} {ρ : Ev} {S S1 : Cs} {a : List D} {d : D} (h : (frzE is ρ)[i]? = some (some (ownD a))) (hf : f (ev (frzE is ρ)) S = .ok (.a (.d d)) S1) (hl : a.length < 1000000) : sApp i is f ρ S = .nx ((frzE is ρ).set i (some (ownD (a ++ [d])))) S1 := by
  unfold sApp
  rw [h, hf]
  simp only [ownD, List.length_map, hl, if_true, List.map_append, List.map_cons, List.map_nil]
/-- a loop whose turns change one thing, under a bound that grows -/
theorem forL_foldI {α β : Type} {g : Gs} {body : Fs} {dm : List Bool} {S : Cs} {ρ0 : Ev} (en : α → D) (r : β → Ev) (step : β → α → β) (J : Nat → β → Prop) (N : Nat) : ∀ (xs : List α) (k : Nat) (b : β), k + xs.length ≤ N → J k b → ρ0 = r b → (∀ x ∈ xs, ∀ k b, k < N → J k b → J (k + 1) (step b x) ∧ ∃ ρ1 ρ2, g (en x) (r b) = some ρ1 ∧ body ρ1 S = .nx ρ2 S ∧ mask dm ρ2 = r (step b x)) →
    forL g body dm (xs.map en) ρ0 S = .nx (r (xs.foldl step b)) S
  | [], k, b, _, _, e, _ => by rw [e]; rfl
  | x :: xs, k, b, hk, hJ, e, h => by
    obtain ⟨h0, ρ1, ρ2, h1, h2, h3⟩ := h x List.mem_cons_self k b (by simp at hk; omega) hJ
    rw [List.map_cons, e]
    unfold forL
    rw [h1]
    simp only [h2]
    exact forL_foldI en r step J N xs (k + 1) _ (by simp at hk; omega) h0 h3 fun y hy => h y (List.mem_cons_of_mem _ hy)
theorem frz1_s (i : Nat) (o : Option W) (ρ : Ev) : frz1 (i + 1) (o :: ρ) = o :: frz1 i ρ := by
  unfold frz1
  rw [List.getElem?_cons_succ]
  cases ρ[i]? with
  | none => rfl
  | some q => cases q with
    | none => rfl
    | some w => cases w with
      | a x => rfl
      | own ws =>
        simp only
        cases (W.own ws).toA <;> rfl
theorem frz1_0o (ds : List D) (ρ : Ev) : frz1 0 (some (ownD ds) :: ρ) = some (.a (.d (.list ds))) :: ρ := by
  rw [frz1_own (ds := ds) rfl]; rfl
theorem frz1_0a (x : A) (ρ : Ev) : frz1 0 (some (.a x) :: ρ) = some (.a x) :: ρ := frz1_a rfl
theorem frz1_0n (ρ : Ev) : frz1 0 (none :: ρ) = none :: ρ := frz1_no rfl
/-! ### isinstance -/
theorem isi_int_none : dIsi "int" .none = some (bD false) := rfl
theorem isi_int_bool (b : Bool) : dIsi "int" (.bool b) = some (bD true) := rfl
theorem isi_int_int (i : Int) : dIsi "int" (.int i) = some (bD true) := rfl
theorem isi_int_str (z : Str) : dIsi "int" (.str z) = some (bD false) := rfl
theorem isi_int_list (l : List D) : dIsi "int" (.list l) = some (bD false) := rfl
theorem isi_int_tuple (l : List D) : dIsi "int" (.tuple l) = some (bD false) := rfl
theorem isi_bool_none : dIsi "bool" .none = some (bD false) := rfl
theorem isi_bool_bool (b : Bool) : dIsi "bool" (.bool b) = some (bD true) := rfl
theorem isi_bool_int (i : Int) : dIsi "bool" (.int i) = some (bD false) := rfl
theorem isi_bool_str (z : Str) : dIsi "bool" (.str z) = some (bD false) := rfl
theorem isi_bool_list (l : List D) : dIsi "bool" (.list l) = some (bD false) := rfl
theorem isi_bool_tuple (l : List D) : dIsi "bool" (.tuple l) = some (bD false) := rfl
theorem isi_str_none : dIsi "str" .none = some (bD false) := rfl
theorem isi_str_bool (b : Bool) : dIsi "str" (.bool b) = some (bD false) := rfl
theorem isi_str_int (i : Int) : dIsi "str" (.int i) = some (bD false) := rfl
theorem isi_str_str (z : Str) : dIsi "str" (.str z) = some (bD true) := rfl
theorem isi_str_list (l : List D) : dIsi "str" (.list l) = some (bD false) := rfl
theorem isi_str_tuple (l : List D) : dIsi "str" (.tuple l) = some (bD false) := rfl
theorem isi_list_none : dIsi "list" .none = some (bD false) := rfl
theorem isi_list_bool (b : Bool) : dIsi "list" (.bool b) = some (bD false) := rfl
theorem isi_list_int (i : Int) : dIsi "list" (.int i) = some (bD false) := rfl
theorem isi_list_str (z : Str) : dIsi "list" (.str z) = some (bD false) := rfl
theorem isi_list_list (l : List D) : dIsi "list" (.list l) = some (bD true) := rfl
theorem isi_list_tuple (l : List D) : dIsi "list" (.tuple l) = some (bD false) := rfl
theorem isi_tuple_none : dIsi "tuple" .none = some (bD false) := rfl
theorem isi_tuple_bool (b : Bool) : dIsi "tuple" (.bool b) = some (bD false) := rfl
theorem isi_tuple_int (i : Int) : dIsi "tuple" (.int i) = some (bD false) := rfl
theorem isi_tuple_str (z : Str) : dIsi "tuple" (.str z) = some (bD false) := rfl
theorem isi_tuple_list (l : List D) : dIsi "tuple" (.list l) = some (bD false) := rfl
theorem isi_tuple_tuple (l : List D) : dIsi "tuple" (.tuple l) = some (bD true) := rfl
theorem isi2_tl_none : dIsi2 "tuple" "list" .none = some (bD false) := rfl
theorem isi2_tl_bool (b : Bool) : dIsi2 "tuple" "list" (.bool b) = some (bD false) := rfl
theorem isi2_tl_int (i : Int) : dIsi2 "tuple" "list" (.int i) = some (bD false) := rfl
theorem isi2_tl_str (z : Str) : dIsi2 "tuple" "list" (.str z) = some (bD false) := rfl
theorem isi2_tl_list (l : List D) : dIsi2 "tuple" "list" (.list l) = some (bD true) := rfl
theorem isi2_tl_tuple (l : List D) : dIsi2 "tuple" "list" (.tuple l) = some (bD true) := rfl
theorem br_tt (S : Cs) (x y : Cs → R) : (R.ok (bD true) S).br x y = x S := rfl
theorem br_ff (S : Cs) (x y : Cs → R) : (R.ok (bD false) S).br x y = y S := rfl
theorem and_b (a b : Bool) (S : Cs) : (if a = true then (if b = true then R.ok (bD true) S else R.ok (bD false) S) else R.ok (bD false) S) = R.ok (bD (a && b)) S := by cases a <;> cases b <;> rfl
theorem or_b (a b : Bool) (S : Cs) : (if a = true then R.ok (bD true) S else (if b = true then R.ok (bD true) S else R.ok (bD false) S)) = R.ok (bD (a || b)) S := by cases a <;> cases b <;> rfl
theorem not_b (a : Bool) (S : Cs) : (if a = true then R.ok (bD false) S else R.ok (bD true) S) = R.ok (bD (!a)) S := by cases a <;> rfl
theorem id_b (a : Bool) (S : Cs) : (if a = true then R.ok (bD true) S else R.ok (bD false) S) = R.ok (bD a) S := by cases a <;> rfl
theorem x_and {f g : Fe} {ρ : En} {S : Cs} {a b : Bool} (h1 : f ρ S = .ok (bD a) S) (h2 : a = true → g ρ S = .ok (bD b) S) : fAnd f g ρ S = .ok (bD (a && b)) S := by
  unfold fAnd
  rw [h1]
  cases a with
  | false => rfl
  | true => rw [br_tt, h2 rfl, br_bool]; cases b <;> rfl
theorem x_or {f g : Fe} {ρ : En} {S : Cs} {a b : Bool} (h1 : f ρ S = .ok (bD a) S) (h2 : a = false → g ρ S = .ok (bD b) S) : fOr f g ρ S = .ok (bD (a || b)) S := by
  unfold fOr
  rw [h1]
  cases a with
  | true => rfl
  | false => rw [br_ff, h2 rfl, br_bool]; cases b <;> rfl
theorem x_not {f : Fe} {ρ : En} {S : Cs} {a : Bool} (h1 : f ρ S = .ok (bD a) S) : fNot f ρ S = .ok (bD (!a)) S := by
  unfold fNot
  rw [h1]
  cases a <;> rfl
theorem x_if {is : List Nat} {fc : Fe} {g1 g2 : Fs} {ρ : Ev} {S S1 : Cs} {b : Bool} (h : fc (ev (frzE is ρ)) S = .ok (bD b) S1) (hf : flatCs S1 = true) : sIf is fc g1 g2 ρ S = if b = true then g1 ρ S1 else g2 ρ S1 := by
  unfold sIf
  rw [h]
  simp only [hf, if_true]
/-! ### places -/
theorem atI_n {α : Type} {l : List α} {i : Nat} {a : α} (h : l[i]? = some a) : L2.atI l (i : Int) = some a := by
  obtain ⟨h1, _⟩ := List.getElem?_eq_some_iff.mp h
  unfold L2.atI ixN
  rw [if_pos (by omega), if_pos (by omega)]
  simpa using h
theorem o_ix_tup {α : Type} (en : α → D) {l : List α} {i : Nat} {a : α} (h : l[i]? = some a) (S : Cs) : dIx (.d (.tuple (l.map en))) (.d (.int i)) S = .ok (.a (.d (en a))) S := by
  have h2 : (l.map en)[i]? = some (en a) := by rw [List.getElem?_map, h]; rfl
  unfold dIx
  simp only [atI_n h2]
theorem o_ix_lst {α : Type} (en : α → D) {l : List α} {i : Nat} {a : α} (h : l[i]? = some a) (S : Cs) : dIx (.d (.list (l.map en))) (.d (.int i)) S = .ok (.a (.d (en a))) S := by
  have h2 : (l.map en)[i]? = some (en a) := by rw [List.getElem?_map, h]; rfl
  unfold dIx
  simp only [atI_n h2]
theorem o_ix_txt {cs : List Nat} {i : Nat} {c : Nat} (h : cs[i]? = some c) (hl : cs.length ≤ 1000) (S : Cs) : dIx (.d (.str (tS cs))) (.d (.int i)) S = .ok (sD (tS [c])) S := by
  unfold dIx
  simp only [tS_len, tS_cps, atI_n h]
  rw [if_pos (by rw [sizeLine_eq]; omega)]
  rfl
theorem dAll_tt {α : Type} (l : List α) : dAll (.list (l.map fun _ => PyData.bool true)) = some (bD true) := by
  simp only [dAll, boolsOf_map fun _ : α => true]
  simp
theorem dAll_m {α : Type} (f : α → Bool) (l : List α) : dAll (.list (l.map fun x => PyData.bool (f x))) = some (bD (l.all f)) := by
  simp only [dAll, boolsOf_map]
  simp [List.all_map]
theorem dAny_m {α : Type} (f : α → Bool) (l : List α) : dAny (.list (l.map fun x => PyData.bool (f x))) = some (bD (l.any f)) := by
  simp only [dAny, boolsOf_map]
  simp [List.any_map]
theorem gLen_eF (f : Fn) (S : Cs) : gLen [.d (eF f)] S = .ok (iD f.length) S := by
  unfold eF gLen
  simp only [List.length_map]
theorem gLen_lst {α : Type} (en : α → D) (l : List α) (S : Cs) : gLen [.d (.list (l.map en))] S = .ok (iD l.length) S := by
  unfold gLen
  simp only [List.length_map]
theorem gLen_tup {α : Type} (en : α → D) (l : List α) (S : Cs) : gLen [.d (.tuple (l.map en))] S = .ok (iD l.length) S := by
  unfold gLen
  simp only [List.length_map]
def eG (fs : List Fn) : D := .tuple (fs.map eF)
theorem gLen_eG (fs : List Fn) (S : Cs) : gLen [.d (eG fs)] S = .ok (iD fs.length) S := gLen_tup eF fs S
theorem gLen_eT (t : Tm) (h : t.length ≤ 1000) (S : Cs) : gLen [.d (eT t)] S = .ok (iD t.length) S := by
  unfold eT
  rw [gLen_txt _ (by rw [List.length_map]; exact h), List.length_map]
theorem ix_eF {f : Fn} {i : Nat} {a : Option Bool} (h : f[i]? = some a) (S : Cs) : dIx (.d (eF f)) (.d (.int i)) S = .ok (.a (.d (aO a))) S := o_ix_tup aO h S
theorem ix_eG {fs : List Fn} {i : Nat} {f : Fn} (h : fs[i]? = some f) (S : Cs) : dIx (.d (eG fs)) (.d (.int i)) S = .ok (.a (.d (eF f))) S := o_ix_tup eF h S
theorem ix_eT {t : Tm} {i : Nat} {a : Option Bool} (h : t[i]? = some a) (hl : t.length ≤ 1000) (S : Cs) : dIx (.d (eT t)) (.d (.int i)) S = .ok (sD (tS [sgO a])) S := by
  unfold eT
  exact o_ix_txt (by rw [List.getElem?_map, h]; rfl) (by rw [List.length_map]; exact hl) S
theorem seqD_eF (f : Fn) : seqD (.d (eF f)) = some (f.map aO) := rfl
theorem seqD_eG (fs : List Fn) : seqD (.d (eG fs)) = some (fs.map eF) := rfl
theorem isi_eF (T : String) (f : Fn) : dIsi T (eF f) = dIsi T (.tuple []) := rfl
theorem isi_eG (T : String) (f : List Fn) : dIsi T (eG f) = dIsi T (.tuple []) := rfl
theorem isi_eT (T : String) (t : Tm) : dIsi T (eT t) = dIsi T (.str (tS [])) := rfl
theorem seqD_eT (t : Tm) (h : t.length ≤ 1000) : seqD (.d (eT t)) = some (t.map fun a => .str (tS [sgO a])) := by
  unfold eT
  rw [seqD_txt _ (by rw [List.length_map]; exact h), List.map_map]
  rfl
theorem all_tt {α : Type} (l : List α) : (l.all fun _ => true) = true := by simp
theorem zip_all {α β : Type} (c : α × β → Bool) : ∀ (xs : List α) (ys : List β), xs.length = ys.length → ((xs.zip ys).all c = true ↔ ∀ (k : Nat) (a : α) (b : β), xs[k]? = some a → ys[k]? = some b → c (a, b) = true)
  | [], [], _ => by simp
  | x :: xs, y :: ys, h => by
    rw [List.zip_cons_cons, List.all_cons, Bool.and_eq_true, zip_all c xs ys (by simpa using h)]
    constructor
    · rintro ⟨h1, h2⟩ k a b ha hb
      cases k with
      | zero =>
        simp at ha hb
        subst ha hb
        exact h1
      | succ k => exact h2 k a b (by simpa using ha) (by simpa using hb)
    · intro g
      exact ⟨g 0 x y rfl rfl, fun k a b ha hb => g (k + 1) a b (by simpa using ha) (by simpa using hb)⟩
  | [], _ :: _, h => by simp at h
  | _ :: _, [], h => by simp at h
theorem bits_at {n p k : Nat} (h : k < n) : (bits n p)[k]? = some (p.testBit (n - 1 - k)) := by
  unfold bits
  rw [List.getElem?_map, List.getElem?_range h]
  rfl
theorem holds_iff (t : Tm) (p : Nat) : holdsM t p = true ↔ ∀ (k : Nat) (a : Option Bool), t[k]? = some a → a = none ∨ a = some (p.testBit (t.length - 1 - k)) := by
  unfold holdsM
  rw [zip_all _ _ _ (by rw [bits_len])]
  constructor
  · intro h k a ha
    have hk := (List.getElem?_eq_some_iff.mp ha).1
    have := h k a _ ha (bits_at hk)
    simpa using this
  · intro h k a b ha hb
    have hk := (List.getElem?_eq_some_iff.mp ha).1
    rw [bits_at hk] at hb
    cases hb
    have := h k a ha
    simpa using this
theorem lies_iff {a b : Tm} (hl : a.length = b.length) : liesM a b = true ↔ ∀ (k : Nat) (x y : Option Bool), a[k]? = some x → b[k]? = some y → y = none ∨ y = x := by
  unfold liesM
  rw [zip_all _ _ _ hl]
  constructor
  · intro h k x y hx hy
    simpa using h k x y hx hy
  · intro h k x y hx hy
    have := h k x y hx hy
    simpa using this
theorem bool_ext {a b : Bool} (h : a = true ↔ b = true) : a = b := by
  cases a <;> cases b <;> simp at h ⊢
theorem zi_filter {α : Type} (c : α → Bool) : ∀ (l : List α) (n : Nat), ((l.zipIdx n).filter fun q => c q.1).map (·.2) = (List.range' n l.length).filter fun k => (l[k - n]?.map c).getD false
  | [], n => rfl
  | x :: l, n => by
    rw [List.zipIdx_cons, List.length_cons, List.range'_succ]
    have ih := zi_filter c l (n + 1)
    have e : (List.range' (n + 1) l.length).filter (fun k => ((x :: l)[k - n]?.map c).getD false) = (List.range' (n + 1) l.length).filter (fun k => (l[k - (n + 1)]?.map c).getD false) := by
      refine List.filter_congr fun k hk => ?_
      have hk := (List.mem_range'_1.mp hk).1
      obtain ⟨m, rfl⟩ : ∃ m, k = n + 1 + m := ⟨k - (n + 1), by omega⟩
      rw [show n + 1 + m - n = m + 1 by omega, show n + 1 + m - (n + 1) = m by omega, List.getElem?_cons_succ]
    rw [List.filter_cons, List.filter_cons]
    simp only [Nat.sub_self, List.getElem?_cons_zero, Option.map_some, Option.getD_some]
    cases c x with
    | true =>
      simp only [if_true, List.map_cons, e, ih]
    | false =>
      simp only [Bool.false_eq_true, if_false, e, ih]
theorem zi_range {α : Type} (c : α → Bool) (l : List α) : ((List.range l.length).filter fun k => (l[k]?.map c).getD false) = (l.zipIdx.filter fun q => c q.1).map (·.2) := by
  rw [zi_filter c l 0, List.range_eq_range']
  rfl
/-- a loop with a state that goes along; the turns are counted -/
theorem forL_cnt {g : Gs} {body : Fs} {dm : List Bool} (J : Nat → Ev → Cs → Prop) (N : Nat) : ∀ (xs : List D) (k : Nat) (ρ : Ev) (S : Cs), k + xs.length ≤ N → J k ρ S → (∀ x ∈ xs, ∀ k ρ S, k < N → J k ρ S → ∃ ρ1 ρ2 S2, g x ρ = some ρ1 ∧ body ρ1 S = .nx ρ2 S2 ∧ J (k + 1) (mask dm ρ2) S2) →
    ∃ ρ2 S2, forL g body dm xs ρ S = .nx ρ2 S2 ∧ J (k + xs.length) ρ2 S2
  | [], k, ρ, S, _, hJ, _ => ⟨ρ, S, rfl, hJ⟩
  | x :: xs, k, ρ, S, hN, hJ, h => by
    obtain ⟨ρ1, ρ2, S2, h1, h2, h3⟩ := h x List.mem_cons_self k ρ S (by simp at hN; omega) hJ
    obtain ⟨ρ3, S3, h4, h5⟩ := forL_cnt J N xs (k + 1) _ S2 (by simp at hN; omega) h3 fun y hy => h y (List.mem_cons_of_mem _ hy)
    refine ⟨ρ3, S3, ?_, by rw [List.length_cons, show k + (xs.length + 1) = k + 1 + xs.length by omega]; exact h5⟩
    unfold forL
    rw [h1]
    simp only [h2]
    exact h4
theorem aO_int (b : Bool) : PyData.int (if b = true then 1 else 0) = aO (some b) := rfl
theorem dInt_b (b : Bool) : dInt (.bool b) = some (.a (.d (aO (some b)))) := rfl
theorem frz1_0d (d : D) (ρ : Ev) : frz1 0 (some (W.a (A.d d)) :: ρ) = some (.a (.d d)) :: ρ := frz1_a rfl
theorem x_copy {k : Nat} {i j : Nat} {ρ : Ev} {S : Cs} {l : List D} {d : D} (h : ρ[k]? = some (some (ownD l))) (hj : l[j]? = some d) (hi : i < l.length) : sCopy k i j ρ S = .nx (ρ.set k (some (ownD (l.set i d)))) S := by
  have hj2 := (List.getElem?_eq_some_iff.mp hj).1
  have a1 : ixN (l.map fun d => W.a (.d d)).length (j : Int) = some j := by
    unfold ixN; rw [List.length_map, if_pos (by omega), if_pos (by omega)]; rfl
  have a2 : ixN (l.map fun d => W.a (.d d)).length (i : Int) = some i := by
    unfold ixN; rw [List.length_map, if_pos (by omega), if_pos (by omega)]; rfl
  have a3 : (l.map fun d => W.a (.d d))[j]? = some (.a (.d d)) := by rw [List.getElem?_map, hj]; rfl
  have a4 : (l.map fun d => W.a (A.d d)).set i (.a (.d d)) = (l.set i d).map fun d => W.a (.d d) := by rw [List.map_set]
  unfold sCopy
  rw [h]
  simp only [ownD, a1, a2, a3, a4]
theorem foldl_if {α β : Type} (c : α → Bool) (f : α → β) : ∀ (xs : List α) (acc : List β), xs.foldl (fun acc x => if c x = true then acc ++ [f x] else acc) acc = acc ++ (xs.filter c).map f
  | [], acc => by simp
  | x :: xs, acc => by
    rw [List.foldl_cons, foldl_if c f xs, List.filter_cons]
    cases c x <;> simp
theorem flatWs_map : ∀ ds : List D, flatWs (ds.map fun d => W.a (.d d)) = some ds
  | [] => rfl
  | d :: ds => by simp [flatWs, flatWs_map ds]
theorem x_letC {sem : Sem_} {f : Fe} {ρ : En} {S S1 S2 : Cs} {ds : List D} {d : D} (hf : f ρ S = .ok (ownD ds) S1) (hs : sem [.c S1.length] (S1 ++ [ds]) = .ok (.a (.d d)) S2) : fLetC sem f ρ S = .ok (.a (.d d)) S2.dropLast := by
  unfold fLetC
  rw [hf]
  simp only [ownD, flatWs_map, hs, W.keepC, if_true]
theorem St.drop {S : Cs} (h : ∃ (z : Int) (b : Bool), S = [[PyData.int z, PyData.bool b]]) : S.dropLast = [] := by
  obtain ⟨z, b, rfl⟩ := h
  rfl
theorem eq_nilT (l : List Tm) (S : Cs) : onD dEq (.d (.list (l.map eT))) (.d (.list [])) S = .ok (bD l.isEmpty) S := by
  rw [o_eq _ (eqOk_sh (okD.lst (n := 0) fun t _ => okD.eT 0 t).sh (show SeqAt.shaped (.list []) = true from by decide))]
  cases l <;> rfl
end PD

/-! PDV: the rest of `_law_refused`: the marks. -/
namespace PD
open PySem PySem.Spec PyProof.Rows L2
def gi (K : PySem.W.Frag) (Cs : List Addr) (C : Addr) : Fe := fUn (gIsX K Cs (.ref C)) (fVar 1)
/-- what refOk says, class by class -/
theorem refOk_at {K : PySem.W.Frag} {Cs : List Addr} {T : Addr} (h : refOk K Cs T = true) : (∀ C ∈ Cs, ExcC K C ∧ PySem.W.exmOne K (.ref C) (.ref T) = some true ∧ PySem.W.kitOne K (.ref C) (.type "ValueError") = some true ∧ PySem.W.kitOne K (.type "NoneType") (.ref C) = some false ∧ ∀ D ∈ Cs, PySem.W.kitOne K (.ref C) (.ref D) = some (decide (C = D))) ∧
    PySem.W.kitOne K (.type "NoneType") (.type "ValueError") = some false := by
  unfold refOk at h
  simp only [Bool.and_eq_true, List.all_eq_true, decide_eq_true_eq] at h
  obtain ⟨h1, h2⟩ := h
  refine ⟨fun C hC => ?_, h2⟩
  obtain ⟨⟨⟨⟨a1, a2⟩, a3⟩, a4⟩, a5⟩ := h1 C hC
  exact ⟨excC_of a1, a2, a3, a4, a5⟩
theorem gi_err {K : PySem.W.Frag} {Cs : List Addr} {T C D : Addr} {ρ : En} {S : PD.Cs} (h : refOk K Cs T = true) (hC : C ∈ Cs) (hD : D ∈ Cs) (hρ : ρ[1]? = some (some (.e C))) : gi K Cs D ρ S = .ok (bD (decide (C = D))) S := by
  have q := ((refOk_at h).1 C hC).2.2.2.2 D hD
  unfold gi fUn fVar
  rw [hρ]
  simp only [bnd_a, gIsX, hC, if_true, q]
theorem gi_non {K : PySem.W.Frag} {Cs : List Addr} {T D : Addr} {ρ : En} {S : PD.Cs} (h : refOk K Cs T = true) (hD : D ∈ Cs) (hρ : ρ[1]? = some (some (.d .none))) : gi K Cs D ρ S = .ok (bD false) S := by
  have q := ((refOk_at h).1 D hD).2.2.2.1
  unfold gi fUn fVar
  rw [hρ]
  simp only [bnd_a, gIsX, q]
/-- N = [call, error, e, marks, k] -/
def grR (K : PySem.W.Frag) (c0 c1 c2 c3 c4 c5 c6 c7 c8 : Addr) : Fs :=
  (sSeq (sSet 3 [] (fLst [gi K [c0, c1, c2, c3, c4, c5, c6, c7, c8] c0, gi K [c0, c1, c2, c3, c4, c5, c6, c7, c8] c1, gi K [c0, c1, c2, c3, c4, c5, c6, c7, c8] c2]))
  (sSeq (sSet 3 [3] (fBin (onD dAdd) (fVar 3) (fLst [gi K [c0, c1, c2, c3, c4, c5, c6, c7, c8] c3, gi K [c0, c1, c2, c3, c4, c5, c6, c7, c8] c4, gi K [c0, c1, c2, c3, c4, c5, c6, c7, c8] c5])))
  (sSeq (sSet 3 [3] (fBin (onD dAdd) (fVar 3) (fLst [gi K [c0, c1, c2, c3, c4, c5, c6, c7, c8] c6, gi K [c0, c1, c2, c3, c4, c5, c6, c7, c8] c7, gi K [c0, c1, c2, c3, c4, c5, c6, c7, c8] c8])))
  (sSeq (sIf [] (fNot (fUn (gIsX K [c0, c1, c2, c3, c4, c5, c6, c7, c8] (.type "ValueError")) (fVar 1)))
  (sRet [] (fC .none))
  sSkip)
  (sRet [3] (fComp [4] (iRng1 (fC (.int 9))) (gNm 4) (fBin dIx (fVar 3) (fVar 4)) (fVar 4)))))))
theorem add_l (a b : List D) (h : a.length + b.length ≤ 1000) (S : PD.Cs) : onD dAdd (.d (.list a)) (.d (.list b)) S = .ok (ownD (a ++ b)) S := by
  show (match dAdd (.list a) (.list b) with | some w => R.ok w S | none => .stuck) = _
  unfold dAdd
  simp only
  rw [if_pos (by rw [sizeLine_eq]; omega)]
theorem grR_non {K : PySem.W.Frag} {c0 c1 c2 c3 c4 c5 c6 c7 c8 T : Addr} (h : refOk K [c0, c1, c2, c3, c4, c5, c6, c7, c8] T = true) (S : PD.Cs) (fl : flatCs S = true) : grR K c0 c1 c2 c3 c4 c5 c6 c7 c8 (PD.one 5 1 (.a (.d .none))) S = .rt (.a (.d .none)) S := by
  have e0 : PD.one 5 1 (.a (.d .none)) = [none, some (.a (.d .none)), none, none, none] := rfl
  have g : ∀ D ∈ [c0, c1, c2, c3, c4, c5, c6, c7, c8], ∀ (ρ : En), ρ[1]? = some (some (.d .none)) → gi K [c0, c1, c2, c3, c4, c5, c6, c7, c8] D ρ S = .ok (bD false) S := fun D hD ρ hρ => gi_non h hD hρ
  have gv := (refOk_at h).2
  rw [e0]
  have g3 : ∀ (x : Option A) (D : Addr), D ∈ [c0, c1, c2, c3, c4, c5, c6, c7, c8] → gi K [c0, c1, c2, c3, c4, c5, c6, c7, c8] D [none, some (.d .none), none, x, none] S = .ok (bD false) S := fun x D hD => g D hD _ rfl
  simp only [grR, bodySem, startE, sRet, sRetV, sRetN, sSeq, sSet, sSkip, sExp, sIf, fSm, fC, fComp, iRng1, iSeq, iZip, iEnum, fVar, fCall, fBin, fUn, onD1, on1, evs_nil, evs_cons, frzE, ev, ev1_own, ev1_ownD, ev1_a, ev1_no, List.map_cons, List.map_nil, List.cons_append, List.nil_append, List.replicate, List.length_cons, List.length_nil, Nat.reduceAdd, Nat.reduceSub, bnd_a, bi_a, bi_own, bnd_own, List.getElem?_cons_zero, List.getElem?_cons_succ, rng1, SR.of, if_true, wipeE, List.set_cons_zero, List.set_cons_succ, rngD_map, i2n, and_self, setD, Option.map_some, gNm, gTp, o_add, o_sub, o_shr, o_band, o_lt, o_le, o_gt, o_ge, fTup, allD, zip2, zipD_map, Function.comp_def, List.map_map, own0, own1, own2, own3, own4, own5, own6, own7, own8, own9, own10, own11, own12, fLst, evsW, sFor, dom, seqD_lst, seqD_tup, Option.isSome, sNm, sTp, setW, frz1_s, frz1_0o, frz1_0a, frz1_0n, isi_int_none, isi_int_bool, isi_int_int, isi_int_str, isi_int_list, isi_int_tuple, isi_bool_none, isi_bool_bool, isi_bool_int, isi_bool_str, isi_bool_list, isi_bool_tuple, isi_str_none, isi_str_bool, isi_str_int, isi_str_str, isi_str_list, isi_str_tuple, isi_list_none, isi_list_bool, isi_list_int, isi_list_str, isi_list_list, isi_list_tuple, isi_tuple_none, isi_tuple_bool, isi_tuple_int, isi_tuple_str, isi_tuple_list, isi_tuple_tuple, isi2_tl_none, isi2_tl_bool, isi2_tl_int, isi2_tl_str, isi2_tl_list, isi2_tl_tuple, br_tt, br_ff, Bool.false_eq_true, if_false, seqD_eF, seqD_eG, isi_eF, isi_eG, isi_eT, gLen_eF, gLen_eG, gLen_lst, gLen_tup, dAll_m, dAny_m, all_tt, dInt_b, g3, List.mem_cons, true_or, or_true, fNot, gIsX, gv, fl, add_l, Nat.reduceLeDiff]
theorem grR_err {K : PySem.W.Frag} {c0 c1 c2 c3 c4 c5 c6 c7 c8 T C : Addr} (h : refOk K [c0, c1, c2, c3, c4, c5, c6, c7, c8] T = true) (nd : [c0, c1, c2, c3, c4, c5, c6, c7, c8].Nodup) (S : PD.Cs) (fl : flatCs S = true) (k : Nat) (hk : [c0, c1, c2, c3, c4, c5, c6, c7, c8][k]? = some C) : grR K c0 c1 c2 c3 c4 c5 c6 c7 c8 (PD.one 5 1 (.a (.e C))) S = .rt (ownD [.int (k : Nat)]) S := by
  have e0 : PD.one 5 1 (.a (.e C)) = [none, some (.a (.e C)), none, none, none] := rfl
  have hC : C ∈ [c0, c1, c2, c3, c4, c5, c6, c7, c8] := List.mem_of_getElem? hk
  have gv := ((refOk_at h).1 C hC).2.2.1
  rw [e0]
  have g3 : ∀ (x : Option A) (D : Addr), D ∈ [c0, c1, c2, c3, c4, c5, c6, c7, c8] → gi K [c0, c1, c2, c3, c4, c5, c6, c7, c8] D [none, some (.e C), none, x, none] S = .ok (bD (decide (C = D))) S := fun x D hD => gi_err h hC hD rfl
  have nd0 := nd
  have g4 : ∀ (x : Option A), fUn (gIsX K [c0, c1, c2, c3, c4, c5, c6, c7, c8] (.type "ValueError")) (fVar 1) [none, some (.e C), none, x, none] S = .ok (bD true) S := by
    intro x
    unfold fUn fVar
    simp only [List.getElem?_cons_succ, List.getElem?_cons_zero, bnd_a, gIsX, hC, if_true, gv]
  simp only [List.nodup_cons, List.mem_cons, not_or, List.not_mem_nil] at nd
  have hk9 : k < 9 := (List.getElem?_eq_some_iff.mp hk).1
  have b9 : (9 : Int) ≤ 1000000 ∧ -1000000 ≤ (9 : Int) := by omega
  simp only [grR, bodySem, startE, sRet, sRetV, sRetN, sSeq, sSet, sSkip, sExp, sIf, fC, iRng1, fVar, fBin, evs_nil, evs_cons, frzE, ev, ev1_own, ev1_ownD, ev1_a, ev1_no, List.map_cons, List.map_nil, List.cons_append, List.nil_append, List.replicate, List.length_cons, List.length_nil, Nat.reduceAdd, Nat.reduceSub, bnd_a, bi_a, bi_own, bnd_own, List.getElem?_cons_zero, List.getElem?_cons_succ, if_true, List.set_cons_zero, List.set_cons_succ, setD, Option.map_some, fLst, evsW, setW, frz1_s, frz1_0o, frz1_0a, frz1_0n, own0, own1, own2, own3, own4, own5, own6, own7, own8, own9, br_tt, br_ff, Bool.false_eq_true, if_false, g3, g4, List.mem_cons, true_or, or_true, fNot, fl, add_l, Nat.reduceLeDiff]
  have e9 : rngD 0 (9 : Int).toNat = (List.range 9).map fun (i : Nat) => PyData.int i := rngD_map 9
  have hm : ([PyData.bool (decide (C = c0)), PyData.bool (decide (C = c1)), PyData.bool (decide (C = c2)), PyData.bool (decide (C = c3)), PyData.bool (decide (C = c4)), PyData.bool (decide (C = c5)), PyData.bool (decide (C = c6)), PyData.bool (decide (C = c7)), PyData.bool (decide (C = c8))]) = [c0, c1, c2, c3, c4, c5, c6, c7, c8].map fun c => PyData.bool (decide (C = c)) := rfl
  have e1 : fComp [4] (iRng1 (fC (PyData.int 9))) (gNm 4) (fBin dIx (fVar 3) (fVar 4)) (fVar 4) [none, some (A.e C), none, some (A.d (PyData.list ([c0, c1, c2, c3, c4, c5, c6, c7, c8].map fun c => PyData.bool (decide (C = c))))), none] S = .ok (ownD [.int (k : Nat)]) S := by
    simp only [fComp, iRng1, fC, bnd_a, bi_a, b9, and_self, if_true, rng1, SR.of, e9, wipeE, List.set_cons_succ, List.set_cons_zero]
    rw [compL_f (fun (i : Nat) => PyData.int i) (fun i => decide (i = k)) (fun (i : Nat) => PyData.int i) (List.range 9)]
    · have q : ∀ k < 9, (List.range 9).filter (fun i => decide (i = k)) = [k] := by decide
      rw [q k hk9]; rfl
    · intro i hi
      have hi := List.mem_range.mp hi
      refine ⟨_, rfl, ?_, fun _ => rfl⟩
      have hl : i < [c0, c1, c2, c3, c4, c5, c6, c7, c8].length := hi
      have hg := List.getElem?_eq_getElem hl
      show dIx (.d (.list ([c0, c1, c2, c3, c4, c5, c6, c7, c8].map fun c => PyData.bool (decide (C = c))))) (.d (.int i)) S = _
      have := o_ix_lst (fun c => PyData.bool (decide (C = c))) hg S
      refine this.trans ?_
      have e : decide (C = [c0, c1, c2, c3, c4, c5, c6, c7, c8][i]) = decide (i = k) := by
        obtain ⟨hk1, hk2⟩ := List.getElem?_eq_some_iff.mp hk
        rw [← hk2]
        refine decide_eq_decide.mpr ?_
        have pw := List.pairwise_iff_getElem.mp nd0
        constructor
        · intro he
          rcases Nat.lt_trichotomy i k with h1 | h1 | h1
          · exact absurd he.symm (pw i k hl hk1 h1)
          · exact h1
          · exact absurd he (pw k i hk1 hl h1)
        · rintro rfl; rfl
      rw [e]
  rw [hm, e1]
end PD

/-! PDW: the classes that `_law_refused` knows; a def that makes lambdas. -/
namespace PD
open PySem PySem.Spec PyProof.Rows L2
/-- the nine classes of the marks, in their order -/
structure RefAt (K : PySem.W.Frag) (mg : Str → Option Value) (n0 n1 n2 n3 n4 n5 n6 n7 n8 : Str) : Prop where
  ex : ∃ c0 c1 c2 c3 c4 c5 c6 c7 c8 CT : Addr, (mg n0 = some (.ref c0) ∧ mg n1 = some (.ref c1) ∧ mg n2 = some (.ref c2) ∧ mg n3 = some (.ref c3) ∧ mg n4 = some (.ref c4) ∧ mg n5 = some (.ref c5) ∧ mg n6 = some (.ref c6) ∧ mg n7 = some (.ref c7) ∧ mg n8 = some (.ref c8)) ∧
    mg "TermError" = some (.ref CT) ∧ refOk K [c0, c1, c2, c3, c4, c5, c6, c7, c8] CT = true ∧ [c0, c1, c2, c3, c4, c5, c6, c7, c8].Nodup
theorem ref_at {K : PySem.W.Frag} {h : Heap} {mg : Str → Option Value} (X : K.In h) (G : h.Ns mainGlobals mg) {n0 n1 n2 n3 n4 n5 n6 n7 n8 : Str} {c0 c1 c2 c3 c4 c5 c6 c7 c8 CT : Addr}
    (a0 : PySem.W.nsIn K mainGlobals n0 = some (some (.ref c0))) (a1 : PySem.W.nsIn K mainGlobals n1 = some (some (.ref c1))) (a2 : PySem.W.nsIn K mainGlobals n2 = some (some (.ref c2))) (a3 : PySem.W.nsIn K mainGlobals n3 = some (some (.ref c3))) (a4 : PySem.W.nsIn K mainGlobals n4 = some (some (.ref c4)))
    (a5 : PySem.W.nsIn K mainGlobals n5 = some (some (.ref c5))) (a6 : PySem.W.nsIn K mainGlobals n6 = some (some (.ref c6))) (a7 : PySem.W.nsIn K mainGlobals n7 = some (some (.ref c7))) (a8 : PySem.W.nsIn K mainGlobals n8 = some (some (.ref c8))) (aT : PySem.W.nsIn K mainGlobals "TermError" = some (some (.ref CT)))
    (o : refOk K [c0, c1, c2, c3, c4, c5, c6, c7, c8] CT = true) (nd : [c0, c1, c2, c3, c4, c5, c6, c7, c8].Nodup) : RefAt K mg n0 n1 n2 n3 n4 n5 n6 n7 n8 :=
  ⟨c0, c1, c2, c3, c4, c5, c6, c7, c8, CT, ⟨PySem.W.mg_of X G a0, PySem.W.mg_of X G a1, PySem.W.mg_of X G a2, PySem.W.mg_of X G a3, PySem.W.mg_of X G a4, PySem.W.mg_of X G a5, PySem.W.mg_of X G a6, PySem.W.mg_of X G a7, PySem.W.mg_of X G a8⟩, PySem.W.mg_of X G aT, o, nd⟩
section
variable {K : PySem.W.Frag} {mg : Str → Option Value} {n0 n1 n2 n3 n4 n5 n6 n7 n8 : Str} {c0 c1 c2 c3 c4 c5 c6 c7 c8 CT : Addr}
theorem ref_ords (m : mg n0 = some (.ref c0) ∧ mg n1 = some (.ref c1) ∧ mg n2 = some (.ref c2) ∧ mg n3 = some (.ref c3) ∧ mg n4 = some (.ref c4) ∧ mg n5 = some (.ref c5) ∧ mg n6 = some (.ref c6) ∧ mg n7 = some (.ref c7) ∧ mg n8 = some (.ref c8))
    (ho : refOk K [c0, c1, c2, c3, c4, c5, c6, c7, c8] CT = true) : ∀ n ∈ [n0, n1, n2, n3, n4, n5, n6, n7, n8], ∃ C : Addr, mg n = some (.ref C) ∧ PySem.W.exmOne K (.ref C) (.ref CT) = some true := by
  obtain ⟨m0, m1, m2, m3, m4, m5, m6, m7, m8⟩ := m
  have q := (refOk_at ho).1
  intro n hn
  simp only [List.mem_cons, List.not_mem_nil, or_false] at hn
  rcases hn with rfl | rfl | rfl | rfl | rfl | rfl | rfl | rfl | rfl
  · exact ⟨_, m0, (q c0 (by simp)).2.1⟩
  · exact ⟨_, m1, (q c1 (by simp)).2.1⟩
  · exact ⟨_, m2, (q c2 (by simp)).2.1⟩
  · exact ⟨_, m3, (q c3 (by simp)).2.1⟩
  · exact ⟨_, m4, (q c4 (by simp)).2.1⟩
  · exact ⟨_, m5, (q c5 (by simp)).2.1⟩
  · exact ⟨_, m6, (q c6 (by simp)).2.1⟩
  · exact ⟨_, m7, (q c7 (by simp)).2.1⟩
  · exact ⟨_, m8, (q c8 (by simp)).2.1⟩
theorem ref_k (m : mg n0 = some (.ref c0) ∧ mg n1 = some (.ref c1) ∧ mg n2 = some (.ref c2) ∧ mg n3 = some (.ref c3) ∧ mg n4 = some (.ref c4) ∧ mg n5 = some (.ref c5) ∧ mg n6 = some (.ref c6) ∧ mg n7 = some (.ref c7) ∧ mg n8 = some (.ref c8)) {n : Str} {k : Nat} {C : Addr}
    (hk : [n0, n1, n2, n3, n4, n5, n6, n7, n8].findIdx? (fun m => m == n) = some k) (hm : mg n = some (.ref C)) : [c0, c1, c2, c3, c4, c5, c6, c7, c8][k]? = some C := by
  obtain ⟨m0, m1, m2, m3, m4, m5, m6, m7, m8⟩ := m
  obtain ⟨hi, hn, _⟩ := List.findIdx?_eq_some_iff_getElem.mp hk
  have en := eq_of_beq hn
  have hi : k < 9 := hi
  subst en
  have key : k = 0 ∨ k = 1 ∨ k = 2 ∨ k = 3 ∨ k = 4 ∨ k = 5 ∨ k = 6 ∨ k = 7 ∨ k = 8 := by omega
  rcases key with rfl | rfl | rfl | rfl | rfl | rfl | rfl | rfl | rfl
  · cases m0.symm.trans hm; rfl
  · cases m1.symm.trans hm; rfl
  · cases m2.symm.trans hm; rfl
  · cases m3.symm.trans hm; rfl
  · cases m4.symm.trans hm; rfl
  · cases m5.symm.trans hm; rfl
  · cases m6.symm.trans hm; rfl
  · cases m7.symm.trans hm; rfl
  · cases m8.symm.trans hm; rfl
end
/-! ### a def whose code object is known -/
section
variable {P : Program} {w : World} {K : PySem.W.Frag} {mg : Str → Option Value} {base : Heap} {x qual : Str} {st : Stmt} {f c PT : Addr} {N ps : List Str} {k : Nat} {g : Fs} {oc : Value} {od an : Option Addr} {dV kV doc pm ct : Value} {osl : Array (Option Value)}
theorem def_okC (lk : K.lookup f = some ⟨oc, od, .func (PySem.W.fnOf x qual (defArgs st) (defBody st) (defScope st) dV kV doc pm an (.ref c) ct), osl⟩) (hcd : PySem.W.codeIn K (.ref c) qual = true) (Sc : FnScope N ps (defScope st)) (hm : ps.length ≤ N.length)
    (hb : ∀ (A : Around) (outer : List Env) (s : Shared) (H : Hp) (E : XK), Room k (A.deeper (envOfC qual (defScope st) s.heap.objs.size f (.ref c))) →
      PSs (cxOf (L2.CX P w) P w K mg base N qual (defScope st) f (.ref c) A outer s H E) (defBody st) (ts K mg (fun cls d _ H' => E cls d H') g)) : FnOk P w K mg base (L2.CX P w) (k + 1) f (PySem.W.fnOf x qual (defArgs st) (defBody st) (defScope st) dV kV doc pm an (.ref c) ct) ps (spD K mg ps.length (bodySem N.length g)) :=
  fn_of lk hcd Sc (fun vs H Q E h => h.1) fun A outer s H vs Q E hr h => ⟨_, hb A outer s H E hr, body_ok hm h⟩
theorem tab_of_law {co : Value} {cod : Option Addr} {vs : Array Value} {csl : Array (Option Value)} (a : PySem.W.nsIn K mainGlobals x = some (some (.ref f))) (lk : K.lookup f = some ⟨oc, od, .func (PySem.W.fnOf x qual (defArgs st) (defBody st) (defScope st) dV kV doc pm an (.ref c) ct), osl⟩) (lc : K.lookup c = some ⟨co, cod, .fields vs, csl⟩) (h11 : vs[11]? = some (.ref PT)) :
    PySem.W.tabIn K x = some (c, PT) := by
  unfold PySem.W.tabIn
  rw [a]
  simp only
  rw [lk]
  simp only [PySem.W.fnOf]
  rw [lc]
  simp only
  rw [h11]
theorem tabsK_of (h : PySem.W.tabIn K "law" = some (c, PT)) : tabsK K = [(PT, (("law" : Str) ++ ".<locals>.") ++ "<lambda>")] := by
  unfold tabsK
  rw [h]
end
end PD

/-! PX1: more rules. -/
namespace PD
open PySem PySem.Spec PyProof.Rows L2
section
variable {X : Cx} {Z : WX} {e c a b o : Expr} {f fa fb : Fe} {p pos apos : Pos}
/-! ### strip(..) -/
def dStrip1 (a : Str) : D → Option W
  | .str b => if a.length ≤ sizeLine then some (sD (Txt.stripChars a b)) else none
  | _ => none
theorem ve_strip1 (ho : VE X Z o fa) (he : VE X Z e fb) (hs : starEach [e] X.env = [(false, eval e X.env)] := by rfl) (hbase : attributeBase o "strip" X.env (eval o X.env) = eval o X.env := by rfl) (hline : (apos.endLine == pos.line) = true := by rfl) : VE X Z (.Call (.Attribute o "strip" apos) [e] [] pos) (fSm dStrip1 fa fb) :=
  (pe_m1 F.slot_str_strip F.type_str_strip mt_stripChars ho he hs hbase hline).imp fun σ H Q h => sm_of (fun κ F ρ S σ H z u d w Q t r e p => by
    cases d with
    | str b =>
      unfold dStrip1 at e
      simp only at e
      split at e
      · cases e
        rw [Rep.strv r]
        exact ⟨z, b, rfl, rfl, ‹_›, p.str t⟩
      · cases e
    | _ => cases e) h
/-! ### max, min of a list -/
def maxI (ns : List Int) : Option Int := ns.find? fun m => ns.all fun y => decide (y ≤ m)
def minI (ns : List Int) : Option Int := ns.find? fun m => ns.all fun y => decide (m ≤ y)
def dMaxL : D → Option W
  | .list ds => match intsOf ds with
    | some ns => (maxI ns).map iD
    | none => none
  | _ => none
def dMinL : D → Option W
  | .list ds => match intsOf ds with
    | some ns => (minI ns).map iD
    | none => none
  | _ => none
theorem maxI_some {ns : List Int} {m : Int} (h : maxI ns = some m) : m ∈ ns ∧ ∀ y ∈ ns, y ≤ m := by
  unfold maxI at h
  refine ⟨List.mem_of_find?_eq_some h, fun y hy => ?_⟩
  have := List.find?_some h
  rw [List.all_eq_true] at this
  exact of_decide_eq_true (this y hy)
theorem minI_some {ns : List Int} {m : Int} (h : minI ns = some m) : m ∈ ns ∧ ∀ y ∈ ns, m ≤ y := by
  unfold minI at h
  refine ⟨List.mem_of_find?_eq_some h, fun y hy => ?_⟩
  have := List.find?_some h
  rw [List.all_eq_true] at this
  exact of_decide_eq_true (this y hy)
theorem ve_maxL (hc : X.calm = true) (hx : Gl X "max") (hm : X.mg "max" = none) (ha : VE X Z e f) (he : starEach [e] X.env = (false, eval e X.env) :: starEach [] X.env := by rfl) : VE X Z (.Call (.Name "max" p) [e] [] pos) (fCall (on1 dMaxL) [f]) :=
  ve_callB (cr_max hc) (OpSs.on1 fun κ F ρ S σ H v x w Q t r e p => by
    cases x <;> (try (exact nomatch (show (none : Option W) = some w from e)))
    rename_i ds
    unfold dMaxL at e
    simp only at e
    cases q : intsOf ds with
    | none => rw [q] at e; cases e
    | some ns =>
      rw [q] at e
      simp only at e
      cases qm : maxI ns with
      | none => rw [qm] at e; cases e
      | some m =>
        rw [qm] at e
        cases e
        obtain ⟨h3, h4⟩ := maxI_some qm
        obtain ⟨a, vs, rfl, h1, h2⟩ := r.lstv
        refine ⟨a, ns, rfl, .of (by rw [← h2.ints q]; exact t.fh _ _ h1), List.length_pos_of_mem h3, fun m' hm' hle => ?_⟩
        have : m' = m := Int.le_antisymm (h4 m' hm') (hle m h3)
        rw [this]
        exact p.int t) hx hm (by decide +kernel) (va_cons ha va_nil he) (by decide) (by decide) he
theorem ve_minL (hc : X.calm = true) (hx : Gl X "min") (hm : X.mg "min" = none) (ha : VE X Z e f) (he : starEach [e] X.env = (false, eval e X.env) :: starEach [] X.env := by rfl) : VE X Z (.Call (.Name "min" p) [e] [] pos) (fCall (on1 dMinL) [f]) :=
  ve_callB (cr_min hc) (OpSs.on1 fun κ F ρ S σ H v x w Q t r e p => by
    cases x <;> (try (exact nomatch (show (none : Option W) = some w from e)))
    rename_i ds
    unfold dMinL at e
    simp only at e
    cases q : intsOf ds with
    | none => rw [q] at e; cases e
    | some ns =>
      rw [q] at e
      simp only at e
      cases qm : minI ns with
      | none => rw [qm] at e; cases e
      | some m =>
        rw [qm] at e
        cases e
        obtain ⟨h3, h4⟩ := minI_some qm
        obtain ⟨a, vs, rfl, h1, h2⟩ := r.lstv
        refine ⟨a, ns, rfl, .of (by rw [← h2.ints q]; exact t.fh _ _ h1), List.length_pos_of_mem h3, fun m' hm' hle => ?_⟩
        have : m' = m := Int.le_antisymm (hle m h3) (h4 m' hm')
        rw [this]
        exact p.int t) hx hm (by decide +kernel) (va_cons ha va_nil he) (by decide) (by decide) he
end
/-! ### a slot that is known no more -/
section
variable {K : PySem.W.Frag} {mg : Str → Option Value} {κ : Kp} {F0 H0 F H : Hp} {ρ : Ev} {S : Cs} {σ : L2.St}
theorem Slots.forget {fp : Nat → List Addr} (sl : Slots K κ H0 F H ρ σ fp) (k : Nat) : Slots K κ H0 F H (ρ.set k none) σ (fun j => if j = k then [] else fp j) := by
  refine ⟨fun j w h => ?_, fun j h => ?_, fun j => ?_, fun i j hij a ha => ?_, fun j a ha => ?_⟩
  · by_cases hj : j = k
    · subst hj
      by_cases hl : j < ρ.length
      · rw [List.getElem?_set_self hl] at h; cases h
      · rw [List.getElem?_eq_none (by rw [List.length_set]; omega)] at h; cases h
    · rw [List.getElem?_set_ne (Ne.symm hj)] at h
      obtain ⟨v, h1, h2⟩ := sl.rep j w h
      exact ⟨v, h1, by show RepW K κ F H w v (if j = k then [] else fp j); rw [if_neg hj]; exact h2⟩
  · show (if j = k then [] else fp j) = []
    by_cases hj : j = k
    · rw [if_pos hj]
    · rw [if_neg hj]
      exact sl.non j fun w e => h w (by rw [List.getElem?_set_ne (Ne.symm hj)]; exact e)
  · show (if j = k then [] else fp j).Nodup
    split
    · exact .nil
    · exact sl.nd j
  · have ha : a ∈ (if i = k then [] else fp i) := ha
    show a ∉ (if j = k then [] else fp j)
    split at ha
    · simp at ha
    · split
      · simp
      · exact sl.dis i j hij a ha
  · have ha : a ∈ (if j = k then [] else fp j) := ha
    split at ha
    · simp at ha
    · exact sl.nw j a ha
theorem Ats.forget (t : Ats K κ F0 H0 F ρ S σ H) (k : Nat) : Ats K κ F0 H0 F (ρ.set k none) S σ H := by
  obtain ⟨fp, sl⟩ := t.sl
  exact ⟨t.n, t.c, t.ck, by rw [List.length_set]; exact t.ln, _, sl.forget k⟩
end
/-! ### a list of one's own, put into another one -/
def sAppV (i k : Nat) : Fs := fun ρ S => match ρ[i]?, ρ[k]? with
  | some (some (.own ws)), some (some (.own us)) => if i ≠ k ∧ ws.length < 1000000 then .nx ((ρ.set k none).set i (some (.own (ws ++ [.own us])))) S else .stuck
  | _, _ => .stuck
section
variable {X : Cx} {Z : WX} {pos apos cpos : Pos}
theorem vs_appV (i k : Nat) {x y : Str} {px py : Pos} (hN : X.N[i]? = some x := by rfl) (hv : Vis X.env.scope x := by first | exact Or.inl rfl | exact Or.inr (Or.inl rfl) | exact Or.inr (Or.inr rfl)) (hd : (x == ("__debug__" : Str)) = false := by decide)
    (hcd : (x == ("__classdict__" : Str)) = false := by decide) (hNy : X.N[k]? = some y := by rfl) (hvy : Vis X.env.scope y := by first | exact Or.inl rfl | exact Or.inr (Or.inl rfl) | exact Or.inr (Or.inr rfl)) (hdy : (y == ("__debug__" : Str)) = false := by decide)
    (hcdy : (y == ("__classdict__" : Str)) = false := by decide) (hbase : attributeBase (.Name x px) "append" X.env (eval (.Name x px) X.env) = eval (.Name x px) X.env := by rfl)
    (hfew : ((backTo cpos (starEach [.Name y py] X.env)).all (fun x => !x.1) && (backToKw cpos (keywordEach [] X.env)).all (fun x => x.1.isSome) && decide ([Expr.Name y py].length + ([] : List Keyword).length + (if ([] : List Keyword).isEmpty then 0 else 1) < 30)) = true := by rfl)
    (hline : (apos.endLine == cpos.line) = true := by rfl) (hs : starEach [.Name y py] X.env = (false, eval (.Name y py) X.env) :: starEach [] X.env := by rfl) (hplain : (backTo cpos (starEach [] X.env)).any (·.1) = false := by rfl) (hsw : swapsWith (.Call (.Attribute (.Name x px) "append" apos) [.Name y py] [] cpos) none pos.line X.env = pure false := by rfl) :
    VS X Z (.Expr (.Call (.Attribute (.Name x px) "append" apos) [.Name y py] [] cpos) pos) (sAppV i k) :=
  (ps_expr (pe_bm PySem.F.plainAttrs_list PySem.F.slot_list_append PySem.F.type_list_append mt_append (pe_var hN hv hd hcd) (pa_cons (pe_var hNy hvy hdy hcdy) pa_nil hs) hbase hfew hline hs hplain) hsw).imp fun Dn σ H h => by
    obtain ⟨κ, F0, H0, F, ρ, S, t, p⟩ := h
    unfold sAppV at p
    cases q : ρ[i]? with
    | none => rw [q] at p; exact p.elim
    | some ow =>
      cases qk : ρ[k]? with
      | none => rw [q, qk] at p; exact (show False by match ow, p with | some (.own _), p => exact p | some (.a _), p => exact p | none, p => exact p).elim
      | some ok =>
        rw [q, qk] at p
        match ow, ok, p, q, qk with
        | some (.own ws), some (.own us), p, q, qk =>
          simp only at p
          split at p
          · rename_i hc
            obtain ⟨hik, hlen⟩ := hc
            obtain ⟨fp, sl⟩ := t.sl
            obtain ⟨v, hσ, a, vs, L, rfl, hd, hL, rr⟩ := sl.rep i _ q
            obtain ⟨v2, hσ2, b, vs2, L2, rfl, hd2, hL2, rr2⟩ := sl.rep k _ qk
            have fa : a ∈ fp i := by rw [hL]; exact List.mem_cons_self
            have fb : b ∈ fp k := by rw [hL2]; exact List.mem_cons_self
            have aL : a ∉ L := by have := sl.nd i; rw [hL] at this; exact (List.nodup_cons.mp this).1
            have ndL : L.Nodup := by have := sl.nd i; rw [hL] at this; exact (List.nodup_cons.mp this).2
            have aLk : a ∉ fp k := sl.dis i k hik a fa
            refine ⟨.ref a, hσ, Or.inl ⟨rfl, vs, .of hd⟩, .ref b, hσ2, a, vs, .ref b, rfl, rfl, hd, ?_, ?_⟩
            · rw [RepWs.len rr, sizeLine_eq]; omega
            · have sl2 := sl.forget k
              have t2 := t.forget k
              have q2 : (ρ.set k none)[i]? = some (some (.own ws)) := by rw [List.getElem?_set_ne (Ne.symm hik)]; exact q
              have fa2 : a ∈ (if i = k then [] else fp i) := by rw [if_neg hik]; exact fa
              refine p σ _ F (Same.refl _) (t2.wr sl2 q2 hσ hd fa2 (L' := L ++ fp k) ?_ ?_ ?_ ?_)
              · refine RepWs.app (RepWs.up (Same.refl _) ws vs L (fun c hc o e => by rw [upd_ne (show c ≠ a from fun z => aL (z ▸ hc))]; exact e) rr) ⟨.ref b, [], fp k, [], rfl, by simp, ?_, rfl, rfl⟩
                exact RepW.up (Same.refl _) (.own us) (.ref b) (fp k) (fun c hc o e => by rw [upd_ne (show c ≠ a from fun z => aLk (z ▸ hc))]; exact e) ⟨b, vs2, L2, rfl, hd2, hL2, rr2⟩
              · refine List.nodup_cons.mpr ⟨fun z => ?_, List.nodup_append.mpr ⟨ndL, sl.nd k, fun x hx z hz => ?_⟩⟩
                · rcases List.mem_append.mp z with z | z
                  · exact aL z
                  · exact aLk z
                · rintro rfl
                  exact sl.dis i k hik x (by rw [hL]; exact List.mem_cons_of_mem _ hx) hz
              · intro x hx
                rcases List.mem_append.mp hx with hx | hx
                · exact sl.nw i x (by rw [hL]; exact List.mem_cons_of_mem _ hx)
                · exact sl.nw k x hx
              · intro j hj x hx z
                have hx : x ∈ (if j = k then [] else fp j) := hx
                split at hx
                · simp at hx
                · rename_i hjk
                  rcases List.mem_append.mp z with z | z
                  · exact sl.dis j i hj x hx (by rw [hL]; exact List.mem_cons_of_mem _ z)
                  · exact sl.dis j k hjk x hx z
          · exact p.elim
        | some (.own _), some (.a _), p, _, _ => exact p.elim
        | some (.own _), none, p, _, _ => exact p.elim
        | some (.a _), _, p, _, _ => exact p.elim
        | none, _, p, _, _ => exact p.elim
end
/-! ### append to a list within a list of one's own -/
theorem RepWs.split {K : PySem.W.Frag} {κ : Kp} {F H : Hp} {w : W} : ∀ {ws : List W} {vs : List V} {L : List Addr} {j : Nat}, RepWs K κ F H ws vs L → ws[j]? = some w → ∃ (v : V) (L1 Lj L2 : List Addr), vs[j]? = some v ∧ L = L1 ++ (Lj ++ L2) ∧ RepW K κ F H w v Lj ∧
    ∀ (F' H' : Hp) (w' : W) (Lj' : List Addr), Same F F' → (∀ a ∈ L1 ++ L2, ∀ o, H a = some o → H' a = some o) → RepW K κ F' H' w' v Lj' → RepWs K κ F' H' (ws.set j w') vs (L1 ++ (Lj' ++ L2))
  | [], _, _, _, _, e => by simp at e
  | w0 :: ws, _, _, 0, h, e => by
    obtain ⟨v, r, L1, L2, rfl, rfl, h1, h2⟩ := h
    cases e
    exact ⟨v, [], L1, L2, rfl, rfl, h1, fun F' H' w' Lj' sf k g => ⟨v, r, Lj', L2, rfl, rfl, g, RepWs.up sf ws r L2 (fun a ha => k a (by simpa using ha)) h2⟩⟩
  | w0 :: ws, _, _, j + 1, h, e => by
    obtain ⟨v0, r, L1, L2, rfl, rfl, h1, h2⟩ := h
    obtain ⟨v, M1, Mj, M2, e1, rfl, g1, g2⟩ := RepWs.split (j := j) h2 (by simpa using e)
    refine ⟨v, L1 ++ M1, Mj, M2, by simpa using e1, by simp, g1, fun F' H' w' Lj' sf k g => ⟨v0, r, L1, M1 ++ (Lj' ++ M2), rfl, by simp, RepW.up sf w0 v0 L1 (fun a ha => k a (by simp [ha])) h1, g2 F' H' w' Lj' sf (fun a ha => k a (by
      rcases List.mem_append.mp ha with z | z
      · simp [z]
      · simp [z])) g⟩⟩
def sAppIx (i : Nat) (is : List Nat) (fi f : Fe) : Fs := fun ρ S => match (frzE is ρ)[i]? with
  | some (some (.own ws)) => match fi (ev (frzE is ρ)) S with
    | .ok (.a (.d (.int n))) S1 => match ixN ws.length n with
      | some j => match ws[j]? with
        | some (.own us) => match f (ev (frzE is ρ)) S1 with
          | .ok w S2 => if us.length < 1000000 then .nx ((frzE is ρ).set i (some (.own (ws.set j (.own (us ++ [w])))))) S2 else .stuck
          | .exc m S2 => .exc m S2
          | .stuck => .stuck
        | _ => .stuck
      | none => .stuck
    | .exc m S1 => .exc m S1
    | _ => .stuck
  | _ => .stuck
section
variable {X : Cx} {Z : WX} {e ix : Expr} {f fi : Fe} {pos apos cpos spos : Pos}
theorem vs_appIx (i : Nat) (is : List Nat) {x : Str} {px : Pos} (hix : VE X Z ix fi) (he : VE X Z e f) (hN : X.N[i]? = some x := by rfl) (hv : Vis X.env.scope x := by first | exact Or.inl rfl | exact Or.inr (Or.inl rfl) | exact Or.inr (Or.inr rfl)) (hd : (x == ("__debug__" : Str)) = false := by decide)
    (hcd : (x == ("__classdict__" : Str)) = false := by decide) (hpl : PlainIx ix := by intro _ _; rfl) (hbase : attributeBase (.Subscript (.Name x px) ix spos) "append" X.env (eval (.Subscript (.Name x px) ix spos) X.env) = eval (.Subscript (.Name x px) ix spos) X.env := by rfl)
    (hfew : ((backTo cpos (starEach [e] X.env)).all (fun x => !x.1) && (backToKw cpos (keywordEach [] X.env)).all (fun x => x.1.isSome) && decide ([e].length + ([] : List Keyword).length + (if ([] : List Keyword).isEmpty then 0 else 1) < 30)) = true := by rfl)
    (hline : (apos.endLine == cpos.line) = true := by rfl) (hs : starEach [e] X.env = (false, eval e X.env) :: starEach [] X.env := by rfl) (hplain : (backTo cpos (starEach [] X.env)).any (·.1) = false := by rfl) (hsw : swapsWith (.Call (.Attribute (.Subscript (.Name x px) ix spos) "append" apos) [e] [] cpos) none pos.line X.env = pure false := by rfl) :
    VS X Z (.Expr (.Call (.Attribute (.Subscript (.Name x px) ix spos) "append" apos) [e] [] cpos) pos) (sAppIx i is fi f) :=
  (ps_expr (pe_bm PySem.F.plainAttrs_list PySem.F.slot_list_append PySem.F.type_list_append mt_append (pe_ix ix_seq (pe_var hN hv hd hcd) hix hpl) (va_cons he va_nil hs) hbase hfew hline hs hplain) hsw).imp fun Dn σ H h => by
    obtain ⟨κ, F0, H0, F, ρ, S, t, p⟩ := h
    obtain ⟨F1, s1, t1⟩ := t.frzE (is := is)
    unfold sAppIx at p
    cases q : (frzE is ρ)[i]? with
    | none => rw [q] at p; exact p.elim
    | some ow =>
      rw [q] at p
      match ow, p, q with
      | some (.a _), p, _ => exact p.elim
      | none, p, _ => exact p.elim
      | some (.own ws), p, q =>
        obtain ⟨fp, sl⟩ := t1.sl
        obtain ⟨v, hσ, hr⟩ := sl.rep i _ q
        obtain ⟨a, vs, L, rfl, hd, hL, rr⟩ := hr
        have fa : a ∈ fp i := by rw [hL]; exact List.mem_cons_self
        refine ⟨.ref a, hσ, ?_⟩
        refine ⟨κ, F1, _, S, t1.at_, ?_⟩
        simp only at p
        cases qi : fi (ev (frzE is ρ)) S with
        | stuck => rw [qi] at p; exact p
        | exc n S1 => rw [qi] at p; exact PostS.exc p t1.n
        | ok wi S1 =>
          rw [qi] at p
          match wi, p, qi with
          | .own _, p, _ => exact p.elim
          | .a (.c _), p, _ => exact p.elim
          | .a (.s _), p, _ => exact p.elim
          | .a (.e _), p, _ => exact p.elim
          | .a (.d di), p, _ =>
            cases di with
            | int n =>
              simp only at p
              cases qx : ixN ws.length n with
              | none => rw [qx] at p; exact p.elim
              | some j =>
                rw [qx] at p
                simp only at p
                cases qj : ws[j]? with
                | none => rw [qj] at p; exact p.elim
                | some wj =>
                  rw [qj] at p
                  match wj, p, qj with
                  | .a _, p, _ => exact p.elim
                  | .own us, p, qj =>
                    simp only at p
                    intro y H2 F2 L2 n2 c2 r2 _ _
                    obtain ⟨_, r2⟩ := r2
                    obtain rfl := Rep.intv r2
                    have t2 := t1.nxt n2 c2
                    have sl2 := t1.step sl n2
                    obtain ⟨hd2, fd2⟩ := n2.own1 hd (sl.nw i a fa).2 (t1.nok sl i a fa)
                    obtain ⟨v3, e2, a3, vs3, L3, e3, e4, e5, rr2⟩ := sl2.rep i _ q
                    rw [hσ] at e2
                    cases e2
                    cases e3
                    rw [hd2] at e4
                    cases e4
                    rw [hL] at e5
                    cases e5
                    obtain ⟨vb, M1, Mj, M2, g1, g2, g3, g4⟩ := rr2.split qj
                    obtain ⟨b, ub, Lb, rfl, hdb, rfl, rrb⟩ := g3
                    have hat : _root_.L2.atI vs n = some (V.ref b) := by
                      unfold _root_.L2.atI
                      rw [RepWs.len rr2, qx]
                      exact g1
                    have bL : b ∈ L := by rw [g2]; simp
                    have fb : b ∈ fp i := by rw [hL]; exact List.mem_cons_of_mem _ bL
                    refine .inl ⟨a, vs, n, .ref b, rfl, rfl, .of hd2, hat, Or.inl ⟨rfl, ub, .of hdb⟩, ?_⟩
                    refine ⟨κ, F2, _, S1, t2.at_, ?_⟩
                    cases qe : f (ev (frzE is ρ)) S1 with
                    | stuck => rw [qe] at p; exact p
                    | exc m S2 => rw [qe] at p; exact PostS.exc p t2.n
                    | ok w S2 =>
                      rw [qe] at p
                      simp only at p
                      split at p
                      · rename_i hlen
                        intro y3 H3 F3 L3 n3 c3 r3 nd3 nw3
                        have t3 := t2.nxt n3 c3
                        have sl3 := t2.step sl2 n3
                        obtain ⟨hd3, _⟩ := n3.own1 hd2 (sl2.nw i a fa).2 (t2.nok sl2 i a fa)
                        obtain ⟨hdb3, _⟩ := n3.own1 hdb (sl2.nw i b fb).2 (t2.nok sl2 i b fb)
                        obtain ⟨v4, e2, a4, vs4, L4, e3, e4, e5, rr3⟩ := sl3.rep i _ q
                        rw [hσ] at e2
                        cases e2
                        cases e3
                        rw [hd3] at e4
                        cases e4
                        rw [hL] at e5
                        cases e5
                        obtain ⟨vb', M1', Mj', M2', g1', g2', g3', g4'⟩ := rr3.split qj
                        rw [g1] at g1'
                        cases g1'
                        obtain ⟨b', ub2, Lb', e6, hdb', rfl, rrb'⟩ := g3'
                        cases e6
                        rw [hdb3] at hdb'
                        cases hdb'
                        have ndi := sl3.nd i
                        rw [hL] at ndi
                        obtain ⟨aL, ndL⟩ := List.nodup_cons.mp ndi
                        rw [g2'] at ndL aL
                        have ab : a ≠ b := fun z => aL (by rw [z]; simp)
                        have bM : b ∉ M1' ++ M2' := fun z => by
                          rw [List.nodup_append] at ndL
                          obtain ⟨n1, n2, n3⟩ := ndL
                          rcases List.mem_append.mp z with z | z
                          · exact n3 b z b (by simp) rfl
                          · rw [List.cons_append, List.nodup_cons] at n2
                            exact n2.1 (by simp [z])
                        have bLb : b ∉ Lb' := fun z => by
                          rw [List.nodup_append] at ndL
                          obtain ⟨n1, n2, n3⟩ := ndL
                          rw [List.cons_append, List.nodup_cons] at n2
                          exact n2.1 (by simp [z])
                        have bL3 : b ∉ L3 := fun z => (nw3 b z).1.no hdb
                        have apart : ∀ k, ∀ c ∈ fp k, c ∉ L3 := fun k c hc z => by
                          obtain ⟨us', e⟩ := sl2.there k c hc
                          exact (nw3 c z).1.no e
                        have newb : RepW X.K κ F3 (upd H3 b (.lst (ub ++ [y3]))) (.own (us ++ [w])) (.ref b) (b :: (Lb' ++ L3)) := by
                          refine ⟨b, _, _, rfl, upd_same, rfl, RepWs.app (RepWs.up (Same.refl _) us ub Lb' (fun c hc o e => by rw [upd_ne (show c ≠ b from fun z => bLb (z ▸ hc))]; exact e) rrb') ⟨y3, [], L3, [], rfl, by simp, RepW.up (Same.refl _) w y3 L3 (fun c hc o e => by rw [upd_ne (show c ≠ b from fun z => bL3 (z ▸ hc))]; exact e) r3, rfl, rfl⟩⟩
                        have newa : RepW X.K κ F3 (upd H3 b (.lst (ub ++ [y3]))) (.own (ws.set j (.own (us ++ [w])))) (.ref a) (a :: (M1' ++ ((b :: (Lb' ++ L3)) ++ M2'))) :=
                          ⟨a, vs, _, rfl, by rw [upd_ne ab]; exact hd3, rfl, g4' F3 _ _ _ (Same.refl _) (fun c hc o e => by rw [upd_ne (show c ≠ b from fun z => bM (z ▸ hc))]; exact e) newb⟩
                        refine ⟨b, ub, y3, rfl, rfl, hdb3, ?_, p σ _ F3 ((s1.trans n2.ff).trans n3.ff) (t3.wrG sl3 (List.getElem?_eq_some_iff.mp q).1 hσ hdb3 fb newa ?_ ?_ ?_)⟩
                        · rw [RepWs.len rrb', sizeLine_eq]; omega
                        · rw [List.nodup_append] at ndL
                          obtain ⟨n1, n2', n3'⟩ := ndL
                          rw [List.cons_append, List.nodup_cons, List.nodup_append] at n2'
                          obtain ⟨m0, m1, m2, m3⟩ := n2'
                          have inI : ∀ c, c ∈ M1' ++ (b :: Lb' ++ M2') → c ∈ fp i := fun c hc => by rw [hL, g2']; exact List.mem_cons_of_mem _ hc
                          refine List.nodup_cons.mpr ⟨fun z => ?_, List.nodup_append.mpr ⟨n1, ?_, fun x hx z hz => ?_⟩⟩
                          · have : a ∈ L3 ∨ a ∈ M1' ++ (b :: Lb' ++ M2') := by
                              simp only [List.mem_append, List.mem_cons] at z ⊢
                              rcases z with z | (z | z | z) | z
                              · exact .inr (.inl z)
                              · exact .inr (.inr (.inl (.inl z)))
                              · exact .inr (.inr (.inl (.inr z)))
                              · exact .inl z
                              · exact .inr (.inr (.inr z))
                            rcases this with z | z
                            · exact apart i a fa z
                            · exact aL z
                          · rw [List.cons_append, List.nodup_cons, List.nodup_append, List.nodup_append]
                            refine ⟨fun z => ?_, ⟨m1, nd3, fun x hx z hz => ?_⟩, m2, fun x hx z hz => ?_⟩
                            · simp only [List.mem_append] at z
                              rcases z with (z | z) | z
                              · exact bLb z
                              · exact bL3 z
                              · exact bM (by simp [z])
                            · rintro rfl
                              exact apart i x (inI x (by simp [hx])) hz
                            · rintro rfl
                              rcases List.mem_append.mp hx with hx | hx
                              · exact m3 x hx x hz rfl
                              · exact apart i x (inI x (by simp [hz])) hx
                          · rintro rfl
                            simp only [List.mem_append, List.mem_cons] at hz
                            rcases hz with (hz | hz | hz) | hz
                            · exact n3' x hx x (by simp [hz]) rfl
                            · exact n3' x hx x (by simp [hz]) rfl
                            · exact apart i x (inI x (by simp [hx])) hz
                            · exact n3' x hx x (by simp [hz]) rfl
                        · intro c hc
                          have hI : c ∈ fp i ∨ c ∈ L3 := by
                            rw [hL, g2']
                            simp only [List.mem_append, List.mem_cons] at hc ⊢
                            rcases hc with hc | hc | (hc | hc | hc) | hc
                            · exact .inl (.inl hc)
                            · exact .inl (.inr (.inl hc))
                            · exact .inl (.inr (.inr (.inl (.inl hc))))
                            · exact .inl (.inr (.inr (.inl (.inr hc))))
                            · exact .inr hc
                            · exact .inl (.inr (.inr (.inr hc)))
                          rcases hI with hc | hc
                          · exact sl3.nw i c hc
                          · exact ⟨t2.n.back (nw3 c hc).1, (nw3 c hc).2⟩
                        · intro k hk c hc z
                          have hI : c ∈ fp i ∨ c ∈ L3 := by
                            rw [hL, g2']
                            simp only [List.mem_append, List.mem_cons] at z ⊢
                            rcases z with z | z | (z | z | z) | z
                            · exact .inl (.inl z)
                            · exact .inl (.inr (.inl z))
                            · exact .inl (.inr (.inr (.inl (.inl z))))
                            · exact .inl (.inr (.inr (.inl (.inr z))))
                            · exact .inr z
                            · exact .inl (.inr (.inr (.inr z)))
                          rcases hI with z | z
                          · exact sl3.dis k i hk c hc z
                          · exact apart k c hc z
                      · exact p.elim
            | _ => exact p.elim
end
/-! ### for over a range, what it asks of lent out only -/
def IPR (K : PySem.W.Frag) (mg : Str → Option Value) (Z : WX) (κ : Kp) (F H : Hp) (σ : L2.St) (r : SR) (Rr : It → Hp → Prop) : Prop := match r with
  | .ok items S' => ∀ lo n H' F', items = rngD lo n → Nxt κ F H F' H' → Cel K κ F' H' S' → items.length ≤ sizeLine → Rr (Itr lo n) H'
  | .exc n S' => ∀ C H' F', mg n = some (.ref C) → Nxt κ F H F' H' → Cel K κ F' H' S' → Z (.ref C) none σ H'
  | .stuck => False
def tviR (K : PySem.W.Frag) (mg : Str → Option Value) (Z : WX) (src : Fi) : TI := fun σ H Rr => ∃ κ F ρ S, At K κ F ρ S σ H ∧ IPR K mg Z κ F H σ (src ρ S) Rr
theorem IPR.up {K : PySem.W.Frag} {mg : Str → Option Value} {Z : WX} {κ : Kp} {F H F1 H1 : Hp} {σ : L2.St} {r : SR} {Rr : It → Hp → Prop} (h : IPR K mg Z κ F H σ r Rr) (n : Nxt κ F H F1 H1) : IPR K mg Z κ F1 H1 σ r Rr := by
  cases r with
  | ok items S' => exact fun lo m H' F' e a => h lo m H' F' e (n.trans a)
  | exc m S' => exact fun C H' F' g a => h C H' F' g (n.trans a)
  | stuck => exact h
section
variable {X : Cx} {Z : WX} {f g : Fe}
theorem at_biR {κ : Kp} {F H : Hp} {ρ : En} {S : Cs} {σ : L2.St} {k : A → Cs → SR} {Rr : It → Hp → Prop} {Q' : VK} (t : At X.K κ F ρ S σ H) (p : IPR X.K X.mg Z κ F H σ ((f ρ S).bi k) Rr)
    (g : ∀ v H1 F1 S1 x, Nxt κ F H F1 H1 → At X.K κ F1 ρ S1 σ H1 → RepA X.K κ F1 v x → IPR X.K X.mg Z κ F1 H1 σ (k x S1) Rr → Q' v H1) : tv X.K X.mg Z f σ H Q' := by
  refine ⟨κ, F, ρ, S, t, ?_⟩
  cases q : f ρ S with
  | stuck => rw [q] at p; exact p
  | exc n S1 => rw [q] at p; exact p
  | ok w S1 =>
    rw [q] at p
    intro v H1 F1 L n c r nd nw
    cases e : w.toA with
    | none => simp only [R.bi, e] at p; exact p.elim
    | some x =>
      simp only [R.bi, e] at p
      obtain ⟨F2, n2, c2, r2⟩ := frz_mix n c t.hk r nw e
      exact g v H1 F2 S1 x n2 (t.nxt n2 c2) r2 (p.up n2)
abbrev VIr (X : Cx) (Z : WX) (tg iter : Expr) (src : Fi) : Prop := PI X tg iter (tviR X.K X.mg Z src)
theorem vir_rng1 {tg a : Expr} {p pos : Pos} (hg : Gl X "range") (hm : X.mg "range" = none) (ha : VE X Z a f) (he : starEach [a] X.env = (false, eval a X.env) :: starEach [] X.env := by rfl) : VIr X Z tg (.Call (.Name "range" p) [a] [] pos) (iRng1 f) := by
  have hp := pi_range1 (tg := tg) (p := p) (pos := pos) hg hm (va_cons ha va_nil he) he
  refine ⟨fun pins s σ H Rr I q => hp.run pins s σ H Rr I ?_⟩
  obtain ⟨κ, F, ρ, S, t, p⟩ := q
  refine at_biR t p fun v H1 F1 S1 x n1 t1 r1 p1 => ?_
  cases e : rng1 x with
  | none => rw [e] at p1; exact p1.elim
  | some ds =>
    rw [e] at p1
    unfold rng1 at e
    split at e
    · split at e
      · rename_i n h
        cases e
        rw [Rep.intv r1]
        exact ⟨n, rfl, by omega, by omega, p1 _ _ H1 F1 rfl (.refl t1.fh) t1.cel (rng_len (by omega))⟩
      · cases e
    · cases e
theorem vir_rng2 {tg a b : Expr} {p pos : Pos} (hg : Gl X "range") (hm : X.mg "range" = none) (ha : VE X Z a f) (hb : VE X Z b g) (he : starEach [a, b] X.env = (false, eval a X.env) :: starEach [b] X.env := by rfl) (he2 : starEach [b] X.env = (false, eval b X.env) :: starEach [] X.env := by rfl) : VIr X Z tg (.Call (.Name "range" p) [a, b] [] pos) (iRng2 f g) := by
  have hp := pi_range2 (tg := tg) (p := p) (pos := pos) hg hm (va_cons ha (va_cons hb va_nil he2) he) (by rw [he, he2] <;> rfl) (by rw [he2] <;> rfl)
  refine ⟨fun pins s σ H Rr I q => hp.run pins s σ H Rr I ?_⟩
  obtain ⟨κ, F, ρ, S, t, p⟩ := q
  refine at_biR t p fun v H1 F1 S1 x n1 t1 r1 p1 => ?_
  refine at_biR t1 p1 fun u H2 F2 S2 y n2 t2 r2 p2 => ?_
  cases e : rng2 x y with
  | none => rw [e] at p2; exact p2.elim
  | some ds =>
    rw [e] at p2
    unfold rng2 at e
    split at e
    · split at e
      · rename_i m n h
        cases e
        rw [Rep.intv r1, Rep.intv r2]
        exact ⟨m, n, rfl, by omega, p2 _ _ H2 F2 rfl (.refl t2.fh) t2.cel (rng_len (by omega))⟩
      · cases e
    · cases e
end
def sForB (is : List Nat) (src : Fi) (g : Gs) (body : Fs) : Fs := fun ρ S => match src (ev (frzE is ρ)) S with
  | .ok items S1 => if flatCs S1 = true then forL g body (dom ρ) items ρ S1 else .stuck
  | .exc n S1 => .exc n S1
  | .stuck => .stuck
section
variable {X : Cx} {Z : WX} {pos : Pos} {body : List Stmt} {g : Fs}
theorem vs_forB (is : List Nat) {tg iter : Expr} {src : Fi} {gt : Gs} (hp : PassesOwn (model X.prog X.w) X.A X.env X.xe) (hc : X.calm = true) (hi : VIr X Z tg iter src) (hg : VGS X tg gt) (hb : VSs X Z body g) (hs : ∀ x, foldedSetIterable iter X.env x = pure x := by intro _; rfl) :
    VS X Z (.For tg iter body [] pos) (sForB is src gt g) := (ps_for hp hc hi hg hb hs).imp fun Dn σ H h => by
  obtain ⟨κ, F0, H0, F, ρ, S, t, p⟩ := h
  obtain ⟨F1, s1, t1⟩ := t.frzE (is := is)
  refine ⟨κ, F1, _, S, t1.at_, ?_⟩
  unfold sForB at p
  cases q : src (ev (frzE is ρ)) S with
  | stuck => rw [q] at p; exact p
  | exc m S1 =>
    rw [q] at p
    exact fun C H' F' g a b => p C σ H' F' g (t1.n.trans a) b
  | ok items S1 =>
    rw [q] at p
    simp only at p
    split at p
    · rename_i hfl
      intro lo n H1 F2 ei n2 c2 len
      have t2 := t.borrow s1 n2 c2 hfl
      have y : Yld X.K κ F (Itr lo n) items := by rw [ei]; exact Yld.rng
      refine ⟨fun i m σ' H' => m = items.length - i ∧ i ≤ items.length ∧ ∃ F' ρ' S', Same F F' ∧ Ats X.K κ F0 H0 F' ρ' S' σ' H' ∧ PostS X.K X.mg Z κ F0 H0 F (forL gt g (dom ρ) (items.drop i) ρ' S') Dn,
        ⟨items.length, by simp, Nat.zero_le _, F, _, S1, Same.refl _, t2, p⟩, ?_⟩
      rintro i m σ' H' ⟨rfl, hi, F', ρ', S', sF, t', p'⟩
      by_cases hlt : i < items.length
      · obtain ⟨yg, yy⟩ := (y i F' H' sF t'.n.fh).1 items[i] (List.getElem?_eq_getElem hlt)
        refine .inr ⟨yg, fun σ' H' => i + 1 ≤ items.length ∧ ∃ F' ρ' S', Same F F' ∧ Ats X.K κ F0 H0 F' ρ' S' σ' H' ∧ PostS X.K X.mg Z κ F0 H0 F (forL gt g (dom ρ) (items.drop (i + 1)) ρ' S') Dn, fun σ' H' h => ⟨items.length - (i + 1), by omega, rfl, h⟩, fun v H3 y3 => ?_⟩
        obtain ⟨F3, n3, k3, r3⟩ := yy v H3 y3
        have dr : items.drop i = items[i] :: items.drop (i + 1) := List.drop_eq_getElem_cons hlt
        rw [dr] at p'
        unfold forL at p'
        cases eg : gt items[i] ρ' with
        | none => rw [eg] at p'; exact p'.elim
        | some ρ1 =>
          rw [eg] at p'
          simp only at p'
          have c3 : Cel X.K κ F3 H3 S' := t'.c.up n3 fun a ha => by
            obtain ⟨vs, e⟩ := t'.c.there a ha
            exact k3 a (by rw [e]; simp)
          refine ⟨κ, F0, H0, F3, ρ', S', items[i], ρ1, t'.nxt n3 c3, r3, eg, fun σ4 t4 => ?_⟩
          refine ⟨κ, F0, H0, F3, ρ1, S', t4, ?_⟩
          cases eb : g ρ1 S' with
          | nx ρ2 S2 =>
            rw [eb] at p'
            exact fun σ5 H5 F5 s5 t5 => ⟨hlt, F5, _, S2, (sF.trans n3.ff).trans s5, t5.mask _, p'⟩
          | rt w S2 => rw [eb] at p'; exact p'
          | exc n S2 => rw [eb] at p'; exact p'
          | stuck => rw [eb] at p'; exact p'
      · have e : i = items.length := by omega
        subst e
        refine .inl ⟨(y _ F' H' sF t'.n.fh).2 rfl, ?_⟩
        rw [List.drop_length] at p'
        exact p' σ' H' F' sF t'
    · exact p.elim
end
/-! ### an empty dict -/
def fDct : Fe := fun _ S => .ok (.a (.d (.dict []))) S
theorem ve_dct {X : Cx} {Z : WX} {pos : Pos} : VE X Z (.Dict [] [] pos) fDct := pe_dnewK.imp fun σ H Q h p hp => by
  obtain ⟨κ, F, ρ, S, t, po⟩ := h
  have n : Nxt κ F H (upd F p (.dK [])) (upd H p (.dK [])) := Nxt.newF t.fh hp
  exact po (.ref p) _ _ [] n (t.cel.newF t.fh hp) ⟨rfl, Rep.dct (.inl upd_same)⟩ .nil fun _ hp => absurd hp (by simp)
end PD

/-! PX5: written dicts with keys None, ints, texts. -/
namespace PD
open PySem PySem.Spec PyProof.Rows L2
def keyO : D → Option (Option Key)
  | .none => some none
  | .int i => some (some (.inl i))
  | .str x => some (some (.inr x))
  | _ => none
def vD : D → Option V
  | .none => some .non
  | .bool b => some (.bl b)
  | .int i => some (.int i)
  | .str x => some (.str x)
  | _ => none
def sameK : D → D → Bool
  | .none, .none => true
  | .int i, .int j => i == j
  | .str x, .str y => x == y
  | _, _ => false
def lookD : List (D × D) → D → Option D
  | [], _ => none
  | kv :: kvs, d => if sameK kv.1 d = true then some kv.2 else lookD kvs d
def hashN (w : World) : Option Key → Int
  | none => reduceHash 0xFCA86420
  | some k => keyH w k
/-- an entry holds this key and this value -/
def EntOk (w : World) (e : DictEntry) (kv : D × D) : Prop := ∃ k, keyO kv.1 = some k ∧ nkIs k e.key = true ∧ e.hash = hashN w k ∧ ∃ v, vD kv.2 = some v ∧ RelV v e.val
def EntsOk (w : World) : List DictEntry → List (D × D) → Prop
  | [], [] => True
  | e :: es, kv :: kvs => EntOk w e kv ∧ EntsOk w es kvs
  | _, _ => False
theorem sameK_iff {a b : D} {k j : Option Key} (ha : keyO a = some k) (hb : keyO b = some j) : sameK a b = true ↔ k = j := by
  cases a <;> cases b <;> simp [keyO] at ha hb <;> subst ha <;> subst hb <;> simp [sameK]
theorem ents_find {P : Program} {w : World} {dk : D} {k : Option Key} (hk : keyO dk = some k) : ∀ {es : List DictEntry} {kvs : List (D × D)}, EntsOk w es kvs → match lookD kvs dk with
    | some dv => ∃ e v, (es.find? fun e => nkIs k e.key) = some e ∧ vD dv = some v ∧ RelV v e.val
    | none => (es.find? fun e => nkIs k e.key) = none
  | [], [], _ => rfl
  | e :: es, kv :: kvs, h => by
    obtain ⟨⟨j, h1, h2, h3, v, h4, h5⟩, hr⟩ := h
    have ih := ents_find (P := P) hk hr
    unfold lookD
    have hi := sameK_iff h1 hk
    by_cases hs : sameK kv.1 dk = true
    · have ejk := hi.mp hs
      subst ejk
      rw [if_pos hs]
      exact ⟨e, v, by rw [List.find?_cons, h2], h4, h5⟩
    · rw [if_neg hs]
      have hn : nkIs k e.key = false := by
        refine Bool.eq_false_iff.mpr fun z => hs (hi.mpr ?_)
        exact (noneKind P w).inj e.key j k h2 z
      rw [List.find?_cons, hn]
      exact ih
  | [], _ :: _, h => h.elim
  | _ :: _, [], h => h.elim
theorem ents_all {w : World} : ∀ {es : List DictEntry} {kvs : List (D × D)}, EntsOk w es kvs → ∀ e ∈ es, ∃ k, nkIs k e.key = true ∧ e.hash = hashN w k
  | [], _, _, _, he => by simp at he
  | e :: es, kv :: kvs, h, x, hx => by
    obtain ⟨⟨j, h1, h2, h3, _⟩, hr⟩ := h
    rcases List.mem_cons.mp hx with rfl | hx
    · exact ⟨j, h2, h3⟩
    · exact ents_all hr x hx
  | _ :: _, [], h, _, _ => h.elim
structure KDat (K : PySem.W.Frag) (w : World) (mg : Str → Option Value) (x : Str) (kvs : List (D × D)) : Prop where
  ex : ∃ (d : Addr) (es : Array DictEntry) (n : Nat), mg x = some (.ref d) ∧ K.lookup d = some ⟨.type "dict", none, .dict es n, #[]⟩ ∧ (d == sysModules) = false ∧ EntsOk w es.toList kvs
theorem KDat.map {K : PySem.W.Frag} {P : Program} {w : World} {h : Heap} {d : Addr} {es : Array DictEntry} {n : Nat} {kvs : List (D × D)} (X : K.In h) (l : K.lookup d = some ⟨.type "dict", none, .dict es n, #[]⟩) (hk : EntsOk w es.toList kvs) : h.MapOf (noneKind P w) d (fun k => findBy (noneKind P w).is es k) :=
  ⟨_, es, n, X _ _ l, ⟨rfl, rfl, rfl⟩, rfl, fun e he => by
    obtain ⟨k, h1, h2⟩ := ents_all hk e (Array.mem_toList_iff.mpr he)
    exact ⟨k, h1, by rw [h2]; cases k <;> rfl⟩, fun _ => rfl⟩
def dAtK (kvs : List (D × D)) : D → Option W
  | .none => (lookD kvs .none).map fun v => .a (.d v)
  | .int i => (lookD kvs (.int i)).map fun v => .a (.d v)
  | .str x => (lookD kvs (.str x)).map fun v => .a (.d v)
  | _ => none
def dInK (kvs : List (D × D)) : D → Option W
  | .none => some (bD (lookD kvs .none).isSome)
  | .int i => some (bD (lookD kvs (.int i)).isSome)
  | .str x => some (bD (lookD kvs (.str x)).isSome)
  | _ => none
theorem find_toList (es : Array DictEntry) (p : DictEntry → Bool) : es.find? p = es.toList.find? p := by simp
theorem nk_of (P : Program) (w : World) {K : PySem.W.Frag} {F : Hp} {v : V} {u : Value} {d : D} {k : Option Key} (hk : keyO d = some k) (r : Rep K F v d) (ru : RelV v u) : nkIs k u = true := by
  cases d <;> simp [keyO] at hk <;> subst hk
  · cases r; cases ru; rfl
  · rw [r.intv] at ru
    obtain ⟨t, rfl⟩ := ru
    exact PySem.intKind_is P w _ t
  · rw [r.strv] at ru
    obtain ⟨t, rfl⟩ := ru
    exact PySem.strKind_is P w _ t
theorem rep_vD {K : PySem.W.Frag} {F : Hp} {d : D} {v : V} (h : vD d = some v) : Rep K F v d := by
  cases d <;> simp [vD] at h <;> subst h
  · exact .non
  · exact .bl _
  · exact .int _
  · exact .str _
section
variable {X : Cx} {Z : WX} {a : Expr} {fa : Fe} {p pos : Pos}
theorem ve_atK {x : Str} {kvs : List (D × D)} (M : KDat X.K X.w X.mg x kvs) (ha : VE X Z a fa) (hg : Gl X x := by rfl) (hd : (x == ("__debug__" : Str)) = false := by decide) (hs : PlainIx a := by intro _ _; rfl) : VE X Z (.Subscript (.Name x p) a pos) (fUn (onD1 (dAtK kvs)) fa) := by
  obtain ⟨d, es, n, e1, e2, e3, e4⟩ := M.ex
  have hi : IxR X (fun z y H Q => ∃ dk k dv v, keyO dk = some k ∧ Rep X.K H y dk ∧ z = .ref d ∧ lookD kvs dk = some dv ∧ vD dv = some v ∧ Q v H) := by
    intro value slice pins s σ H z y v u Q I rz ry h hs
    obtain ⟨dk, k, dv, v0, hk, rk, rfl, l, hv, q⟩ := h
    obtain rfl : v = Value.ref d := rz
    have hf := ents_find (P := X.prog) hk e4
    rw [l] at hf
    obtain ⟨e, v1, f1, f2, f3⟩ := hf
    rw [hv] at f2
    cases f2
    have hm := KDat.map (P := X.prog) (w := X.w) I.kIn e2 e4
    have e6 : findBy (noneKind X.prog X.w).is es k = some e.val := by
      show (es.find? fun e => nkIs k e.key).map (·.val) = _
      rw [find_toList, f1]
      rfl
    exact tail_any hm.typeIs slot_dict_getitem.lookup (wpAny_getItem_of (show (noneKind X.prog X.w).is k u = true from nk_of X.prog X.w hk rk ry) hm e6 ⟨v0, H, I.tok _, f3, q⟩) hs
  refine (pe_ix hi (pe_glob (v := .ref d) hg e1 rfl hd) ha hs).imp fun σ H Q h => ?_
  refine tUn_of (r := fun y H Q => ∃ dk k dv v, keyO dk = some k ∧ Rep X.K H y dk ∧ V.ref d = .ref d ∧ lookD kvs dk = some dv ∧ vD dv = some v ∧ Q v H) (OpS1.onD fun κ F ρ S σ H v x w Q t r e p => ?_) h
  have key : ∀ (k : Option Key), keyO x = some k → (lookD kvs x).map (fun v => W.a (A.d v)) = some w → ∃ dk k dv v0, keyO dk = some k ∧ Rep X.K H v dk ∧ V.ref d = .ref d ∧ lookD kvs dk = some dv ∧ vD dv = some v0 ∧ Q v0 H := by
    intro k hk hw
    cases q : lookD kvs x with
    | none => rw [q] at hw; cases hw
    | some dv =>
      rw [q] at hw
      cases hw
      have hf := ents_find (P := X.prog) hk e4
      rw [q] at hf
      obtain ⟨_, v1, _, f2, _⟩ := hf
      exact ⟨x, k, dv, v1, hk, Rep.up t.fh x v r, rfl, q, f2, p.a t (show Rep X.K F v1 dv from rep_vD f2)⟩
  cases x with
  | none => exact key _ rfl e
  | int i => exact key _ rfl e
  | str z => exact key _ rfl e
  | _ => cases e
theorem inK_core {x : Str} {kvs : List (D × D)} (M : KDat X.K X.w X.mg x kvs) : ∃ (d : Addr) (r : R2), X.mg x = some (.ref d) ∧ OpR X (compareOp .In) r ∧ ∀ (fa : Fe) (σ : L2.St) (H : Hp) (Q : VK), tv X.K X.mg Z (fUn (onD1 (dInK kvs)) fa) σ H Q → tOp r (tv X.K X.mg Z fa) (tC (.ref d)) σ H Q := by
  obtain ⟨d, es, n, e1, e2, e3, e4⟩ := M.ex
  have ho : OpR X (compareOp .In) (fun y z H Q => ∃ dk k, keyO dk = some k ∧ Rep X.K H y dk ∧ z = .ref d ∧ Q (.bl (lookD kvs dk).isSome) H) := by
    intro pins s σ H y z v u Q I ry rz h
    obtain ⟨dk, k, hk, rk, rfl, q⟩ := h
    cases rz
    refine wpAny_in_of (show (noneKind X.prog X.w).is k v = true from nk_of X.prog X.w hk rk ry) e3 (KDat.map I.kIn e2 e4) ?_
    have hf := ents_find (P := X.prog) hk e4
    have e7 : (findBy (noneKind X.prog X.w).is es k).isSome = (lookD kvs dk).isSome := by
      show ((es.find? fun e => nkIs k e.key).map (·.val)).isSome = _
      rw [find_toList]
      cases q2 : lookD kvs dk with
      | none => rw [q2] at hf; rw [hf]; rfl
      | some dv => rw [q2] at hf; obtain ⟨e, _, f1, _⟩ := hf; rw [f1]; rfl
    show EP X pins σ Q (.bool (findBy (noneKind X.prog X.w).is es k).isSome) _
    rw [e7]
    exact ⟨.bl _, H, I.tok _, rfl, q⟩
  refine ⟨d, _, e1, ho, fun fa σ H Q h => ?_⟩
  refine tUn_of (r := fun y H Q => ∃ dk k, keyO dk = some k ∧ Rep X.K H y dk ∧ V.ref d = .ref d ∧ Q (.bl (lookD kvs dk).isSome) H) (OpS1.onD fun κ F ρ S σ H v x w Q t r e p => ?_) h
  cases x with
  | none => cases e; exact ⟨_, _, rfl, Rep.up t.fh _ v r, rfl, p.bl t⟩
  | int i => cases e; exact ⟨_, _, rfl, Rep.up t.fh _ v r, rfl, p.bl t⟩
  | str z => cases e; exact ⟨_, _, rfl, Rep.up t.fh _ v r, rfl, p.bl t⟩
  | _ => cases e
theorem ve_inK {x : Str} {kvs : List (D × D)} (M : KDat X.K X.w X.mg x kvs) (ha : VE X Z a fa) (hg : Gl X x := by rfl) (hd : (x == ("__debug__" : Str)) = false := by decide) (hm : behindInMarks .In (.Name x p) = false := by rfl) : VE X Z (.Compare a [.In] [.Name x p] pos) (fUn (onD1 (dInK kvs)) fa) := by
  obtain ⟨d, r, e1, ho, hh⟩ := inK_core (Z := Z) M
  exact (pe_cmpR ho ha (pe_glob (v := .ref d) hg e1 rfl hd) hm).imp fun σ H Q h => hh fa σ H Q h
theorem vt_inK {x : Str} {kvs : List (D × D)} (M : KDat X.K X.w X.mg x kvs) (ha : VE X Z a fa) (hg : Gl X x := by rfl) (hd : (x == ("__debug__" : Str)) = false := by decide) (hm : behindInMarks .In (.Name x p) = false := by rfl) : VT X Z (.Compare a [.In] [.Name x p] pos) (fUn (onD1 (dInK kvs)) fa) := by
  obtain ⟨d, r, e1, ho, hh⟩ := inK_core (Z := Z) M
  exact (pt_cmpR ho ha (pe_glob (v := .ref d) hg e1 rfl hd) hm).imp fun σ H Q h => hh fa σ H _ h
end
theorem hash_txt (w : World) (x : Str) : PyData.keyHash w.params x = hashN w (some (.inr x)) := rfl
theorem nk_txt (x : Str) (t : Tok) : nkIs (some (.inr x)) (.str x t) = true := by
  show Value.isStrOf x (.str x t) = true
  unfold Value.isStrOf
  simp
theorem nk_lit {i : Int} {t : Tok} (h : (i == i) = true) : nkIs (some (.inl i)) (.int i t) = true := by
  show Value.isInt i (.int i t) = true
  unfold Value.isInt
  simp
theorem kdat_at {w : World} {K : PySem.W.Frag} {h : Heap} {mg : Str → Option Value} (X : K.In h) (G : h.Ns mainGlobals mg) {x : Str} {d : Addr} {es : Array DictEntry} {n : Nat} {kvs : List (D × D)} (a : PySem.W.nsIn K mainGlobals x = some (some (.ref d)))
    (l : K.lookup d = some ⟨.type "dict", none, .dict es n, #[]⟩) (s : (d == sysModules) = false) (he : EntsOk w es.toList kvs) : KDat K w mg x kvs := ⟨d, es, n, PySem.W.mg_of X G a, l, s, he⟩
theorem hash_non (w : World) : (4238894112 : Int) = hashN w none := by
  show (4238894112 : Int) = reduceHash 0xFCA86420
  decide
theorem hash_int (w : World) (i : Int) (h : i = hashInt i) : i = hashN w (some (.inl i)) := h
def dNotInKI (kvs : List (Int × Int)) : D → Option W
  | .int i => some (bD (!(kvs.lookup i).isSome))
  | _ => none
section
variable {X : Cx} {Z : WX} {a : Expr} {fa : Fe} {p pos : Pos}
theorem notInKI_core {x : Str} {kvs : List (Int × Int)} (M : KInt X.K X.mg x kvs) : ∃ (d : Addr) (r : R2), X.mg x = some (.ref d) ∧ OpR X (compareOp .NotIn) r ∧ ∀ (fa : Fe) (σ : L2.St) (H : Hp) (Q : VK), tv X.K X.mg Z (fUn (onD1 (dNotInKI kvs)) fa) σ H Q → tOp r (tv X.K X.mg Z fa) (tC (.ref d)) σ H Q := by
  obtain ⟨d, es, n, e1, e2, e3, e4, e5⟩ := M.ex
  have ho : OpR X (compareOp .NotIn) (fun y z H Q => ∃ i, y = .int i ∧ z = .ref d ∧ Q (.bl (!(kvs.lookup i).isSome)) H) := by
    intro pins s σ H y z v u Q I ry rz h
    obtain ⟨i, rfl, rfl, q⟩ := h
    obtain ⟨t, rfl⟩ := ry
    cases rz
    refine wpAny_notIn_of (PySem.intKind_is X.prog X.w i t) e3 (KInt.map I.kIn e2 e4) ?_
    have e6 := e5 i
    have e7 : (findBy Value.isInt es i).isSome = (kvs.lookup i).isSome := by
      cases q2 : kvs.lookup i with
      | none => rw [q2] at e6; rw [e6]; rfl
      | some v => rw [q2] at e6; obtain ⟨t, e6⟩ := e6; rw [e6]; rfl
    show EP X pins σ Q (.bool (!(findBy Value.isInt es i).isSome)) _
    rw [e7]
    exact ⟨.bl _, H, I.tok _, rfl, q⟩
  refine ⟨d, _, e1, ho, fun fa σ H Q h => ?_⟩
  refine tUn_of (r := fun y H Q => ∃ i, y = .int i ∧ V.ref d = .ref d ∧ Q (.bl (!(kvs.lookup i).isSome)) H) (OpS1.onD fun κ F ρ S σ H v x w Q t r e p => ?_) h
  cases x with
  | int i =>
    cases e
    rw [Rep.intv r]
    exact ⟨i, rfl, rfl, p.bl t⟩
  | _ => cases e
theorem ve_notInKI {x : Str} {kvs : List (Int × Int)} (M : KInt X.K X.mg x kvs) (ha : VE X Z a fa) (hg : Gl X x := by rfl) (hd : (x == ("__debug__" : Str)) = false := by decide) (hm : behindInMarks .NotIn (.Name x p) = false := by rfl) : VE X Z (.Compare a [.NotIn] [.Name x p] pos) (fUn (onD1 (dNotInKI kvs)) fa) := by
  obtain ⟨d, r, e1, ho, hh⟩ := notInKI_core (Z := Z) M
  exact (pe_cmpR ho ha (pe_glob (v := .ref d) hg e1 rfl hd) hm).imp fun σ H Q h => hh fa σ H Q h
theorem vt_notInKI {x : Str} {kvs : List (Int × Int)} (M : KInt X.K X.mg x kvs) (ha : VE X Z a fa) (hg : Gl X x := by rfl) (hd : (x == ("__debug__" : Str)) = false := by decide) (hm : behindInMarks .NotIn (.Name x p) = false := by rfl) : VT X Z (.Compare a [.NotIn] [.Name x p] pos) (fUn (onD1 (dNotInKI kvs)) fa) := by
  obtain ⟨d, r, e1, ho, hh⟩ := notInKI_core (Z := Z) M
  exact (pt_cmpR ho ha (pe_glob (v := .ref d) hg e1 rfl hd) hm).imp fun σ H Q h => hh fa σ H _ h
end
end PD

/-! PX6: a written dict read at once, whatever its keys; or of texts; split. -/
namespace PD
open PySem PySem.Spec PyProof.Rows L2
def vK (d : D) : V := (vD d).getD .non
def tKD (kvs : List (D × D)) : List (TE × TE) := kvs.map fun kv => (tC (vK kv.1), tC (vK kv.2))
def DctO (P : Program) (w : World) (p : Addr) (rs : List (Option Key × Value)) : HO := .ext fun h => h.DictOf (noneKind P w) p rs
theorem dctO_ok {P : Program} {w : World} {H : Hp} {h : Heap} {p : Addr} {rs : List (Option Key × Value)} (d : h.DictOf (noneKind P w) p rs) : ObjOk P w H h p (DctO P w p rs) := by
  have d2 := d
  obtain ⟨o, _, _, ho, _⟩ := d2
  exact ⟨d, ⟨o, ho⟩, fun h1 h2 z k => z.at k⟩
def Held : List (D × D) → List (Option Key × Value) → Prop
  | [], [] => True
  | kv :: kvs, r :: rs => (keyO kv.1 = some r.1 ∧ ∃ v, vD kv.2 = some v ∧ RelV v r.2) ∧ Held kvs rs
  | _, _ => False
def okKV (kvs : List (D × D)) : Bool := kvs.all fun kv => (keyO kv.1).isSome && (vD kv.2).isSome
theorem rep_key {K : PySem.W.Frag} {d : D} (h : (keyO d).isSome = true) : Rep K (fun _ => none) (vK d) d := by
  cases d <;> simp [keyO] at h
  · exact .non
  · exact .int _
  · exact .str _
theorem carriesD {P : Program} {w : World} (K : PySem.W.Frag) : ∀ {kvs : List (D × D)} {ws : List (Value × Value)}, okKV kvs = true → VV (kvs.map fun kv => (vK kv.1, vK kv.2)) ws → ∃ rs, Carries (noneKind P w) ws rs ∧ Held kvs rs
  | [], _, _, r => by rw [List.map_nil] at r; cases r; exact ⟨[], True.intro, True.intro⟩
  | kv :: kvs, _, hk, r => by
    unfold okKV at hk
    rw [List.all_cons, Bool.and_eq_true, Bool.and_eq_true] at hk
    rw [List.map_cons] at r
    cases r with
    | @cons a b as bs h t =>
      obtain ⟨rs, c, q⟩ := carriesD (P := P) (w := w) K (kvs := kvs) hk.2 t
      obtain ⟨b1, b2⟩ := b
      obtain ⟨k, e1⟩ := Option.isSome_iff_exists.mp hk.1.1
      obtain ⟨v, e2⟩ := Option.isSome_iff_exists.mp hk.1.2
      have e3 : vK kv.2 = v := by unfold vK; rw [e2]; rfl
      exact ⟨(k, b2) :: rs, ⟨nk_of P w e1 (rep_key (K := K) (by rw [e1]; rfl)) h.1, rfl, c⟩, ⟨e1, v, e2, e3 ▸ h.2⟩, q⟩
theorem tPairsD {σ : L2.St} {H : Hp} : ∀ {kvs : List (D × D)} {Q : List (V × V) → Hp → Prop}, Q (kvs.map fun kv => (vK kv.1, vK kv.2)) H → tPairs (tKD kvs) σ H Q
  | [], Q, h => h
  | kv :: kvs, Q, h => tPairsD (kvs := kvs) h
theorem held_look {dk : D} {k : Option Key} (hk : keyO dk = some k) : ∀ {kvs : List (D × D)} {rs : List (Option Key × Value)}, Held kvs rs → match lookD kvs dk with
    | some dv => ∃ u v, valueAt rs k = some u ∧ vD dv = some v ∧ RelV v u
    | none => True
  | [], [], _ => True.intro
  | kv :: kvs, r :: rs, h => by
    obtain ⟨⟨h1, v, h2, h3⟩, hr⟩ := h
    have ih := held_look hk hr
    unfold lookD
    have hi := sameK_iff h1 hk
    by_cases hs : sameK kv.1 dk = true
    · have e := hi.mp hs
      rw [if_pos hs]
      exact ⟨r.2, v, by unfold valueAt; rw [List.find?_cons, decide_eq_true e]; rfl, h2, h3⟩
    · rw [if_neg hs]
      have hn : ¬ r.1 = k := fun z => hs (hi.mpr z)
      have e : valueAt (r :: rs) k = valueAt rs k := by unfold valueAt; rw [List.find?_cons, decide_eq_false hn]
      rw [e]
      exact ih
  | [], _ :: _, h => h.elim
  | _ :: _, [], h => h.elim
theorem held_keys : ∀ {kvs : List (D × D)} {rs : List (Option Key × Value)}, Held kvs rs → rs.map (fun r => some r.1) = kvs.map fun kv => keyO kv.1
  | [], [], _ => rfl
  | kv :: kvs, r :: rs, h => by rw [List.map_cons, List.map_cons, held_keys h.2, h.1.1]
  | [], _ :: _, h => h.elim
  | _ :: _, [], h => h.elim
theorem RepAll.tx {K : PySem.W.Frag} {F : Hp} : ∀ l : List Str, RepAll K F (l.map V.str) (l.map PyData.str)
  | [] => .nil
  | z :: l => .cons (.str z) (RepAll.tx l)
section
variable {X : Cx} {Z : WX} {a b : Expr} {fa fb : Fe} {p pos : Pos} {rest : List Expr}
theorem ppsD_nil : PPs X pos [] [] (tKD []) := pps_nil
theorem ppsD_cons {k v : D} {ek ev : Expr} {ks : List (Option Expr)} {vs : List Expr} {kvs : List (D × D)} (hk : PE X ek (tC (vK k))) (hv : PE X ev (tC (vK v))) (h : PPs X pos ks vs (tKD kvs)) : PPs X pos (some ek :: ks) (ev :: vs) (tKD ((k, v) :: kvs)) := pps_cons hk hv h
theorem pe_dispN {keys : List (Option Expr)} {values : List Expr} {kvs : List (D × D)} (h : PPs X pos keys values (tKD kvs)) (hk : okKV kvs = true) (hall : keys.all (·.isSome) = true) (hl : keys.length = values.length) (h0 : keys ≠ []) (h15 : keys.length ≤ 15) :
    PE X (.Dict keys values pos) (fun σ H Q => ∀ p rs, H p = none → Held kvs rs → Q (.ref p) (upd H p (DctO X.prog X.w p (merged [] rs)))) := by
  refine ⟨fun pins s σ H Q I q => ?_⟩
  have hn := I.hok.fresh (Nat.le_refl s.heap.objs.size)
  have I1 := I.laid (a := s.heap.objs.size) (o := DctO X.prog X.w s.heap.objs.size []) (h' := s.heap.push { cls := .type "dict", data := .dict #[] }) (t' := s.toks) (fun _ _ q => Heap.get?_push_of_some _ q) (Nat.le_refl _) (dctO_ok (Heap.DictOf.new s.heap))
  refine wpAny_Dict_walk (knd := noneKind X.prog X.w) hall hl h0 h15 (thn (h.run pins _ σ _ (fun ps H2 => ps = (kvs.map fun kv => (vK kv.1, vK kv.2)) ∧ H2 = upd H s.heap.objs.size (DctO X.prog X.w s.heap.objs.size [])) I1 (tPairsD ⟨rfl, rfl⟩)) fun ws s2 ⟨ps, H2, I2, rel, ep, eH⟩ => ?_)
  subst ep eH
  obtain ⟨rs, c, hd⟩ := carriesD (P := X.prog) (w := X.w) X.K hk rel
  have dd : s2.heap.DictOf (noneKind X.prog X.w) s.heap.objs.size [] := (I2.hok s.heap.objs.size _ upd_same).1
  refine ⟨rs, c, dd, fun h' dd' hs => ⟨.ref s.heap.objs.size, upd H s.heap.objs.size (DctO X.prog X.w s.heap.objs.size (merged [] rs)), ?_, rfl, q _ rs hn hd⟩⟩
  have e : upd (upd H s.heap.objs.size (DctO X.prog X.w s.heap.objs.size [])) s.heap.objs.size (DctO X.prog X.w s.heap.objs.size (merged [] rs)) = upd H s.heap.objs.size (DctO X.prog X.w s.heap.objs.size (merged [] rs)) := by
    funext b
    by_cases hb : b = s.heap.objs.size
    · subst hb; rw [upd_same, upd_same]
    · rw [upd_ne hb, upd_ne hb, upd_ne hb]
  rw [← e]
  have he : ∃ q, h'.get? s.heap.objs.size = some q := let ⟨q, _, _, hq, _⟩ := dd'; ⟨q, hq⟩
  exact d_write I2 (by rw [upd_same]; exact True.intro) hs he (dctO_ok dd')
theorem ve_dispK {keys : List (Option Expr)} {values : List Expr} {kvs : List (D × D)} {p2 : Pos} (h : PPs X p2 keys values (tKD kvs)) (ha : VE X Z a fa) (hk : okKV kvs = true := by decide) (hnd : (kvs.map fun kv => keyO kv.1).Nodup := by decide) (hall : keys.all (·.isSome) = true := by rfl) (hl : keys.length = values.length := by rfl) (h0 : keys ≠ [] := by simp)
    (h15 : keys.length ≤ 15 := by decide) (hs : PlainIx a := by intro _ _; rfl) : VE X Z (.Subscript (.Dict keys values p2) a pos) (fUn (onD1 (dAtK kvs)) fa) := by
  have hi : IxR X (fun z y H Q => ∃ p rs dk k dv v, z = .ref p ∧ H p = some (DctO X.prog X.w p (merged [] rs)) ∧ Held kvs rs ∧ keyO dk = some k ∧ Rep X.K H y dk ∧ lookD kvs dk = some dv ∧ vD dv = some v ∧ Q v H) := by
    intro value slice pins s σ H z y v u Q I rz ry h hs
    obtain ⟨p, rs, dk, k, dv, v0, rfl, hp, hd, hk2, rk, l, hv, q⟩ := h
    obtain rfl : v = Value.ref p := rz
    have dd : s.heap.DictOf (noneKind X.prog X.w) p (merged [] rs) := (I.hok p _ hp).1
    have hnd2 : (rs.map (·.1)).Nodup := by
      have e := held_keys hd
      rw [← e] at hnd
      have : (rs.map fun r => some r.1) = (rs.map (·.1)).map some := by rw [List.map_map]; rfl
      rw [this] at hnd
      exact (List.nodup_iff_pairwise_ne.mpr ((List.pairwise_map.mp (List.nodup_iff_pairwise_ne.mp hnd)).imp fun hne z => hne (congrArg some z)))
    rw [merged_nil_of_nodup rs hnd2] at dd
    have hf := held_look hk2 hd
    rw [l] at hf
    obtain ⟨u1, v1, f1, f2, f3⟩ := hf
    rw [hv] at f2
    cases f2
    exact tail_any dd.typeIs slot_dict_getitem.lookup (wpAny_getItem_of (show (noneKind X.prog X.w).is k u = true from nk_of X.prog X.w hk2 rk ry) dd.mapOf f1 ⟨v0, H, I.tok _, f3, q⟩) hs
  refine (pe_ix hi (pe_dispN h hk hall hl h0 h15) ha hs).imp fun σ H Q q => ?_
  intro p rs hp hd
  obtain ⟨κ, F, ρ, S, t, po⟩ := q
  have n0 : Nxt κ F H F (upd H p (DctO X.prog X.w p (merged [] rs))) := Nxt.newH t.fh hp
  have c0 := t.cel.newH (o := DctO X.prog X.w p (merged [] rs)) t.fh hp
  have pk : p ∉ κ.l := fun z => by
    obtain ⟨vs, e⟩ := t.cel.there p z
    rw [hp] at e; cases e
  unfold fUn at po
  refine at_bind (t.nxt n0 c0) (po.up n0) fun v H1 F1 S1 x n1 t1 r1 p1 => ?_
  have hh := n1.kp p (DctO X.prog X.w p (merged [] rs)) upd_same pk (fun ps z => by cases z)
  cases x with
  | d x =>
    have key : ∀ k, keyO x = some k → (match (lookD kvs x).map (fun v => W.a (A.d v)) with | some w => Post X.K X.mg Z κ F1 H1 σ (.ok w S1) Q | none => False) → ∃ p' rs dk k dv v0, V.ref p = .ref p' ∧ H1 p' = some (DctO X.prog X.w p' (merged [] rs)) ∧ Held kvs rs ∧ keyO dk = some k ∧ Rep X.K H1 v dk ∧ lookD kvs dk = some dv ∧ vD dv = some v0 ∧ Q v0 H1 := by
      intro k hk2 hp1
      cases ql : lookD kvs x with
      | none => rw [ql] at hp1; exact hp1.elim
      | some dv =>
        rw [ql] at hp1
        have hf := held_look hk2 hd
        rw [ql] at hf
        obtain ⟨_, v1, _, f2, _⟩ := hf
        exact ⟨p, rs, x, k, dv, v1, rfl, hh, hd, hk2, Rep.up t1.fh x v r1, ql, f2, Post.a hp1 t1 (show Rep X.K F1 v1 dv from rep_vD f2)⟩
    cases x with
    | none =>
      refine key _ rfl ?_
      have p2 : Post X.K X.mg Z κ F1 H1 σ (match (lookD kvs .none).map (fun v => W.a (A.d v)) with | some w => .ok w S1 | none => .stuck) Q := p1
      revert p2
      cases (lookD kvs .none) <;> exact fun y => y
    | int i =>
      refine key _ rfl ?_
      have p2 : Post X.K X.mg Z κ F1 H1 σ (match (lookD kvs (.int i)).map (fun v => W.a (A.d v)) with | some w => .ok w S1 | none => .stuck) Q := p1
      revert p2
      cases (lookD kvs (.int i)) <;> exact fun y => y
    | str z =>
      refine key _ rfl ?_
      have p2 : Post X.K X.mg Z κ F1 H1 σ (match (lookD kvs (.str z)).map (fun v => W.a (A.d v)) with | some w => .ok w S1 | none => .stuck) Q := p1
      revert p2
      cases (lookD kvs (.str z)) <;> exact fun y => y
    | _ => exact p1.elim
  | _ => exact p1.elim
/-! ### or of texts -/
def fOrS (fa fb : Fe) : Fe := fun ρ S => (fa ρ S).bnd fun x S1 => match x with
  | .d (.str z) => if z.length ≤ sizeLine then (if z.length = 0 then fb ρ S1 else .ok (.a (.d (.str z))) S1) else .stuck
  | _ => .stuck
theorem ve_orS (ha : VE X Z a fa) (hb : VE X Z (.BoolOp .Or (b :: rest) pos) fb) : VE X Z (.BoolOp .Or (a :: b :: rest) pos) (fOrS fa fb) := (pe_orT ha hb).imp fun σ H Q h => by
  obtain ⟨κ, F, ρ, S, t, p⟩ := h
  refine at_bind t p fun v H1 F1 S1 x n1 t1 r1 p1 => ?_
  cases x with
  | d x =>
    cases x with
    | str z =>
      simp only at p1
      split at p1
      · rename_i hz
        rw [Rep.strv r1]
        by_cases h0 : z.length = 0
        · rw [if_pos h0] at p1
          exact ⟨false, ⟨hz, by rw [h0]; rfl⟩, by rw [if_neg (by decide)]; exact ⟨κ, F1, ρ, S1, t1, p1⟩⟩
        · rw [if_neg h0] at p1
          exact ⟨true, ⟨hz, by
            have : ((z.length : Int) != 0) = true := by simp; omega
            exact this.symm⟩, by rw [if_pos rfl]; exact p1.str t1⟩
      · exact p1.elim
    | _ => exact p1.elim
  | _ => exact p1.elim
/-! ### split -/
def dSplit (a : Str) : D → Option W
  | .str b => if (b.length == 0) = false ∧ a.length + 2 ≤ sizeLine then some (ownD ((Txt.split a b).map .str)) else none
  | _ => none
theorem ve_split {o e : Expr} {apos : Pos} (ho : VE X Z o fa) (he : VE X Z e fb) (hs : starEach [e] X.env = [(false, eval e X.env)] := by rfl) (hbase : attributeBase o "split" X.env (eval o X.env) = eval o X.env := by rfl) (hline : (apos.endLine == pos.line) = true := by rfl) : VE X Z (.Call (.Attribute o "split" apos) [e] [] pos) (fSm dSplit fa fb) :=
  (pe_split ho he hs hbase hline).imp fun σ H Q h => sm_of (fun κ F ρ S σ H z u d w Q t r e p => by
    cases d with
    | str b =>
      unfold dSplit at e
      simp only at e
      split at e
      · rename_i hz
        cases e
        rw [r.strv]
        refine ⟨z, b, rfl, rfl, hz.1, hz.2, fun q hq => p.lst t ?_ hq⟩
        exact RepAll.tx _
      · cases e
    | _ => cases e) h
end
end PD

/-! PX2: sorted(set(..)) of ints or texts. -/
namespace PD
open PySem PySem.Spec PyProof.Rows L2
/-! ### sets of ints and texts, with their tables -/
def vKey : Value → Key
  | .int i _ => .inl i
  | .str x _ => .inr x
  | _ => .inl 0
def eKey (e : Int × Value) : Key := vKey e.2
theorem is_vKey {v : Value} {k : Key} (h : keyIs k v = true) : vKey v = k := by
  rcases keyIs_shape h with ⟨i, t, rfl, rfl⟩ | ⟨x, t, rfl, rfl⟩ <;> rfl
theorem is_scan {v : Value} {k : Key} (h : keyIs k v = true) : v.scannable = true := by
  rcases keyIs_shape h with ⟨i, t, rfl, rfl⟩ | ⟨x, t, rfl, rfl⟩ <;> rfl
section
variable {P : Program} {w : World}
theorem elems_mem {l : List (Int × Value)} (g : ElemsOf (mixKind P w) l) (k : Key) : k ∈ l.map eKey ↔ ∃ e ∈ l, (mixKind P w).is k e.2 = true := by
  rw [List.mem_map]
  constructor
  · rintro ⟨e, he, q⟩
    obtain ⟨⟨k0, h1, _⟩, _⟩ := g e he
    have : k0 = k := (is_vKey h1).symm.trans q
    subst this
    exact ⟨e, he, h1⟩
  · rintro ⟨e, he, q⟩
    exact ⟨e, he, is_vKey q⟩
/-- the set at a holds just the keys ks -/
structure SetG (P : Program) (w : World) (h : Heap) (a : Addr) (ks : List Key) : Prop where
  ex : ∃ (o : Obj) (es : Array (Int × Value)) (ep : Nat) (t : SetTable), h.get? a = some o ∧ o.ExactSet ∧ o.data = .set es ep t ∧ ElemsOf (mixKind P w) es.toList ∧ (es.toList.map eKey).Nodup ∧ (∀ k, k ∈ es.toList.map eKey ↔ k ∈ ks) ∧ t.fits es.size = true ∧ Ris t.place.toList ∧
    (w.params.followText "set-order" = true ∨ t.led = true)
theorem nodup_le : ∀ {a b : List Key}, a.Nodup → (∀ x ∈ a, x ∈ b) → a.length ≤ b.length
  | [], b, _, _ => Nat.zero_le _
  | x :: a, b, ha, h => by
    obtain ⟨b1, b2, rfl⟩ := List.append_of_mem (h x List.mem_cons_self)
    obtain ⟨h1, h2⟩ := List.nodup_cons.mp ha
    have := nodup_le (b := b1 ++ b2) h2 fun y hy => by
      have hne : y ≠ x := fun e => h1 (e ▸ hy)
      have := h y (List.mem_cons_of_mem _ hy)
      simp only [List.mem_append, List.mem_cons] at this ⊢
      rcases this with z | z | z
      · exact .inl z
      · exact absurd z hne
      · exact .inr z
    simp only [List.length_append, List.length_cons] at this ⊢
    omega
theorem SetG.size {h : Heap} {a : Addr} {ks : List Key} {es : Array (Int × Value)} (nd : (es.toList.map eKey).Nodup) (m : ∀ k, k ∈ es.toList.map eKey ↔ k ∈ ks) : es.size ≤ ks.length := by
  have := nodup_le nd fun k hk => (m k).mp hk
  simpa using this
theorem SetG.at {h h' : Heap} {a : Addr} {ks : List Key} (R : SetG P w h a ks) (k : ∀ o, h.get? a = some o → h'.get? a = some o) : SetG P w h' a ks := by
  obtain ⟨o, es, ep, t, ho, r⟩ := R.ex
  exact ⟨o, es, ep, t, k o ho, r⟩
theorem setG_fresh {h : Heap} {a : Addr} (ho : h.get? a = some { cls := .type "set", dict := none, data := .set #[] 0 (.fresh 0 0 (!w.params.followText "set-order")) }) : SetG P w h a [] := by
  refine ⟨_, #[], 0, _, ho, ⟨rfl, rfl, rfl⟩, rfl, fun e he => by simp at he, by simp, fun k => by simp, by rfl, List.Pairwise.nil, ?_⟩
  cases hq : w.params.followText "set-order" with
  | true => exact .inl rfl
  | false => right; rfl
section
variable {A : Around} {E : Value → Shared → Prop} {s : Shared} {a : Addr} {ks : List Key}
theorem setG_tail {g : Bool → Sem Unit} (hg : ∀ (b : Bool) (s1 : Shared) (Q' : Unit → Shared → Prop), Q' () s1 → wpAny (model P w) A (g b) Q' E s1) {o : Obj} {es es1 : Array (Int × Value)} {ep : Nat} {t t2 : SetTable} (ho : s.heap.get? a = some o) (hx : o.ExactSet)
    (hd : o.data = .set es ep t) (g1 : ElemsOf (mixKind P w) es1.toList) (nd1 : (es1.toList.map eKey).Nodup) (m1 : ∀ k, k ∈ es1.toList.map eKey ↔ k ∈ ks) (hb1 : es1.size < scanBound) (hf2 : t2.fits es1.size = true) (hr : Ris t2.place.toList) (hl : w.params.followText "set-order" = true ∨ t2.led = true)
    {wasDummy : Bool} {R : Option Bool → Shared → Prop} (hR : ∀ h', Heap.SameBut a s.heap h' → SetG P w h' a ks → R (some true) { s with heap := h' }) :
    wpAny (model P w) A (do
      storeSet a es1 t2
      if (!wasDummy && t2.tooFull) = true then do
          g (relayAll t2 es1 (SetTable.grown es1.size)).2.2
          storeSet a (relayAll t2 es1 (SetTable.grown es1.size)).1 (relayAll t2 es1 (SetTable.grown es1.size)).2.1
          pure (some true)
        else pure (some true)) R E s := by
  refine wpAny_bind (wpAny_storeSet_of ho hd ?_ (fits_of_scanBound hb1))
  have ho1 := store_at (es' := es1) (t' := t2) ho hd
  have sb := Heap.SameBut.update s.heap a (Obj.putSet es1 t2)
  split
  · have pm := relayAll_perm t2 es1 (SetTable.grown es1.size)
    have q3 := relayAll_fits t2 es1 (SetTable.grown es1.size)
    have r3 := relayAll_ris t2 es1 (SetTable.grown es1.size)
    have l3 := relayAll_led t2 es1 (SetTable.grown es1.size)
    generalize relayAll t2 es1 (SetTable.grown es1.size) = Y at pm q3 r3 l3 ⊢
    obtain ⟨es2, t3, gave⟩ := Y
    dsimp only at pm q3 r3 l3 ⊢
    have hz : es2.size = es1.size := by
      rw [← Array.length_toList, pm.length_eq, Array.length_toList]
    refine wpAny_bind (hg _ _ _ (wpAny_bind (wpAny_storeSet_of ho1 rfl ?_ (fits_of_scanBound (by rw [hz]; exact hb1)))))
    have ho2 := store_at (es' := es2) (t' := t3) ho1 rfl
    refine wpAny_pure (hR _ (sb.trans (Heap.SameBut.update _ a _)) ⟨_, es2, _, t3, ho2, hx, rfl, g1.perm pm, (pm.map eKey).nodup_iff.mpr nd1, fun k => ?_, q3, r3, ?_⟩)
    · rw [(pm.map eKey).mem_iff]; exact m1 k
    · rw [l3]; exact hl
  · exact wpAny_pure (hR _ sb ⟨_, es1, _, t2, ho1, hx, rfl, g1, nd1, m1, hf2, hr, hl⟩)
theorem setG_add {k : Key} {v : Value} {Q : Bool → Shared → Prop} (hk : (mixKind P w).is k v = true) (R : SetG P w s.heap a ks) (room : ks.length + 1 < scanBound)
    (hQ : ∀ (b : Bool) (h' : Heap), Heap.SameBut a s.heap h' → SetG P w h' a (ks ++ [k]) → Q b { s with heap := h' }) : wpAny (model P w) A (setAddHashed a v ((mixKind P w).hash k)) Q E s := by
  obtain ⟨o, es, ep, t, ho, hx, hd, g, nd, m, hf, hr, hl⟩ := R.ex
  have hsz := SetG.size (h := s.heap) (a := a) nd m
  have hb : es.size < scanBound := by omega
  have sc := is_scan hk
  unfold setAddHashed setAddHashedIn
  refine wpAny_holding (wpAny_bind (wpAny_setState_of ho hd hf ?_))
  dsimp only
  rw [byScan_of sc hb g]
  simp only [↓reduceIte]
  unfold setAddByScan
  refine wpAny_bind (wpAny_bind (wpAny_rule (wpAny_bind (wpAny_setScan_of hk ho hd hf g ?_))))
  cases hfi : List.findIdx? (fun e => (mixKind P w).is k e.2) es.toList with
  | some j =>
    obtain ⟨hj, pj, _⟩ := List.findIdx?_eq_some_iff_getElem.mp hfi
    have hin : k ∈ ks := (m k).mp ((elems_mem g k).mpr ⟨es.toList[j], List.getElem_mem hj, pj⟩)
    exact wpAny_pure (wpAny_pure (hQ _ s.heap (Heap.SameBut.refl a s.heap) ⟨o, es, ep, t, ho, hx, hd, g, nd, fun i => by
      rw [m i, List.mem_append, List.mem_singleton]
      exact ⟨.inl, fun z => z.elim id fun e => by rw [e]; exact hin⟩, hf, hr, hl⟩))
  | none =>
    dsimp only
    have hno : k ∉ es.toList.map eKey := fun z => by
      obtain ⟨e, he, q⟩ := (elems_mem g k).mp z
      have c := List.findIdx?_eq_none_iff.mp hfi e he
      rw [q] at c; cases c
    have gave_ok : ∀ (b : Bool) {s1 : Shared} {Q' : Unit → Shared → Prop}, Q' () s1 → wpAny (model P w) A (match b with | true => rule "set.scan.the-table-gave-way" | false => pure ()) Q' E s1 :=
      fun b s1 Q' q => by cases b <;> first | exact wpAny_rule q | exact wpAny_pure q
    have pm := layNew_perm t es ((mixKind P w).hash k) v
    have q1 := layNew_fits t es ((mixKind P w).hash k) v
    have r1 := layNew_ris t es ((mixKind P w).hash k) v hr
    have l1 := layNew_led t es ((mixKind P w).hash k) v
    generalize layNew t es ((mixKind P w).hash k) v = Y at pm q1 r1 l1 ⊢
    obtain ⟨es1, t1, wasDummy, gave⟩ := Y
    dsimp only at pm q1 r1 l1 ⊢
    rw [Array.toList_push] at pm
    have pc : es1.toList.Perm (((mixKind P w).hash k, v) :: es.toList) := pm.trans (List.perm_append_singleton _ _)
    have pk : (es1.toList.map eKey).Perm (k :: es.toList.map eKey) := by
      have := pc.map eKey
      rw [List.map_cons, show eKey ((mixKind P w).hash k, v) = k from is_vKey hk] at this
      exact this
    have g1 : ElemsOf (mixKind P w) es1.toList := fun e he => by
      rcases List.mem_cons.mp (pc.mem_iff.mp he) with z | z
      · rw [z]; exact ⟨⟨k, hk, rfl⟩, sc⟩
      · exact g e z
    have nd1 := pk.nodup_iff.mpr (List.nodup_cons.mpr ⟨hno, nd⟩)
    have m1 : ∀ i, i ∈ es1.toList.map eKey ↔ i ∈ ks ++ [k] := fun i => by
      rw [pk.mem_iff, List.mem_cons, m i, List.mem_append, List.mem_singleton]
      exact Or.comm
    have hb1 : es1.size < scanBound := by
      have := pc.length_eq
      rw [Array.length_toList, List.length_cons, Array.length_toList] at this
      omega
    have led1 : w.params.followText "set-order" = true ∨ t1.led = true := by rw [l1]; exact hl
    refine wpAny_bind (gave_ok _ ?_)
    split
    · refine wpAny_bind ?_
      rw [hashByValue_scannable 8 sc]
      refine wpAny_pure (setG_tail ?_ ho hx hd g1 nd1 m1 hb1 ?_ ?_ ?_ ?_)
      · intro b s1 Q' q; cases b <;> first | exact wpAny_rule q | exact wpAny_pure q
      · first | (split; exact q1; exact SetTable.fits_plain_off q1) | (split; exact SetTable.fits_plain_off q1; exact q1) | exact q1
      · first | (split <;> exact r1) | exact r1
      · first | (split <;> exact led1) | exact led1
      · intro h' sb r; dsimp only; exact wpAny_pure (hQ _ h' sb r)
    · refine wpAny_bind (wpAny_pure ?_)
      simp only [↓reduceIte]
      refine setG_tail ?_ ho hx hd g1 nd1 m1 hb1 q1 r1 led1 ?_
      · intro b s1 Q' q; cases b <;> first | exact wpAny_rule q | exact wpAny_pure q
      · intro h' sb r; dsimp only; exact wpAny_pure (hQ _ h' sb r)
end
end
section
variable {P : Program} {w : World}
/-- the items of a walk go into the set, one by one -/
theorem setG_loop {A : Around} {I S : Addr} {fp wr : List Addr} {G : Array GenState → Array GenState → Prop} {n : Nat} {Pv : Nat → Value → Prop} {St : Nat → Shared → Prop} {R : Result → Shared → Prop} (W : WalksS P w A.in1 I fp wr G n Pv St) (nS : S ∉ fp) (ks : List Key) (hn : n = ks.length) (hb : n + 1 < scanBound)
    (hval : ∀ i v, Pv i v → ∃ k, ks[i]? = some k ∧ (mixKind P w).is k v = true) : ∀ (m i : Nat) (s : Shared), n - i = m → i ≤ n → St i s → SetG P w s.heap S (ks.take i) → (∀ s', Moved (S :: wr) G s s' → SetG P w s'.heap S ks → R (.ok (.ret .none)) s') →
      codeAny (model P w) A (.builtin "set.update.loop" ⟨[.ref S, .ref I], []⟩) R s := by
  have nW : S ∉ wr := fun h => nS (W.sub _ h)
  have more : ∀ b ∈ wr, b ∈ S :: wr := fun b h => List.mem_cons_of_mem _ h
  intro m
  induction m with
  | zero =>
    intro i s e1 e2 st hS fin
    obtain rfl : i = n := by omega
    refine codeAny_builtin PyProof.Rows.F.entry_set_update_loop ?_
    rw [Around.under_plainId PyProof.Rows.F.plain_set_update_loop _]
    refine wpAny_bind (m := pyNext (.ref I)) (W.done s _ _ st fun s1 mv => ?_)
    refine wpAny_pure (fin s1 (mv.mono more) ?_)
    rw [List.take_of_length_le (by omega)] at hS
    exact hS.at fun o e => mv.heap S o nW e
  | succ m ih =>
    intro i s e1 e2 st hS fin
    have lt : i < n := by omega
    refine codeAny_builtin PyProof.Rows.F.entry_set_update_loop ?_
    rw [Around.under_plainId PyProof.Rows.F.plain_set_update_loop _]
    refine wpAny_bind (m := pyNext (.ref I)) (W.item i s _ _ lt st fun v s1 pv st1 mv => ?_)
    obtain ⟨k, hk, is⟩ := hval i v pv
    have S1 : SetG P w s1.heap S (ks.take i) := hS.at fun o e => mv.heap S o nW e
    refine wpAny_bind (m := holding [v] (setAdd S v)) (wpAny_holding ?_)
    unfold setAdd
    refine wpAny_holding (wpAny_bind ((mixKind P w).pyHash (k := k) is ?_))
    refine setG_add (s := { s1 with toks := s1.toks + 1 }) is S1 (by rw [List.length_take]; omega) fun b h2 sb S2 => ?_
    have S3 : SetG P w h2 S (ks.take (i + 1)) := by
      rw [List.take_add_one, hk]
      exact S2
    refine wpAny_pure ⟨plainId_quiet PyProof.Rows.F.plain_set_update_loop _, ih (i + 1) _ (by omega) lt (W.frame _ s1 _ _ st1 (Nat.le_succ _) fun c hc o e => (sb.2 c fun z => nS (z ▸ hc)).trans e) S3 fun s3 mv3 S4 => ?_⟩
    exact fin s3 (Moved.trans W.gtrans ((mv.mono more).then_heap (Nat.le_succ _) fun c o hc e => (sb.2 c fun z => hc (by rw [z]; exact List.mem_cons_self)).trans e) mv3) S4
/-- a new set -/
abbrev newS (w : World) : Obj := { cls := .type "set", dict := none, data := .set #[] 0 (.fresh 0 0 (!w.params.followText "set-order")) }
/-- the filling of the new set -/
theorem setG_init {A : Around} {E : Value → Shared → Prop} {s : Shared} {l : Addr} {items : Array Value} {ks : List Key} {R : Result → Shared → Prop} (hh : A.handled = none) (hl : s.heap.IsList l items ∨ s.heap.IsTuple l items) (hz : items.size = ks.length) (hb : ks.length + 1 < scanBound)
    (hv : ∀ (i : Nat) (v : Value), items[i]? = some v → ∃ k, ks[i]? = some k ∧ (mixKind P w).is k v = true)
    (hR : ∀ (h' : Heap) (tk : Nat), SetG P w h' s.heap.objs.size ks → (∀ b o, s.heap.get? b = some o → h'.get? b = some o) → R (.ok (.ret .none)) { s with heap := h', toks := tk }) :
    wpAny (model P w) A.in1.in1 (Builtin.«set.__init__» ⟨[Value.ref s.heap.objs.size, Value.ref l], []⟩) (fun fin s' => match fin with
      | .done f => R (.ok f) s'
      | .again c => c.quiet = true ∧ codeAny (model P w) A.in1 c R s') E { s with heap := s.heap.push (newS w) } := by
  have gS : (s.heap.push (newS w)).get? s.heap.objs.size = some (newS w) := Heap.get?_push_size _ rfl
  have lS : l < s.heap.objs.size := by
    rcases hl with ⟨o, ho, _⟩ | ⟨o, ho, _⟩ <;> exact Heap.lt_size ho
  have hz1 : (s.heap.push (newS w)).objs.size = s.heap.objs.size + 1 := Heap.size_push ..
  have lI : l ≠ (s.heap.push (newS w)).objs.size := by rw [hz1]; exact Nat.ne_of_lt (Nat.lt_succ_of_lt lS)
  have nS : s.heap.objs.size ∉ [(s.heap.push (newS w)).objs.size, l] := by
    rw [hz1]
    intro z
    rcases List.mem_cons.mp z with z | z
    · exact absurd z (Nat.ne_of_lt (Nat.lt_succ_self _))
    · exact absurd (List.mem_singleton.mp z) (Nat.ne_of_gt lS)
  have hh3 : A.in1.in1.in1.handled = none := by simp [hh]
  have fresh : ∀ x : Obj, SetG P w ((s.heap.push (newS w)).push x) s.heap.objs.size (ks.take 0) := fun x => by
    have : ((s.heap.push (newS w)).push x).get? s.heap.objs.size = some (newS w) := Heap.get?_push_of_some _ gS
    rw [List.take_zero]
    exact setG_fresh this
  have old : ∀ (x : Obj) (b : Addr) (o : Obj), s.heap.get? b = some o → b ∉ [s.heap.objs.size, (s.heap.push (newS w)).objs.size] ∧ ((s.heap.push (newS w)).push x).get? b = some o := fun x b o e => by
    have hb := Heap.lt_size e
    refine ⟨fun z => ?_, Heap.get?_push_of_some _ (Heap.get?_push_of_some _ e)⟩
    rcases List.mem_cons.mp z with z | z
    · exact absurd z (Nat.ne_of_lt hb)
    · exact absurd (List.mem_singleton.mp z) (by rw [hz1]; exact Nat.ne_of_lt (Nat.lt_succ_of_lt hb))
  rcases hl with hl | hl
  · obtain ⟨ol, hol, hcl, nl, hdl⟩ := hl
    obtain ⟨ocls, odict, odata, oslots⟩ := ol
    simp only at hcl hdl
    subst hcl hdl
    have hol2 : (s.heap.push (newS w)).get? l = some { cls := .type "list", dict := odict, data := .seq items nl, slots := oslots } := Heap.get?_push_of_some _ hol
    have y1 := PySem.F.sub_list_set
    have y2 := PySem.F.sub_list_frozenset
    have y3 : (Value.type "list" == Value.type "dict") = false := by decide
    have hl1 : (s.heap.push (newS w)).IsList l items := ⟨_, hol2, rfl, nl, rfl⟩
    unfold Builtin.«set.__init__» noKeywords Builtin.Frozenset.updateFrom
    generalize hPI : pyIter = PI
    wp_walk
    subst hPI
    refine wpAny_pyIter_list (s := { s with heap := s.heap.push (newS w) }) hl1 ?_
    refine wpAny_bind (wpAny_runValue ?_)
    refine setG_loop ((Walks.list hh3 _ l lI items).toS) nS ks hz (by rw [hz]; exact hb) hv (items.size - 0) 0 _ (by omega) (Nat.zero_le _) ⟨⟨_, Heap.get?_push_size _ rfl, rfl, rfl⟩, (hl1.push _)⟩ (fresh _) ?_
    intro s1 mv hS
    obtain ⟨h1, g1, d1, t1, o1⟩ := s1
    obtain rfl : g1 = s.gens := mv.gens
    obtain rfl : d1 = s.drawn := mv.drawn
    obtain rfl : o1 = s.os := mv.os
    show wpAny _ _ _ _ _ _
    refine wpAny_pure ?_
    show wpAny _ _ (ret Value.none) _ _ _
    exact wpAny_pure (hR h1 t1 hS fun b o e => mv.heap b o (old (newS w) b o e).1 (old _ b o e).2)
  · obtain ⟨ol, hol, hcl, nl, hdl⟩ := hl
    obtain ⟨ocls, odict, odata, oslots⟩ := ol
    simp only at hcl hdl
    subst hcl hdl
    have hol2 : (s.heap.push (newS w)).get? l = some { cls := .type "tuple", dict := odict, data := .seq items nl, slots := oslots } := Heap.get?_push_of_some _ hol
    have y1 := F.sub_tuple_set
    have y2 := F.sub_tuple_frozenset
    have y3 : (Value.type "tuple" == Value.type "dict") = false := by decide
    have hl1 : (s.heap.push (newS w)).IsTuple l items := ⟨_, hol2, rfl, nl, rfl⟩
    unfold Builtin.«set.__init__» noKeywords Builtin.Frozenset.updateFrom
    generalize hPI : pyIter = PI
    wp_walk
    subst hPI
    refine wpAny_pyIter_tuple (s := { s with heap := s.heap.push (newS w) }) hl1 ?_
    refine wpAny_bind (wpAny_runValue ?_)
    refine setG_loop ((Walks.tuple hh3 _ l lI items).toS) nS ks hz (by rw [hz]; exact hb) hv (items.size - 0) 0 _ (by omega) (Nat.zero_le _) ⟨⟨_, Heap.get?_push_size _ rfl, rfl, rfl⟩, (hl1.push _)⟩ (fresh _) ?_
    intro s1 mv hS
    obtain ⟨h1, g1, d1, t1, o1⟩ := s1
    obtain rfl : g1 = s.gens := mv.gens
    obtain rfl : d1 = s.drawn := mv.drawn
    obtain rfl : o1 = s.os := mv.os
    show wpAny _ _ _ _ _ _
    refine wpAny_pure ?_
    show wpAny _ _ (ret Value.none) _ _ _
    exact wpAny_pure (hR h1 t1 hS fun b o e => mv.heap b o (old (newS w) b o e).1 (old _ b o e).2)
/-- set(xs), xs a list or a tuple of ints and texts -/
theorem setG_call {A : Around} {E : Value → Shared → Prop} {s : Shared} {l : Addr} {items : Array Value} {ks : List Key} {Q : Value → Shared → Prop} (hh : A.handled = none) (hl : s.heap.IsList l items ∨ s.heap.IsTuple l items) (hz : items.size = ks.length) (hb : ks.length + 1 < scanBound)
    (hv : ∀ (i : Nat) (v : Value), items[i]? = some v → ∃ k, ks[i]? = some k ∧ (mixKind P w).is k v = true) (h : ∀ (h' : Heap) (tk : Nat), SetG P w h' s.heap.objs.size ks → (∀ b o, s.heap.get? b = some o → h'.get? b = some o) → Q (.ref s.heap.objs.size) { s with heap := h', toks := tk }) :
    wpAny (model P w) A (call (.type "set") [.ref l]) Q E s := by
  obtain ⟨c, tl, mro⟩ := PySem.F.called_set.mro
  have made := PySem.F.called_set.made
  have sub := PySem.F.called_set.sub
  refine wpAny_call (M := model P w) (codeAny_of_tree ?_)
  show wpAny _ _ (callAny (.type "set") _) _ _ s
  refine wpAny_pure ⟨Code.quiet_builtin _ (by decide +kernel), codeAny_builtin PySem.F.entry_type_call ?_⟩
  rw [Around.under_plain (weight_type_call_type "set" [Value.ref l] []) rfl]
  have q1 := PySem.F.called_set.notType
  have q2 := PySem.F.called_set.canCreate
  have q3 := PySem.F.typeCall_set_1 (.ref l)
  repeat (any_goals (first | assumption | wp_step))
  refine codeAny_mono (code_set_led1 (Value.ref l) (E := E) (Q₁ := fun x s1 => x = .ref s.heap.objs.size ∧ s1 = { s with heap := s.heap.push (newS w) }) ⟨rfl, rfl⟩) fun r s1 hr => ?_
  cases r with
  | error e => exact hr
  | ok fl =>
    cases fl with
    | ret x =>
      obtain ⟨rfl, rfl⟩ := hr
      have gS : (s.heap.push (newS w)).get? s.heap.objs.size = some (newS w) := Heap.get?_push_size _ rfl
      have gT : Shared.TypeIs { s with heap := s.heap.push (newS w) } (.ref s.heap.objs.size) "set" := ⟨_, gS, rfl⟩
      have q4 := PySem.F.called_set.init.lookup
      have q5 := PySem.F.called_set.init.bind (.ref s.heap.objs.size)
      repeat (any_goals (first | assumption | wp_step))
      refine codeAny_mono (codeAny_call_builtin (R := wants (fun r s2 => r = .none ∧ ∃ (h2 : Heap) (tk : Nat), s2 = { s with heap := h2, toks := tk } ∧ SetG P w h2 s.heap.objs.size ks ∧ (∀ b o, s.heap.get? b = some o → h2.get? b = some o)) E) PySem.F.called_set.init.plain PySem.F.entry_set_init (check_set_init_1 gT ?_)) fun r2 s2 hr2 => ?_
      · exact setG_init hh hl hz hb hv fun h2 tk hS hk => ⟨rfl, h2, tk, rfl, hS, hk⟩
      · cases r2 with
        | error e => exact hr2
        | ok f2 =>
          cases f2 with
          | ret r =>
            obtain ⟨rfl, h2, tk, rfl, hS, hk⟩ := hr2
            repeat (any_goals (first | assumption | wp_step))
            exact h h2 tk hS hk
          | _ => exact hr2.elim
    | _ => exact hr.elim
end
end PD

/-! PX3: sorted of such a set. -/
namespace PD
open PySem PySem.Spec PyProof.Rows L2
def ddp {β : Type} [DecidableEq β] : List β → List β
  | [] => []
  | x :: xs => if x ∈ ddp xs then ddp xs else x :: ddp xs
theorem mem_ddp {β : Type} [DecidableEq β] {b : β} : ∀ {xs : List β}, b ∈ ddp xs ↔ b ∈ xs
  | [] => by simp [ddp]
  | x :: xs => by
    unfold ddp
    split
    · rename_i h
      rw [mem_ddp (xs := xs), List.mem_cons]
      exact ⟨.inr, fun z => z.elim (fun e => by rw [e]; exact mem_ddp.mp h) id⟩
    · rw [List.mem_cons, mem_ddp (xs := xs), List.mem_cons]
theorem nodup_ddp {β : Type} [DecidableEq β] : ∀ xs : List β, (ddp xs).Nodup
  | [] => by simp [ddp]
  | x :: xs => by
    unfold ddp
    split
    · exact nodup_ddp xs
    · exact List.nodup_cons.mpr ⟨‹_›, nodup_ddp xs⟩
theorem each_of {α β : Type} {R : α → β → Prop} (f : α → β) : ∀ {l : List α}, (∀ a ∈ l, R a (f a)) → PySem.W.EachIs R l (l.map f)
  | [], _ => .nil
  | a :: l, h => .cons (h a List.mem_cons_self) (each_of f fun b hb => h b (List.mem_cons_of_mem _ hb))
section
variable {P : Program} {w : World} {A : Around} {E : Value → Shared → Prop} {s : Shared} {a : Addr} {β : Type} [DecidableEq β]
/-- sorted(the set), its members told by emb, in the order of enc -/
theorem sortedG {emb : β → Key} {back : Value → β} {enc : β → PyData} {bs : List β} {Q : Value → Shared → Prop} (R : SetG P w s.heap a (bs.map emb)) (hh : A.handled = none) (hlen : bs.length + 1 < scanBound) (hback : ∀ b v, (mixKind P w).is (emb b) v = true → back v = b)
    (hread : ∀ (h : Heap) b v, (mixKind P w).is (emb b) v = true → Reads h v (enc b) []) (hal : ∀ b c, PySem.W.alike (enc b) (enc c) = true) (hno : ∀ b, enc b ≠ .none ∧ ∀ xs, enc b ≠ .tuple xs) (hd0 : ∀ b, (enc b).depth = 0) (hu : A.units + 2 < cLine) (hinj : ∀ b c, emb b = emb c → b = c)
    (anti : ∀ b c, PySem.W.dataLe false enc b c = true → PySem.W.dataLe false enc c b = true → b = c) (tra : ∀ b c d, PySem.W.dataLe false enc b c = true → PySem.W.dataLe false enc c d = true → PySem.W.dataLe false enc b d = true) (tot : ∀ b c, (PySem.W.dataLe false enc b c || PySem.W.dataLe false enc c b) = true)
    (hQ : ∀ (s' : Shared) (p : Addr) (out : Array Value) (c : Nat), (∀ b o, s.heap.get? b = some o → s'.heap.get? b = some o) → s'.gens = s.gens → s'.os = s.os → s.heap.objs.size ≤ p → s'.heap.get? p = some (seqObj "list" out c) →
      PySem.W.EachIs (fun v b => (mixKind P w).is (emb b) v = true) out.toList ((ddp bs).mergeSort (PySem.W.dataLe false enc)) → Q (.ref p) s') : wpAny (model P w) A (call (.builtin "sorted") [.ref a]) Q E s := by
  obtain ⟨o, es, ep, t, ho, hx, hd, g, nd, m, hf, hr, hl⟩ := R.ex
  have hsz := SetG.size (h := s.heap) (a := a) nd m
  have hbd : es.size < scanBound := by rw [List.length_map] at hsz; omega
  refine Calls.call_function_entry kind_sorted plain_sorted entry_sorted (args_sorted1 _) ?_
  unfold Builtin.«sorted»
  refine wpAny_bind (m := checkCount "sorted" 1 1 _) (wpAny_pure ?_)
  refine wpAny_bind (collect_set (A := A.in1) hh ⟨o, ho, hx.1, hd⟩ hf hbd hr hl fun s1 vs k1 z1 g1 o1 pm => ?_)
  -- the members, as they came
  have his : ∀ v ∈ vs, ∃ b ∈ bs, (mixKind P w).is (emb b) v = true := fun v hv => by
    obtain ⟨e, he, rfl⟩ := List.mem_map.mp (pm.mem_iff.mp hv)
    obtain ⟨⟨k, h1, _⟩, _⟩ := g e he
    have hk : k ∈ bs.map emb := (m k).mp ((elems_mem g k).mpr ⟨e, he, h1⟩)
    obtain ⟨b, hb, rfl⟩ := List.mem_map.mp hk
    exact ⟨b, hb, h1⟩
  have hb2 : ∀ v ∈ vs, (mixKind P w).is (emb (back v)) v = true := fun v hv => by
    obtain ⟨b, _, hb⟩ := his v hv
    rw [hback b v hb]; exact hb
  have eK : vs.map vKey = (vs.map back).map emb := by
    rw [List.map_map]
    exact List.map_congr_left fun v hv => is_vKey (hb2 v hv)
  have ndB : (vs.map back).Nodup := by
    have h1 : (vs.map vKey).Nodup := by
      have := pm.map vKey
      rw [List.map_map] at this
      exact this.nodup_iff.mpr nd
    rw [eK] at h1
    exact List.Pairwise.of_map emb (fun b c hne e => hne (by rw [e])) h1
  have memB : ∀ b, b ∈ vs.map back ↔ b ∈ bs := fun b => by
    constructor
    · intro h
      obtain ⟨v, hv, rfl⟩ := List.mem_map.mp h
      obtain ⟨b, hb, h2⟩ := his v hv
      rw [hback b v h2]; exact hb
    · intro h
      have h1 : emb b ∈ vs.map vKey := by
        have := pm.map vKey
        rw [List.map_map] at this
        rw [this.mem_iff]
        exact (m _).mpr (List.mem_map.mpr ⟨b, h, rfl⟩)
      rw [eK] at h1
      obtain ⟨c, hc, e⟩ := List.mem_map.mp h1
      rw [← hinj _ _ e]; exact hc
  have perm : (vs.map back).Perm (ddp bs) := (List.perm_ext_iff_of_nodup ndB (nodup_ddp bs)).mpr fun b => by rw [memB, mem_ddp]
  have sorteq : (vs.map back).mergeSort (PySem.W.dataLe false enc) = (ddp bs).mergeSort (PySem.W.dataLe false enc) :=
    List.Perm.eq_of_pairwise (fun b c _ _ => anti b c) (List.pairwise_mergeSort tra tot _) (List.pairwise_mergeSort tra tot _) ((List.mergeSort_perm _ _).trans (perm.trans (List.mergeSort_perm _ _).symm))
  have hvl : vs.length ≤ sizeLine := by
    have h1 : vs.length = es.size := by
      rw [pm.length_eq, List.length_map]
      exact Array.length_toList
    rw [h1]; exact fits_of_scanBound hbd
  refine wpAny_bind (wpAny_newList ?_ hvl)
  have hoL : (s1.heap.push (seqObj "list" vs.toArray 0)).get? s1.heap.objs.size = some (seqObj "list" vs.toArray 0) := Heap.get?_push_size _ rfl
  refine wpAny_bind (wpAny_holding (PySem.W.list_sort_data (s := { s1 with heap := s1.heap.push (seqObj "list" vs.toArray 0) }) (bs := vs.map back) (enc := enc) (R := fun v b => (mixKind P w).is (emb b) v = true) hoL (each_of back hb2) (each_of back fun v hv => ⟨[], hread _ _ _ (hb2 v hv), by simp⟩) ?_ ?_ (by rw [List.length_map]; exact hvl) ?_ fun out hol eo => ?_))
  · rintro d hd d' hd'
    obtain ⟨b, _, rfl⟩ := List.mem_map.mp hd
    obtain ⟨c, _, rfl⟩ := List.mem_map.mp hd'
    exact hal b c
  · refine .inr fun d hd => ?_
    obtain ⟨b, _, rfl⟩ := List.mem_map.mp hd
    exact hno b
  · intro b hb
    rw [hd0]
    show A.units + 1 + 1 + 0 < cLine
    exact hu
  · obtain ⟨c, hc⟩ := sortedHeap_at (vs := vs) (out := out.toArray) hoL
    refine wpAny_pure ⟨_, rfl, hQ _ s1.heap.objs.size out.toArray c (fun b u e => ?_) g1 o1 z1 hc (by rw [← sorteq]; exact eo)⟩
    have q := k1 b u e
    have lt := Heap.lt_size q
    refine (sortedHeap_old (Nat.ne_of_lt lt) (by rw [size_push']; exact Nat.lt_succ_of_lt lt)).trans ?_
    exact Heap.get?_push_of_some _ q
end
def SetGO (P : Program) (w : World) (a : Addr) (ks : List Key) : HO := .ext fun h => SetG P w h a ks
theorem setGO_new {P : Program} {w : World} {H : Hp} {h : Heap} {a : Addr} {ks : List Key} (R : SetG P w h a ks) : ObjOk P w H h a (SetGO P w a ks) := by
  have ⟨o, _, _, _, ho, _⟩ := R.ex
  exact ⟨R, ⟨o, ho⟩, fun h1 h2 p k => SetG.at p k⟩
theorem vals_keys {P : Program} {w : World} : ∀ {ks : List Key} {us : List Value}, Vals (ks.map kV) us → us.length = ks.length ∧ ∀ (i : Nat) (v : Value), us[i]? = some v → ∃ k, ks[i]? = some k ∧ (mixKind P w).is k v = true
  | [], us, h => by
    cases h
    exact ⟨rfl, fun i v e => by simp at e⟩
  | k :: ks, us, h => by
    cases h with
    | cons r t =>
      obtain ⟨h1, h2⟩ := vals_keys (P := P) (w := w) t
      refine ⟨by simp [h1], fun i v e => ?_⟩
      cases i with
      | zero =>
        cases e
        exact ⟨k, rfl, kV_is r⟩
      | succ i => exact h2 i v (by simpa using e)
def rMkSet (K : PySem.W.Frag) (P : Program) (w : World) : List V → Hp → VK → Prop := fun xs H Q => ∃ (l : Addr) (ks : List Key), xs = [.ref l] ∧ (SqL K H l (ks.map kV) ∨ SqT K H l (ks.map kV)) ∧ ks.length ≤ 1000 ∧ ∀ p, H p = none → Q (.ref p) (upd H p (SetGO P w p ks))
section
variable {X : Cx}
theorem cr_setG (hc : X.calm = true) : CallR X (.type "set") (rMkSet X.K X.prog X.w) := by
  intro pins s σ H xs us Q I r h
  obtain ⟨l, ks, rfl, hl, hn, q⟩ := h
  rw [Vals.ref1 r]
  have hp : H s.heap.objs.size = none := I.hok.fresh (Nat.le_refl _)
  have fin : ∀ (its : List Value), Vals (ks.map kV) its → (s.heap.IsList l its.toArray ∨ s.heap.IsTuple l its.toArray) → wpAny (model X.prog X.w) X.A (call (.type "set") [.ref l]) (EP X pins σ Q) X.xe s := fun its rv hl => by
    obtain ⟨h1, h2⟩ := vals_keys (P := X.prog) (w := X.w) rv
    refine setG_call (ks := ks) (I.ok.hd hc) hl (by simpa using h1) (by unfold scanBound; omega) (fun i v e => h2 i v (by simpa using e)) fun h' tk S kp => ?_
    exact ⟨.ref s.heap.objs.size, upd H s.heap.objs.size (SetGO X.prog X.w s.heap.objs.size ks), I.laid (t' := tk) kp (Nat.le_refl _) (setGO_new S), rfl, q _ hp⟩
  rcases hl with hl | hl
  · obtain ⟨its, rv, pl, hz⟩ := I.list hl
    exact fin its rv (.inl pl.isList)
  · obtain ⟨its, rv, ⟨o, ho, hc, n, hd⟩, hz⟩ := I.tuple hl
    exact fin its rv (.inr ⟨o, ho, hc, n, hd⟩)
def srtG {β : Type} [DecidableEq β] (enc : β → PyData) (bs : List β) : List β := (ddp bs).mergeSort (PySem.W.dataLe false enc)
theorem cr_sortG {β : Type} [DecidableEq β] {k : Nat} {emb : β → Key} {back : Value → β} {enc : β → PyData} (hc : X.calm = true) (hr : Room k X.A) (hback : ∀ b v, (mixKind X.prog X.w).is (emb b) v = true → back v = b)
    (hread : ∀ (h : Heap) b v, (mixKind X.prog X.w).is (emb b) v = true → Reads h v (enc b) []) (hrel : ∀ b v, (mixKind X.prog X.w).is (emb b) v = true → RelV (kV (emb b)) v) (hal : ∀ b c, PySem.W.alike (enc b) (enc c) = true) (hno : ∀ b, enc b ≠ .none ∧ ∀ xs, enc b ≠ .tuple xs) (hd0 : ∀ b, (enc b).depth = 0) (hinj : ∀ b c, emb b = emb c → b = c)
    (anti : ∀ b c, PySem.W.dataLe false enc b c = true → PySem.W.dataLe false enc c b = true → b = c) (tra : ∀ b c d, PySem.W.dataLe false enc b c = true → PySem.W.dataLe false enc c d = true → PySem.W.dataLe false enc b d = true) (tot : ∀ b c, (PySem.W.dataLe false enc b c || PySem.W.dataLe false enc c b) = true) :
    CallR X (.builtin "sorted") (fun xs H Q => ∃ (a : Addr) (bs : List β), xs = [.ref a] ∧ H a = some (SetGO X.prog X.w a (bs.map emb)) ∧ bs.length ≤ 1000 ∧ ∀ p, H p = none → Q (.ref p) (upd H p (.lst ((srtG enc bs).map fun b => kV (emb b))))) := by
  intro pins s σ H xs us Q I r h
  obtain ⟨a, bs, rfl, ha, hn, q⟩ := h
  rw [Vals.ref1 r]
  have R : SetG X.prog X.w s.heap a (bs.map emb) := (I.hok a _ ha).1
  have hu := hr.units
  refine sortedG R (I.ok.hd hc) (by unfold scanBound; omega) hback hread hal hno hd0 (by omega) hinj anti tra tot fun s' p out c kp g o hp hg eo => ?_
  have hpn : H p = none := I.hok.fresh hp
  have hl : out.toList.length = (srtG enc bs).length := eo.length
  have hle : (srtG enc bs).length ≤ bs.length := by
    unfold srtG
    rw [List.length_mergeSort]
    have : ∀ l : List β, (ddp l).length ≤ l.length := by
      intro l
      induction l with
      | nil => exact Nat.le_refl _
      | cons x l ih =>
        unfold ddp
        split
        · simp; omega
        · simp; omega
    exact this bs
  have rv : Vals ((srtG enc bs).map fun b => kV (emb b)) out.toList := by
    have : ∀ {vs : List Value} {cs : List β}, PySem.W.EachIs (fun v b => (mixKind X.prog X.w).is (emb b) v = true) vs cs → Vals (cs.map fun b => kV (emb b)) vs := by
      intro vs cs h
      induction h with
      | nil => exact .nil
      | cons h1 _ ih => exact .cons (hrel _ _ h1) ih
    exact this eo
  have J : Inv X pins σ (upd H p (.lst ((srtG enc bs).map fun b => kV (emb b)))) { s with heap := s'.heap, gens := s'.gens, drawn := s'.drawn, toks := s'.toks } :=
    I.call (ch := []) (Un.laid kp hp hpn) (I.hok.laid kp hp ⟨by rw [List.length_map, sizeLine_eq]; omega, out.toList, c, rv, hg⟩) (by rw [g]; exact I.bare) (fun _ z => nomatch z)
  have e : s' = { s with heap := s'.heap, gens := s'.gens, drawn := s'.drawn, toks := s'.toks } := by
    cases s'
    cases s
    cases o
    rfl
  rw [e]
  exact ⟨.ref p, _, J, rfl, q p hpn⟩
end
theorem RepAll.of_map {K : PySem.W.Frag} {F : Hp} {α : Type} (f : α → V) (g : α → D) : ∀ (l : List α), (∀ a, Rep K F (f a) (g a)) → RepAll K F (l.map f) (l.map g)
  | [], _ => .nil
  | a :: l, h => .cons (h a) (RepAll.of_map f g l h)
/-! ### sorted(set(..)) of texts, of ints -/
def bkS : Value → Str
  | .str x _ => x
  | _ => ""
def bkI : Value → Int
  | .int i _ => i
  | _ => 0
theorem leS (a b : Str) : PySem.W.dataLe false PyData.str a b = decide (a.cps.toList ≤ b.cps.toList) := congrFun (congrFun (PySem.W.dataLe_str fun z : Str => z) a) b
theorem leI (a b : Int) : PySem.W.dataLe false PyData.int a b = decide (a ≤ b) := congrFun (congrFun (PySem.W.dataLe_int fun z : Int => z) a) b
theorem str_ext {a b : Str} (h : a.cps.toList = b.cps.toList) : a = b := by
  cases a; cases b
  simp only [Str.mk.injEq]
  exact Array.toList_inj.mp h
section
variable {X : Cx}
theorem cr_sortS {k : Nat} (hc : X.calm = true) (hr : Room k X.A) : CallR X (.builtin "sorted") (fun xs H Q => ∃ (a : Addr) (bs : List Str), xs = [.ref a] ∧ H a = some (SetGO X.prog X.w a (bs.map Sum.inr)) ∧ bs.length ≤ 1000 ∧ ∀ p, H p = none → Q (.ref p) (upd H p (.lst ((srtG PyData.str bs).map fun b => kV (.inr b))))) := by
  refine cr_sortG (emb := Sum.inr) (back := bkS) (enc := PyData.str) hc hr (fun b v h => ?_) (fun h b v hb => ?_) (fun b v h => ?_) (fun b c => rfl) (fun b => ⟨by simp, by simp⟩) (fun b => by simp [PyData.depth]) (fun b c e => by simpa using e) (fun b c h1 h2 => ?_) (fun b c d h1 h2 => ?_) fun b c => ?_
  · rcases keyIs_shape (show keyIs (Sum.inr b) v = true from h) with ⟨i, t, e, rfl⟩ | ⟨x, t, e, rfl⟩
    · cases e
    · cases e; rfl
  · rcases keyIs_shape (show keyIs (Sum.inr b) v = true from hb) with ⟨i, t, e, rfl⟩ | ⟨x, t, e, rfl⟩
    · cases e
    · cases e; exact .str _ _
  · rcases keyIs_shape (show keyIs (Sum.inr b) v = true from h) with ⟨i, t, e, rfl⟩ | ⟨x, t, e, rfl⟩
    · cases e
    · cases e; exact ⟨_, rfl⟩
  · rw [leS, decide_eq_true_iff] at h1 h2
    exact str_ext (List.le_antisymm h1 h2)
  · rw [leS, decide_eq_true_iff] at *
    exact List.le_trans h1 h2
  · rw [leS, leS]
    rcases List.le_total b.cps.toList c.cps.toList with h | h <;> simp [h]
theorem cr_sortI {k : Nat} (hc : X.calm = true) (hr : Room k X.A) : CallR X (.builtin "sorted") (fun xs H Q => ∃ (a : Addr) (bs : List Int), xs = [.ref a] ∧ H a = some (SetGO X.prog X.w a (bs.map Sum.inl)) ∧ bs.length ≤ 1000 ∧ ∀ p, H p = none → Q (.ref p) (upd H p (.lst ((srtG PyData.int bs).map fun b => kV (.inl b))))) := by
  refine cr_sortG (emb := Sum.inl) (back := bkI) (enc := PyData.int) hc hr (fun b v h => ?_) (fun h b v hb => ?_) (fun b v h => ?_) (fun b c => rfl) (fun b => ⟨by simp, by simp⟩) (fun b => by simp [PyData.depth]) (fun b c e => by simpa using e) (fun b c h1 h2 => ?_) (fun b c d h1 h2 => ?_) fun b c => ?_
  · rcases keyIs_shape (show keyIs (Sum.inl b) v = true from h) with ⟨i, t, e, rfl⟩ | ⟨x, t, e, rfl⟩
    · cases e; rfl
    · cases e
  · rcases keyIs_shape (show keyIs (Sum.inl b) v = true from hb) with ⟨i, t, e, rfl⟩ | ⟨x, t, e, rfl⟩
    · cases e; exact .int _ _
    · cases e
  · rcases keyIs_shape (show keyIs (Sum.inl b) v = true from h) with ⟨i, t, e, rfl⟩ | ⟨x, t, e, rfl⟩
    · cases e; exact ⟨_, rfl⟩
    · cases e
  · rw [leI, decide_eq_true_iff] at h1 h2
    omega
  · rw [leI, decide_eq_true_iff] at *
    omega
  · rw [leI, leI]
    rcases Int.le_total b c with h | h <;> simp [h]
end
def rSortSI (P : Program) (w : World) : List V → Hp → VK → Prop := fun xs H Q => (∃ (a : Addr) (bs : List Str), xs = [.ref a] ∧ H a = some (SetGO P w a (bs.map Sum.inr)) ∧ bs.length ≤ 1000 ∧ ∀ p, H p = none → Q (.ref p) (upd H p (.lst ((srtG PyData.str bs).map fun b => kV (.inr b))))) ∨
  ∃ (a : Addr) (bs : List Int), xs = [.ref a] ∧ H a = some (SetGO P w a (bs.map Sum.inl)) ∧ bs.length ≤ 1000 ∧ ∀ p, H p = none → Q (.ref p) (upd H p (.lst ((srtG PyData.int bs).map fun b => kV (.inl b))))
theorem cr_sortSI {X : Cx} {k : Nat} (hc : X.calm = true) (hr : Room k X.A) : CallR X (.builtin "sorted") (rSortSI X.prog X.w) := (cr_sortS hc hr).or (cr_sortI hc hr)
def sortSetD (ds : List D) : Option W := match strsOf ds with
  | some zs => if zs.length ≤ 1000 then some (ownD ((srtG PyData.str zs).map .str)) else none
  | none => match intsOf ds with
    | some ns => if ns.length ≤ 1000 then some (ownD ((srtG PyData.int ns).map .int)) else none
    | none => none
def dSortSet : D → Option W
  | .list ds => sortSetD ds
  | .tuple ds => sortSetD ds
  | _ => none
section
variable {X : Cx} {Z : WX} {e : Expr} {f : Fe} {p p2 q pos : Pos}
theorem ve_sortSet {k : Nat} (hr : Room k X.A) (hm : X.mg "sorted" = none) (hm2 : X.mg "set" = none) (ha : VE X Z e f) (hc : X.calm = true := by rfl) (hx : Gl X "sorted" := by rfl) (hx2 : Gl X "set" := by rfl) (he : starEach [e] X.env = (false, eval e X.env) :: starEach [] X.env := by rfl)
    (he2 : starEach [.Call (.Name "set" p2) [e] [] q] X.env = (false, eval (.Call (.Name "set" p2) [e] [] q) X.env) :: starEach [] X.env := by rfl) : VE X Z (.Call (.Name "sorted" p) [.Call (.Name "set" p2) [e] [] q] [] pos) (fUn (onD1 dSortSet) f) := by
  have inner := pe_callTy (p := p2) (pos := q) (cr_setG hc) hx2 hm2 (by decide +kernel) (va_cons ha va_nil he) (by decide) (by decide) he (by rfl)
  have outer := pe_callB (p := p) (pos := pos) (cr_sortSI hc hr) hx hm (by decide +kernel) (pa_cons inner pa_nil he2) (by decide) (by decide) he2 (by rfl)
  refine outer.imp fun σ H Q h => ?_
  obtain ⟨κ, F, ρ, S, t, po⟩ := h
  refine at_bind t po fun v H1 F1 S1 x n1 t1 r1 p1 => ?_
  have fin : ∀ (l : Addr) (vs : List V) (ds : List D), v = .ref l → (SqL X.K H1 l vs ∨ SqT X.K H1 l vs) → RepAll X.K F1 vs ds → Post X.K X.mg Z κ F1 H1 σ (match sortSetD ds with | some w => .ok w S1 | none => .stuck) Q → rMkSet X.K X.prog X.w [v] H1 fun v2 H2 => rSortSI X.prog X.w [v2] H2 Q := by
    intro l vs ds ev hs rr hp
    subst ev
    unfold sortSetD at hp
    cases qs : strsOf ds with
    | some zs =>
      rw [qs] at hp
      simp only at hp
      by_cases hz : zs.length ≤ 1000
      · rw [if_pos hz] at hp
        have ev := rr.strs qs
        have ek : (zs.map Sum.inr).map kV = vs := by rw [ev, List.map_map]; rfl
        refine ⟨l, zs.map Sum.inr, rfl, by rw [ek]; exact hs, by rw [List.length_map]; exact hz, fun p hpn => ?_⟩
        have n0 : Nxt κ F1 H1 F1 (upd H1 p (SetGO X.prog X.w p (zs.map Sum.inr))) := Nxt.newH t1.fh hpn
        have c0 := t1.cel.newH (o := SetGO X.prog X.w p (zs.map Sum.inr)) t1.fh hpn
        refine .inl ⟨p, zs, rfl, upd_same, hz, fun p2 hp2 => ?_⟩
        refine (hp.up n0).lst (t1.nxt n0 c0) ?_ hp2
        exact RepAll.of_map _ _ _ fun z => .str z
      · rw [if_neg hz] at hp; exact hp.elim
    | none =>
      rw [qs] at hp
      simp only at hp
      cases qi : intsOf ds with
      | none => rw [qi] at hp; exact hp.elim
      | some ns =>
        rw [qi] at hp
        simp only at hp
        by_cases hz : ns.length ≤ 1000
        · rw [if_pos hz] at hp
          have ev := rr.ints qi
          have ek : (ns.map Sum.inl).map kV = vs := by rw [ev, List.map_map]; rfl
          refine ⟨l, ns.map Sum.inl, rfl, by rw [ek]; exact hs, by rw [List.length_map]; exact hz, fun p hpn => ?_⟩
          have n0 : Nxt κ F1 H1 F1 (upd H1 p (SetGO X.prog X.w p (ns.map Sum.inl))) := Nxt.newH t1.fh hpn
          have c0 := t1.cel.newH (o := SetGO X.prog X.w p (ns.map Sum.inl)) t1.fh hpn
          refine .inr ⟨p, ns, rfl, upd_same, hz, fun p2 hp2 => ?_⟩
          refine (hp.up n0).lst (t1.nxt n0 c0) ?_ hp2
          exact RepAll.of_map _ _ _ fun z => .int z
        · rw [if_neg hz] at hp; exact hp.elim
  cases x with
  | d x =>
    cases x with
    | list ds =>
      obtain ⟨l, vs, rfl, h1, h2⟩ := Rep.lstv r1
      exact fin l vs ds rfl (.inl (.of (t1.fh _ _ h1))) h2 p1
    | tuple ds =>
      obtain ⟨l, vs, rfl, h1, h2⟩ := Rep.tupv r1
      exact fin l vs ds rfl (.inr (Same.seqT t1.fh h1)) h2 p1
    | _ => exact p1.elim
  | _ => exact p1.elim
end
/-! ### len(set(..)) -/
theorem ddp_nodup {β : Type} [DecidableEq β] : ∀ l : List β, (ddp l).Nodup
  | [] => List.nodup_nil
  | x :: l => by
    have ih := ddp_nodup l
    unfold ddp
    split
    · exact ih
    · rename_i h
      exact List.nodup_cons.mpr ⟨h, ih⟩
theorem ddp_map {α β : Type} [DecidableEq α] [DecidableEq β] {f : α → β} (inj : ∀ x y, f x = f y → x = y) : ∀ l : List α, ddp (l.map f) = (ddp l).map f
  | [] => rfl
  | x :: l => by
    have ih := ddp_map inj l
    rw [List.map_cons]
    unfold ddp
    rw [ih]
    have : (f x ∈ (ddp l).map f) ↔ x ∈ ddp l := ⟨fun h => by
      obtain ⟨y, hy, e⟩ := List.mem_map.mp h
      exact inj _ _ e ▸ hy, fun h => List.mem_map.mpr ⟨x, h, rfl⟩⟩
    by_cases h : x ∈ ddp l
    · rw [if_pos h, if_pos (this.mpr h)]
    · rw [if_neg h, if_neg (fun z => h (this.mp z))]
      rfl
section
variable {X : Cx}
theorem cr_lenG : CallR X (.builtin "len") (fun xs H Q => ∃ (a : Addr) (ks : List Key), xs = [.ref a] ∧ H a = some (SetGO X.prog X.w a ks) ∧ ks.length ≤ 1000 ∧ Q (.int ((ddp ks).length : Nat)) H) := by
  intro pins s σ H xs us Q I r h
  obtain ⟨a, ks, rfl, ha, hn, q⟩ := h
  rw [Vals.ref1 r]
  have R : SetG X.prog X.w s.heap a ks := (I.hok a _ ha).1
  obtain ⟨o, es, ep, t, ho, hex, hd, _, nd, m, hf, _⟩ := R.ex
  have h1 := nodup_le nd fun k hk => mem_ddp.mpr ((m k).mp hk)
  have h2 := nodup_le (ddp_nodup ks) fun k hk => (m k).mpr (mem_ddp.mp hk)
  have h3 : (ddp ks).length ≤ ks.length := nodup_le (ddp_nodup ks) fun k hk => mem_ddp.mp hk
  have e1 : (es.toList.map eKey).length = es.size := by simp
  rw [e1] at h1 h2
  have hsz : es.size = (ddp ks).length := by omega
  refine call_len_set ho hex hd hf (by omega) ⟨.int ((ddp ks).length : Nat), H, I.tok _, ⟨_, by rw [hsz]⟩, q⟩
end
def lenSetD (ds : List D) : Option W := match strsOf ds with
  | some zs => if zs.length ≤ 1000 then some (iD (ddp zs).length) else none
  | none => match intsOf ds with
    | some ns => if ns.length ≤ 1000 then some (iD (ddp ns).length) else none
    | none => none
def dLenSet : D → Option W
  | .list ds => lenSetD ds
  | .tuple ds => lenSetD ds
  | _ => none
section
variable {X : Cx} {Z : WX} {e : Expr} {f : Fe} {p p2 q pos : Pos}
theorem ve_lenSet (hx : Gl X "len") (hm : X.mg "len" = none) (hx2 : Gl X "set") (hm2 : X.mg "set" = none) (ha : VE X Z e f) (hc : X.calm = true := by rfl) (he : starEach [e] X.env = (false, eval e X.env) :: starEach [] X.env := by rfl)
    (he2 : starEach [.Call (.Name "set" p2) [e] [] q] X.env = (false, eval (.Call (.Name "set" p2) [e] [] q) X.env) :: starEach [] X.env := by rfl) : VE X Z (.Call (.Name "len" p) [.Call (.Name "set" p2) [e] [] q] [] pos) (fUn (onD1 dLenSet) f) := by
  have inner := pe_callTy (p := p2) (pos := q) (cr_setG hc) hx2 hm2 (by decide +kernel) (va_cons ha va_nil he) (by decide) (by decide) he (by rfl)
  have outer := pe_callB (p := p) (pos := pos) cr_lenG hx hm (by decide +kernel) (pa_cons inner pa_nil he2) (by decide) (by decide) he2 (by rfl)
  refine outer.imp fun σ H Q h => ?_
  obtain ⟨κ, F, ρ, S, t, po⟩ := h
  refine at_bind t po fun v H1 F1 S1 x n1 t1 r1 p1 => ?_
  have fin : ∀ (l : Addr) (vs : List V) (ds : List D), v = .ref l → (SqL X.K H1 l vs ∨ SqT X.K H1 l vs) → RepAll X.K F1 vs ds → Post X.K X.mg Z κ F1 H1 σ (match lenSetD ds with | some w => .ok w S1 | none => .stuck) Q → rMkSet X.K X.prog X.w [v] H1 fun v2 H2 => ∃ (a : Addr) (ks : List Key), [v2] = [.ref a] ∧ H2 a = some (SetGO X.prog X.w a ks) ∧ ks.length ≤ 1000 ∧ Q (.int ((ddp ks).length : Nat)) H2 := by
    intro l vs ds ev hs rr hp
    subst ev
    unfold lenSetD at hp
    cases qs : strsOf ds with
    | some zs =>
      rw [qs] at hp
      simp only at hp
      by_cases hz : zs.length ≤ 1000
      · rw [if_pos hz] at hp
        have ev := rr.strs qs
        have ek : (zs.map Sum.inr).map kV = vs := by rw [ev, List.map_map]; rfl
        refine ⟨l, zs.map Sum.inr, rfl, by rw [ek]; exact hs, by rw [List.length_map]; exact hz, fun p hpn => ?_⟩
        have n0 : Nxt κ F1 H1 F1 (upd H1 p (SetGO X.prog X.w p (zs.map Sum.inr))) := Nxt.newH t1.fh hpn
        have c0 := t1.cel.newH (o := SetGO X.prog X.w p (zs.map Sum.inr)) t1.fh hpn
        refine ⟨p, _, rfl, upd_same, by rw [List.length_map]; exact hz, ?_⟩
        rw [ddp_map (fun x y e => by simpa using e), List.length_map]
        exact (hp.up n0).int (t1.nxt n0 c0)
      · rw [if_neg hz] at hp; exact hp.elim
    | none =>
      rw [qs] at hp
      simp only at hp
      cases qi : intsOf ds with
      | none => rw [qi] at hp; exact hp.elim
      | some ns =>
        rw [qi] at hp
        simp only at hp
        by_cases hz : ns.length ≤ 1000
        · rw [if_pos hz] at hp
          have ev := rr.ints qi
          have ek : (ns.map Sum.inl).map kV = vs := by rw [ev, List.map_map]; rfl
          refine ⟨l, ns.map Sum.inl, rfl, by rw [ek]; exact hs, by rw [List.length_map]; exact hz, fun p hpn => ?_⟩
          have n0 : Nxt κ F1 H1 F1 (upd H1 p (SetGO X.prog X.w p (ns.map Sum.inl))) := Nxt.newH t1.fh hpn
          have c0 := t1.cel.newH (o := SetGO X.prog X.w p (ns.map Sum.inl)) t1.fh hpn
          refine ⟨p, _, rfl, upd_same, by rw [List.length_map]; exact hz, ?_⟩
          rw [ddp_map (fun x y e => by simpa using e), List.length_map]
          exact (hp.up n0).int (t1.nxt n0 c0)
        · rw [if_neg hz] at hp; exact hp.elim
  cases x with
  | d x =>
    cases x with
    | list ds =>
      obtain ⟨l, vs, rfl, h1, h2⟩ := Rep.lstv r1
      exact fin l vs ds rfl (.inl (.of (t1.fh _ _ h1))) h2 p1
    | tuple ds =>
      obtain ⟨l, vs, rfl, h1, h2⟩ := Rep.tupv r1
      exact fin l vs ds rfl (.inr (Same.seqT t1.fh h1)) h2 p1
    | _ => exact p1.elim
  | _ => exact p1.elim
end
end PD

/-! PE2: helpers of the mirrors; the combinators, applied. -/
namespace PD
open PySem PySem.Spec PyProof.Rows L2
theorem in_sign (a : Option Bool) (b : Bool) : inD (.str (tS [sgO a])) [.str (Str.ofString "-"), .str (tS [sg b])] = (a == none || a == some b) := by
  cases a with
  | none => cases b <;> decide
  | some a => cases a <;> cases b <;> decide
theorem in_sign2 (a b : Option Bool) : inD (.str (tS [sgO b])) [.str (Str.ofString "-"), .str (tS [sgO a])] = (b == none || b == a) := by
  cases a with
  | none => cases b with
    | none => decide
    | some b => cases b <;> decide
  | some a => cases b with
    | none => cases a <;> decide
    | some b => cases a <;> cases b <;> decide
theorem signs_is : (Str.ofString "01-") = tS [48, 49, 45] := by decide
theorem rawM_len : ∀ (n : Nat) (t : Tm), t ∈ rawM n → t.length = n
  | 0, t, h => by
    have : t = [] := by simpa [rawM] using h
    subst this; rfl
  | n + 1, t, h => by
    unfold rawM putM at h
    obtain ⟨u, hu, ht⟩ := List.mem_flatMap.mp h
    have := rawM_len n u hu
    simp at ht
    rcases ht with rfl | rfl | rfl <;> simp [this]
theorem rawM_cnt : ∀ n : Nat, (rawM n).length = 3 ^ n
  | 0 => rfl
  | n + 1 => by
    unfold rawM putM
    rw [List.length_flatMap]
    simp only [List.length_cons, List.length_nil]
    rw [List.map_const', List.sum_replicate_nat, rawM_cnt n, Nat.pow_succ]
theorem ne0 (a : Option Bool) (S : Cs) : onD dNe (.d (aO a)) (.d (.int 0)) S = .ok (bD (a != some false)) S := by
  rw [o_ne _ (eqOk_flat (flat_aO a) rfl)]
  cases a with
  | none => rfl
  | some b => cases b <;> rfl
theorem eq0 (a : Option Bool) (S : Cs) : onD dEq (.d (aO a)) (.d (.int 0)) S = .ok (bD (a == some false)) S := by
  rw [o_eq _ (eqOk_flat (flat_aO a) rfl)]
  cases a with
  | none => rfl
  | some b => cases b <;> rfl
theorem pts_lt {t : Tm} {p : Nat} (h : p ∈ ptsM t) : p < 2 ^ t.length := List.mem_range.mp (List.mem_filter.mp h).1
def pow2 (n : Nat) : Nat := 2 ^ n
theorem kv_at {n : Nat} (h1 : 1 ≤ n) (h4 : n ≤ 4) : List.lookup ((2 ^ n : Nat) : Int) [((2 : Int), (1 : Int)), (4, 2), (8, 3), (16, 4)] = some (n : Int) := by
  have : n = 1 ∨ n = 2 ∨ n = 3 ∨ n = 4 := by omega
  rcases this with rfl | rfl | rfl | rfl <;> rfl
/-- functions together -/
structure Tog (n : Nat) (fs : List Fn) : Prop where
  n1 : 1 ≤ n
  n3 : n ≤ 3
  l2 : 2 ≤ fs.length
  l3 : fs.length ≤ 3
  ln : ∀ f ∈ fs, f.length = 2 ^ n
theorem Tog.first {n : Nat} {fs : List Fn} (h : Tog n fs) : ∃ f0, fs[0]? = some f0 ∧ f0.length = 2 ^ n := by
  have := h.l2
  have h0 : 0 < fs.length := by omega
  exact ⟨fs[0], List.getElem?_eq_getElem h0, h.ln _ (List.getElem_mem h0)⟩
def gfM (fs : List Fn) (t : Tm) : List Nat := (fs.zipIdx.filter fun q => koM q.1 t).map (·.2)
def eN (l : List Nat) : D := .list (l.map fun (i : Nat) => PyData.int i)
theorem enumD_map {α : Type} (f : α → D) (l : List α) : enumD (l.map f) = l.zipIdx.map fun q => .tuple [.int (q.2 : Nat), f q.1] := by
  unfold enumD
  rw [List.zipIdx_map, List.map_map]
  rfl
abbrev Pr := Tm × List Nat
def eP (q : Pr) : D := .tuple [eT q.1, eN q.2]
def loM (n : Nat) (fs : List Fn) : List Pr := (Tms n).map fun t => (t, gfM fs t)
def goodsM (n : Nat) (fs : List Fn) : List Pr := (loM n fs).filter fun q => !q.2.isEmpty
theorem okN (l : List Nat) (k : Nat) : okD (k + 1) (eN l) := okD.lst fun i _ => okD.int k _
theorem ne_nil (l : List Nat) (S : Cs) : onD dNe (.d (eN l)) (.d (.list [])) S = .ok (bD (!l.isEmpty)) S := by
  rw [o_ne _ (eqOk_sh (okN l 0).sh (show SeqAt.shaped (.list []) = true from by decide))]
  cases l <;> rfl
theorem eq_nil (l : List Nat) (S : Cs) : onD dEq (.d (eN l)) (.d (.list [])) S = .ok (bD l.isEmpty) S := by
  rw [o_eq _ (eqOk_sh (okN l 0).sh (show SeqAt.shaped (.list []) = true from by decide))]
  cases l <;> rfl
theorem ne_T (a b : Tm) (S : Cs) : onD dNe (.d (eT a)) (.d (eT b)) S = .ok (bD (a != b)) S := by
  rw [o_ne _ (eqOk_flat rfl rfl)]
  have h := eqv_plain (eT a) (eT b) (plain_eT a) (plain_eT b)
  rw [eT_inj] at h
  have e : PyData.eqv (eT a) (eT b) = (a == b) := by
    by_cases hab : a = b
    · subst hab; rw [h.mpr rfl]; simp
    · rw [beq_false_of_ne hab]
      exact Bool.eq_false_iff.mpr fun z => hab (h.mp z)
  rw [e]
  rfl
theorem flatN (l : List Nat) : flatAll (l.map fun (i : Nat) => PyData.int i) = true := by
  unfold flatAll
  simp [flatD]
theorem inD_N (i : Nat) (l : List Nat) : inD (.int (i : Nat)) (l.map fun (j : Nat) => PyData.int j) = l.contains i := by
  unfold inD
  rw [List.any_map]
  induction l with
  | nil => rfl
  | cons x l ih =>
    rw [List.any_cons, List.contains_cons, ih]
    congr 1
    show ((x : Int) == (i : Int)) = (i == x)
    by_cases hx : x = i
    · subst hx; simp
    · have : ¬ (x : Int) = (i : Int) := by omega
      rw [beq_false_of_ne this, beq_false_of_ne (fun z => hx z.symm)]
theorem in_N (i : Nat) (l : List Nat) (S : Cs) : onD dIn (.d (.int (i : Nat))) (.d (eN l)) S = .ok (bD (l.contains i)) S := by
  unfold eN
  rw [o_in_lst _ rfl (flatN l), inD_N]
theorem nin_N (i : Nat) (l : List Nat) (S : Cs) : onD dNotIn (.d (.int (i : Nat))) (.d (eN l)) S = .ok (bD (!l.contains i)) S := by
  unfold eN
  rw [o_nin_lst _ rfl (flatN l), inD_N]
def widM (q r : Pr) : Bool := (r.1 != q.1) && (liesM q.1 r.1 && q.2.all fun i => r.2.contains i)
def isBroadM (q : Pr) (qs : List Pr) : Bool := !qs.any (widM q)
def brM (n : Nat) (fs : List Fn) : List Pr := (goodsM n fs).filter fun q => isBroadM q (goodsM n fs)
theorem loM_len {n : Nat} {fs : List Fn} {q : Pr} (h : q ∈ loM n fs) : q.1.length = n := by
  obtain ⟨t, ht, rfl⟩ := List.mem_map.mp h
  exact Tms_len ht
theorem goodsM_len {n : Nat} {fs : List Fn} {q : Pr} (h : q ∈ goodsM n fs) : q.1.length = n := loM_len (List.mem_filter.mp h).1
theorem sgO_ne (a b : Option Bool) (S : Cs) : onD dNe (.d (.str (tS [sgO a]))) (.d (.str (tS [sgO b]))) S = .ok (bD (a != b)) S := ne_T [a] [b] S |>.trans (by congr 2; simp [bne])
def lawT (ts : List Tm) : List Tm := ts.flatMap fun t => [t ++ [none], t ++ [some false], t ++ [some true]]
theorem Tms_cnt : ∀ n : Nat, (Tms n).length = 3 ^ n
  | 0 => rfl
  | n + 1 => by
    unfold Tms
    rw [List.length_flatMap]
    simp only [List.length_cons, List.length_nil]
    rw [List.map_const', List.sum_replicate_nat, Tms_cnt n, Nat.pow_succ]
theorem add_c (t : Tm) (c : Nat) (ht : t.length ≤ 100) (S : Cs) : onD dAdd (.d (eT t)) (.d (.str (tS [c]))) S = .ok (sD (tS (t.map sgO ++ [c]))) S := o_add_txt _ _ _ (by rw [List.length_map]; simp; omega)
def fndW : Nat → W
  | 0 => ownD ((Tms 0).map eT)
  | k + 1 => .a (.d (.list ((Tms (k + 1)).map eT)))
mutual
def sameOk : Nat → D → Prop
  | 0, _ => False
  | n + 1, .list ds => ds.length ≤ 100000 ∧ sameOks n ds
  | n + 1, .tuple ds => ds.length ≤ 100000 ∧ sameOks n ds
  | _ + 1, .dict _ => False
  | _ + 1, _ => True
def sameOks : Nat → List D → Prop
  | _, [] => True
  | n, d :: ds => sameOk n d ∧ sameOks n ds
end
theorem sameOks_all : ∀ {n : Nat} {ds : List D}, (∀ d ∈ ds, sameOk n d) → sameOks n ds
  | _, [], _ => by unfold sameOks; trivial
  | n, d :: ds, h => by
    unfold sameOks
    exact ⟨h d List.mem_cons_self, sameOks_all fun e he => h e (List.mem_cons_of_mem _ he)⟩
theorem sameOks_mem : ∀ {n : Nat} {ds : List D}, sameOks n ds → ∀ d ∈ ds, sameOk n d
  | _, [], _, _, h => by simp at h
  | n, d :: ds, h, e, he => by
    unfold sameOks at h
    rcases List.mem_cons.mp he with rfl | he
    · exact h.1
    · exact sameOks_mem h.2 e he
theorem eqv_self : ∀ (d : D), flatD d = true → PyData.eqv d d = true
  | .none, _ => rfl
  | .bool b, _ => by simp [PyData.eqv]
  | .int i, _ => by simp [PyData.eqv]
  | .str i, _ => by simp [PyData.eqv]
theorem same_bool (b : Bool) (S : Cs) : onD dEq (.d (.bool b)) (.d (.bool b)) S = .ok (bD true) S := by
  rw [o_eq _ (eqOk_flat rfl rfl), eqv_self _ rfl]
theorem ne_bool (b : Bool) (S : Cs) : onD dNe (.d (.bool b)) (.d (.bool b)) S = .ok (bD false) S := by
  rw [o_ne _ (eqOk_flat rfl rfl), eqv_self _ rfl]; rfl
theorem ne_int (b : Int) (S : Cs) : onD dNe (.d (.int b)) (.d (.int b)) S = .ok (bD false) S := by
  rw [o_ne _ (eqOk_flat rfl rfl), eqv_self _ rfl]; rfl
/-- the drawing's state -/
def St (S : Cs) : Prop := ∃ (z : Int) (b : Bool), S = [[.int z, .bool b]] ∧ 0 ≤ z ∧ (b = false → z < 2147483647)
theorem St.flat {S : Cs} (h : St S) : flatCs S = true := by
  obtain ⟨z, b, rfl, _⟩ := h
  rfl
theorem pick {l : List Int} {r : Nat} (h : r < l.length) (S : Cs) : dIx (.d (.list (l.map PyData.int))) (.d (.int r)) S = .ok (iD l[r]) S := o_ix_lst PyData.int (List.getElem?_eq_getElem h) S
theorem wid_eq (q r : Pr) : ((r.1 != q.1) && (liesM q.1 r.1 && (q.2.filter fun i => !r.2.contains i).isEmpty)) = widM q r := by
  unfold widM
  congr 2
  refine bool_ext ?_
  rw [List.isEmpty_iff, List.filter_eq_nil_iff, List.all_eq_true]
  simp
def lbM (n : Nat) (fs : List Fn) : List Tm := ((loM n fs).filter fun q => !q.2.isEmpty && (((loM n fs).filter (widM q)).map (·.1)).isEmpty).map (·.1)
theorem lb_eq (n : Nat) (fs : List Fn) : lbM n fs = (brM n fs).map (·.1) := by
  unfold lbM brM goodsM
  rw [List.filter_filter]
  congr 1
  refine List.filter_congr fun q hq => ?_
  cases he : q.2.isEmpty with
  | true => simp [he]
  | false =>
    simp only [Bool.not_false, Bool.true_and, Bool.and_true, isBroadM]
    refine bool_ext ?_
    rw [List.isEmpty_iff, List.map_eq_nil_iff, List.filter_eq_nil_iff]
    simp only [Bool.not_eq_true', List.any_eq_false, List.mem_filter, and_imp, Bool.not_eq_true]
    constructor
    · intro h r hr _
      exact h r hr
    · intro h r hr
      by_cases hw : widM q r = true
      · refine h r hr ?_
        unfold widM at hw
        simp only [Bool.and_eq_true, List.all_eq_true] at hw
        cases hq2 : q.2 with
        | nil => rw [hq2] at he; simp at he
        | cons i l =>
          have := hw.2.2 i (by rw [hq2]; simp)
          cases hr2 : r.2 with
          | nil => rw [hr2] at this; simp at this
          | cons _ _ => rfl
      · simpa using hw
theorem loM_cnt (n : Nat) (fs : List Fn) (hn : n ≤ 4) : (loM n fs).length ≤ 100 := by
  unfold loM
  rw [List.length_map, Tms_cnt]
  have : 3 ^ n ≤ 3 ^ 4 := Nat.pow_le_pow_right (by decide) hn
  omega
theorem dStr_bit (q : Nat) : dStr (.int ((q : Int) % 2)) = some (sD (tS [sg (q.testBit 0)])) := by
  have h : (q : Int) % 2 = ((q % 2 : Nat) : Int) := by omega
  rw [h, Nat.testBit_zero]
  have : q % 2 = 0 ∨ q % 2 = 1 := by omega
  rcases this with e | e <;> rw [e] <;> rfl
theorem div2 (p k : Nat) : ((p / 2 ^ k : Nat) : Int) / 2 = ((p / 2 ^ (k + 1) : Nat) : Int) := by
  rw [Nat.pow_succ, ← Nat.div_div_eq_div_mul]
  omega
theorem bits_rev (n p : Nat) : ((List.range n).reverse.map fun k => sg (p.testBit k)) = (bits n p).map sg := by
  unfold bits
  rw [List.map_map]
  refine List.ext_getElem (by simp) fun i h1 h2 => ?_
  simp
theorem testBit_div0 (p k : Nat) : (p / 2 ^ k).testBit 0 = p.testBit k := by
  rw [Nat.testBit_div_two_pow]
  simp
/-! ### greatest terms -/
def gdM (n : Nat) (f : Fn) : List Tm := (Tms n).filter (koM f)
def isGrM (n : Nat) (f : Fn) (t : Tm) : Bool := ((gdM n f).filter fun o => o != t && liesM t o).isEmpty && (ptsM t).any fun p => f[p]? == some (some true)
def grM (n : Nat) (f : Fn) : List Tm := (gdM n f).filter (isGrM n f)
theorem gdM_len {n : Nat} {f : Fn} {t : Tm} (h : t ∈ gdM n f) : t.length = n := Tms_len (List.mem_filter.mp h).1
theorem Tms_cnt4 {n : Nat} (h4 : n ≤ 4) : (Tms n).length ≤ 81 := by
  rw [Tms_cnt]
  exact Nat.pow_le_pow_right (by decide : 0 < 3) h4
theorem gdM_cnt (f : Fn) {n : Nat} (h4 : n ≤ 4) : (gdM n f).length ≤ 81 := Nat.le_trans (List.length_filter_le _ _) (Tms_cnt4 h4)
theorem eq1 (a : Option Bool) (S : Cs) : onD dEq (.d (aO a)) (.d (.int 1)) S = .ok (bD (a == some true)) S := by
  rw [o_eq _ (eqOk_flat (flat_aO a) rfl)]
  cases a with
  | none => rfl
  | some b => cases b <;> rfl
/-! ### results of statements, put together -/
def Fl.nxt (r : Fl) (k : Ev → Cs → Fl) : Fl := match r with
  | .nx ρ S => k ρ S
  | .rt w S => .rt w S
  | .exc n S => .exc n S
  | .stuck => .stuck
def Fl.fin (r : Fl) : R := match r with
  | .nx _ S => .ok nD S
  | .rt w S => .ok w S
  | .exc n S => .exc n S
  | .stuck => .stuck
def setS (r : R) (i : Nat) (ρ : Ev) : Fl := match r with
  | .ok w S => .nx (ρ.set i (some w)) S
  | .exc n S => .exc n S
  | .stuck => .stuck
def retS (r : R) : Fl := match r with
  | .ok w S => .rt w S
  | .exc n S => .exc n S
  | .stuck => .stuck
def expS (r : R) (ρ : Ev) : Fl := match r with
  | .ok _ S => if flatCs S = true then .nx ρ S else .stuck
  | .exc n S => .exc n S
  | .stuck => .stuck
def ifS (r : R) (g1 g2 : Fs) (ρ : Ev) : Fl := match r with
  | .ok (.a (.d (.bool b))) S => if flatCs S = true then (if b = true then g1 ρ S else g2 ρ S) else .stuck
  | .exc n S => .exc n S
  | _ => .stuck
def forS (r : SR) (g : Gs) (body : Fs) (ρ : Ev) : Fl := match r with
  | .ok items S => forL g body (dom ρ) items ρ S
  | .exc n S => .exc n S
  | .stuck => .stuck
def appS (r : R) (i : Nat) (ρ : Ev) : Fl := match ρ[i]? with
  | some (some (.own ws)) => match r with
    | .ok w S => if ws.length < 1000000 then .nx (ρ.set i (some (.own (ws ++ [w])))) S else .stuck
    | .exc n S => .exc n S
    | .stuck => .stuck
  | _ => .stuck
def extS (r : R) (i : Nat) (ρ : Ev) : Fl := match ρ[i]? with
  | some (some (.own ws)) => match r with
    | .ok (.own us) S => if ws.length + us.length < 1000000 then .nx (ρ.set i (some (.own (ws ++ us)))) S else .stuck
    | .exc n S => .exc n S
    | _ => .stuck
  | _ => .stuck
def setTS (r : R) (ks : List Nat) (ρ : Ev) : Fl := match r with
  | .ok (.a (.d (.tuple ds))) S => if ds.length = ks.length then .nx (setW ks ds ρ) S else .stuck
  | .exc n S => .exc n S
  | _ => .stuck
def Fl.cons (o : Option W) (r : Fl) : Fl := match r with
  | .nx ρ S => .nx (o :: ρ) S
  | .rt w S => .rt w S
  | .exc n S => .exc n S
  | .stuck => .stuck
def Fl.pop (n : Nat) (r : Fl) : Fl := match r with
  | .nx ρ S => .nx (unC n ρ) S.dropLast
  | .rt (.a (.d d)) S => .rt (.a (.d d)) S.dropLast
  | .exc n S => .exc n S.dropLast
  | _ => .stuck
def cellS (r : R) (i : Nat) (g : Fs) (ρ : Ev) : Fl := match r with
  | .ok (.own ws) S1 => match flatWs ws with
    | some ds => Fl.pop S1.length (g (ρ.set i (some (.a (.c S1.length)))) (S1 ++ [ds]))
    | none => .stuck
  | .exc n S1 => .exc n S1
  | _ => .stuck
section
variable {g1 g2 : Fs} {f fa fb fc : Fe} {ρ : Ev} {S : Cs} {i : Nat} {is : List Nat}
theorem p_skip : sSkip ρ S = .nx ρ S := rfl
theorem p_seq : sSeq g1 g2 ρ S = (g1 ρ S).nxt g2 := by
  unfold sSeq Fl.nxt
  cases g1 ρ S <;> rfl
theorem p_set : sSet i is f ρ S = setS (f (ev (frzE is ρ)) S) i (frzE is ρ) := rfl
theorem p_ret : sRet is f ρ S = retS (f (ev (frzE is ρ)) S) := rfl
theorem p_retN : sRetN ρ S = .rt nD S := rfl
theorem p_retV_s {o : Option W} : sRetV (i + 1) (o :: ρ) S = sRetV i ρ S := rfl
theorem p_retV_0 {w : W} : sRetV 0 (some w :: ρ) S = .rt w S := rfl
theorem p_exp : sExp is f ρ S = expS (f (ev (frzE is ρ)) S) ρ := rfl
theorem p_if : sIf is fc g1 g2 ρ S = ifS (fc (ev (frzE is ρ)) S) g1 g2 ρ := by
  unfold sIf ifS
  rfl
theorem p_raise {n : Str} : sRaise n ρ S = .exc n S := rfl
theorem p_app : sApp i is f ρ S = appS (f (ev (frzE is ρ)) S) i (frzE is ρ) := rfl
theorem p_ext : sExt i is f ρ S = extS (f (ev (frzE is ρ)) S) i (frzE is ρ) := rfl
theorem p_setT {ks : List Nat} : sSetT ks is f ρ S = setTS (f (ev (frzE is ρ)) S) ks (frzE is ρ) := rfl
theorem p_for {src : Fi} {g : Gs} : sFor is src g g1 ρ S = forS (src (ev (frzE is ρ)) S) g g1 (frzE is ρ) := rfl
theorem p_cell {no : noOwn ρ = true} : sCell i f g1 ρ S = cellS (f (ev ρ) S) i g1 ρ := by
  unfold sCell cellS
  rw [if_pos no]
  rfl
theorem p_cell' : sCell i f g1 ρ S = if noOwn ρ = true then cellS (f (ev ρ) S) i g1 ρ else .stuck := by
  unfold sCell cellS
  rfl
theorem nxt_nx {k : Fs} : (Fl.nx ρ S).nxt k = k ρ S := rfl
theorem nxt_rt {k : Fs} {w : W} : (Fl.rt w S).nxt k = .rt w S := rfl
theorem nxt_exc {k : Fs} {n : Str} : (Fl.exc n S).nxt k = .exc n S := rfl
theorem fin_nx : (Fl.nx ρ S).fin = .ok nD S := rfl
theorem fin_rt {w : W} : (Fl.rt w S).fin = .ok w S := rfl
theorem fin_exc {n : Str} : (Fl.exc n S).fin = .exc n S := rfl
theorem nxt_ite {c : Prop} [Decidable c] {x y : Fl} {k : Fs} : (if c then x else y).nxt k = if c then x.nxt k else y.nxt k := by split <;> rfl
theorem fin_ite {c : Prop} [Decidable c] {x y : Fl} : (if c then x else y).fin = if c then x.fin else y.fin := by split <;> rfl
theorem pop_ite {c : Prop} [Decidable c] {x y : Fl} {n : Nat} : Fl.pop n (if c then x else y) = if c then Fl.pop n x else Fl.pop n y := by split <;> rfl
theorem p_body {n : Nat} {g : Fs} {xs : List A} : bodySem n g xs S = (g (startE n xs) S).fin := by
  unfold bodySem Fl.fin
  cases g (startE n xs) S <;> rfl
theorem set_ok {w : W} : setS (.ok w S) i ρ = .nx (ρ.set i (some w)) S := rfl
theorem set_exc {n : Str} : setS (.exc n S) i ρ = .exc n S := rfl
theorem ret_ok {w : W} : retS (.ok w S) = .rt w S := rfl
theorem ret_exc {n : Str} : retS (.exc n S) = .exc n S := rfl
theorem exp_ok {w : W} : expS (.ok w S) ρ = if flatCs S = true then .nx ρ S else .stuck := rfl
theorem exp_exc {n : Str} : expS (.exc n S) ρ = .exc n S := rfl
theorem if_tt : ifS (.ok (bD true) S) g1 g2 ρ = if flatCs S = true then g1 ρ S else .stuck := rfl
theorem if_ff : ifS (.ok (bD false) S) g1 g2 ρ = if flatCs S = true then g2 ρ S else .stuck := rfl
theorem if_ok {b : Bool} : ifS (.ok (bD b) S) g1 g2 ρ = if flatCs S = true then (if b = true then g1 ρ S else g2 ρ S) else .stuck := rfl
theorem if_exc {n : Str} : ifS (.exc n S) g1 g2 ρ = .exc n S := rfl
theorem for_ok {items : List D} {g : Gs} : forS (.ok items S) g g1 ρ = forL g g1 (dom ρ) items ρ S := rfl
theorem for_exc {n : Str} {g : Gs} : forS (.exc n S) g g1 ρ = .exc n S := rfl
theorem app_s {r : R} {o : Option W} : appS r (i + 1) (o :: ρ) = Fl.cons o (appS r i ρ) := by
  unfold appS
  rw [List.getElem?_cons_succ]
  cases ρ[i]? with
  | none => rfl
  | some q => cases q with
    | none => rfl
    | some w => cases w with
      | a x => rfl
      | own ws => cases r with
        | ok w S =>
          by_cases h : ws.length < 1000000
          · simp only [h, if_true]; rfl
          · simp only [h, if_false]; rfl
        | _ => rfl
theorem app_0 {a : List D} {d : D} : appS (.ok (.a (.d d)) S) 0 (some (ownD a) :: ρ) = if a.length < 1000000 then .nx (some (ownD (a ++ [d])) :: ρ) S else .stuck := by
  unfold appS
  simp [ownD]
theorem app_0o {a ds : List D} : appS (.ok (ownD ds) S) 0 (some (ownD a) :: ρ) = if a.length < 1000000 then .nx (some (.own ((a.map fun d => .a (.d d)) ++ [ownD ds])) :: ρ) S else .stuck := by
  unfold appS
  simp [ownD]
theorem ext_s {r : R} {o : Option W} : extS r (i + 1) (o :: ρ) = Fl.cons o (extS r i ρ) := by
  unfold extS
  rw [List.getElem?_cons_succ]
  cases ρ[i]? with
  | none => rfl
  | some q => cases q with
    | none => rfl
    | some w => cases w with
      | a x => rfl
      | own ws => cases r with
        | ok w S => cases w with
          | a x => rfl
          | own us =>
            by_cases h : ws.length + us.length < 1000000
            · simp only [h, if_true]; rfl
            · simp only [h, if_false]; rfl
        | _ => rfl
theorem ext_0 {a b : List D} : extS (.ok (ownD b) S) 0 (some (ownD a) :: ρ) = if a.length + b.length < 1000000 then .nx (some (ownD (a ++ b)) :: ρ) S else .stuck := by
  unfold extS
  simp [ownD]
theorem cons_nx {o : Option W} : Fl.cons o (.nx ρ S) = .nx (o :: ρ) S := rfl
theorem cons_exc {o : Option W} {n : Str} : Fl.cons o (.exc n S) = .exc n S := rfl
theorem setT_ok {ds : List D} {ks : List Nat} : setTS (.ok (.a (.d (.tuple ds))) S) ks ρ = if ds.length = ks.length then .nx (setW ks ds ρ) S else .stuck := rfl
theorem cell_ok {ds : List D} : cellS (.ok (ownD ds) S) i g1 ρ = Fl.pop S.length (g1 (ρ.set i (some (.a (.c S.length)))) (S ++ [ds])) := by
  unfold cellS ownD
  simp only [flatWs_map]
theorem pop_nx {n : Nat} : Fl.pop n (.nx ρ S) = .nx (unC n ρ) S.dropLast := rfl
theorem pop_rt {n : Nat} {d : D} : Fl.pop n (.rt (.a (.d d)) S) = .rt (.a (.d d)) S.dropLast := rfl
theorem unC_nil {n : Nat} : unC n [] = [] := rfl
theorem unC_n {n : Nat} : unC n (none :: ρ) = none :: unC n ρ := rfl
theorem unC_d {n : Nat} {d : D} : unC n (some (.a (.d d)) :: ρ) = some (.a (.d d)) :: unC n ρ := rfl
theorem unC_st {n : Nat} {ns : List Int} : unC n (some (.a (.s ns)) :: ρ) = some (.a (.s ns)) :: unC n ρ := rfl
theorem unC_o {n : Nat} {ws : List W} : unC n (some (.own ws) :: ρ) = unC1 n (some (.own ws)) :: unC n ρ := rfl
theorem no_nil : noOwn [] = true := rfl
theorem no_n : noOwn (none :: ρ) = noOwn ρ := rfl
theorem no_a {x : A} : noOwn (some (.a x) :: ρ) = noOwn ρ := rfl
theorem mask_nil {dm : List Bool} : mask dm [] = [] := by cases dm <;> rfl
theorem mask_t {dm : List Bool} {o : Option W} : mask (true :: dm) (o :: ρ) = o :: mask dm ρ := rfl
theorem mask_f {dm : List Bool} {o : Option W} : mask (false :: dm) (o :: ρ) = none :: mask dm ρ := rfl
theorem dom_nil : dom [] = [] := rfl
theorem dom_s {w : W} : dom (some w :: ρ) = true :: dom ρ := rfl
theorem dom_n : dom (none :: ρ) = false :: dom ρ := rfl
theorem start_0 {n : Nat} : startE n [] = List.replicate n none := by simp [startE]
theorem start_s {n : Nat} {x : A} {xs : List A} : startE (n + 1) (x :: xs) = some (.a x) :: startE n xs := by
  unfold startE
  simp
theorem setW_nil {ds : List D} : setW [] ds ρ = ρ := by cases ds <;> rfl
theorem setW_cons {k : Nat} {ks : List Nat} {d : D} {ds : List D} : setW (k :: ks) (d :: ds) ρ = setW ks ds (ρ.set k (some (.a (.d d)))) := rfl
theorem ev_nil : ev [] = [] := rfl
theorem ev_n : ev (none :: ρ) = none :: ev ρ := rfl
theorem ev_a {x : A} : ev (some (.a x) :: ρ) = some x :: ev ρ := rfl
theorem ev_o {ds : List D} : ev (some (ownD ds) :: ρ) = none :: ev ρ := rfl
theorem ev_own {ws : List W} : ev (some (.own ws) :: ρ) = none :: ev ρ := rfl
theorem frzE_nil : frzE [] ρ = ρ := rfl
theorem frzE_cons {k : Nat} {ks : List Nat} : frzE (k :: ks) ρ = frzE ks (frz1 k ρ) := rfl
theorem sNm_ap {x : D} : sNm i x ρ = some (ρ.set i (some (.a (.d x)))) := rfl
theorem sTp_ap {ks : List Nat} {ds : List D} : sTp ks (.tuple ds) ρ = if ds.length = ks.length then some (setW ks ds ρ) else none := rfl
end
/-! ### expressions, put together -/
def bin1 (r : R) (fb : Fe) (ρ : En) (g : A → A → Cs → R) : R := r.bnd fun x S => (fb ρ S).bnd fun y S2 => g x y S2
def bin2 (x : A) (r : R) (g : A → A → Cs → R) : R := r.bnd fun y S => g x y S
def un1 (r : R) (g : A → Cs → R) : R := r.bnd g
def callS (fs : List Fe) (ρ : En) (S : Cs) (acc : List A) (g : List A → Cs → R) : R := evs fs ρ S fun xs S1 => g (acc ++ xs) S1
def call1 (r : R) (fs : List Fe) (ρ : En) (acc : List A) (g : List A → Cs → R) : R := r.bnd fun x S => evs fs ρ S fun xs S1 => g (acc ++ x :: xs) S1
def tupE (ds : List A) (S : Cs) : R := match allD ds with
  | some ds => .ok (.a (.d (.tuple ds))) S
  | none => .stuck
def lstS (fs : List Fe) (ρ : En) (S : Cs) (acc : List W) : R := evsW fs ρ S fun ws S1 => .ok (.own (acc ++ ws)) S1
def lst1 (r : R) (fs : List Fe) (ρ : En) (acc : List W) : R := match r with
  | .ok w S => lstS fs ρ S (acc ++ [w])
  | .exc n S => .exc n S
  | .stuck => .stuck
def compS (r : SR) (g : Gt) (fc fe : Fe) (ρ : En) : R := match r with
  | .ok items S => compL g fc fe ρ items S []
  | .exc n S => .exc n S
  | .stuck => .stuck
def andS (r : R) (fb : Fe) (ρ : En) : R := r.br (fun S1 => (fb ρ S1).br (fun S2 => .ok (bD true) S2) (fun S2 => .ok (bD false) S2)) (fun S1 => .ok (bD false) S1)
def orS (r : R) (fb : Fe) (ρ : En) : R := r.br (fun S1 => .ok (bD true) S1) (fun S1 => (fb ρ S1).br (fun S2 => .ok (bD true) S2) (fun S2 => .ok (bD false) S2))
def notS (r : R) : R := r.br (fun S1 => .ok (bD false) S1) (fun S1 => .ok (bD true) S1)
def asB (r : R) : R := r.br (fun S2 => .ok (bD true) S2) (fun S2 => .ok (bD false) S2)
def ifE (r : R) (fa fb : Fe) (ρ : En) : R := r.br (fa ρ) (fb ρ)
def srcS (r : R) (h : A → Option (List D)) : SR := r.bi fun x S => SR.of (h x) S
def src1 (r : R) (g : Fe) (ρ : En) (h : A → A → Option (List D)) : SR := r.bi fun x S1 => (g ρ S1).bi fun y S2 => SR.of (h x y) S2
def src2 (x : A) (r : R) (h : A → A → Option (List D)) : SR := r.bi fun y S2 => SR.of (h x y) S2
def sl1 (r : R) (lo hi : Option Fe) (ρ : En) : R := r.bnd fun x S1 => optI lo ρ S1 fun l S2 => optI hi ρ S2 fun h S3 => onD1 (dSl l h) x S3
def slLo (x : A) (r : R) (hi : Option Fe) (ρ : En) : R := r.bnd fun y S2 => match y with
  | .d (.int i) => optI hi ρ S2 fun h S3 => onD1 (dSl (some i) h) x S3
  | _ => .stuck
def slHi (x : A) (l : Option Int) (r : R) : R := r.bnd fun y S2 => match y with
  | .d (.int i) => onD1 (dSl l (some i)) x S2
  | _ => .stuck
def sm1 (r : R) (fb : Fe) (ρ : En) (g : Str → D → Option W) : R := r.bnd fun x S1 => match x with
  | .d (.str z) => (fb ρ S1).bnd fun y S2 => match y with
    | .d d => match g z d with
      | some w => .ok w S2
      | none => .stuck
    | _ => .stuck
  | _ => .stuck
def sm2 (z : Str) (r : R) (g : Str → D → Option W) : R := r.bnd fun y S2 => match y with
    | .d d => match g z d with
      | some w => .ok w S2
      | none => .stuck
    | _ => .stuck
section
variable {f fa fb fc fe : Fe} {fs : List Fe} {ρ : En} {S : Cs} {i : Nat} {g2 : A → A → Cs → R} {gn : List A → Cs → R} {x y : A} {ds : List D} {n : Str}
theorem q_var0 : fVar 0 (some x :: ρ) S = .ok (.a x) S := rfl
theorem q_varS {o : Option A} : fVar (i + 1) (o :: ρ) S = fVar i ρ S := rfl
theorem q_c {d : D} : fC d ρ S = .ok (.a (.d d)) S := rfl
theorem q_bin : fBin g2 fa fb ρ S = bin1 (fa ρ S) fb ρ g2 := rfl
theorem bin1_a : bin1 (.ok (.a x) S) fb ρ g2 = bin2 x (fb ρ S) g2 := rfl
theorem bin1_o : bin1 (.ok (ownD ds) S) fb ρ g2 = bin2 (.d (.list ds)) (fb ρ S) g2 := by unfold bin1 bin2; rw [bnd_own]
theorem bin1_e : bin1 (.exc n S) fb ρ g2 = .exc n S := rfl
theorem bin2_a : bin2 x (.ok (.a y) S) g2 = g2 x y S := rfl
theorem bin2_o : bin2 x (.ok (ownD ds) S) g2 = g2 x (.d (.list ds)) S := by unfold bin2; rw [bnd_own]
theorem bin2_e : bin2 x (.exc n S) g2 = .exc n S := rfl
theorem q_un {g : A → Cs → R} : fUn g fa ρ S = un1 (fa ρ S) g := rfl
theorem un1_a {g : A → Cs → R} : un1 (.ok (.a x) S) g = g x S := rfl
theorem un1_o {g : A → Cs → R} : un1 (.ok (ownD ds) S) g = g (.d (.list ds)) S := by unfold un1; rw [bnd_own]
theorem q_call : fCall gn fs ρ S = callS fs ρ S [] gn := rfl
theorem call_n {acc : List A} : callS [] ρ S acc gn = gn acc S := by unfold callS; rw [evs_nil, List.append_nil]
theorem call_c {acc : List A} : callS (f :: fs) ρ S acc gn = call1 (f ρ S) fs ρ acc gn := rfl
theorem call1_a {acc : List A} : call1 (.ok (.a x) S) fs ρ acc gn = callS fs ρ S (acc ++ [x]) gn := by
  unfold call1 callS
  rw [bnd_a]
  simp
theorem call1_o {acc : List A} : call1 (.ok (ownD ds) S) fs ρ acc gn = callS fs ρ S (acc ++ [.d (.list ds)]) gn := by
  unfold call1 callS
  rw [bnd_own]
  simp
theorem call1_e {acc : List A} : call1 (.exc n S) fs ρ acc gn = .exc n S := rfl
theorem q_tup : fTup fs ρ S = callS fs ρ S [] tupE := rfl
theorem allD_nil : allD [] = some [] := rfl
theorem allD_cons {d : D} {xs : List A} : allD (.d d :: xs) = (allD xs).map (d :: ·) := rfl
theorem tupE_ap {xs : List A} : tupE xs S = match allD xs with | some ds => .ok (.a (.d (.tuple ds))) S | none => .stuck := rfl
theorem q_lst : fLst fs ρ S = lstS fs ρ S [] := rfl
theorem lst_n {acc : List W} : lstS [] ρ S acc = .ok (.own acc) S := by
  unfold lstS evsW
  simp
theorem lst_c {acc : List W} : lstS (f :: fs) ρ S acc = lst1 (f ρ S) fs ρ acc := by
  unfold lst1 lstS
  rw [evsW]
  cases f ρ S <;> simp
theorem lst1_ok {acc : List W} {w : W} : lst1 (.ok w S) fs ρ acc = lstS fs ρ S (acc ++ [w]) := rfl
theorem q_comp {vs : List Nat} {src : Fi} {g : Gt} : fComp vs src g fc fe ρ S = compS (src ρ S) g fc fe (wipeE ρ vs) := rfl
theorem comp_ok {items : List D} {g : Gt} : compS (.ok items S) g fc fe ρ = compL g fc fe ρ items S [] := rfl
theorem q_and : fAnd fa fb ρ S = andS (fa ρ S) fb ρ := rfl
theorem and_tt : andS (.ok (bD true) S) fb ρ = asB (fb ρ S) := rfl
theorem and_ff : andS (.ok (bD false) S) fb ρ = .ok (bD false) S := rfl
theorem asB_ok {b : Bool} : asB (.ok (bD b) S) = .ok (bD b) S := by cases b <;> rfl
theorem asB_e : asB (.exc n S) = .exc n S := rfl
theorem and_ok {b : Bool} : andS (.ok (bD b) S) fb ρ = if b = true then asB (fb ρ S) else .ok (bD false) S := by cases b <;> rfl
theorem and_fold {a b : Bool} : (if a = true then R.ok (bD b) S else .ok (bD false) S) = .ok (bD (a && b)) S := by cases a <;> rfl
theorem q_or : fOr fa fb ρ S = orS (fa ρ S) fb ρ := rfl
theorem or_tt : orS (.ok (bD true) S) fb ρ = .ok (bD true) S := rfl
theorem or_ff : orS (.ok (bD false) S) fb ρ = asB (fb ρ S) := rfl
theorem or_ok {b : Bool} : orS (.ok (bD b) S) fb ρ = if b = true then .ok (bD true) S else asB (fb ρ S) := by cases b <;> rfl
theorem or_fold {a b : Bool} : (if a = true then R.ok (bD true) S else .ok (bD b) S) = .ok (bD (a || b)) S := by cases a <;> rfl
theorem q_not : fNot fa ρ S = notS (fa ρ S) := rfl
theorem not_ok {b : Bool} : notS (.ok (bD b) S) = .ok (bD (!b)) S := by cases b <;> rfl
theorem not_e : notS (.exc n S) = .exc n S := rfl
theorem q_ife : fIf fc fa fb ρ S = ifE (fc ρ S) fa fb ρ := rfl
theorem ife_tt : ifE (.ok (bD true) S) fa fb ρ = fa ρ S := rfl
theorem ife_ff : ifE (.ok (bD false) S) fa fb ρ = fb ρ S := rfl
theorem ife_ok {b : Bool} : ifE (.ok (bD b) S) fa fb ρ = if b = true then fa ρ S else fb ρ S := by cases b <;> rfl
theorem q_seq : iSeq f ρ S = srcS (f ρ S) seqD := rfl
theorem q_rng1 : iRng1 f ρ S = srcS (f ρ S) rng1 := rfl
theorem q_rng2 : iRng2 fa fb ρ S = src1 (fa ρ S) fb ρ rng2 := rfl
theorem q_enum : iEnum f ρ S = srcS (f ρ S) (fun x => (seqD x).map enumD) := rfl
theorem q_zip : iZip fa fb ρ S = src1 (fa ρ S) fb ρ (fun x y => zip2 (seqD x) (seqD y)) := rfl
theorem srcS_a {h : A → Option (List D)} : srcS (.ok (.a x) S) h = SR.of (h x) S := rfl
theorem srcS_o {h : A → Option (List D)} : srcS (.ok (ownD ds) S) h = SR.of (h (.d (.list ds))) S := by unfold srcS; rw [bi_own]
theorem src1_a {h : A → A → Option (List D)} : src1 (.ok (.a x) S) fb ρ h = src2 x (fb ρ S) h := rfl
theorem src1_o {h : A → A → Option (List D)} : src1 (.ok (ownD ds) S) fb ρ h = src2 (.d (.list ds)) (fb ρ S) h := by unfold src1 src2; rw [bi_own]
theorem src2_a {h : A → A → Option (List D)} : src2 x (.ok (.a y) S) h = SR.of (h x y) S := rfl
theorem src2_o {h : A → A → Option (List D)} : src2 x (.ok (ownD ds) S) h = SR.of (h x (.d (.list ds))) S := by unfold src2; rw [bi_own]
theorem of_some : SR.of (some ds) S = .ok ds S := rfl
theorem q_sl {lo hi : Option Fe} : fSl fa lo hi ρ S = sl1 (fa ρ S) lo hi ρ := rfl
theorem sl_nn : sl1 (.ok (.a x) S) none none ρ = onD1 (dSl none none) x S := rfl
theorem sl_n {hi : Fe} : sl1 (.ok (.a x) S) none (some hi) ρ = slHi x none (hi ρ S) := rfl
theorem sl_s {lo : Fe} {hi : Option Fe} : sl1 (.ok (.a x) S) (some lo) hi ρ = slLo x (lo ρ S) hi ρ := rfl
theorem slo_nn : sl1 (.ok (ownD ds) S) none none ρ = onD1 (dSl none none) (.d (.list ds)) S := by unfold sl1; rw [bnd_own]; rfl
theorem slo_n {hi : Fe} : sl1 (.ok (ownD ds) S) none (some hi) ρ = slHi (.d (.list ds)) none (hi ρ S) := by unfold sl1; rw [bnd_own]; rfl
theorem slo_s {lo : Fe} {hi : Option Fe} : sl1 (.ok (ownD ds) S) (some lo) hi ρ = slLo (.d (.list ds)) (lo ρ S) hi ρ := by unfold sl1; rw [bnd_own]; rfl
theorem slLo_n {j : Int} : slLo x (.ok (iD j) S) none ρ = onD1 (dSl (some j) none) x S := rfl
theorem slLo_s {j : Int} {hi : Fe} : slLo x (.ok (iD j) S) (some hi) ρ = slHi x (some j) (hi ρ S) := rfl
theorem slHi_ok {j : Int} {l : Option Int} : slHi x l (.ok (iD j) S) = onD1 (dSl l (some j)) x S := rfl
theorem slLo_n' {j : Int} : slLo x (.ok (.a (.d (.int j))) S) none ρ = onD1 (dSl (some j) none) x S := rfl
theorem slLo_s' {j : Int} {hi : Fe} : slLo x (.ok (.a (.d (.int j))) S) (some hi) ρ = slHi x (some j) (hi ρ S) := rfl
theorem slHi_ok' {j : Int} {l : Option Int} : slHi x l (.ok (.a (.d (.int j))) S) = onD1 (dSl l (some j)) x S := rfl
theorem q_sm {g : Str → D → Option W} : fSm g fa fb ρ S = sm1 (fa ρ S) fb ρ g := rfl
theorem sm1_a {g : Str → D → Option W} {z : Str} : sm1 (.ok (.a (.d (.str z))) S) fb ρ g = sm2 z (fb ρ S) g := rfl
theorem sm2_a {g : Str → D → Option W} {z : Str} {d : D} : sm2 z (.ok (.a (.d d)) S) g = match g z d with | some w => .ok w S | none => .stuck := rfl
theorem sm2_o {g : Str → D → Option W} {z : Str} : sm2 z (.ok (ownD ds) S) g = match g z (.list ds) with | some w => .ok w S | none => .stuck := by
  unfold sm2
  rw [bnd_own]
theorem on1_ap {g : D → Option W} {d : D} : on1 g [.d d] S = match g d with | some w => .ok w S | none => .stuck := rfl
theorem onD1_ap {g : D → Option W} {d : D} : onD1 g (.d d) S = match g d with | some w => .ok w S | none => .stuck := rfl
theorem true_ap : fTrue ρ S = .ok (bD true) S := rfl
theorem gNm_ap {d : D} : gNm i d ρ = some (ρ.set i (some (.d d))) := rfl
theorem gTp_ap {is : List Nat} {ds : List D} : gTp is (.tuple ds) ρ = if ds.length = is.length then some (setD is ds ρ) else none := rfl
theorem setD_nil {ds : List D} : setD [] ds ρ = ρ := by cases ds <;> rfl
theorem setD_cons {k : Nat} {ks : List Nat} {d : D} : setD (k :: ks) (d :: ds) ρ = setD ks ds (ρ.set k (some (.d d))) := rfl
theorem wipe_nil : wipeE ρ [] = ρ := rfl
theorem wipe_cons {k : Nat} {ks : List Nat} : wipeE ρ (k :: ks) = (wipeE ρ ks).set k none := rfl
theorem max2_ap {f : Int → Int → Int} {i j : Int} : gMax2 f [.d (.int i), .d (.int j)] S = .ok (iD (f i j)) S := rfl
theorem rng1_n (n : Nat) (h : n ≤ 1000000) : rng1 (.d (.int (n : Nat))) = some ((List.range n).map fun (i : Nat) => PyData.int (i : Int)) := by
  show (if (n : Int) ≤ 1000000 ∧ -1000000 ≤ (n : Int) then some (rngD 0 ((n : Int)).toNat) else none) = _
  rw [if_pos (by omega), i2n, rngD_map]
theorem rng1_l (m : Nat) (h : m ≤ 1000000) : rng1 (.d (.int (no_index (OfNat.ofNat m)))) = some ((List.range m).map fun (i : Nat) => PyData.int (i : Int)) := rng1_n m h
theorem rng1_1 : rng1 (.d (.int 1)) = some ((List.range 1).map fun (i : Nat) => PyData.int (i : Int)) := rng1_n 1 (by decide)
theorem letC_ap {sem : Sem_} : fLetC sem f ρ S = match f ρ S with
  | .ok (.own ws) S1 => match flatWs ws with
    | some ds => match sem [.c S1.length] (S1 ++ [ds]) with
      | .ok w S2 => if w.keepC S1.length = true then .ok w S2.dropLast else .stuck
      | .exc n S2 => .exc n S2.dropLast
      | .stuck => .stuck
    | none => .stuck
  | .exc n S1 => .exc n S1
  | _ => .stuck := rfl
end
theorem isi_int_dict (l : List (D × D)) : dIsi "int" (.dict l) = some (bD false) := rfl
theorem isi_bool_dict (l : List (D × D)) : dIsi "bool" (.dict l) = some (bD false) := rfl
theorem isi_str_dict (l : List (D × D)) : dIsi "str" (.dict l) = some (bD false) := rfl
theorem isi_list_dict (l : List (D × D)) : dIsi "list" (.dict l) = some (bD false) := rfl
theorem isi_tuple_dict (l : List (D × D)) : dIsi "tuple" (.dict l) = some (bD false) := rfl
theorem isi2_tl_dict (l : List (D × D)) : dIsi2 "tuple" "list" (.dict l) = some (bD false) := rfl
/-! ### kinds of data -/
def isInt : D → Bool
  | .int _ => true
  | _ => false
def isAns : D → Bool
  | .none => true
  | .int i => (0 == i) || (1 == i)
  | _ => false
def isFnD : D → Bool
  | .tuple ds => (List.lookup (ds.length : Int) ([(2, 1), (4, 2), (8, 3), (16, 4)] : List (Int × Int))).isSome && ds.all isAns
  | _ => false
theorem isAns_aO (a : Option Bool) : isAns (aO a) = true := by
  cases a with
  | none => rfl
  | some b => cases b <;> rfl
theorem isFn_eF {f : Fn} {n : Nat} (hf : f.length = 2 ^ n) (h1 : 1 ≤ n) (h4 : n ≤ 4) : isFnD (eF f) = true := by
  show ((List.lookup ((f.map aO).length : Int) [((2 : Int), (1 : Int)), (4, 2), (8, 3), (16, 4)]).isSome && (f.map aO).all isAns) = true
  rw [List.length_map, hf, kv_at h1 h4]
  simp [isAns_aO]
/-! ### what a reckoning comes to -/
def R.To (r : R) (Q : W → Cs → Prop) : Prop := match r with
  | .ok w S => Q w S
  | _ => False
def Fl.To (r : Fl) (Qn : Ev → Cs → Prop) (Qr : W → Cs → Prop) : Prop := match r with
  | .nx ρ S => Qn ρ S
  | .rt w S => Qr w S
  | _ => False
section
variable {r : R} {x : Fl} {Q Q' Qr Qr' : W → Cs → Prop} {Qn Qn' : Ev → Cs → Prop} {ρ : Ev} {S : Cs} {w : W} {k : Fs} {n : Nat}
theorem to_ok : R.To (.ok w S) Q = Q w S := rfl
theorem to_nx : Fl.To (.nx ρ S) Qn Qr = Qn ρ S := rfl
theorem to_rt : Fl.To (.rt w S) Qn Qr = Qr w S := rfl
theorem to_fin : R.To x.fin Q = Fl.To x (fun _ S => Q nD S) Q := by cases x <;> rfl
theorem to_nxt : Fl.To (x.nxt k) Qn Qr = Fl.To x (fun ρ S => Fl.To (k ρ S) Qn Qr) Qr := by cases x <;> rfl
theorem R.To.imp (h : R.To r Q) (f : ∀ w S, Q w S → Q' w S) : R.To r Q' := by
  cases r with
  | ok w S => exact f w S h
  | _ => exact h.elim
theorem Fl.To.imp (h : Fl.To x Qn Qr) (f : ∀ ρ S, Qn ρ S → Qn' ρ S) (g : ∀ w S, Qr w S → Qr' w S) : Fl.To x Qn' Qr' := by
  cases x with
  | nx ρ S => exact f ρ S h
  | rt w S => exact g w S h
  | _ => exact h.elim
theorem R.To.get (h : R.To r Q) : ∃ w S, r = .ok w S ∧ Q w S := by
  cases r with
  | ok w S => exact ⟨w, S, rfl, h⟩
  | _ => exact h.elim
theorem to_get : R.To r Q ↔ ∃ w S, r = .ok w S ∧ Q w S := ⟨R.To.get, fun ⟨w, S, e, q⟩ => by rw [e]; exact q⟩
theorem to_eq : R.To r (fun w1 S1 => w1 = w ∧ S1 = S) → r = .ok w S := fun h => by
  obtain ⟨w1, S1, e, rfl, rfl⟩ := h.get
  exact e
theorem to_pop : Fl.To (Fl.pop n x) Qn Qr = Fl.To x (fun ρ S => Qn (unC n ρ) S.dropLast) (fun w S => ∃ d, w = .a (.d d) ∧ Qr w S.dropLast) := by
  cases x with
  | nx ρ S => rfl
  | rt w S =>
    cases w with
    | own ws => simp [Fl.pop, Fl.To]
    | a y =>
      cases y with
      | d d => simp [Fl.pop, Fl.To]
      | _ => simp [Fl.pop, Fl.To]
  | _ => rfl
theorem to_set {i : Nat} : Fl.To (setS r i ρ) Qn Qr = R.To r (fun w S => Qn (ρ.set i (some w)) S) := by cases r <;> rfl
theorem to_ret : Fl.To (retS r) Qn Qr = R.To r Qr := by cases r <;> rfl
theorem to_cons {o : Option W} : Fl.To (Fl.cons o x) Qn Qr = Fl.To x (fun ρ S => Qn (o :: ρ) S) Qr := by cases x <;> rfl
theorem to_ifte {c : Prop} [Decidable c] {y : Fl} : Fl.To (if c then x else y) Qn Qr = if c then Fl.To x Qn Qr else Fl.To y Qn Qr := by split <;> rfl
end
section
variable {g : Gs} {body : Fs} {dm : List Bool} {Qr : W → Cs → Prop} {Qn : Ev → Cs → Prop} {k : Fs} {ρ : Ev} {S : Cs}
/-- a loop, by what holds between its turns -/
theorem for_to (J : Ev → Cs → Prop) : ∀ {xs : List D} {ρ : Ev} {S : Cs}, J ρ S → (∀ x ∈ xs, ∀ ρ S, J ρ S → ∃ ρ1, g x ρ = some ρ1 ∧ Fl.To (body ρ1 S) (fun ρ2 S2 => J (mask dm ρ2) S2) Qr) → (∀ ρ S, J ρ S → Qn ρ S) → Fl.To (forL g body dm xs ρ S) Qn Qr
  | [], ρ, S, h0, _, hq => hq ρ S h0
  | x :: xs, ρ, S, h0, hs, hq => by
    obtain ⟨ρ1, e, h⟩ := hs x List.mem_cons_self ρ S h0
    unfold forL
    rw [e]
    simp only
    cases hb : body ρ1 S with
    | nx ρ2 S2 =>
      rw [hb] at h
      exact for_to J h (fun y hy => hs y (List.mem_cons_of_mem _ hy)) hq
    | rt w S2 => rw [hb] at h; exact h
    | exc n S2 => rw [hb] at h; exact h.elim
    | stuck => rw [hb] at h; exact h.elim
theorem for_seq (J : Ev → Cs → Prop) {xs : List D} (h0 : J ρ S) (hs : ∀ x ∈ xs, ∀ ρ S, J ρ S → ∃ ρ1, g x ρ = some ρ1 ∧ Fl.To (body ρ1 S) (fun ρ2 S2 => J (mask dm ρ2) S2) Qr) (hq : ∀ ρ S, J ρ S → Fl.To (k ρ S) Qn Qr) : Fl.To ((forL g body dm xs ρ S).nxt k) Qn Qr := by
  rw [to_nxt]
  exact for_to J h0 hs hq
/-- a loop over an encoded list, by what holds once the items `pre` are done -/
theorem for_pre {α : Type} (en : α → D) (J : List α → Ev → Cs → Prop) : ∀ {post pre : List α} {ρ : Ev} {S : Cs}, J pre ρ S → (∀ q x p, pre ++ post = q ++ x :: p → ∀ ρ S, J q ρ S → ∃ ρ1, g (en x) ρ = some ρ1 ∧ Fl.To (body ρ1 S) (fun ρ2 S2 => J (q ++ [x]) (mask dm ρ2) S2) Qr) → (∀ ρ S, J (pre ++ post) ρ S → Qn ρ S) → Fl.To (forL g body dm (post.map en) ρ S) Qn Qr
  | [], pre, ρ, S, h0, _, hq => hq ρ S (by rw [List.append_nil]; exact h0)
  | x :: post, pre, ρ, S, h0, hs, hq => by
    obtain ⟨ρ1, e, h⟩ := hs pre x post rfl ρ S h0
    rw [List.map_cons]
    unfold forL
    rw [e]
    simp only
    cases hb : body ρ1 S with
    | nx ρ2 S2 =>
      rw [hb] at h
      refine for_pre en J (pre := pre ++ [x]) h (fun q y p e => hs q y p (by rw [← e]; simp)) fun ρ S h => hq ρ S (by simpa using h)
    | rt w S2 => rw [hb] at h; exact h
    | exc n S2 => rw [hb] at h; exact h.elim
    | stuck => rw [hb] at h; exact h.elim
theorem for_all {α : Type} (en : α → D) (J : List α → Ev → Cs → Prop) {l : List α} (h0 : J [] ρ S) (hs : ∀ q x p, l = q ++ x :: p → ∀ ρ S, J q ρ S → ∃ ρ1, g (en x) ρ = some ρ1 ∧ Fl.To (body ρ1 S) (fun ρ2 S2 => J (q ++ [x]) (mask dm ρ2) S2) Qr) (hq : ∀ ρ S, J l ρ S → Qn ρ S) : Fl.To (forL g body dm (l.map en) ρ S) Qn Qr :=
  for_pre en J (pre := []) h0 (fun q x p e => hs q x p (by simpa using e)) fun ρ S h => hq ρ S (by simpa using h)
theorem for_allS {α : Type} (en : α → D) (J : List α → Ev → Cs → Prop) {l : List α} (h0 : J [] ρ S) (hs : ∀ q x p, l = q ++ x :: p → ∀ ρ S, J q ρ S → ∃ ρ1, g (en x) ρ = some ρ1 ∧ Fl.To (body ρ1 S) (fun ρ2 S2 => J (q ++ [x]) (mask dm ρ2) S2) Qr) (hq : ∀ ρ S, J l ρ S → Fl.To (k ρ S) Qn Qr) : Fl.To ((forL g body dm (l.map en) ρ S).nxt k) Qn Qr := by
  rw [to_nxt]
  exact for_all en J h0 hs hq
end
/-- a comprehension whose reckoning moves the state -/
theorem compL_to {g : Gt} {fe : Fe} {ρ : En} (J : List D → Cs → Prop) : ∀ {xs : List D} {acc : List D} {S : Cs} {Q : W → Cs → Prop}, J acc S → (∀ x ∈ xs, ∀ acc S, J acc S → ∃ ρ1, g x ρ = some ρ1 ∧ R.To (fe ρ1 S) (fun w S1 => ∃ d, w = .a (.d d) ∧ J (acc ++ [d]) S1)) → (∀ ds S, J ds S → ds.length = acc.length + xs.length → Q (ownD ds) S) →
    R.To (compL g fTrue fe ρ xs S (acc.map fun d => .a (.d d))) Q
  | [], acc, S, Q, h0, _, hq => hq acc S h0 rfl
  | x :: xs, acc, S, Q, h0, hs, hq => by
    obtain ⟨ρ1, e, h⟩ := hs x List.mem_cons_self acc S h0
    obtain ⟨w, S1, e1, d, rfl, h1⟩ := h.get
    unfold compL
    rw [e]
    simp only [fTrue, e1]
    have e2 : (acc.map fun d => W.a (.d d)) ++ [W.a (.d d)] = (acc ++ [d]).map fun d => W.a (.d d) := by simp
    rw [e2]
    exact compL_to J h1 (fun y hy => hs y (List.mem_cons_of_mem _ hy)) fun ds S h hl => hq ds S h (by rw [hl]; simp; omega)
theorem comp_to {g : Gt} {fe : Fe} {ρ : En} (J : List D → Cs → Prop) {xs : List D} {S : Cs} {Q : W → Cs → Prop} (h0 : J [] S) (hs : ∀ x ∈ xs, ∀ acc S, J acc S → ∃ ρ1, g x ρ = some ρ1 ∧ R.To (fe ρ1 S) (fun w S1 => ∃ d, w = .a (.d d) ∧ J (acc ++ [d]) S1)) (hq : ∀ ds S, J ds S → ds.length = xs.length → Q (ownD ds) S) :
    R.To (compL g fTrue fe ρ xs S []) Q := compL_to J (acc := []) h0 hs fun ds S h hl => hq ds S h (by rw [hl]; simp)
/-! ### more of the applied forms -/
def setIx2 (d : D) (r : R) (k : Nat) (ρ : Ev) : Fl := match r with
    | .ok (.a (.d (.int i))) S2 => match ρ[k]? with
      | some (some (.a (.c c))) => match S2[c]? with
        | some ds => match ixN ds.length i with
          | some j => .nx ρ (S2.set c (ds.set j d))
          | none => .stuck
        | none => .stuck
      | some (some (.own ws)) => match ixN ws.length i with
        | some j => .nx (ρ.set k (some (.own (ws.set j (.a (.d d)))))) S2
        | none => .stuck
      | _ => .stuck
    | _ => .stuck
def setIx1 (r : R) (g : Fe) (k : Nat) (ρ : Ev) : Fl := match r with
  | .ok (.a (.d d)) S1 => setIx2 d (g (ev ρ) S1) k ρ
  | .exc n S1 => .exc n S1
  | _ => .stuck
theorem ixN_n {n i : Nat} (h : i < n) : ixN n (i : Int) = some i := by
  unfold ixN
  rw [if_pos (by omega), if_pos (by omega)]
  simp
section
variable {f g : Fe} {ρ : Ev} {S : Cs} {k : Nat} {is : List Nat}
theorem p_setIx : sSetIx k is f g ρ S = setIx1 (f (ev (frzE is ρ)) S) g k (frzE is ρ) := by
  unfold sSetIx setIx1 setIx2
  rfl
theorem setIx1_ok {d : D} : setIx1 (.ok (.a (.d d)) S) g k ρ = setIx2 d (g (ev ρ) S) k ρ := rfl
theorem setIx2_s {d : D} {r : R} {o : Option W} : setIx2 d r (k + 1) (o :: ρ) = Fl.cons o (setIx2 d r k ρ) := by
  unfold setIx2
  split
  · rename_i i S2
    rw [List.getElem?_cons_succ]
    cases ρ[k]? with
    | none => rfl
    | some q => cases q with
      | none => rfl
      | some w => cases w with
        | own ws => simp only; cases ixN ws.length i <;> rfl
        | a x => cases x with
          | c c => simp only; cases S2[c]? with
            | none => rfl
            | some ds => simp only; cases ixN ds.length i <;> rfl
          | _ => rfl
  · rfl
theorem setIx2_0 {d : D} {i : Nat} {l : List D} (h : i < l.length) : setIx2 d (.ok (iD i) S) 0 (some (ownD l) :: ρ) = .nx (some (ownD (l.set i d)) :: ρ) S := by
  have h2 : ixN (l.map fun d => W.a (.d d)).length (i : Int) = some i := ixN_n (by rw [List.length_map]; exact h)
  show (match ixN (l.map fun d => W.a (.d d)).length (i : Int) with
        | some j => Fl.nx ((some (ownD l) :: ρ).set 0 (some (.own ((l.map fun d => W.a (.d d)).set j (.a (.d d)))))) S
        | none => .stuck) = _
  rw [h2]
  simp [ownD, List.map_set]
end
section
variable {r : R} {Q : W → Cs → Prop} {ρ : En} {S : Cs}
theorem to_sm2 {z : Str} {g : Str → D → Option W} (h : R.To r fun w S => ∃ d v, w.toA = some (.d d) ∧ g z d = some v ∧ Q v S) : R.To (sm2 z r g) Q := by
  cases r with
  | ok w S =>
    obtain ⟨d, v, e1, e2, q⟩ := h
    unfold sm2 R.bnd
    simp only [e1, e2]
    exact q
  | _ => exact h.elim
theorem to_call1 {fs : List Fe} {acc : List A} {g : List A → Cs → R} (h : R.To r fun w S => ∃ x, w.toA = some x ∧ R.To (callS fs ρ S (acc ++ [x]) g) Q) : R.To (call1 r fs ρ acc g) Q := by
  cases r with
  | ok w S =>
    obtain ⟨x, e1, q⟩ := h
    unfold call1 R.bnd
    simp only [e1]
    unfold callS at q
    simpa using q
  | _ => exact h.elim
theorem to_bin1 {fb : Fe} {g : A → A → Cs → R} (h : R.To r fun w S => ∃ x, w.toA = some x ∧ R.To (bin2 x (fb ρ S) g) Q) : R.To (bin1 r fb ρ g) Q := by
  cases r with
  | ok w S =>
    obtain ⟨x, e1, q⟩ := h
    unfold bin1 R.bnd
    simp only [e1]
    exact q
  | _ => exact h.elim
theorem to_bin2 {x : A} {g : A → A → Cs → R} (h : R.To r fun w S => ∃ y, w.toA = some y ∧ R.To (g x y S) Q) : R.To (bin2 x r g) Q := by
  cases r with
  | ok w S =>
    obtain ⟨y, e1, q⟩ := h
    unfold bin2 R.bnd
    simp only [e1]
    exact q
  | _ => exact h.elim
theorem to_un1 {g : A → Cs → R} (h : R.To r fun w S => ∃ x, w.toA = some x ∧ R.To (g x S) Q) : R.To (un1 r g) Q := by
  cases r with
  | ok w S =>
    obtain ⟨x, e1, q⟩ := h
    unfold un1 R.bnd
    simp only [e1]
    exact q
  | _ => exact h.elim
theorem a_toA (x : A) : (W.a x).toA = some x := rfl
end
/-- a drawn sign -/
theorem drawn_sign {r : Nat} (h : r < 4) (S : Cs) : ∃ a : Option Bool, dIx (.d (.str (Str.ofString "01--"))) (.d (.int r)) S = .ok (sD (tS [sgO a])) S := by
  have : r = 0 ∨ r = 1 ∨ r = 2 ∨ r = 3 := by omega
  rcases this with rfl | rfl | rfl | rfl
  · exact ⟨some false, rfl⟩
  · exact ⟨some true, rfl⟩
  · exact ⟨none, rfl⟩
  · exact ⟨none, rfl⟩
theorem mem_mapInt {l : List Nat} {x : D} (h : x ∈ l.map fun (i : Nat) => PyData.int (i : Int)) : ∃ i ∈ l, x = .int (i : Int) := by
  obtain ⟨i, h1, h2⟩ := List.mem_map.mp h
  exact ⟨i, h1, h2.symm⟩
theorem len_pre {n i : Nat} {pre post : List Nat} (e : List.range n = pre ++ i :: post) : pre.length < n := by
  have := congrArg List.length e
  simp at this
  omega
theorem len_pre2 {α : Type} {l pre post : List α} {x : α} (e : l = pre ++ x :: post) : pre.length < l.length := by
  have := congrArg List.length e
  simp at this
  omega
/-- all data are answers -/
theorem all_aO {ds : List D} (h : ∀ d ∈ ds, ∃ a, d = aO a) : ∃ f : Fn, ds = f.map aO := by
  induction ds with
  | nil => exact ⟨[], rfl⟩
  | cons d ds ih =>
    obtain ⟨a, rfl⟩ := h d List.mem_cons_self
    obtain ⟨f, rfl⟩ := ih fun e he => h e (List.mem_cons_of_mem _ he)
    exact ⟨a :: f, rfl⟩
/-! ### lists with lists in them -/
def bin1o (o : Option (List D)) (fb : Fe) (ρ : En) (S : Cs) (g : A → A → Cs → R) : R := match o with
  | some ds => bin2 (.d (.list ds)) (fb ρ S) g
  | none => .stuck
theorem bin1_w {ws : List W} {S : Cs} {fb : Fe} {ρ : En} {g : A → A → Cs → R} : bin1 (.ok (.own ws) S) fb ρ g = bin1o (W.toDs ws) fb ρ S g := by
  cases h : W.toDs ws with
  | none =>
    have e : (W.own ws).toA = none := by
      show (W.toDs ws).map _ = _
      rw [h]; rfl
    unfold bin1 bin1o
    show (match (W.own ws).toA with | some x => _ | none => R.stuck) = _
    rw [e]
  | some ds =>
    have e : (W.own ws).toA = some (.d (.list ds)) := by
      show (W.toDs ws).map _ = _
      rw [h]; rfl
    unfold bin1 bin1o
    show (match (W.own ws).toA with | some x => _ | none => R.stuck) = _
    rw [e]
    rfl
theorem bin1o_some {ds : List D} {S : Cs} {fb : Fe} {ρ : En} {g : A → A → Cs → R} : bin1o (some ds) fb ρ S g = bin2 (.d (.list ds)) (fb ρ S) g := rfl
theorem toDs_nil : W.toDs [] = some [] := by simp [W.toDs]
theorem toDs_a {d : D} {ws : List W} : W.toDs (.a (.d d) :: ws) = (W.toDs ws).map (d :: ·) := by
  simp only [W.toDs, W.toD]
  cases W.toDs ws <;> rfl
theorem toDs_map : ∀ l : List D, W.toDs (l.map fun d => .a (.d d)) = some l
  | [] => toDs_nil
  | d :: l => by rw [List.map_cons, toDs_a, toDs_map l]; rfl
theorem ownD_toD (l : List D) : (ownD l).toD = some (.list l) := by
  unfold ownD W.toD
  rw [toDs_map]
  rfl
theorem toDs_o {l : List D} {ws : List W} : W.toDs (ownD l :: ws) = (W.toDs ws).map (.list l :: ·) := by
  simp only [W.toDs, ownD_toD]
  cases W.toDs ws <;> rfl
theorem ret_nxt {r : R} {k : Fs} : (retS r).nxt k = retS r := by cases r <;> rfl
/-! ### greatest terms, told otherwise -/
def widT (t : Tm) : List Tm := ((List.range t.length).filter fun k => t[k]? != some none).map fun k => t.set k none
def lgB (f : Fn) (t : Tm) : Bool := ((!((ptsM t).filter fun p => f[p]? == some (some true)).isEmpty && koM f t) && ((widT t).filter (koM f)).isEmpty)
def lgM (n : Nat) (f : Fn) : List Tm := (Tms n).filter (lgB f)
theorem widT_len {t o : Tm} (h : o ∈ widT t) : o.length = t.length := by
  obtain ⟨k, _, rfl⟩ := List.mem_map.mp h
  simp
theorem cutS_to (cs : List Nat) (k : Nat) : cutS (tS cs) none (some (k : Int)) = tS (cs.take k) := by
  unfold cutS
  rw [HT.sIx_none, HT.sIx_nat, tS_len, tS_cps]
  simp [tS]
theorem sl_to (t : Tm) (k : Nat) (h : t.length ≤ 1000) : dSl none (some (k : Int)) (eT t) = some (.a (.d (eT (t.take k)))) := by
  show (if (tS (t.map sgO)).length ≤ sizeLine then some (sD (cutS (tS (t.map sgO)) none (some (k : Int)))) else none) = _
  rw [if_pos (by rw [tS_len, List.length_map, sizeLine_eq]; omega), cutS_to, ← List.map_take]
  rfl
theorem cutS_from (cs : List Nat) (k : Nat) : cutS (tS cs) (some (k : Int)) none = tS (cs.drop k) := by
  unfold cutS
  rw [HT.sIx_none, HT.sIx_nat, tS_len, tS_cps]
  unfold tS
  congr 2
  rcases Nat.le_total k cs.length with h | h
  · rw [Nat.min_eq_left h, List.take_of_length_le (by simp)]
  · rw [Nat.min_eq_right h, List.drop_eq_nil_of_le (Nat.le_refl _), List.drop_eq_nil_of_le h]
    simp
theorem sl_from (t : Tm) (k : Nat) (h : t.length ≤ 1000) : dSl (some (k : Int)) none (eT t) = some (.a (.d (eT (t.drop k)))) := by
  show (if (tS (t.map sgO)).length ≤ sizeLine then some (sD (cutS (tS (t.map sgO)) (some (k : Int)) none)) else none) = _
  rw [if_pos (by rw [tS_len, List.length_map, sizeLine_eq]; omega), cutS_from, ← List.map_drop]
  rfl
theorem add_TT (a b : Tm) (h : a.length + b.length ≤ 1000) (S : Cs) : onD dAdd (.d (eT a)) (.d (eT b)) S = .ok (.a (.d (eT (a ++ b)))) S := by
  have := o_add_txt S (a.map sgO) (b.map sgO) (by rw [List.length_map, List.length_map]; exact h)
  rw [← List.map_append] at this
  exact this
theorem dash_eT : PyData.str (Str.ofString "-") = eT [none] := by
  unfold eT
  have : Str.ofString "-" = tS [45] := by decide
  rw [this]; rfl
end PD

/-! PE3: plain laws about terms and functions. -/
namespace PD
open PySem PySem.Spec PyProof.Rows L2
theorem Tms_mem : ∀ {n : Nat} {t : Tm}, t.length = n → t ∈ Tms n
  | 0, t, h => by
    have : t = [] := List.eq_nil_of_length_eq_zero h
    subst this
    simp [Tms]
  | n + 1, t, h => by
    have hne : t ≠ [] := fun z => by rw [z] at h; simp at h
    have e := (List.dropLast_concat_getLast hne).symm
    unfold Tms
    rw [List.mem_flatMap]
    refine ⟨t.dropLast, Tms_mem (by simp [h]), ?_⟩
    generalize t.getLast hne = a at e
    rw [e]
    simp only [List.dropLast_concat]
    cases a with
    | none => simp
    | some b => cases b <;> simp
theorem lies_pts {a b : Tm} (hl : a.length = b.length) (h : liesM a b = true) {p : Nat} (hp : p ∈ ptsM a) : p ∈ ptsM b := by
  obtain ⟨h1, h2⟩ := List.mem_filter.mp hp
  refine List.mem_filter.mpr ⟨by rw [← hl]; exact h1, ?_⟩
  rw [lies_iff hl] at h
  rw [holds_iff] at h2 ⊢
  intro k y hy
  have hk := (List.getElem?_eq_some_iff.mp hy).1
  have hx := List.getElem?_eq_getElem (show k < a.length by omega)
  rcases h k _ y hx hy with e | e
  · exact .inl e
  · rw [e, ← hl]; exact h2 k _ hx
theorem ko_mono {f : Fn} {a b : Tm} (hl : a.length = b.length) (h : liesM a b = true) (hb : koM f b = true) : koM f a = true := by
  unfold koM at *
  rw [List.all_eq_true] at *
  exact fun p hp => hb p (lies_pts hl h hp)
theorem lies_refl (a : Tm) : liesM a a = true := by
  rw [lies_iff rfl]
  intro k x y hx hy
  rw [hx] at hy
  cases hy
  exact .inr rfl
theorem lies_trans {a b c : Tm} (h1 : a.length = b.length) (h2 : b.length = c.length) (hab : liesM a b = true) (hbc : liesM b c = true) : liesM a c = true := by
  rw [lies_iff h1] at hab
  rw [lies_iff h2] at hbc
  rw [lies_iff (h1.trans h2)]
  intro k x z hx hz
  have hk := (List.getElem?_eq_some_iff.mp hz).1
  have hy := List.getElem?_eq_getElem (show k < b.length by omega)
  rcases hbc k _ z hy hz with e | e
  · exact .inl e
  · rcases hab k x _ hx hy with e2 | e2
    · exact .inl (by rw [e, e2])
    · exact .inr (by rw [e, e2])
theorem lies_set {t : Tm} {k : Nat} : liesM t (t.set k none) = true := by
  rw [lies_iff (by simp)]
  intro j x y hx hy
  by_cases hj : k = j
  · subst hj
    rw [List.getElem?_set_self (List.getElem?_eq_some_iff.mp hx).1] at hy
    cases hy
    exact .inl rfl
  · rw [List.getElem?_set_ne hj, hx] at hy
    cases hy
    exact .inr rfl
/-- a wider term leaves a sign out -/
theorem lies_step {t o : Tm} (hl : t.length = o.length) (h : liesM t o = true) (hne : o ≠ t) : ∃ k, k < t.length ∧ t[k]? ≠ some none ∧ liesM (t.set k none) o = true := by
  have : ∃ k, k < t.length ∧ o[k]? ≠ t[k]? := by
    refine Classical.byContradiction fun hn => hne ?_
    refine List.ext_getElem? fun k => ?_
    by_cases hk : k < t.length
    · exact Classical.byContradiction fun z => hn ⟨k, hk, z⟩
    · rw [List.getElem?_eq_none (by omega), List.getElem?_eq_none (by omega)]
  obtain ⟨k, hk, hk2⟩ := this
  rw [lies_iff hl] at h
  have hx := List.getElem?_eq_getElem hk
  have hy := List.getElem?_eq_getElem (show k < o.length by omega)
  have ho : o[k]? = some none := by
    rcases h k _ _ hx hy with e | e
    · rw [hy, e]
    · exact absurd (by rw [hx, hy, e]) hk2
  refine ⟨k, hk, fun z => hk2 (by rw [ho, z]), ?_⟩
  rw [lies_iff (by simpa using hl)]
  intro j x y hxj hyj
  by_cases hj : k = j
  · subst hj
    rw [ho] at hyj
    cases hyj
    exact .inl rfl
  · rw [List.getElem?_set_ne hj] at hxj
    exact h j x y hxj hyj
theorem filter_ones (f : Fn) (t : Tm) : (!((ptsM t).filter fun p => f[p]? == some (some true)).isEmpty) = (ptsM t).any fun p => f[p]? == some (some true) := by
  refine bool_ext ?_
  rw [Bool.not_eq_true', List.any_eq_true]
  constructor
  · intro h
    cases hq : (ptsM t).filter fun p => f[p]? == some (some true) with
    | nil => rw [hq] at h; cases h
    | cons p l =>
      have : p ∈ (ptsM t).filter fun p => f[p]? == some (some true) := by rw [hq]; simp
      obtain ⟨h1, h2⟩ := List.mem_filter.mp this
      exact ⟨p, h1, h2⟩
  · rintro ⟨p, h1, h2⟩
    have : p ∈ (ptsM t).filter fun p => f[p]? == some (some true) := List.mem_filter.mpr ⟨h1, h2⟩
    cases hq : (ptsM t).filter fun p => f[p]? == some (some true) with
    | nil => rw [hq] at this; simp at this
    | cons p l => rfl
theorem wid_none {f : Fn} {n : Nat} {t : Tm} (ht : t.length = n) : ((widT t).filter (koM f)).isEmpty = ((gdM n f).filter fun o => o != t && liesM t o).isEmpty := by
  refine bool_ext ?_
  rw [List.isEmpty_iff, List.isEmpty_iff, List.filter_eq_nil_iff, List.filter_eq_nil_iff]
  constructor
  · intro h o ho hc
    simp only [Bool.and_eq_true, bne_iff_ne] at hc
    obtain ⟨h1, h2⟩ := List.mem_filter.mp ho
    have hol := Tms_len h1
    obtain ⟨k, k1, k2, k3⟩ := lies_step (by omega) hc.2 hc.1
    refine h (t.set k none) ?_ (ko_mono (by simp; omega) k3 h2)
    exact List.mem_map.mpr ⟨k, List.mem_filter.mpr ⟨List.mem_range.mpr k1, by simpa using k2⟩, rfl⟩
  · intro h o ho hc
    obtain ⟨k, hk, rfl⟩ := List.mem_map.mp ho
    obtain ⟨k1, k2⟩ := List.mem_filter.mp hk
    have k1 := List.mem_range.mp k1
    have k2 : t[k]? ≠ some none := by simpa using k2
    refine h (t.set k none) (List.mem_filter.mpr ⟨Tms_mem (by simpa using ht), hc⟩) ?_
    simp only [Bool.and_eq_true, bne_iff_ne]
    refine ⟨fun z => k2 ?_, lies_set⟩
    have := congrArg (fun l : Tm => l[k]?) z
    simp only [List.getElem?_set_self k1] at this
    exact this.symm
theorem lg_eq (f : Fn) (n : Nat) : lgM n f = grM n f := by
  unfold lgM grM
  conv => rhs; unfold gdM
  rw [List.filter_filter]
  refine List.filter_congr fun t ht => ?_
  have hl := Tms_len ht
  unfold lgB isGrM
  rw [filter_ones, wid_none hl]
  cases koM f t <;> cases ((ptsM t).any fun p => f[p]? == some (some true)) <;> simp
theorem gr_sorted (f : Fn) {n : Nat} (h4 : n ≤ 4) : srt (grM n f) = grM n f := by
  refine srt_eq (.refl _) ?_
  unfold grM gdM
  exact ((Tms_sorted n h4).filter _).filter _
theorem gd_sorted (f : Fn) {n : Nat} (h4 : n ≤ 4) : srt (gdM n f) = gdM n f := by
  refine srt_eq (.refl _) ?_
  unfold gdM
  exact (Tms_sorted n h4).filter _
theorem gr_mem {f : Fn} {n : Nat} {t : Tm} (h : t ∈ grM n f) : t.length = n := gdM_len (List.mem_filter.mp h).1
theorem gr_cnt (f : Fn) {n : Nat} (h4 : n ≤ 4) : (grM n f).length ≤ 81 := Nat.le_trans (List.length_filter_le _ _) (gdM_cnt f h4)
theorem sameOk_T {ts : List Tm} (h : ts.length ≤ 1000) (k : Nat) : sameOk (k + 2) (.list (ts.map eT)) := by
  unfold sameOk
  refine ⟨by rw [List.length_map]; omega, sameOks_all fun d hd => ?_⟩
  obtain ⟨t, _, rfl⟩ := List.mem_map.mp hd
  unfold eT sameOk
  trivial
theorem eqv_N (l m : List Nat) : PyData.eqv (eN l) (eN m) = (l == m) := by
  have h := eqv_plain (eN l) (eN m) (by unfold eN plainD; exact plainAll_map fun _ _ => rfl) (by unfold eN plainD; exact plainAll_map fun _ _ => rfl)
  refine bool_ext ?_
  rw [h, beq_iff_eq]
  constructor
  · intro e
    unfold eN at e
    injection e with e
    have inj : ∀ a b : List Nat, (a.map fun (i : Nat) => PyData.int (i : Int)) = (b.map fun (i : Nat) => PyData.int (i : Int)) → a = b := by
      intro a
      induction a with
      | nil => intro b hb; cases b with
        | nil => rfl
        | cons _ _ => simp at hb
      | cons x a ih => intro b hb; cases b with
        | nil => simp at hb
        | cons y b =>
          simp only [List.map_cons, List.cons.injEq, PyData.int.injEq] at hb
          rw [ih b hb.2, Int.ofNat.inj hb.1]
    exact inj l m e
  · rintro rfl; rfl
theorem ne_N (l m : List Nat) (S : Cs) : onD dNe (.d (eN l)) (.d (eN m)) S = .ok (bD (l != m)) S := by
  rw [o_ne _ (eqOk_sh (okN l 0).sh (okN m 0).sh), eqv_N]
  rfl
theorem eq_N (l m : List Nat) (S : Cs) : onD dEq (.d (eN l)) (.d (eN m)) S = .ok (bD (l == m)) S := by
  rw [o_eq _ (eqOk_sh (okN l 0).sh (okN m 0).sh), eqv_N]
theorem ne_i1 (i : Int) (S : Cs) : onD dNe (.d (.list [.int i])) (.d (.list [.int i])) S = .ok (bD false) S := by
  rw [o_ne _ (eqOk_sh (by simp [SeqAt.shaped, PyData.canLay0, PyData.canLayAll0, PyData.depth, PyData.depthAll]) (by simp [SeqAt.shaped, PyData.canLay0, PyData.canLayAll0, PyData.depth, PyData.depthAll]))]
  simp [PyData.eqv, PyData.eqvAll]
theorem unC_cons {n : Nat} {o : Option W} {ρ : Ev} : unC n (o :: ρ) = unC1 n o :: unC n ρ := rfl
theorem St.drop2 {S : Cs} (h : St S) : S.dropLast = [] := by
  obtain ⟨z, b, rfl, _⟩ := h
  rfl
/-- how many cells a law takes -/
theorem maxmin (m c : Nat) : ∃ k : Nat, (if ((if (c : Int) < (m : Int) then (c : Int) else (m : Int))) > 1 then (if (c : Int) < (m : Int) then (c : Int) else (m : Int)) else 1) = (k : Int) ∧ k ≤ max 1 c := by
  by_cases h : (c : Int) < (m : Int)
  · rw [if_pos h]
    by_cases h2 : (c : Int) > 1
    · exact ⟨c, by rw [if_pos h2], by omega⟩
    · exact ⟨1, by rw [if_neg h2]; rfl, by omega⟩
  · rw [if_neg h]
    by_cases h2 : (m : Int) > 1
    · exact ⟨m, by rw [if_pos h2], by omega⟩
    · exact ⟨1, by rw [if_neg h2]; rfl, by omega⟩
theorem gLen_s (ns : List Int) (S : Cs) : gLen [.s ns] S = .ok (iD ns.length) S := rfl
theorem flat_nil : flatCs [] = true := rfl
theorem law_of {ns : List Int} {sem : Sem_} (h : R.To (sem [.s ns] []) fun w _ => w = bD true) : ∃ S, sem [.s ns] [] = .ok (bD true) S := by
  obtain ⟨w, S, e, rfl⟩ := h.get
  exact ⟨S, e⟩
/-! ### data that are terms -/
def chT (c : Nat) : Bool := c == 48 || c == 49 || c == 45
def isTmD (n : Nat) : D → Bool
  | .str z => z.cps.toList.length == n && z.cps.toList.all chT
  | _ => false
def shortD (d : D) : Prop := ∀ z, d = .str z → z.length ≤ 1000
theorem str_tS (z : Str) : z = tS z.cps.toList := by
  cases z
  simp [tS]
theorem isTm_tS {n : Nat} {cs : List Nat} : isTmD n (.str (tS cs)) = (cs.length == n && cs.all chT) := by
  unfold isTmD
  simp only [tS_cps]
theorem chT_sgO (a : Option Bool) : chT (sgO a) = true := by
  cases a with
  | none => rfl
  | some b => cases b <;> rfl
theorem isTm_eT {n : Nat} {t : Tm} (h : t.length = n) : isTmD n (eT t) = true := by
  unfold eT
  rw [isTm_tS]
  simp [h, List.all_map, chT_sgO]
theorem short_eT {t : Tm} (h : t.length ≤ 1000) : shortD (eT t) := by
  rintro z ⟨⟩
  rw [tS_len, List.length_map]; exact h
theorem of_isTm {n : Nat} {d : D} (h : isTmD n d = true) : ∃ t : Tm, d = eT t ∧ t.length = n := by
  cases d with
  | str z =>
    rw [str_tS z] at h ⊢
    rw [isTm_tS] at h
    generalize z.cps.toList = cs at h ⊢
    rw [Bool.and_eq_true, beq_iff_eq, List.all_eq_true] at h
    obtain ⟨h1, h2⟩ := h
    have : ∃ t : Tm, cs = t.map sgO := by
      clear h1
      induction cs with
      | nil => exact ⟨[], rfl⟩
      | cons c cs ih =>
        obtain ⟨t, rfl⟩ := ih fun x hx => h2 x (List.mem_cons_of_mem _ hx)
        have hc := h2 c List.mem_cons_self
        unfold chT at hc
        simp only [Bool.or_eq_true, beq_iff_eq] at hc
        rcases hc with (rfl | rfl) | rfl
        · exact ⟨some false :: t, rfl⟩
        · exact ⟨some true :: t, rfl⟩
        · exact ⟨none :: t, rfl⟩
    obtain ⟨t, rfl⟩ := this
    exact ⟨t, rfl, by simpa using h1⟩
  | _ => simp [isTmD] at h
theorem in_signs (c : Nat) : (c ∈ (Str.ofString "01-").cps.toList) = (chT c = true) := by
  have : (Str.ofString "01-").cps.toList = [48, 49, 45] := by decide
  rw [this]
  unfold chT
  simp [or_assoc]
theorem sign_in (c : Nat) (S : Cs) : onD dIn (.d (.str (tS [c]))) (.d (.str (Str.ofString "01-"))) S = .ok (bD (chT c)) S := by
  show (match (if (tS [c]).length = 1 then some (bD (decide ((tS [c]).cps.toList.headD 0 ∈ (Str.ofString "01-").cps.toList))) else none) with | some w => R.ok w S | none => .stuck) = _
  rw [if_pos (by rw [tS_len]; rfl), tS_cps]
  simp only [List.headD_cons, in_signs]
  simp
theorem eq_i (i j : Int) (S : Cs) : onD dEq (.d (.int i)) (.d (.int j)) S = .ok (bD (decide (i = j))) S := by
  rw [o_eq _ (eqOk_flat rfl rfl)]
  congr 2
theorem ne_i (i j : Int) (S : Cs) : onD dNe (.d (.int i)) (.d (.int j)) S = .ok (bD (decide (i ≠ j))) S := by
  rw [o_ne _ (eqOk_flat rfl rfl)]
  have : PyData.eqv (.int i) (.int j) = decide (i = j) := by simp only [PyData.eqv]; rfl
  rw [this]
  simp
/-- a text told many times -/
def repS (c k : Nat) : Str := tS (List.replicate k c)
theorem flat_rep (c : Nat) : ∀ k : Nat, (List.replicate k [c]).flatten = List.replicate k c
  | 0 => rfl
  | k + 1 => by rw [List.replicate_succ, List.flatten_cons, flat_rep c k]; rfl
theorem mul_S (c k : Nat) (hk : k ≤ 1000) (S : Cs) : onD dMul (.d (.str (tS [c]))) (.d (.int (k : Nat))) S = .ok (.a (.d (.str (repS c k)))) S := by
  show (match (if (0 : Int) ≤ (k : Int) ∧ (k : Int) ≤ 1000 ∧ (tS [c]).length ≤ 1000 then some (sD ⟨(List.replicate ((k : Int)).toNat (tS [c]).cps.toList).flatten.toArray⟩) else none) with | some w => R.ok w S | none => .stuck) = _
  rw [if_pos ⟨by omega, by omega, by rw [tS_len]; simp⟩, i2n, tS_cps, flat_rep]
  rfl
theorem mul_dash (k : Nat) (hk : k ≤ 1000) (S : Cs) : onD dMul (.d (.str (Str.ofString "-"))) (.d (.int (k : Nat))) S = .ok (.a (.d (.str (repS 45 k)))) S := mul_S 45 k hk S
theorem mul_two (k : Nat) (hk : k ≤ 1000) (S : Cs) : onD dMul (.d (.str (Str.ofString "2"))) (.d (.int (k : Nat))) S = .ok (.a (.d (.str (repS 50 k)))) S := mul_S 50 k hk S
theorem isTm_rep {n c k : Nat} : isTmD n (.str (repS c k)) = (k == n && (k == 0 || chT c)) := by
  unfold repS
  rw [isTm_tS, List.length_replicate]
  cases k with
  | zero => simp
  | succ k => simp
theorem short_rep {c k : Nat} (h : k ≤ 1000) : shortD (.str (repS c k)) := by
  rintro z ⟨⟩
  rw [repS, tS_len, List.length_replicate]; exact h
/-- what is no function -/
theorem none8 {r : Nat} (h : r < 8) (S : Cs) : ∃ d : D, dIx (.d (.list [.none, .int 0, .tuple [], .tuple [.int 0], .tuple [.int 0, .int 2], .list [.int 0, .int 1], .tuple [.int 0, .bool true], .str "01"])) (.d (.int r)) S = .ok (.a (.d d)) S ∧ isFnD d = false := by
  have : r = 0 ∨ r = 1 ∨ r = 2 ∨ r = 3 ∨ r = 4 ∨ r = 5 ∨ r = 6 ∨ r = 7 := by omega
  rcases this with rfl | rfl | rfl | rfl | rfl | rfl | rfl | rfl <;> exact ⟨_, rfl, by decide⟩
/-- what is no term -/
theorem bad8 {n r : Nat} (h1 : 1 ≤ n) (h4 : n ≤ 4) (h : r < 8) (S : Cs) : ∃ d : D, dIx (.d (.list [.none, .int 0, .str (repS 45 (n + 1)), .str "", .str (repS 50 n), .tuple [.str "0"], .list [.str (repS 45 n)], .bool true])) (.d (.int r)) S = .ok (.a (.d d)) S ∧ isTmD n d = false ∧ shortD d := by
  have : r = 0 ∨ r = 1 ∨ r = 2 ∨ r = 3 ∨ r = 4 ∨ r = 5 ∨ r = 6 ∨ r = 7 := by omega
  rcases this with rfl | rfl | rfl | rfl | rfl | rfl | rfl | rfl
  · exact ⟨_, rfl, rfl, by intro z h; cases h⟩
  · exact ⟨_, rfl, rfl, by intro z h; cases h⟩
  · exact ⟨_, rfl, by rw [isTm_rep]; simp, short_rep (by omega)⟩
  · exact ⟨_, rfl, by have : isTmD n (.str (tS [])) = false := by rw [isTm_tS]; simp; omega
                      exact this, by rintro z ⟨⟩; decide⟩
  · exact ⟨_, rfl, by rw [isTm_rep]; simp [chT]; omega, short_rep (by omega)⟩
  · exact ⟨_, rfl, rfl, by intro z h; cases h⟩
  · exact ⟨_, rfl, rfl, by intro z h; cases h⟩
  · exact ⟨_, rfl, rfl, by intro z h; cases h⟩
theorem bad7 {n r : Nat} (h1 : 1 ≤ n) (h4 : n ≤ 4) (h : r < 7) (S : Cs) : ∃ d : D, dIx (.d (.list [.none, .int 0, .str (repS 45 (n + 1)), .str "", .str (repS 50 n), .tuple [.str "0"], .bool true])) (.d (.int r)) S = .ok (.a (.d d)) S ∧ isTmD n d = false ∧ shortD d := by
  have : r = 0 ∨ r = 1 ∨ r = 2 ∨ r = 3 ∨ r = 4 ∨ r = 5 ∨ r = 6 := by omega
  rcases this with rfl | rfl | rfl | rfl | rfl | rfl | rfl
  · exact ⟨_, rfl, rfl, by intro z h; cases h⟩
  · exact ⟨_, rfl, rfl, by intro z h; cases h⟩
  · exact ⟨_, rfl, by rw [isTm_rep]; simp, short_rep (by omega)⟩
  · exact ⟨_, rfl, by have : isTmD n (.str (tS [])) = false := by rw [isTm_tS]; simp; omega
                      exact this, by rintro z ⟨⟩; decide⟩
  · exact ⟨_, rfl, by rw [isTm_rep]; simp [chT]; omega, short_rep (by omega)⟩
  · exact ⟨_, rfl, rfl, by intro z h; cases h⟩
  · exact ⟨_, rfl, rfl, by intro z h; cases h⟩
/-! ### widened terms -/
def widStep (f : Fn) (u : Tm) (k : Nat) : Tm := if koM f (u.set k none) = true then u.set k none else u
def widF (f : Fn) (t : Tm) : Tm := (List.range t.length).foldl (widStep f) t
theorem widStep_len (f : Fn) (u : Tm) (k : Nat) : (widStep f u k).length = u.length := by
  unfold widStep
  split <;> simp
theorem widF_len' (f : Fn) : ∀ (ks : List Nat) (t : Tm), (ks.foldl (widStep f) t).length = t.length
  | [], t => rfl
  | k :: ks, t => by rw [List.foldl_cons, widF_len' f ks, widStep_len]
theorem leave_out (u : Tm) (k : Nat) (hk : k < u.length) (h : u.length ≤ 900) (S : Cs) : onD dAdd (.d (eT (u.take k ++ [none]))) (.d (eT (u.drop (k + 1)))) S = .ok (.a (.d (eT (u.set k none)))) S := by
  rw [add_TT _ _ (by simp; omega)]
  congr 4
  rw [List.set_eq_take_append_cons_drop, if_pos hk]
  simp
theorem leave_out1 (u : Tm) (k : Nat) (h : u.length ≤ 900) (S : Cs) : onD dAdd (.d (eT (u.take k))) (.d (eT [none])) S = .ok (.a (.d (eT (u.take k ++ [none])))) S := add_TT _ _ (by simp; omega) S
theorem cast1 (k : Nat) : (k : Int) + 1 = ((k + 1 : Nat) : Int) := by omega
theorem bits_eT (n p : Nat) : sD (tS ((bits n p).map sg)) = .a (.d (eT ((bits n p).map some))) := by
  unfold eT
  rw [List.map_map]
  rfl
section
variable {r : R} {i : Nat} {ρ : Ev} {k : Fs} {Qn : Ev → Cs → Prop} {Qr : W → Cs → Prop}
theorem to_setn (h : R.To r fun w S => Fl.To (k (ρ.set i (some w)) S) Qn Qr) : Fl.To ((setS r i ρ).nxt k) Qn Qr := by
  cases r with
  | ok w S => exact h
  | _ => exact h.elim
end
/-- all are terms of n signs -/
theorem all_T {n : Nat} {ds : List D} (h : ∀ d ∈ ds, ∃ t : Tm, d = eT t ∧ t.length = n) : ∃ ts : List Tm, ds = ts.map eT ∧ ∀ t ∈ ts, t.length = n := by
  induction ds with
  | nil => exact ⟨[], rfl, by simp⟩
  | cons d ds ih =>
    obtain ⟨t, rfl, ht⟩ := h d List.mem_cons_self
    obtain ⟨ts, rfl, hs⟩ := ih fun e he => h e (List.mem_cons_of_mem _ he)
    refine ⟨t :: ts, rfl, fun u hu => ?_⟩
    rcases List.mem_cons.mp hu with rfl | hu
    · exact ht
    · exact hs u hu
theorem one_more {n : Nat} {ds : List D} {t : Tm} (h : ∀ d ∈ ds, ∃ t : Tm, d = eT t ∧ t.length = n) (ht : t.length = n) : ∀ d ∈ ds ++ [eT t], ∃ t : Tm, d = eT t ∧ t.length = n := by
  intro d hd
  rcases List.mem_append.mp hd with hd | hd
  · exact h d hd
  · exact ⟨t, List.mem_singleton.mp hd, ht⟩
end PD

/-! PE4: levels of terms; the further rules, applied. -/
namespace PD
open PySem PySem.Spec PyProof.Rows L2
/-! ### applied forms -/
def appV1 (o1 o2 : Option (Option W)) (i k : Nat) (ρ : Ev) (S : Cs) : Fl := match o1, o2 with
  | some (some (.own ws)), some (some (.own us)) => if i ≠ k ∧ ws.length < 1000000 then .nx ((ρ.set k none).set i (some (.own (ws ++ [.own us])))) S else .stuck
  | _, _ => .stuck
def appIx1 (o : Option (Option W)) (r : R) (f : Fe) (i : Nat) (ρ : Ev) : Fl := match o with
  | some (some (.own ws)) => match r with
    | .ok (.a (.d (.int n))) S1 => match ixN ws.length n with
      | some j => match ws[j]? with
        | some (.own us) => match f (ev ρ) S1 with
          | .ok w S2 => if us.length < 1000000 then .nx (ρ.set i (some (.own (ws.set j (.own (us ++ [w])))))) S2 else .stuck
          | .exc m S2 => .exc m S2
          | .stuck => .stuck
        | _ => .stuck
      | none => .stuck
    | .exc m S1 => .exc m S1
    | _ => .stuck
  | _ => .stuck
def forBS (r : SR) (g : Gs) (body : Fs) (ρ : Ev) : Fl := match r with
  | .ok items S => if flatCs S = true then forL g body (dom ρ) items ρ S else .stuck
  | .exc n S => .exc n S
  | .stuck => .stuck
section
variable {ρ : Ev} {S : Cs} {i k : Nat} {is : List Nat}
theorem p_appV : sAppV i k ρ S = appV1 ρ[i]? ρ[k]? i k ρ S := rfl
theorem appV_ok {ws us : List W} : appV1 (some (some (.own ws))) (some (some (.own us))) i k ρ S = if i ≠ k ∧ ws.length < 1000000 then .nx ((ρ.set k none).set i (some (.own (ws ++ [.own us])))) S else .stuck := rfl
theorem appV_ok' {ws : List W} {us : List D} : appV1 (some (some (.own ws))) (some (some (ownD us))) i k ρ S = if i ≠ k ∧ ws.length < 1000000 then .nx ((ρ.set k none).set i (some (.own (ws ++ [ownD us])))) S else .stuck := rfl
theorem p_appIx {fi f : Fe} : sAppIx i is fi f ρ S = appIx1 (frzE is ρ)[i]? (fi (ev (frzE is ρ)) S) f i (frzE is ρ) := rfl
theorem appIx_ok {ws us : List W} {f : Fe} {S1 : Cs} {n j : Nat} {w : W} (hj : ws[n]? = some (.own us)) (hf : f (ev ρ) S = .ok w S1) (hl : us.length < 1000000) : appIx1 (some (some (.own ws))) (.ok (iD n) S) f i ρ = .nx (ρ.set i (some (.own (ws.set n (.own (us ++ [w])))))) S1 := by
  have hn := (List.getElem?_eq_some_iff.mp hj).1
  show (match ixN ws.length (n : Int) with
      | some j => match ws[j]? with
        | some (.own us) => match f (ev ρ) S with
          | .ok w S2 => if us.length < 1000000 then Fl.nx (ρ.set i (some (.own (ws.set j (.own (us ++ [w])))))) S2 else .stuck
          | .exc m S2 => .exc m S2
          | .stuck => .stuck
        | _ => .stuck
      | none => .stuck) = _
  rw [ixN_n hn]
  simp only [hj, hf, hl, if_true]
theorem p_forB {src : Fi} {g : Gs} {g1 : Fs} : sForB is src g g1 ρ S = forBS (src (ev (frzE is ρ)) S) g g1 ρ := rfl
theorem forB_ok {items : List D} {g : Gs} {g1 : Fs} : forBS (.ok items S) g g1 ρ = if flatCs S = true then forL g g1 (dom ρ) items ρ S else .stuck := rfl
end
/-! ### dashes -/
def dsh (t : Tm) : Nat := t.count none
theorem cnt_dash {n : Nat} (h4 : n ≤ 4) {t : Tm} (ht : t.length = n) : Txt.count (tS (t.map sgO)) (Str.ofString "-") = (dsh t : Int) := by
  have h : n = 0 ∨ n = 1 ∨ n = 2 ∨ n = 3 ∨ n = 4 := by omega
  have hm := Tms_mem ht
  have key : ∀ n, n < 5 → ∀ t ∈ Tms n, Txt.count (tS (t.map sgO)) (Str.ofString "-") = (dsh t : Int) := by decide +kernel
  exact key n (by omega) t hm
theorem ix_dash {n : Nat} (h4 : n ≤ 4) {t : Tm} (ht : t.length = n) (h0 : 0 < dsh t) : ∃ i : Nat, dIndex (tS (t.map sgO)) (.str (Str.ofString "-")) = some (iD i) ∧ t[i]? = some none := by
  have hm := Tms_mem ht
  have key : ∀ n, n < 5 → ∀ t ∈ Tms n, 0 < dsh t → (Builtin.Str.occurrences (tS (t.map sgO)) (Str.ofString "-") 0 (tS (t.map sgO)).length 1).head?.bind (fun i => t[i]?) = some none := by decide +kernel
  have := key n (by omega) t hm h0
  unfold dIndex
  simp only
  cases q : Builtin.Str.occurrences (tS (t.map sgO)) (Str.ofString "-") 0 (tS (t.map sgO)).length 1 with
  | nil => rw [q] at this; simp at this
  | cons i l =>
    rw [q] at this
    exact ⟨i, rfl, by simpa using this⟩
/-! ### the levels -/
def rowM (n : Nat) (f : Fn) (m : Nat) : List Tm := (gdM n f).filter fun t => dsh t == m
def lvM (n : Nat) (f : Fn) : List (List Tm) := ((List.range (n + 1)).map (rowM n f)).filter fun r => !r.isEmpty
theorem filter_lt_range (m : Nat) : ∀ n, m ≤ n → ((List.range n).filter fun k => decide (k < m)) = List.range m
  | 0, h => by
    have : m = 0 := by omega
    subst this; rfl
  | n + 1, h => by
    rw [List.range_succ, List.filter_append]
    by_cases hm : m ≤ n
    · rw [filter_lt_range m n hm]
      simp
      omega
    · have : m = n + 1 := by omega
      subst this
      rw [List.range_succ]
      congr 1
      · refine List.filter_eq_self.mpr fun k hk => ?_
        have := List.mem_range.mp hk
        exact decide_eq_true (by omega)
      · simp
theorem row_len {n m : Nat} {f : Fn} {t : Tm} (h : t ∈ rowM n f m) : t.length = n := gdM_len (List.mem_filter.mp h).1
theorem row_cnt (f : Fn) {n m : Nat} (h4 : n ≤ 4) : (rowM n f m).length ≤ 81 := Nat.le_trans (List.length_filter_le _ _) (gdM_cnt f h4)
/-- a dash may be told -/
theorem row_down {n m i : Nat} {f : Fn} {t : Tm} (h : t ∈ rowM n f (m + 1)) (hi : t[i]? = some none) (b : Bool) : t.set i (some b) ∈ rowM n f m := by
  obtain ⟨h1, h2⟩ := List.mem_filter.mp h
  obtain ⟨h3, h4⟩ := List.mem_filter.mp h1
  have hl := Tms_len h3
  obtain ⟨hk, hk2⟩ := List.getElem?_eq_some_iff.mp hi
  refine List.mem_filter.mpr ⟨List.mem_filter.mpr ⟨Tms_mem (by simpa using hl), ko_mono (b := t) (by simp) ?_ h4⟩, ?_⟩
  · rw [lies_iff (by simp)]
    intro j x y hx hy
    by_cases hj : i = j
    · subst hj
      rw [hi] at hy
      cases hy
      exact .inl rfl
    · rw [List.getElem?_set_ne hj, hy] at hx
      cases hx
      exact .inr rfl
  · have h2 : t.count none = m + 1 := by simpa [dsh] using h2
    unfold dsh
    rw [List.count_set hk, hk2, h2]
    simp
theorem dsh_le (t : Tm) : dsh t ≤ t.length := List.count_le_length
theorem row_some {n f} : ∀ {m : Nat}, rowM n f m ≠ [] → ∀ k ≤ m, rowM n f k ≠ []
  | 0, h, k, hk => by
    have : k = 0 := by omega
    subst this; exact h
  | m + 1, h, k, hk => by
    by_cases e : k = m + 1
    · subst e; exact h
    · obtain ⟨t, ht⟩ := List.exists_mem_of_ne_nil _ h
      have hd : dsh t = m + 1 := by simpa using (List.mem_filter.mp ht).2
      have : (none : Option Bool) ∈ t := List.count_pos_iff.mp (show 0 < t.count none by unfold dsh at hd; omega)
      obtain ⟨i, hi⟩ := List.getElem?_of_mem this
      have h3 := row_down ht hi true
      exact row_some (List.ne_nil_of_mem h3) k (by omega)
/-- the levels are the rows up to the greatest number of dashes -/
theorem lv_rows {n : Nat} {f : Fn} {M : Nat} {t0 : Tm} (h0 : t0 ∈ gdM n f) (hM : dsh t0 = M) (hmax : ∀ t ∈ gdM n f, dsh t ≤ M) : lvM n f = (List.range (M + 1)).map (rowM n f) := by
  have hn : M ≤ n := by rw [← hM, ← gdM_len h0]; exact dsh_le t0
  unfold lvM
  rw [List.filter_map]
  congr 1
  rw [← filter_lt_range (M + 1) (n + 1) (by omega)]
  refine List.filter_congr fun k hk => ?_
  by_cases hkM : k < M + 1
  · rw [decide_eq_true hkM]
    have : rowM n f k ≠ [] := row_some (m := M) (List.ne_nil_of_mem (List.mem_filter.mpr ⟨h0, by simp [hM]⟩)) k (by omega)
    cases hr : rowM n f k with
    | nil => exact absurd hr this
    | cons _ _ => simp [hr]
  · rw [decide_eq_false hkM]
    have : rowM n f k = [] := List.filter_eq_nil_iff.mpr fun t ht => by
      have := hmax t ht
      simp; omega
    simp [this]
theorem lv_none {n : Nat} {f : Fn} (h0 : gdM n f = []) : lvM n f = [] := by
  unfold lvM
  refine List.filter_eq_nil_iff.mpr fun r hr => ?_
  obtain ⟨m, _, rfl⟩ := List.mem_map.mp hr
  simp [rowM, h0]
theorem cntD {n : Nat} (h4 : n ≤ 4) {t : Tm} (ht : t.length = n) : dCount (tS (t.map sgO)) (.str (Str.ofString "-")) = some (iD (dsh t)) := by
  show some (iD (Txt.count (tS (t.map sgO)) (Str.ofString "-"))) = _
  rw [cnt_dash h4 ht]
/-! ### lists of lists -/
theorem sm1_T {t : Tm} {S : Cs} {fb : Fe} {ρ : En} {g : Str → D → Option W} : sm1 (.ok (.a (.d (eT t))) S) fb ρ g = sm2 (tS (t.map sgO)) (fb ρ S) g := rfl
theorem dec_eqN (a b : Nat) : decide ((a : Int) = (b : Int)) = (a == b) := by
  rw [Bool.eq_iff_iff, decide_eq_true_iff, beq_iff_eq]
  omega
theorem ne_nilT (l : List Tm) (S : Cs) : onD dNe (.d (.list (l.map eT))) (.d (.list [])) S = .ok (bD (!l.isEmpty)) S := by
  rw [o_ne _ (eqOk_sh (okD.lst (n := 0) fun t _ => okD.eT 0 t).sh (show SeqAt.shaped (.list []) = true from by decide))]
  cases l <;> rfl
theorem compL_o {α : Type} {g : Gt} {fe : Fe} {ρ : En} {S : Cs} (en : α → D) (w : α → List D) : ∀ (xs : List α) (acc : List W), (∀ x ∈ xs, ∃ ρ1, g (en x) ρ = some ρ1 ∧ fe ρ1 S = .ok (ownD (w x)) S) → compL g fTrue fe ρ (xs.map en) S acc = .ok (.own (acc ++ xs.map fun x => ownD (w x))) S
  | [], acc, _ => by simp [compL]
  | x :: xs, acc, h => by
    obtain ⟨ρ1, h1, h2⟩ := h x List.mem_cons_self
    rw [List.map_cons]
    unfold compL
    rw [h1]
    simp only [fTrue, h2]
    rw [compL_o en w xs _ fun y hy => h y (List.mem_cons_of_mem _ hy)]
    simp
theorem toDs_rows {α : Type} (g : α → List D) : ∀ rows : List α, W.toDs (rows.map fun r => ownD (g r)) = some (rows.map fun r => .list (g r))
  | [] => toDs_nil
  | r :: rows => by rw [List.map_cons, toDs_o, toDs_rows g rows]; rfl
theorem frz1_0r {α : Type} (g : α → List D) (rows : List α) (ρ : Ev) : frz1 0 (some (.own (rows.map fun r => ownD (g r))) :: ρ) = some (.a (.d (.list (rows.map fun r => .list (g r))))) :: ρ := by
  unfold frz1
  have e : (W.own (rows.map fun r => ownD (g r))).toA = some (.d (.list (rows.map fun r => .list (g r)))) := by
    show (W.toDs _).map _ = _
    rw [toDs_rows]; rfl
  show (match (W.own (rows.map fun r => ownD (g r))).toA with | some x => (some (W.own (rows.map fun r => ownD (g r))) :: ρ).set 0 (some (W.a x)) | none => _) = _
  rw [e]
  rfl
theorem app_0w {ws : List W} {w : W} {S : Cs} {ρ : Ev} : appS (.ok w S) 0 (some (.own ws) :: ρ) = if ws.length < 1000000 then .nx (some (.own (ws ++ [w])) :: ρ) S else .stuck := rfl
theorem rng2_1 (k : Nat) (h : k ≤ 1000000) : rng2 (.d (.int 1)) (.d (.int (k : Nat))) = some ((List.range (k - 1)).map fun (i : Nat) => PyData.int ((i + 1 : Nat) : Int)) := by
  show (if (k : Int) ≤ 1000000 ∧ -1000000 ≤ (k : Int) ∧ (1 : Int) ≤ 1000000 ∧ -1000000 ≤ (1 : Int) then some (rngD 1 ((k : Int) - 1).toNat) else none) = _
  rw [if_pos (by omega)]
  have : ((k : Int) - 1).toNat = k - 1 := by omega
  rw [this]
  unfold rngD
  congr 2
  funext i
  congr 1
  omega
theorem sameOk_TT {rows : List (List Tm)} (h : rows.length ≤ 1000) (h2 : ∀ r ∈ rows, r.length ≤ 1000) (k : Nat) : sameOk (k + 3) (.list (rows.map fun r => .list (r.map eT))) := by
  unfold sameOk
  refine ⟨by rw [List.length_map]; omega, sameOks_all fun d hd => ?_⟩
  obtain ⟨r, hr, rfl⟩ := List.mem_map.mp hd
  exact sameOk_T (h2 r hr) k
theorem flatT (l : List Tm) : flatAll (l.map eT) = true := by
  unfold flatAll
  simp [flatD, eT]
theorem inD_T (t : Tm) (l : List Tm) : inD (eT t) (l.map eT) = l.contains t := by
  unfold inD
  rw [List.any_map]
  induction l with
  | nil => rfl
  | cons x l ih =>
    rw [List.any_cons, List.contains_cons, ih]
    congr 1
    refine bool_ext ?_
    show PyData.eqv (eT x) (eT t) = true ↔ _
    rw [eqv_plain _ _ (plain_eT x) (plain_eT t), eT_inj, beq_iff_eq]
    exact eq_comm
theorem in_T (t : Tm) (l : List Tm) (S : Cs) : onD dIn (.d (eT t)) (.d (.list (l.map eT))) S = .ok (bD (l.contains t)) S := by
  rw [o_in_lst _ rfl (flatT l), inD_T]
theorem sign_eT (b : Bool) : PyData.str (Str.ofString (if b = true then "1" else "0")) = eT [some b] := by cases b <;> rfl
theorem zero_eT : PyData.str (Str.ofString "0") = eT [some false] := sign_eT false
theorem one_eT : PyData.str (Str.ofString "1") = eT [some true] := sign_eT true
theorem put_in1 (u : Tm) (k : Nat) (a : Option Bool) (h : u.length ≤ 900) (S : Cs) : onD dAdd (.d (eT (u.take k))) (.d (eT [a])) S = .ok (.a (.d (eT (u.take k ++ [a])))) S := add_TT _ _ (by simp; omega) S
theorem put_in (u : Tm) (k : Nat) (a : Option Bool) (hk : k < u.length) (h : u.length ≤ 900) (S : Cs) : onD dAdd (.d (eT (u.take k ++ [a]))) (.d (eT (u.drop (k + 1)))) S = .ok (.a (.d (eT (u.set k a)))) S := by
  rw [add_TT _ _ (by simp; omega)]
  congr 4
  rw [List.set_eq_take_append_cons_drop, if_pos hk]
  simp
/-! ### chains of comparisons -/
def ch1 (r : R) (fb fc : Fe) (ρ : En) (g g' : A → A → Cs → R) : R := r.bnd fun x S1 => (fb ρ S1).bnd fun y S2 => (g x y S2).bnd fun z S3 => match z with
  | .d (.bool true) => (fc ρ S3).bnd fun w S4 => g' y w S4
  | .d (.bool false) => .ok (bD false) S3
  | _ => .stuck
def ch2 (x : A) (r : R) (fc : Fe) (ρ : En) (g g' : A → A → Cs → R) : R := r.bnd fun y S2 => (g x y S2).bnd fun z S3 => match z with
  | .d (.bool true) => (fc ρ S3).bnd fun w S4 => g' y w S4
  | .d (.bool false) => .ok (bD false) S3
  | _ => .stuck
def ch3 (r : R) (y : A) (fc : Fe) (ρ : En) (g' : A → A → Cs → R) : R := r.bnd fun z S3 => match z with
  | .d (.bool true) => (fc ρ S3).bnd fun w S4 => g' y w S4
  | .d (.bool false) => .ok (bD false) S3
  | _ => .stuck
def ch4 (y : A) (r : R) (g' : A → A → Cs → R) : R := r.bnd fun w S4 => g' y w S4
section
variable {fa fb fc : Fe} {ρ : En} {S : Cs} {g g' : A → A → Cs → R} {x y : A}
theorem q_chain : fChain g g' fa fb fc ρ S = ch1 (fa ρ S) fb fc ρ g g' := rfl
theorem ch1_a : ch1 (.ok (.a x) S) fb fc ρ g g' = ch2 x (fb ρ S) fc ρ g g' := rfl
theorem ch2_a : ch2 x (.ok (.a y) S) fc ρ g g' = ch3 (g x y S) y fc ρ g' := rfl
theorem ch3_tt : ch3 (.ok (bD true) S) y fc ρ g' = ch4 y (fc ρ S) g' := rfl
theorem ch3_ff : ch3 (.ok (bD false) S) y fc ρ g' = .ok (bD false) S := rfl
theorem ch4_a : ch4 y (.ok (.a x) S) g' = g' y x S := rfl
end
theorem nin_T (t : Tm) (l : List Tm) (S : Cs) : onD dNotIn (.d (eT t)) (.d (.list (l.map eT))) S = .ok (bD (!l.contains t)) S := by
  rw [o_nin_lst _ rfl (flatT l), inD_T]
theorem ne_b (a b : Bool) (S : Cs) : onD dNe (.d (.bool a)) (.d (.bool b)) S = .ok (bD (a != b)) S := by
  rw [o_ne _ (eqOk_flat rfl rfl)]
  cases a <;> cases b <;> rfl
theorem eq_b (a b : Bool) (S : Cs) : onD dEq (.d (.bool a)) (.d (.bool b)) S = .ok (bD (a == b)) S := by
  rw [o_eq _ (eqOk_flat rfl rfl)]
  cases a <;> cases b <;> rfl
/-! ### a, b = x, y -/
def par1 (r : R) (f2 : Fe) (i j : Nat) (ρ : Ev) : Fl := match r with
  | .ok w S1 => match f2 (ev ρ) S1 with
    | .ok u S2 => .nx ((ρ.set i (some w)).set j (some u)) S2
    | .exc n S2 => .exc n S2
    | .stuck => .stuck
  | .exc n S1 => .exc n S1
  | .stuck => .stuck
def par2 (w : W) (r : R) (i j : Nat) (ρ : Ev) : Fl := match r with
    | .ok u S2 => .nx ((ρ.set i (some w)).set j (some u)) S2
    | .exc n S2 => .exc n S2
    | .stuck => .stuck
section
variable {ρ : Ev} {S : Cs} {i j : Nat} {is : List Nat} {f1 f2 : Fe} {w u : W}
theorem par_ap : sPar i j is f1 f2 ρ S = par1 (f1 (ev (frzE is ρ)) S) f2 i j (frzE is ρ) := rfl
theorem par1_ok : par1 (.ok w S) f2 i j ρ = par2 w (f2 (ev ρ) S) i j ρ := rfl
theorem par2_ok : par2 w (.ok u S) i j ρ = .nx ((ρ.set i (some w)).set j (some u)) S := rfl
end
end PD

/-! PE5: widened terms; forms. -/
namespace PD
open PySem PySem.Spec PyProof.Rows L2
/-! ### points with an answer -/
def pwM (f : Fn) (a : Option Bool) : List Nat := (f.zipIdx.filter fun q => q.1 == a).map (·.2)
theorem mem_pw {f : Fn} {a : Option Bool} {p : Nat} : p ∈ pwM f a ↔ f[p]? = some a := by
  unfold pwM
  rw [List.mem_map]
  constructor
  · rintro ⟨q, hq, rfl⟩
    obtain ⟨h1, h2⟩ := List.mem_filter.mp hq
    have := List.mem_zipIdx_iff_getElem?.mp h1
    rw [this]
    simpa using h2
  · intro h
    exact ⟨(a, p), List.mem_filter.mpr ⟨List.mem_zipIdx_iff_getElem?.mpr h, by simp⟩, rfl⟩
theorem eqA (x a : Option Bool) (S : Cs) : onD dEq (.d (aO x)) (.d (aO a)) S = .ok (bD (x == a)) S := by
  rw [o_eq _ (eqOk_flat (flat_aO x) (flat_aO a))]
  have h := eqv_plain (aO x) (aO a) (plain_aO x) (plain_aO a)
  congr 2
  refine bool_ext ?_
  rw [h, beq_iff_eq]
  constructor
  · intro e
    cases x with
    | none => cases a with
      | none => rfl
      | some b => cases b <;> simp [aO] at e
    | some b => cases a with
      | none => cases b <;> simp [aO] at e
      | some c => cases b <;> cases c <;> simp [aO] at e ⊢
  · rintro rfl; rfl
/-! ### forms -/
def hoM (f : Fn) (ts : List Tm) : Bool := (pwM f (some true)).all fun p => (ts.flatMap ptsM).contains p
def ltT (a b : Tm) : Bool := decide (a.map sgO < b.map sgO)
def ascT (ts : List Tm) : Bool := (ts.zip (ts.drop 1)).all fun q => ltT q.1 q.2
def formM (f : Fn) (ts : List Tm) : Bool := ascT ts && (ts.all (koM f) && hoM f ts)
theorem Tms_strict : ∀ n, n ≤ 4 → (Tms n).Pairwise fun a b => ltT a b = true := by
  intro n hn
  have : n = 0 ∨ n = 1 ∨ n = 2 ∨ n = 3 ∨ n = 4 := by omega
  rcases this with rfl | rfl | rfl | rfl | rfl <;> decide +kernel
theorem asc_of : ∀ {ts : List Tm}, ts.Pairwise (fun a b => ltT a b = true) → ascT ts = true
  | [], _ => rfl
  | [_], _ => rfl
  | a :: b :: ts, h => by
    have h2 := List.pairwise_cons.mp h
    have ih := asc_of h2.2
    unfold ascT at ih ⊢
    simp only [List.drop_succ_cons, List.drop_zero] at ih ⊢
    rw [List.zip_cons_cons, List.all_cons, ih, h2.1 b List.mem_cons_self]
    rfl
theorem gr_strict (f : Fn) {n : Nat} (h4 : n ≤ 4) : (grM n f).Pairwise fun a b => ltT a b = true := by
  unfold grM gdM
  exact ((Tms_strict n h4).filter _).filter _
theorem lt_TT (a b : Tm) (S : Cs) : onD dLt (.d (eT a)) (.d (eT b)) S = .ok (bD (ltT a b)) S := rfl
/-! ### widened terms -/
theorem lies_set_mono {u w : Tm} (hl : u.length = w.length) (h : liesM u w = true) (k : Nat) : liesM (u.set k none) (w.set k none) = true := by
  rw [lies_iff hl] at h
  rw [lies_iff (by simpa using hl)]
  intro j x y hx hy
  by_cases hj : k = j
  · subst hj
    have hk := (List.getElem?_eq_some_iff.mp hy).1
    rw [List.length_set] at hk
    rw [List.getElem?_set_self hk] at hy
    cases hy
    exact .inl rfl
  · rw [List.getElem?_set_ne hj] at hx hy
    exact h j x y hx hy
theorem widStep_lies (f : Fn) (u : Tm) (k : Nat) : liesM u (widStep f u k) = true := by
  unfold widStep
  split
  · exact lies_set
  · exact lies_refl u
theorem widF_lies' (f : Fn) : ∀ (ks : List Nat) (t : Tm), liesM t (ks.foldl (widStep f) t) = true
  | [], t => lies_refl t
  | k :: ks, t => by
    rw [List.foldl_cons]
    exact lies_trans (widStep_len f t k).symm (by rw [widF_len' f ks]) (widStep_lies f t k) (widF_lies' f ks _)
theorem widF_ko' (f : Fn) : ∀ (ks : List Nat) (t : Tm), koM f t = true → koM f (ks.foldl (widStep f) t) = true
  | [], t, h => h
  | k :: ks, t, h => by
    rw [List.foldl_cons]
    refine widF_ko' f ks _ ?_
    unfold widStep
    split
    · assumption
    · exact h
theorem widF_len (f : Fn) (t : Tm) : (widF f t).length = t.length := widF_len' f _ t
theorem widF_lies (f : Fn) (t : Tm) : liesM t (widF f t) = true := widF_lies' f _ t
theorem widF_ko (f : Fn) {t : Tm} (h : koM f t = true) : koM f (widF f t) = true := widF_ko' f _ t h
/-- no sign more can be left out -/
theorem widF_max' (f : Fn) : ∀ (ks : List Nat) (t : Tm) (k : Nat), k ∈ ks → k < t.length → koM f ((ks.foldl (widStep f) t).set k none) = true → (ks.foldl (widStep f) t)[k]? = some none
  | [], _, _, h, _, _ => by simp at h
  | j :: ks, t, k, hk, hl, h => by
    rw [List.foldl_cons] at h ⊢
    by_cases hm : k ∈ ks
    · exact widF_max' f ks _ k hm (by rw [widStep_len]; exact hl) h
    · have e : k = j := by simpa [hm] using hk
      subst e
      have hlies := widF_lies' f ks (widStep f t k)
      have hlen := widF_len' f ks (widStep f t k)
      have h2 : koM f (t.set k none) = true := by
        refine ko_mono (b := ((ks.foldl (widStep f) (widStep f t k)).set k none)) (by rw [List.length_set, List.length_set, hlen, widStep_len]) ?_ h
        exact lies_set_mono (by rw [hlen, widStep_len]) (lies_trans (widStep_len f t k).symm hlen.symm (widStep_lies f t k) hlies) k
      have h3 : widStep f t k = t.set k none := by unfold widStep; rw [if_pos h2]
      rw [h3] at hlies hlen ⊢
      rw [lies_iff hlen.symm] at hlies
      have hx : (t.set k none)[k]? = some none := List.getElem?_set_self hl
      have hy := List.getElem?_eq_getElem (show k < (ks.foldl (widStep f) (t.set k none)).length by rw [hlen, List.length_set]; exact hl)
      rcases hlies k _ _ hx hy with z | z
      · rw [hy, z]
      · rw [hy, z]
theorem widF_max (f : Fn) (t : Tm) {k : Nat} (hk : k < t.length) (h : koM f ((widF f t).set k none) = true) : (widF f t)[k]? = some none := widF_max' f _ t k (List.mem_range.mpr hk) hk h
def oneM (f : Fn) (t : Tm) : Bool := (ptsM t).any fun p => f[p]? == some (some true)
theorem gr_iff {f : Fn} {n : Nat} {t : Tm} (ht : t.length = n) : t ∈ grM n f ↔ koM f t = true ∧ oneM f t = true ∧ ∀ k, k < n → koM f (t.set k none) = true → t[k]? = some none := by
  unfold grM
  rw [List.mem_filter]
  unfold isGrM
  rw [← wid_none ht]
  unfold gdM oneM
  rw [List.mem_filter, Bool.and_eq_true, List.isEmpty_iff, List.filter_eq_nil_iff]
  constructor
  · rintro ⟨⟨_, h1⟩, h2, h3⟩
    refine ⟨h1, h3, fun k hk hg => Classical.byContradiction fun hz => ?_⟩
    exact h2 (t.set k none) (List.mem_map.mpr ⟨k, List.mem_filter.mpr ⟨List.mem_range.mpr (by omega), by simpa using hz⟩, rfl⟩) hg
  · rintro ⟨h1, h2, h3⟩
    refine ⟨⟨Tms_mem ht, h1⟩, fun o ho hg => ?_, h2⟩
    obtain ⟨k, hk, rfl⟩ := List.mem_map.mp ho
    obtain ⟨k1, k2⟩ := List.mem_filter.mp hk
    have k1 := List.mem_range.mp k1
    have k2 : t[k]? ≠ some none := by simpa using k2
    exact k2 (h3 k (by omega) hg)
theorem widF_gr {f : Fn} {n : Nat} {t : Tm} (ht : t.length = n) (hk : koM f t = true) : widF f t ∈ grM n f ↔ oneM f (widF f t) = true := by
  have hl : (widF f t).length = n := by rw [widF_len, ht]
  rw [gr_iff hl]
  constructor
  · exact fun h => h.2.1
  · exact fun h => ⟨widF_ko f hk, h, fun k hk hg => widF_max f t (by omega) hg⟩
/-- a greatest term widened is itself -/
theorem widF_id' {f : Fn} : ∀ (ks : List Nat) (t : Tm), (∀ k ∈ ks, koM f (t.set k none) = true → t[k]? = some none) → ks.foldl (widStep f) t = t
  | [], t, _ => rfl
  | k :: ks, t, h => by
    rw [List.foldl_cons]
    have e : widStep f t k = t := by
      unfold widStep
      split
      · rename_i hg
        have := h k List.mem_cons_self hg
        refine List.ext_getElem? fun j => ?_
        by_cases hj : k = j
        · subst hj
          rw [List.getElem?_set_self (List.getElem?_eq_some_iff.mp this).1, this]
        · rw [List.getElem?_set_ne hj]
      · rfl
    rw [e]
    exact widF_id' ks t fun j hj => h j (List.mem_cons_of_mem _ hj)
theorem gr_wid {f : Fn} {n : Nat} {t : Tm} (h : t ∈ grM n f) : widF f t = t := by
  have hl := gr_mem h
  have := (gr_iff hl).mp h
  exact widF_id' _ t fun k hk => this.2.2 k (by have := List.mem_range.mp hk; omega)
/-- a point's own term -/
def ptT (n p : Nat) : Tm := (bits n p).map some
theorem ptT_len (n p : Nat) : (ptT n p).length = n := by unfold ptT; rw [List.length_map, bits_len]
theorem testBit_ext {p q n : Nat} (hp : p < 2 ^ n) (hq : q < 2 ^ n) (h : ∀ i, i < n → p.testBit i = q.testBit i) : p = q := by
  refine Nat.eq_of_testBit_eq fun i => ?_
  by_cases hi : i < n
  · exact h i hi
  · have h2 : 2 ^ n ≤ 2 ^ i := Nat.pow_le_pow_right (by decide) (by omega)
    rw [Nat.testBit_lt_two_pow (by omega), Nat.testBit_lt_two_pow (by omega)]
theorem ptT_pts {n p : Nat} (hp : p < 2 ^ n) : ptsM (ptT n p) = [p] := by
  have key : ∀ q, q < 2 ^ n → (holdsM (ptT n p) q = true ↔ q = p) := by
    intro q hq
    rw [holds_iff, ptT_len]
    constructor
    · intro h
      refine testBit_ext hq hp fun i hi => ?_
      have hb : (ptT n p)[n - 1 - i]? = some (some (p.testBit i)) := by
        unfold ptT
        rw [List.getElem?_map, bits_at (by omega)]
        have : n - 1 - (n - 1 - i) = i := by omega
        rw [this]; rfl
      have := h _ _ hb
      have e : n - 1 - (n - 1 - i) = i := by omega
      rw [e] at this
      rcases this with z | z
      · cases z
      · exact (Option.some.inj z).symm
    · rintro rfl k a ha
      have hk := (List.getElem?_eq_some_iff.mp ha).1
      rw [ptT_len] at hk
      unfold ptT at ha
      rw [List.getElem?_map, bits_at hk] at ha
      cases ha
      exact .inr rfl
  unfold ptsM
  rw [ptT_len]
  have : (List.range (2 ^ n)).filter (holdsM (ptT n p)) = (List.range (2 ^ n)).filter (fun q => q == p) := by
    refine List.filter_congr fun q hq => ?_
    have := key q (List.mem_range.mp hq)
    refine bool_ext ?_
    rw [this, beq_iff_eq]
  rw [this]
  have hf : ∀ m, p < m → (List.range m).filter (fun q => q == p) = [p] := by
    intro m
    induction m with
    | zero => intro h; omega
    | succ m ih =>
      intro h
      rw [List.range_succ, List.filter_append]
      by_cases hm : p < m
      · rw [ih hm]
        have : (m == p) = false := beq_false_of_ne (by omega)
        simp [this]
      · have : p = m := by omega
        subst this
        have : (List.range p).filter (fun q => q == p) = [] := List.filter_eq_nil_iff.mpr fun q hq => by
          have := List.mem_range.mp hq
          simp; omega
        rw [this]
        simp
  exact hf _ hp
/-- each point with 1 lies in a greatest term -/
theorem gr_holds {f : Fn} {n p : Nat} (hf : f.length = 2 ^ n) (hp : f[p]? = some (some true)) : ∃ t ∈ grM n f, p ∈ ptsM t := by
  have hl : p < 2 ^ n := by rw [← hf]; exact (List.getElem?_eq_some_iff.mp hp).1
  have hpts := ptT_pts hl
  have hk : koM f (ptT n p) = true := by
    unfold koM
    rw [hpts]
    simp [hp]
  have hin : p ∈ ptsM (widF f (ptT n p)) := lies_pts (widF_len f _).symm (widF_lies f _) (by rw [hpts]; simp)
  refine ⟨widF f (ptT n p), (widF_gr (ptT_len n p) hk).mpr ?_, hin⟩
  unfold oneM
  rw [List.any_eq_true]
  exact ⟨p, hin, by simp [hp]⟩
theorem gr_good {f : Fn} {n : Nat} {t : Tm} (h : t ∈ grM n f) : t ∈ gdM n f := (List.mem_filter.mp h).1
theorem gd_ko {f : Fn} {n : Nat} {t : Tm} (h : t ∈ gdM n f) : koM f t = true := (List.mem_filter.mp h).2
theorem gr_form {f : Fn} {n : Nat} (hf : f.length = 2 ^ n) (h4 : n ≤ 4) : formM f (grM n f) = true := by
  unfold formM
  rw [asc_of (gr_strict f h4), Bool.true_and, Bool.and_eq_true, List.all_eq_true]
  refine ⟨fun t ht => gd_ko (gr_good ht), ?_⟩
  unfold hoM
  rw [List.all_eq_true]
  intro p hp
  obtain ⟨t, h1, h2⟩ := gr_holds hf (mem_pw.mp hp)
  exact List.contains_iff_mem.mpr (List.mem_flatMap.mpr ⟨t, h1, h2⟩)
theorem gr_one {f : Fn} {n : Nat} {t : Tm} (h : t ∈ grM n f) : oneM f t = true := ((gr_iff (gr_mem h)).mp h).2.1
theorem ptsM_cnt {t : Tm} {n : Nat} (ht : t.length = n) (h4 : n ≤ 4) : (ptsM t).length ≤ 16 := by
  unfold ptsM
  refine Nat.le_trans (List.length_filter_le _ _) ?_
  rw [List.length_range, ht]
  exact Nat.pow_le_pow_right (n := 2) (by decide) h4
end PD

/-! PE6: points with their one term. -/
namespace PD
open PySem PySem.Spec PyProof.Rows L2
def holT (ts : List Tm) (p : Nat) : List Tm := ts.filter fun t => holdsM t p
def one1 (p : Nat) : List Tm → List (Nat × Tm)
  | [t] => [(p, t)]
  | _ => []
def soM (ps : List Nat) (ts : List Tm) : List (Nat × Tm) := ps.flatMap fun p => one1 p (holT ts p)
def ePT (q : Nat × Tm) : D := .tuple [.int (q.1 : Nat), eT q.2]
theorem soM_snoc (ps : List Nat) (p : Nat) (ts : List Tm) : soM (ps ++ [p]) ts = soM ps ts ++ one1 p (holT ts p) := by
  unfold soM
  rw [List.flatMap_append]
  simp
theorem one1_len (p : Nat) : ∀ l : List Tm, (one1 p l).length ≤ 1
  | [] => by simp [one1]
  | [_] => by simp [one1]
  | _ :: _ :: _ => by simp [one1]
theorem soM_len (ts : List Tm) : ∀ ps : List Nat, (soM ps ts).length ≤ ps.length
  | [] => by simp [soM]
  | p :: ps => by
    have ih := soM_len ts ps
    have h := one1_len p (holT ts p)
    unfold soM at ih ⊢
    rw [List.flatMap_cons, List.length_append, List.length_cons]
    omega
theorem soM_T {ts : List Tm} {ps : List Nat} {q : Nat × Tm} (h : q ∈ soM ps ts) : q.1 ∈ ps ∧ q.2 ∈ ts := by
  unfold soM at h
  obtain ⟨p, hp, hq⟩ := List.mem_flatMap.mp h
  cases e : holT ts p with
  | nil => rw [e] at hq; simp [one1] at hq
  | cons a l =>
    cases l with
    | nil =>
      rw [e] at hq
      simp only [one1, List.mem_singleton] at hq
      subst hq
      exact ⟨hp, (List.mem_filter.mp (show a ∈ holT ts p by rw [e]; simp)).1⟩
    | cons b l => rw [e] at hq; simp [one1] at hq
theorem ePT_ok (k : Nat) (qs : List (Nat × Tm)) (h : qs.length ≤ 1000) : sameOk (k + 3) (.list (qs.map ePT)) := by
  unfold sameOk
  refine ⟨by rw [List.length_map]; omega, sameOks_all fun d hd => ?_⟩
  obtain ⟨q, _, rfl⟩ := List.mem_map.mp hd
  unfold ePT sameOk
  refine ⟨by simp, ?_⟩
  unfold sameOks sameOks sameOks
  exact ⟨by simp [sameOk], by simp [sameOk, eT], trivial⟩
theorem pw_range (f : Fn) (a : Option Bool) : ((List.range f.length).filter fun p => f[p]? == some a) = pwM f a := by
  have key : ∀ (f : Fn) (k : Nat), ((List.range' k f.length).filter fun p => f[p - k]? == some a) = ((f.zipIdx k).filter fun q => q.1 == a).map (·.2) := by
    intro f
    induction f with
    | nil => intro k; rfl
    | cons x f ih =>
      intro k
      rw [List.length_cons, List.range'_succ, List.zipIdx_cons]
      have e : (List.range' (k + 1) f.length).filter (fun p => (x :: f)[p - k]? == some a) = (List.range' (k + 1) f.length).filter fun p => f[p - (k + 1)]? == some a := by
        refine List.filter_congr fun p hp => ?_
        have h := (List.mem_range'_1.mp hp).1
        rw [show p - k = (p - (k + 1)) + 1 by omega, List.getElem?_cons_succ]
      rw [List.filter_cons, List.filter_cons, e, ih (k + 1)]
      have z : (x :: f)[k - k]? = some x := by simp
      rw [z]
      cases h : x == a with
      | true => simp [h]
      | false => simp [h]
  have := key f 0
  simp only [Nat.sub_zero] at this
  rw [← List.range_eq_range'] at this
  exact this
theorem pw_len (f : Fn) (a : Option Bool) : (pwM f a).length ≤ f.length := by
  rw [← pw_range]
  exact Nat.le_trans (List.length_filter_le _ _) (by simp)
theorem pw_lt {f : Fn} {a : Option Bool} {p : Nat} (h : p ∈ pwM f a) : p < f.length := by
  have := mem_pw.mp h
  exact (List.getElem?_eq_some_iff.mp this).1
theorem contains_pts {t : Tm} {p : Nat} (h : p < 2 ^ t.length) : (ptsM t).contains p = holdsM t p := by
  refine bool_ext ?_
  rw [List.contains_iff_mem]
  unfold ptsM
  rw [List.mem_filter, List.mem_range]
  exact ⟨fun z => z.2, fun z => ⟨h, z⟩⟩
theorem ix_lst0 (d : D) (ds : List D) (S : Cs) : dIx (.d (.list (d :: ds))) (.d (.int 0)) S = .ok (.a (.d d)) S := by
  have := o_ix_lst (fun x : D => x) (l := d :: ds) (i := 0) (a := d) rfl S
  rwa [List.map_id'] at this
section
variable {n : Str} {S : Cs} {ρ : En} {fb fc fe : Fe}
theorem srcS_e {h : A → Option (List D)} : srcS (.exc n S) h = .exc n S := rfl
theorem src1_e {h : A → A → Option (List D)} : src1 (.exc n S) fb ρ h = .exc n S := rfl
theorem src2_e {x : A} {h : A → A → Option (List D)} : src2 x (.exc n S) h = .exc n S := rfl
theorem comp_e {g : Gt} : compS (.exc n S) g fc fe ρ = .exc n S := rfl
theorem un1_e {g : A → Cs → R} : un1 (.exc n S) g = .exc n S := rfl
theorem lst1_e {fs : List Fe} {acc : List W} : lst1 (.exc n S) fs ρ acc = .exc n S := rfl
theorem and_e : andS (.exc n S) fb ρ = .exc n S := rfl
theorem or_e : orS (.exc n S) fb ρ = .exc n S := rfl
end
end PD

/-! PE8: terms that meet; texts of signs. -/
namespace PD
open PySem PySem.Spec PyProof.Rows L2
/-! ### a number of given bits -/
def ofB : List Bool → Nat
  | [] => 0
  | b :: l => (if b = true then 2 ^ l.length else 0) + ofB l
theorem ofB_lt : ∀ l : List Bool, ofB l < 2 ^ l.length
  | [] => by simp [ofB]
  | b :: l => by
    have ih := ofB_lt l
    unfold ofB
    rw [List.length_cons, Nat.pow_succ]
    split <;> omega
theorem ofB_bit : ∀ (l : List Bool) (k : Nat) (b : Bool), l[k]? = some b → (ofB l).testBit (l.length - 1 - k) = b
  | [], k, b, h => by simp at h
  | a :: l, 0, b, h => by
    cases h
    have ih := ofB_lt l
    have e : (a :: l).length - 1 - 0 = l.length := by simp
    rw [e]
    unfold ofB
    cases a with
    | true => rw [if_pos rfl, Nat.testBit_two_pow_add_eq, Nat.testBit_lt_two_pow ih]; rfl
    | false => rw [if_neg (by decide), Nat.zero_add, Nat.testBit_lt_two_pow ih]
  | a :: l, k + 1, b, h => by
    rw [List.getElem?_cons_succ] at h
    have ih := ofB_bit l k b h
    have hk := (List.getElem?_eq_some_iff.mp h).1
    have e : (a :: l).length - 1 - (k + 1) = l.length - 1 - k := by rw [List.length_cons]; omega
    rw [e]
    unfold ofB
    cases a with
    | true => rw [if_pos rfl, Nat.testBit_two_pow_add_gt (by omega)]; exact ih
    | false => rw [if_neg (by decide), Nat.zero_add]; exact ih
theorem pts_ex (t : Tm) : ∃ p, p ∈ ptsM t := by
  refine ⟨ofB (t.map fun a => a.getD false), ?_⟩
  unfold ptsM
  rw [List.mem_filter, List.mem_range]
  have hl := ofB_lt (t.map fun a => a.getD false)
  rw [List.length_map] at hl
  refine ⟨hl, (holds_iff _ _).mpr fun k a ha => ?_⟩
  cases a with
  | none => exact .inl rfl
  | some v =>
    have := ofB_bit (t.map fun a => a.getD false) k v (by rw [List.getElem?_map, ha]; rfl)
    rw [List.length_map] at this
    rw [this]
    exact .inr rfl
theorem mem_pts {t : Tm} {p : Nat} : p ∈ ptsM t ↔ p < 2 ^ t.length ∧ holdsM t p = true := by
  unfold ptsM
  rw [List.mem_filter, List.mem_range]
theorem lies_of {a b : Tm} (hl : a.length = b.length) (h : ∀ p ∈ ptsM a, p ∈ ptsM b) : liesM a b = true := by
  rw [lies_iff hl]
  intro k x y hx hy
  cases y with
  | none => exact .inl rfl
  | some v =>
    refine .inr ?_
    by_cases hn : some v = x
    · exact hn
    · exfalso
      have hk := (List.getElem?_eq_some_iff.mp hx).1
      have hs : liesM (a.set k (some !v)) a = true := by
        rw [lies_iff (by simp)]
        intro j u w hu hw
        by_cases hj : k = j
        · subst hj
          rw [List.getElem?_set_self hk] at hu
          rw [hx] at hw
          cases hw
          cases hu
          cases x with
          | none => exact .inl rfl
          | some x => right; cases x <;> cases v <;> simp at hn ⊢
        · rw [List.getElem?_set_ne hj, hw] at hu
          cases hu
          exact .inr rfl
      obtain ⟨p, hp⟩ := pts_ex (a.set k (some !v))
      have h1 := h p (lies_pts (by simp) hs hp)
      have h2 := (holds_iff _ _).mp (mem_pts.mp h1).2 k _ hy
      have h3 := (holds_iff _ _).mp (mem_pts.mp hp).2 k (some !v) (List.getElem?_set_self hk)
      rw [List.length_set] at h3
      rw [← hl] at h2
      rcases h2 with z | z
      · cases z
      · rcases h3 with w | w
        · cases w
        · have a1 := Option.some.inj z
          have a2 := Option.some.inj w
          rw [← a1] at a2
          cases v <;> simp at a2
theorem lies_all {a b : Tm} (hl : a.length = b.length) : ((ptsM a).filter fun p => !(ptsM b).contains p).isEmpty = liesM a b := by
  refine bool_ext ?_
  rw [List.isEmpty_iff, List.filter_eq_nil_iff]
  constructor
  · intro h
    refine lies_of hl fun p hp => ?_
    have := h p hp
    simpa using this
  · intro h p hp
    have := lies_pts hl h hp
    simpa using this
/-! ### what both hold -/
def clQ (q : Option Bool × Option Bool) : Bool := !(none == q.1 || none == q.2) && q.1 != q.2
def joQ (q : Option Bool × Option Bool) : Option Bool := if q.1 == none then q.2 else q.1
def clM (a b : Tm) : Bool := (a.zip b).any clQ
def joM (a b : Tm) : Tm := (a.zip b).map joQ
theorem joM_len {a b : Tm} (h : a.length = b.length) : (joM a b).length = a.length := by
  unfold joM
  rw [List.length_map, List.length_zip, h, Nat.min_self]
theorem cl_false {a b : Tm} (hc : clM a b = false) {k : Nat} {x y : Option Bool} (hx : a[k]? = some x) (hy : b[k]? = some y) : x = none ∨ y = none ∨ x = y := by
  have := List.any_eq_false.mp hc (x, y) (List.mem_iff_getElem?.mpr ⟨k, List.getElem?_zip_eq_some.mpr ⟨hx, hy⟩⟩)
  unfold clQ at this
  cases x with
  | none => exact .inl rfl
  | some x => cases y with
    | none => exact .inr (.inl rfl)
    | some y => cases x <;> cases y <;> simp at this ⊢
theorem jo_at {a b : Tm} {k : Nat} {x y : Option Bool} (hx : a[k]? = some x) (hy : b[k]? = some y) : (joM a b)[k]? = some (joQ (x, y)) := by
  unfold joM
  have hz : (a.zip b)[k]? = some (x, y) := List.getElem?_zip_eq_some.mpr ⟨hx, hy⟩
  rw [List.getElem?_map, hz]
  rfl
theorem jo_holds {a b : Tm} (hl : a.length = b.length) (hc : clM a b = false) (p : Nat) : holdsM (joM a b) p = (holdsM a p && holdsM b p) := by
  refine bool_ext ?_
  rw [Bool.and_eq_true, holds_iff, holds_iff, holds_iff, joM_len hl]
  constructor
  · intro h
    constructor
    · intro k x hx
      have hk := (List.getElem?_eq_some_iff.mp hx).1
      have hy := List.getElem?_eq_getElem (l := b) (i := k) (by omega)
      have := h k _ (jo_at hx hy)
      cases x with
      | none => exact .inl rfl
      | some x => exact this
    · intro k y hy
      have hk := (List.getElem?_eq_some_iff.mp hy).1
      have hx := List.getElem?_eq_getElem (l := a) (i := k) (by omega)
      have h1 := h k _ (jo_at hx hy)
      rw [← hl]
      rcases cl_false hc hx hy with z | z | z
      · rw [z] at h1; exact h1
      · exact .inl z
      · rw [z] at h1
        cases y with
        | none => exact .inl rfl
        | some y => exact h1
  · rintro ⟨h1, h2⟩ k z hz
    have hk := (List.getElem?_eq_some_iff.mp hz).1
    rw [joM_len hl] at hk
    have hx := List.getElem?_eq_getElem (l := a) (i := k) hk
    have hy := List.getElem?_eq_getElem (l := b) (i := k) (by omega)
    rw [jo_at hx hy] at hz
    cases hz
    have z1 := h1 k _ hx
    have z2 := h2 k _ hy
    have e9 : b.length - 1 - k = a.length - 1 - k := by rw [hl]
    rw [e9] at z2
    unfold joQ
    split
    · exact z2
    · exact z1
theorem jo_pts {a b : Tm} (hl : a.length = b.length) (hc : clM a b = false) : ptsM (joM a b) = (ptsM a).filter fun p => (ptsM b).contains p := by
  unfold ptsM
  rw [joM_len hl, List.filter_filter]
  refine List.filter_congr fun p hp => ?_
  have hp := List.mem_range.mp hp
  have := contains_pts (t := b) (p := p) (by rw [← hl]; exact hp)
  unfold ptsM at this
  rw [this, jo_holds hl hc, Bool.and_comm]
theorem cl_pts {a b : Tm} (hl : a.length = b.length) (hc : clM a b = true) : ((ptsM a).filter fun p => (ptsM b).contains p) = [] := by
  obtain ⟨q, hq, hb⟩ := List.any_eq_true.mp hc
  obtain ⟨k, hk⟩ := List.mem_iff_getElem?.mp hq
  obtain ⟨hx, hy⟩ := List.getElem?_zip_eq_some.mp hk
  obtain ⟨x, y⟩ := q
  refine List.filter_eq_nil_iff.mpr fun p hp hc2 => ?_
  have hp2 : p ∈ ptsM b := by simpa using hc2
  have h1 := (holds_iff _ _).mp (mem_pts.mp hp).2 k _ hx
  have h2 := (holds_iff _ _).mp (mem_pts.mp hp2).2 k _ hy
  rw [← hl] at h2
  unfold clQ at hb
  simp only at hb h1 h2
  rcases h1 with z | z <;> rcases h2 with w | w <;> rw [z, w] at hb <;> simp at hb
theorem cl_empty {a b : Tm} (hl : a.length = b.length) : ((ptsM a).filter fun p => (ptsM b).contains p).isEmpty = clM a b := by
  cases hc : clM a b with
  | true => rw [cl_pts hl hc]; rfl
  | false =>
    rw [← jo_pts hl hc]
    obtain ⟨p, hp⟩ := pts_ex (joM a b)
    cases e : ptsM (joM a b) with
    | nil => rw [e] at hp; simp at hp
    | cons _ _ => rfl
theorem cl_self (a : Tm) : clM a a = false := by
  unfold clM
  refine List.any_eq_false.mpr fun q hq => ?_
  obtain ⟨k, hk⟩ := List.mem_iff_getElem?.mp hq
  obtain ⟨hx, hy⟩ := List.getElem?_zip_eq_some.mp hk
  rw [hx] at hy
  obtain ⟨x, y⟩ := q
  cases hy
  simp [clQ]
theorem jo_self (a : Tm) : joM a a = a := by
  refine List.ext_getElem? fun k => ?_
  cases h : a[k]? with
  | none =>
    have := List.getElem?_eq_none_iff.mp h
    rw [List.getElem?_eq_none_iff, joM_len rfl]
    exact this
  | some x =>
    rw [jo_at h h]
    cases x <;> rfl
theorem lies_dash (a : Tm) (n : Nat) (h : a.length = n) : liesM a (List.replicate n none) = true := by
  rw [lies_iff (by rw [List.length_replicate, h])]
  intro k x y hx hy
  have hk := (List.getElem?_eq_some_iff.mp hy).1
  rw [List.length_replicate] at hk
  rw [List.getElem?_replicate, if_pos hk] at hy
  cases hy
  exact .inl rfl
theorem rep_eT (n : Nat) : PyData.str (repS 45 n) = eT (List.replicate n none) := by
  unfold repS eT
  rw [List.map_replicate]
  rfl
/-! ### strip -/
theorem tw_len (p : Nat → Bool) : ∀ l : List Nat, (l.takeWhile p).length = l.length ↔ l.all p = true
  | [] => by simp
  | x :: l => by
    have ih := tw_len p l
    rw [List.takeWhile_cons]
    cases h : p x with
    | true => simp only [if_true, List.length_cons, List.all_cons, h, Bool.true_and, Nat.add_right_cancel_iff]; exact ih
    | false => simp [h]
theorem tw_le (p : Nat → Bool) (l : List Nat) : (l.takeWhile p).length ≤ l.length := (List.takeWhile_prefix p).length_le
theorem all_drop (p : Nat → Bool) : ∀ l : List Nat, (l.drop (l.takeWhile p).length).all p = l.all p
  | [] => rfl
  | x :: l => by
    rw [List.takeWhile_cons]
    cases h : p x with
    | true => simp only [if_true, List.length_cons, List.drop_succ_cons, List.all_cons, h, Bool.true_and]; exact all_drop p l
    | false => simp [h]
theorem strip_empty (cs : List Nat) (y : Str) : (Txt.stripChars (tS cs) y == Str.ofString "") = cs.all y.cps.contains := by
  have hs : (tS cs).cps.toList = cs := by simp [tS]
  have hln : (tS cs).length = cs.length := by simp [tS, Str.length]
  have hsz : (tS cs).cps.size = cs.length := by simp [tS]
  have key : ∀ z : Str, (z == Str.ofString "") = (z.cps.size == 0) := by
    intro z
    refine bool_ext ?_
    rw [beq_iff_eq, beq_iff_eq]
    constructor
    · rintro rfl; rfl
    · intro h
      have := Array.eq_empty_of_size_eq_zero h
      obtain ⟨c⟩ := z
      subst this
      rfl
  rw [key]
  unfold Txt.stripChars Txt.stripBy stripSame stripped stripHi stripLo Builtin.Str.strSub
  simp only [if_true, hs, hln]
  have h1 := tw_len y.cps.contains cs
  have h2 := tw_le y.cps.contains cs
  have h3 := tw_len y.cps.contains (cs.drop (cs.takeWhile y.cps.contains).length).reverse
  have h4 := tw_le y.cps.contains (cs.drop (cs.takeWhile y.cps.contains).length).reverse
  rw [List.all_reverse, all_drop] at h3
  generalize hlo : (cs.takeWhile y.cps.contains).length = lo at *
  generalize hhi : ((cs.drop lo).reverse.takeWhile y.cps.contains).length = hi at *
  rw [List.length_reverse, List.length_drop] at h3 h4
  cases ha : cs.all y.cps.contains with
  | true =>
    have e1 := h1.mpr ha
    have e2 := h3.mpr ha
    rw [e1] at e2 ⊢
    split
    · rename_i hc
      rw [Bool.and_eq_true, beq_iff_eq] at hc
      simp [hsz, hc.1]
    · rw [Array.size_extract, hsz, beq_iff_eq]
      omega
  | false =>
    have n1 : lo ≠ cs.length := fun z => by have := h1.mp z; rw [ha] at this; cases this
    have n2 : hi ≠ cs.length - lo := fun z => by have := h3.mp z; rw [ha] at this; cases this
    split
    · rw [hsz]; exact beq_false_of_ne (by omega)
    · refine beq_false_of_ne ?_
      simp only [Array.size_extract, hsz]
      omega
theorem strip_len (cs : List Nat) (y : Str) : (Txt.stripChars (tS cs) y).length ≤ cs.length := by
  have hsz : (tS cs).cps.size = cs.length := by simp [tS]
  unfold Txt.stripChars Txt.stripBy
  split
  · show (tS cs).cps.size ≤ _; omega
  · unfold stripped Builtin.Str.strSub
    show (Array.extract _ _ _).size ≤ _
    simp only [Array.size_extract, hsz]
    omega
theorem chT_signs (c : Nat) : (Str.ofString "01-").cps.contains c = chT c := by
  have := in_signs c
  refine bool_ext ?_
  rw [← this, Array.contains_iff_mem]
  exact Array.mem_def
/-! ### applied forms -/
def sm01 (r : R) (g : Str → Option W) : R := r.bnd fun x S1 => match x with
  | .d (.str z) => match g z with
    | some w => .ok w S1
    | none => .stuck
  | _ => .stuck
theorem q_sm0 {g : Str → Option W} {fa : Fe} {ρ : En} {S : Cs} : fSm0 g fa ρ S = sm01 (fa ρ S) g := rfl
def smO (o : Option W) (S : Cs) : R := match o with
  | some w => .ok w S
  | none => .stuck
theorem sm01_a {g : Str → Option W} {z : Str} {S : Cs} : sm01 (.ok (.a (.d (.str z))) S) g = smO (g z) S := rfl
theorem sm01_T {g : Str → Option W} {t : Tm} {S : Cs} : sm01 (.ok (.a (.d (eT t))) S) g = smO (g (tS (t.map sgO))) S := rfl
theorem smO_some {w : W} {S : Cs} : smO (some w) S = .ok w S := rfl
theorem frz1_0w {ws : List W} {ds : List D} {ρ : Ev} (h : W.toDs ws = some ds) : frz1 0 (some (.own ws) :: ρ) = some (.a (.d (.list ds))) :: ρ := by
  unfold frz1
  simp only [List.getElem?_cons_zero]
  have : W.toA (.own ws) = some (.d (.list ds)) := by
    show (W.toDs ws).map (fun ds => A.d (PyData.list ds)) = _
    rw [h]
    rfl
  rw [this]
  rfl
theorem pickD {ds : List D} {m : Nat} (h : m < ds.length) (S : Cs) : ∃ d ∈ ds, dIx (.d (.list ds)) (.d (.int (m : Nat))) S = .ok (.a (.d d)) S := by
  have := o_ix_lst (fun x : D => x) (List.getElem?_eq_getElem h) S
  rw [List.map_id'] at this
  exact ⟨_, List.getElem_mem h, this⟩
theorem short_tS {cs : List Nat} (h : cs.length ≤ 1000) : shortD (.str (tS cs)) := by
  intro z hz
  cases hz
  rw [tS_len]
  exact h
theorem short_no {d : D} (h : ∀ z, d ≠ .str z) : shortD d := fun z hz => absurd hz (h z)
theorem notB_tt {S : Cs} : onD dNotB (.d (.bool true)) (.d (.bool true)) S = .ok (bD false) S := rfl
theorem notB_ff {S : Cs} : onD dNotB (.d (.bool false)) (.d (.bool true)) S = .ok (bD true) S := rfl
theorem neg1 {i : Int} : dNeg (.int i) = some (iD (-i)) := rfl
theorem isN_T {t : Tm} {S : Cs} : dIsN (.d (eT t)) (.d .none) S = .ok (bD false) S := rfl
theorem notN_T {t : Tm} {S : Cs} : dNotN (.d (eT t)) (.d .none) S = .ok (bD true) S := rfl
end PD

/-! PEL: what `_law_refused` tells. -/
namespace PD
open PySem PySem.Spec PyProof.Rows L2
theorem q_ref {ords : List Str} {f : Fe} {ρ : En} {S : Cs} : fRef ords f ρ S = refR ords (f ρ S) := rfl
theorem ref_exc {ords : List Str} {n : Str} {S : Cs} {k : Nat} (hS : flatCs S = true) (h : ords.findIdx? (fun m => m == n) = some k) : refR ords (.exc n S) = .ok (ownD [.int (k : Nat)]) S := by
  unfold refR
  simp only [hS, if_true, h]
theorem ref_ok {ords : List Str} {w : W} {S : Cs} (hS : flatCs S = true) : refR ords (.ok w S) = .ok nD S := by
  unfold refR
  simp only [hS, if_true]
theorem rA0 {S : Cs} (hS : flatCs S = true) : refR ["NoFunction", "NoTerm", "NoPoint", "NoNumber", "NoForm", "NoChange", "NoText", "NoLine", "NoDeed"] (.exc "NoFunction" S) = .ok (ownD [.int 0]) S := ref_exc (k := 0) hS rfl
theorem rA1 {S : Cs} (hS : flatCs S = true) : refR ["NoFunction", "NoTerm", "NoPoint", "NoNumber", "NoForm", "NoChange", "NoText", "NoLine", "NoDeed"] (.exc "NoTerm" S) = .ok (ownD [.int 1]) S := ref_exc (k := 1) hS rfl
theorem rA2 {S : Cs} (hS : flatCs S = true) : refR ["NoFunction", "NoTerm", "NoPoint", "NoNumber", "NoForm", "NoChange", "NoText", "NoLine", "NoDeed"] (.exc "NoPoint" S) = .ok (ownD [.int 2]) S := ref_exc (k := 2) hS rfl
theorem rA3 {S : Cs} (hS : flatCs S = true) : refR ["NoFunction", "NoTerm", "NoPoint", "NoNumber", "NoForm", "NoChange", "NoText", "NoLine", "NoDeed"] (.exc "NoNumber" S) = .ok (ownD [.int 3]) S := ref_exc (k := 3) hS rfl
theorem rA4 {S : Cs} (hS : flatCs S = true) : refR ["NoFunction", "NoTerm", "NoPoint", "NoNumber", "NoForm", "NoChange", "NoText", "NoLine", "NoDeed"] (.exc "NoForm" S) = .ok (ownD [.int 4]) S := ref_exc (k := 4) hS rfl
theorem rA5 {S : Cs} (hS : flatCs S = true) : refR ["NoFunction", "NoTerm", "NoPoint", "NoNumber", "NoForm", "NoChange", "NoText", "NoLine", "NoDeed"] (.exc "NoChange" S) = .ok (ownD [.int 5]) S := ref_exc (k := 5) hS rfl
theorem rA6 {S : Cs} (hS : flatCs S = true) : refR ["NoFunction", "NoTerm", "NoPoint", "NoNumber", "NoForm", "NoChange", "NoText", "NoLine", "NoDeed"] (.exc "NoText" S) = .ok (ownD [.int 6]) S := ref_exc (k := 6) hS rfl
theorem rA7 {S : Cs} (hS : flatCs S = true) : refR ["NoFunction", "NoTerm", "NoPoint", "NoNumber", "NoForm", "NoChange", "NoText", "NoLine", "NoDeed"] (.exc "NoLine" S) = .ok (ownD [.int 7]) S := ref_exc (k := 7) hS rfl
theorem rA8 {S : Cs} (hS : flatCs S = true) : refR ["NoFunction", "NoTerm", "NoPoint", "NoNumber", "NoForm", "NoChange", "NoText", "NoLine", "NoDeed"] (.exc "NoDeed" S) = .ok (ownD [.int 8]) S := ref_exc (k := 8) hS rfl
theorem rB0 {S : Cs} (hS : flatCs S = true) : refR ["NoFunction", "NoTerm", "NoPoint", "NoNumber", "NoText", "NoLine", "NoDeed", "NoForm", "NoChange"] (.exc "NoFunction" S) = .ok (ownD [.int 0]) S := ref_exc (k := 0) hS rfl
theorem rB1 {S : Cs} (hS : flatCs S = true) : refR ["NoFunction", "NoTerm", "NoPoint", "NoNumber", "NoText", "NoLine", "NoDeed", "NoForm", "NoChange"] (.exc "NoTerm" S) = .ok (ownD [.int 1]) S := ref_exc (k := 1) hS rfl
theorem rB2 {S : Cs} (hS : flatCs S = true) : refR ["NoFunction", "NoTerm", "NoPoint", "NoNumber", "NoText", "NoLine", "NoDeed", "NoForm", "NoChange"] (.exc "NoPoint" S) = .ok (ownD [.int 2]) S := ref_exc (k := 2) hS rfl
theorem rB3 {S : Cs} (hS : flatCs S = true) : refR ["NoFunction", "NoTerm", "NoPoint", "NoNumber", "NoText", "NoLine", "NoDeed", "NoForm", "NoChange"] (.exc "NoNumber" S) = .ok (ownD [.int 3]) S := ref_exc (k := 3) hS rfl
theorem rB4 {S : Cs} (hS : flatCs S = true) : refR ["NoFunction", "NoTerm", "NoPoint", "NoNumber", "NoText", "NoLine", "NoDeed", "NoForm", "NoChange"] (.exc "NoText" S) = .ok (ownD [.int 4]) S := ref_exc (k := 4) hS rfl
theorem rB5 {S : Cs} (hS : flatCs S = true) : refR ["NoFunction", "NoTerm", "NoPoint", "NoNumber", "NoText", "NoLine", "NoDeed", "NoForm", "NoChange"] (.exc "NoLine" S) = .ok (ownD [.int 5]) S := ref_exc (k := 5) hS rfl
theorem rB6 {S : Cs} (hS : flatCs S = true) : refR ["NoFunction", "NoTerm", "NoPoint", "NoNumber", "NoText", "NoLine", "NoDeed", "NoForm", "NoChange"] (.exc "NoDeed" S) = .ok (ownD [.int 6]) S := ref_exc (k := 6) hS rfl
theorem rB7 {S : Cs} (hS : flatCs S = true) : refR ["NoFunction", "NoTerm", "NoPoint", "NoNumber", "NoText", "NoLine", "NoDeed", "NoForm", "NoChange"] (.exc "NoForm" S) = .ok (ownD [.int 7]) S := ref_exc (k := 7) hS rfl
theorem rB8 {S : Cs} (hS : flatCs S = true) : refR ["NoFunction", "NoTerm", "NoPoint", "NoNumber", "NoText", "NoLine", "NoDeed", "NoForm", "NoChange"] (.exc "NoChange" S) = .ok (ownD [.int 8]) S := ref_exc (k := 8) hS rfl
end PD

/-! PE7: sorted(set(..)) of terms. -/
namespace PD
open PySem PySem.Spec PyProof.Rows L2
def tsS (ts : List Tm) : List Str := ts.map fun t => tS (t.map sgO)
def neD (ts : List Tm) : List D := (srtG PyData.str (tsS ts)).map .str
theorem strs_map (l : List Str) : strsOf (l.map PyData.str) = some l := by
  induction l with
  | nil => rfl
  | cons x l ih => rw [List.map_cons]; unfold strsOf; rw [ih]; rfl
theorem ddp_len {β : Type} [DecidableEq β] : ∀ l : List β, (ddp l).length ≤ l.length
  | [] => Nat.le_refl _
  | x :: l => by
    have ih := ddp_len l
    unfold ddp
    split
    · simp; omega
    · simp; omega
theorem srtG_len {β : Type} [DecidableEq β] (enc : β → D) (l : List β) : (srtG enc l).length ≤ l.length := by
  unfold srtG
  rw [List.length_mergeSort]
  exact ddp_len l
theorem sortSetT (ts : List Tm) (h : ts.length ≤ 1000) (S : Cs) : onD1 dSortSet (.d (.list (ts.map eT))) S = .ok (ownD (neD ts)) S := by
  have e : ts.map eT = (tsS ts).map PyData.str := by unfold tsS; rw [List.map_map]; rfl
  unfold onD1 dSortSet sortSetD
  simp only [e, strs_map]
  rw [if_pos (by unfold tsS; rw [List.length_map]; exact h)]
  rfl
theorem neD_len (ts : List Tm) : (neD ts).length ≤ ts.length := by
  unfold neD
  rw [List.length_map]
  exact Nat.le_trans (srtG_len _ _) (by unfold tsS; simp)
theorem neD_ok (k : Nat) (ts : List Tm) (h : ts.length ≤ 1000) : sameOk (k + 2) (.list (neD ts)) := by
  have := neD_len ts
  unfold sameOk
  refine ⟨by omega, sameOks_all fun d hd => ?_⟩
  unfold neD at hd
  obtain ⟨q, _, rfl⟩ := List.mem_map.mp hd
  unfold sameOk
  trivial
theorem flatNe (ts : List Tm) : flatAll (neD ts) = true := by
  unfold neD
  induction srtG PyData.str (tsS ts) with
  | nil => rfl
  | cons q l ih =>
    unfold flatAll at ih ⊢
    rw [List.map_cons, List.all_cons, ih]
    rfl
end PD

/-! PE9: tuples of any data; lists of points. -/
namespace PD
open PySem PySem.Spec PyProof.Rows L2
theorem cut_mem {ds : List D} {lo hi : Option Int} {x : D} (h : x ∈ cutD ds lo hi) : x ∈ ds := List.mem_of_mem_drop (List.mem_of_mem_take h)
theorem cut_len (ds : List D) (lo hi : Option Int) : (cutD ds lo hi).length ≤ ds.length := by
  unfold cutD
  rw [List.length_take, List.length_drop]
  omega
theorem add_tup (a b : List D) (h : a.length + b.length ≤ 1000) (S : Cs) : onD dAdd (.d (.tuple a)) (.d (.tuple b)) S = .ok (.a (.d (.tuple (a ++ b)))) S := by
  show (match dAdd (.tuple a) (.tuple b) with | some w => R.ok w S | none => .stuck) = _
  unfold dAdd
  simp only
  rw [if_pos (by rw [sizeLine_eq]; omega)]
theorem sl_eF (f : Fn) (lo hi : Option Int) : dSl lo hi (eF f) = some (.a (.d (.tuple (cutD (f.map aO) lo hi)))) := rfl
theorem add_eF (f : Fn) (b : List D) (h : f.length + b.length ≤ 1000) (S : Cs) : onD dAdd (.d (eF f)) (.d (.tuple b)) S = .ok (.a (.d (.tuple (f.map aO ++ b)))) S := add_tup _ _ (by rw [List.length_map]; exact h) S
theorem lis_eF (f : Fn) : dLis (eF f) = some (ownD (f.map aO)) := rfl
theorem mul_eF (f : Fn) (h0 : 0 < f.length) (h : f.length ≤ 1000) (S : Cs) : onD dMul (.d (eF f)) (.d (.int 2)) S = .ok (.a (.d (.tuple (f.map aO ++ f.map aO)))) S := by
  show (match dMul (.tuple (f.map aO)) (.int 2) with | some w => R.ok w S | none => .stuck) = _
  unfold dMul
  simp only
  have hn : f.map aO ≠ [] := fun z => by
    have := congrArg List.length z
    rw [List.length_map, List.length_nil] at this
    omega
  rw [if_pos ⟨hn, by decide, by decide, by rw [List.length_map]; exact h⟩]
  simp [List.replicate_succ]
/-- a thing whose parts, if it is a tuple, may be set beside others -/
def okTup (d : D) : Prop := ∀ ds, d = .tuple ds → ds.length ≤ 1000 ∧ ∀ x ∈ ds, okD 2 x
theorem okTup.no {d : D} (h : ∀ ds, d ≠ .tuple ds) : okTup d := fun ds e => absurd e (h ds)
theorem okTup.tup {ds : List D} (h1 : ds.length ≤ 1000) (h : ∀ x ∈ ds, okD 2 x) : okTup (.tuple ds) := fun es e => by cases e; exact ⟨h1, h⟩
theorem okaO (a : Option Bool) : okD 2 (aO a) := by
  cases a with
  | none => exact ⟨rfl, by decide⟩
  | some b => exact ⟨rfl, by simp [aO, PyData.depth]⟩
theorem okTup.eF {f : Fn} (h : f.length ≤ 1000) : okTup (eF f) := okTup.tup (by rw [List.length_map]; exact h) fun x hx => by
  obtain ⟨a, _, rfl⟩ := List.mem_map.mp hx
  exact okaO a
theorem eq_nilD {ds : List D} (h : ∀ x ∈ ds, okD 2 x) (S : Cs) : onD dEq (.d (.list ds)) (.d (.list [])) S = .ok (bD ds.isEmpty) S := by
  have hk : okD 3 (.list (ds.map id)) := okD.lst fun x hx => h x hx
  rw [List.map_id] at hk
  rw [o_eq _ (eqOk_sh hk.sh (show SeqAt.shaped (.list []) = true from by decide))]
  cases ds <;> rfl
/-! ### what is a function, told otherwise -/
def odd1 : D → Bool
  | .none => false
  | .int _ => false
  | _ => true
def odd2 (d : D) : Bool := !inD d [.int 0, .int 1, .none]
theorem ans_odd (d : D) : isAns d = (!odd1 d && (odd1 d || !odd2 d)) := by
  cases d with
  | int i => simp [isAns, odd1, odd2, inD, PyData.eqv]
  | _ => rfl
theorem all_odd (ds : List D) : ds.all isAns = ((ds.filter odd1).isEmpty && (ds.filter fun d => !odd1 d && odd2 d).isEmpty) := by
  induction ds with
  | nil => rfl
  | cons d ds ih =>
    rw [List.all_cons, ih, ans_odd, List.filter_cons, List.filter_cons]
    cases h1 : odd1 d <;> cases h2 : odd2 d <;> simp
theorem len4 (n : Nat) : (List.lookup (n : Int) ([(2, 1), (4, 2), (8, 3), (16, 4)] : List (Int × Int))).isSome = inD (.int n) [.int 2, .int 4, .int 8, .int 16] := by
  by_cases h : n = 2 ∨ n = 4 ∨ n = 8 ∨ n = 16
  · rcases h with rfl | rfl | rfl | rfl <;> rfl
  · have h2 : ¬ n = 2 ∧ ¬ n = 4 ∧ ¬ n = 8 ∧ ¬ n = 16 := by omega
    obtain ⟨a, b, c, d⟩ := h2
    have e2 : ((n : Int) == 2) = false := beq_false_of_ne (by omega)
    have e4 : ((n : Int) == 4) = false := beq_false_of_ne (by omega)
    have e8 : ((n : Int) == 8) = false := beq_false_of_ne (by omega)
    have e16 : ((n : Int) == 16) = false := beq_false_of_ne (by omega)
    have f2 : ((2 : Int) == (n : Int)) = false := beq_false_of_ne (by omega)
    have f4 : ((4 : Int) == (n : Int)) = false := beq_false_of_ne (by omega)
    have f8 : ((8 : Int) == (n : Int)) = false := beq_false_of_ne (by omega)
    have f16 : ((16 : Int) == (n : Int)) = false := beq_false_of_ne (by omega)
    simp [List.lookup, inD, PyData.eqv, e2, e4, e8, e16, f2, f4, f8, f16]
/-! ### points -/
theorem eqA0 (x : Option Bool) (S : Cs) : onD dEq (.d (aO x)) (.d (.int 0)) S = .ok (bD (x == some false)) S := eqA x (some false) S
theorem isN_aO (x : Option Bool) (S : Cs) : dIsN (.d (aO x)) (.d .none) S = .ok (bD (x == none)) S := by
  cases x with
  | none => rfl
  | some b => rfl
def ptB (n : Nat) : D → Bool
  | .int i => decide (0 ≤ i) && decide (i < (2 ^ n : Nat))
  | _ => false
def ptsB (n : Nat) : D → Bool
  | .list ds => ds.all (ptB n) && (match intsOf ds with | some l => decide (l.length ≤ (ddp l).length) | none => false)
  | _ => false
theorem ints_all {n : Nat} : ∀ {ds : List D}, ds.all (ptB n) = true → ∃ l : List Int, ds = l.map .int
  | [], _ => ⟨[], rfl⟩
  | d :: ds, h => by
    rw [List.all_cons, Bool.and_eq_true] at h
    obtain ⟨l, rfl⟩ := ints_all h.2
    cases d with
    | int i => exact ⟨i :: l, rfl⟩
    | _ => exact absurd h.1 (by simp [ptB])
theorem ints_map : ∀ l : List Int, intsOf (l.map PyData.int) = some l
  | [] => rfl
  | i :: l => by rw [List.map_cons]; unfold intsOf; rw [ints_map l]; rfl
theorem ddp_id {β : Type} [DecidableEq β] : ∀ {l : List β}, l.Nodup → ddp l = l
  | [], _ => rfl
  | x :: l, h => by
    obtain ⟨h1, h2⟩ := List.nodup_cons.mp h
    unfold ddp
    rw [ddp_id h2, if_neg h1]
theorem lenSet_ints (l : List Int) (h : l.length ≤ 1000) (S : Cs) : onD1 dLenSet (.d (.list (l.map PyData.int))) S = .ok (iD (ddp l).length) S := by
  unfold onD1 dLenSet lenSetD
  cases l with
  | nil => rfl
  | cons i l =>
    have : strsOf ((i :: l).map PyData.int) = none := by rw [List.map_cons]; rfl
    have e : intsOf ((i :: l).map PyData.int) = some (i :: l) := ints_map _
    simp only [this, e]
    rw [if_pos h]
theorem pts_good {n : Nat} {l : List Nat} (h : ∀ p ∈ l, p < 2 ^ n) (nd : l.Nodup) : ptsB n (.list (l.map fun (p : Nat) => PyData.int (p : Int))) = true := by
  have e : (l.map fun (p : Nat) => PyData.int (p : Int)) = (l.map fun (p : Nat) => (p : Int)).map PyData.int := by rw [List.map_map]; rfl
  unfold ptsB
  simp only
  rw [Bool.and_eq_true]
  constructor
  · rw [List.all_map, List.all_eq_true]
    intro p hp
    have := h p hp
    simp only [Function.comp, ptB, Bool.and_eq_true, decide_eq_true_iff]
    exact ⟨by omega, by exact_mod_cast this⟩
  · rw [e, ints_map]
    have nd2 : (l.map fun (p : Nat) => (p : Int)).Nodup := by
      rw [List.nodup_iff_pairwise_ne, List.pairwise_map]
      exact (List.nodup_iff_pairwise_ne.mp nd).imp fun hne z => hne (by omega)
    simp only [ddp_id nd2, Nat.le_refl, decide_true]
theorem pw_nodup (f : Fn) (a : Option Bool) : (pwM f a).Nodup := by
  rw [← pw_range]
  exact List.nodup_range.sublist List.filter_sublist
theorem nodup_leG {β : Type} : ∀ {a b : List β}, a.Nodup → (∀ x ∈ a, x ∈ b) → a.length ≤ b.length
  | [], b, _, _ => Nat.zero_le _
  | x :: a, b, ha, h => by
    obtain ⟨b1, b2, rfl⟩ := List.append_of_mem (h x List.mem_cons_self)
    obtain ⟨h1, h2⟩ := List.nodup_cons.mp ha
    have := nodup_leG (b := b1 ++ b2) h2 fun y hy => by
      have hne : y ≠ x := fun e => h1 (e ▸ hy)
      have := h y (List.mem_cons_of_mem _ hy)
      simp only [List.mem_append, List.mem_cons] at this ⊢
      rcases this with z | z | z
      · exact .inl z
      · exact absurd z hne
      · exact .inr z
    simp only [List.length_append, List.length_cons] at this ⊢
    omega
theorem q_dct {ρ : En} {S : Cs} : fDct ρ S = .ok (.a (.d (.dict []))) S := rfl
theorem sameOk_N (k : Nat) {l : List Nat} (h : l.length ≤ 1000) : sameOk (k + 2) (.list (l.map fun (p : Nat) => PyData.int (p : Int))) := by
  unfold sameOk
  refine ⟨by rw [List.length_map]; omega, sameOks_all fun d hd => ?_⟩
  obtain ⟨q, _, rfl⟩ := List.mem_map.mp hd
  simp [sameOk]
theorem sameOk_eF (k : Nat) {f : Fn} (h : f.length ≤ 1000) : sameOk (k + 2) (eF f) := by
  unfold eF sameOk
  refine ⟨by rw [List.length_map]; omega, sameOks_all fun d hd => ?_⟩
  obtain ⟨q, _, rfl⟩ := List.mem_map.mp hd
  cases q <;> simp [sameOk, aO]
theorem rev_N (l : List Nat) : dRev (.list (l.map fun (p : Nat) => PyData.int (p : Int))) = some (ownD (l.reverse.map fun (p : Nat) => PyData.int (p : Int))) := by
  unfold dRev
  rw [List.map_reverse]
theorem lis_l (l : List D) : dLis (.list l) = some (ownD l) := rfl
end PD

/-! PE10: texts of terms, put together and taken apart. -/
namespace PD
open PySem PySem.Spec PyProof.Rows L2 PySem.StrLaws PySem.Builtin.Str
/-- the signs of texts with z between -/
def gluM (z : List Nat) : List (List Nat) → List Nat
  | [] => []
  | [t] => t
  | t :: ts => t ++ (z ++ gluM z ts)
theorem glueT_map (z : List Nat) : ∀ ts : List (List Nat), glueT z (ts.map tS) = gluM z ts
  | [] => rfl
  | [t] => by
    show (tS t).cps.toList ++ [] = t
    simp [tS]
  | t :: u :: ts => by
    have ih := glueT_map z (u :: ts)
    rw [List.map_cons] at ih
    show (tS t).cps.toList ++ (z ++ ((tS u).cps.toList ++ glueL z (ts.map tS))) = t ++ (z ++ gluM z (u :: ts))
    have e : (tS t).cps.toList = t := by simp [tS]
    rw [e, ← ih]
    rfl
theorem join_tS (z : Str) {ts : List (List Nat)} (h : ts ≠ []) : Txt.join z (ts.map tS) = tS (gluM z.cps.toList ts) := by
  cases ts with
  | nil => exact absurd rfl h
  | cons t ts =>
    have e := glued_list z (tS t) (ts.map tS)
    have e2 := glueT_map z.cps.toList (t :: ts)
    rw [List.map_cons] at e2
    rw [e2] at e
    have : Txt.join z ((t :: ts).map tS) = glued z (tS t :: ts.map tS) := rfl
    rw [this]
    rw [str_tS (glued z (tS t :: ts.map tS)), e]
def plus3 : List Nat := [32, 43, 32]
theorem plus_eq : Str.ofString " + " = tS plus3 := by decide
/-- the parts told by the cuts are the texts put together -/
theorem parts_back {x : Str} : ∀ (ts : List (List Nat)) (a : Nat) (cuts : List Nat) (f : Nat), ts ≠ [] → (∀ t ∈ ts, ∀ c ∈ t, c ≠ 32) → x.cps.toList.drop a = gluM plus3 ts → a ≤ x.length → ChainG x (tS plus3) x.length a cuts f → (∀ k, f ≤ k → ¬ StrLaws.At x (tS plus3) x.length k) → partsFrom x 3 a cuts = ts.map tS := by
  have ep : (tS plus3).cps.toList = plus3 := by decide
  have el : (tS plus3).length = 3 := by decide
  intro ts
  induction ts with
  | nil => intro a cuts f h; exact absurd rfl h
  | cons t ts ih =>
    intro a cuts f _ hs hx ha hc hn
    have ex : x.cps.toList.length = x.length := by simp [Str.length]
    have hst := hs t List.mem_cons_self
    -- no cut within t
    have free : ∀ (rest : List Nat), x.cps.toList.drop a = t ++ rest → ∀ k, a ≤ k → k < a + t.length → ¬ StrLaws.At x (tS plus3) x.length k := by
      intro rest hr k h1 h2 hA
      have h3 := at_take hA
      rw [ep] at h3
      have h4 : (x.cps.toList.drop k).head? = some 32 := by
        have := congrArg List.head? h3
        rw [List.head?_take, if_neg (by decide)] at this
        exact this
      have h5 : x.cps.toList.drop k = (t.drop (k - a)) ++ rest := by
        have : x.cps.toList.drop k = (x.cps.toList.drop a).drop (k - a) := by rw [List.drop_drop]; congr 1; omega
        rw [this, hr, List.drop_append_of_le_length (by omega)]
      rw [h5] at h4
      cases e : t.drop (k - a) with
      | nil =>
        have := congrArg List.length e
        rw [List.length_drop, List.length_nil] at this
        omega
      | cons c r =>
        rw [e] at h4
        have hc32 : c = 32 := by simpa using h4
        exact hst c (List.mem_of_mem_drop (by rw [e]; exact List.mem_cons_self)) hc32
    cases ts with
    | nil =>
      have hx : x.cps.toList.drop a = t := hx
      have hlen := congrArg List.length hx
      rw [List.length_drop, ex] at hlen
      cases cuts with
      | nil =>
        show [strSub x a x.length] = [tS t]
        have : strSub x a x.length = tS t := by
          rw [str_tS (strSub x a x.length), strSub_toList, hx, List.take_of_length_le (by omega)]
        rw [this]
      | cons c r =>
        obtain ⟨hac, hA, _, _⟩ := hc
        have hb := hA.1
        rw [el] at hb
        exact absurd hA (free [] (by rw [hx, List.append_nil]) c hac (by omega))
    | cons u ts =>
      have hx : x.cps.toList.drop a = t ++ (plus3 ++ gluM plus3 (u :: ts)) := hx
      have hlen := congrArg List.length hx
      rw [List.length_drop, ex, List.length_append, List.length_append] at hlen
      have hp3 : plus3.length = 3 := rfl
      rw [hp3] at hlen
      have hd : x.cps.toList.drop (a + t.length) = plus3 ++ gluM plus3 (u :: ts) := by
        have : x.cps.toList.drop (a + t.length) = (x.cps.toList.drop a).drop t.length := by rw [List.drop_drop]
        rw [this, hx, List.drop_left']
        rfl
      have hat : StrLaws.At x (tS plus3) x.length (a + t.length) := by
        refine take_at (by rw [el]; decide) ?_
        rw [ep, hd, hp3]
        rfl
      cases cuts with
      | nil =>
        have : f = a := hc
        exact absurd hat (hn _ (by omega))
      | cons c r =>
        obtain ⟨hac, hA, hno, hr⟩ := hc
        have h1 : ¬ c < a + t.length := fun z => free _ hx c hac z hA
        have h2 : ¬ a + t.length < c := fun z => hno _ (by omega) z hat
        have hceq : c = a + t.length := by omega
        subst hceq
        rw [el] at hr
        have hd2 : x.cps.toList.drop (a + t.length + 3) = gluM plus3 (u :: ts) := by
          have : x.cps.toList.drop (a + t.length + 3) = (x.cps.toList.drop (a + t.length)).drop 3 := by rw [List.drop_drop]
          rw [this, hd]
          rfl
        have := ih (a + t.length + 3) r f (by simp) (fun t ht => hs t (List.mem_cons_of_mem _ ht)) hd2 (by omega) hr hn
        show strSub x a (a + t.length) :: partsFrom x 3 (a + t.length + 3) r = tS t :: (u :: ts).map tS
        rw [this]
        have : strSub x a (a + t.length) = tS t := by
          rw [str_tS (strSub x a (a + t.length)), strSub_toList, hx]
          congr 1
          have : a + t.length - a = t.length := by omega
          rw [this, List.take_left']
          rfl
        rw [this]
theorem kind1 {cs : List Nat} (h : ∀ c ∈ cs, c < 256) : Builtin.Str.strKind (tS cs) = 1 := by
  unfold Builtin.Str.strKind
  rw [if_pos]
  rw [Array.all_eq_true_iff_forall_mem]
  intro c hc
  have : c ∈ cs := by simpa [tS] using hc
  simpa using h c this
theorem glu_all {P : Nat → Prop} {z : List Nat} (hz : ∀ c ∈ z, P c) : ∀ {ts : List (List Nat)}, (∀ t ∈ ts, ∀ c ∈ t, P c) → ∀ c ∈ gluM z ts, P c
  | [], _, c, hc => by simp [gluM] at hc
  | [t], h, c, hc => h t List.mem_cons_self c hc
  | t :: u :: ts, h, c, hc => by
    have hc : c ∈ t ++ (z ++ gluM z (u :: ts)) := hc
    rcases List.mem_append.mp hc with h1 | h1
    · exact h t List.mem_cons_self c h1
    · rcases List.mem_append.mp h1 with h2 | h2
      · exact hz c h2
      · exact glu_all hz (fun t ht => h t (List.mem_cons_of_mem _ ht)) c h2
/-- taken apart again -/
theorem split_back {ts : List (List Nat)} (h0 : ts ≠ []) (hs : ∀ t ∈ ts, ∀ c ∈ t, c ≠ 32 ∧ c < 256) : Txt.split (tS (gluM plus3 ts)) (tS plus3) = ts.map tS := by
  have el : (tS plus3).length = 3 := by decide
  have ex : (tS (gluM plus3 ts)).cps.toList = gluM plus3 ts := by simp [tS]
  have xl : (tS (gluM plus3 ts)).length = (gluM plus3 ts).length := by simp [tS, Str.length]
  obtain ⟨f, hc, hn⟩ := occ_tight (tS (gluM plus3 ts)) (tS plus3) (by rw [el]; decide)
  have hp := parts_back (x := tS (gluM plus3 ts)) ts 0 _ f h0 (fun t ht c hc => (hs t ht c hc).1) (by rw [List.drop_zero, ex]) (Nat.zero_le _) hc hn
  have hk : Builtin.Str.strKind (tS (gluM plus3 ts)) = 1 := kind1 (glu_all (P := fun c => c < 256) (by decide) fun t ht c hc => (hs t ht c hc).2)
  have hk2 : Builtin.Str.strKind (tS plus3) = 1 := kind1 (by decide)
  have short : ∀ ts : List (List Nat), ts ≠ [] → (gluM plus3 ts).length < 3 → ts.map tS = [tS (gluM plus3 ts)] := by
    intro ts h0 h
    cases ts with
    | nil => exact absurd rfl h0
    | cons t ts =>
      cases ts with
      | nil => rfl
      | cons u ts =>
        exfalso
        have : (gluM plus3 (t :: u :: ts)).length = t.length + (3 + (gluM plus3 (u :: ts)).length) := by
          show (t ++ (plus3 ++ gluM plus3 (u :: ts))).length = _
          rw [List.length_append, List.length_append]
          rfl
        omega
  unfold Txt.split
  rw [hk, hk2, el]
  by_cases hl : (tS (gluM plus3 ts)).length < 3
  · rw [if_pos (by rw [decide_eq_true hl]; rfl)]
    rw [xl] at hl
    exact (short ts h0 hl).symm
  · rw [if_neg (by rw [decide_eq_false hl]; decide)]
    cases e : occurrences (tS (gluM plus3 ts)) (tS plus3) 0 (tS (gluM plus3 ts)).length ((tS (gluM plus3 ts)).length + 1) with
    | nil =>
      rw [if_pos (show (([] : List Nat).isEmpty = true) from rfl)]
      rw [e] at hp
      rw [← hp]
      show [tS (gluM plus3 ts)] = [strSub _ 0 _]
      rw [sub_whole]
    | cons c r =>
      rw [if_neg (by simp), partsBetween_eq, ← hp, e]
/-! ### sorted, each once: terms again, rising -/
theorem all_txt {P : Tm → Prop} : ∀ {l : List Str}, (∀ z ∈ l, ∃ t : Tm, z = tS (t.map sgO) ∧ P t) → ∃ us : List Tm, l = tsS us ∧ ∀ u ∈ us, P u
  | [], _ => ⟨[], rfl, by simp⟩
  | z :: l, h => by
    obtain ⟨t, rfl, ht⟩ := h z List.mem_cons_self
    obtain ⟨us, rfl, hu⟩ := all_txt (l := l) fun y hy => h y (List.mem_cons_of_mem _ hy)
    exact ⟨t :: us, rfl, fun u hm => by
      rcases List.mem_cons.mp hm with rfl | hm
      · exact ht
      · exact hu u hm⟩
theorem lt_of_leS {a b : List Nat} (h : a ≤ b) (hne : a ≠ b) : a < b := by
  by_cases h1 : a < b
  · exact h1
  · exact absurd (List.le_antisymm h (show b ≤ a from h1)) hne
theorem neD_T (ts : List Tm) {n : Nat} (hl : ∀ t ∈ ts, t.length = n) : ∃ us : List Tm, neD ts = us.map eT ∧ (∀ u ∈ us, u.length = n) ∧ us.Pairwise (fun a b => ltT a b = true) ∧ us.length ≤ ts.length := by
  have hm : ∀ z ∈ srtG PyData.str (tsS ts), ∃ t : Tm, z = tS (t.map sgO) ∧ t.length = n := by
    intro z hz
    unfold srtG at hz
    rw [List.mem_mergeSort, mem_ddp] at hz
    obtain ⟨t, ht, rfl⟩ := List.mem_map.mp hz
    exact ⟨t, rfl, hl t ht⟩
  obtain ⟨us, he, hu⟩ := all_txt hm
  have hlen := neD_len ts
  have e1 : neD ts = us.map eT := by
    unfold neD
    rw [he]
    unfold tsS
    rw [List.map_map]
    rfl
  refine ⟨us, e1, hu, ?_, by rw [e1, List.length_map] at hlen; exact hlen⟩
  have hs : (srtG PyData.str (tsS ts)).Pairwise fun a b => PySem.W.dataLe false PyData.str a b = true := by
    unfold srtG
    refine List.pairwise_mergeSort ?_ ?_ _
    · intro a b c h1 h2
      rw [leS, decide_eq_true_iff] at *
      exact List.le_trans h1 h2
    · intro a b
      rw [leS, leS]
      rcases List.le_total a.cps.toList b.cps.toList with h | h <;> simp [h]
  have hd : (srtG PyData.str (tsS ts)).Nodup := by
    unfold srtG
    exact (List.mergeSort_perm _ _).nodup_iff.mpr (ddp_nodup _)
  rw [he] at hs hd
  have hboth := hs.and (List.nodup_iff_pairwise_ne.mp hd)
  unfold tsS at hboth
  refine (List.pairwise_map.mp hboth).imp fun {a b} h => ?_
  obtain ⟨h1, h2⟩ := h
  rw [leS, decide_eq_true_iff] at h1
  have ea : ∀ t : Tm, (tS (t.map sgO)).cps.toList = t.map sgO := fun t => by simp [tS]
  rw [ea, ea] at h1
  unfold ltT
  rw [decide_eq_true_iff]
  exact lt_of_leS h1 fun z => h2 (by rw [z])
theorem sl1_T (ts : List Tm) : dSl (some 1) none (.tuple (ts.map eT)) = some (.a (.d (.tuple ((ts.drop 1).map eT)))) := by
  show some (W.a (A.d (.tuple (cutD (ts.map eT) (some ((1 : Nat) : Int)) none)))) = _
  unfold cutD
  rw [HT.sIx_none, HT.sIx_nat, List.length_map]
  congr 4
  rcases Nat.le_total 1 ts.length with h | h
  · rw [Nat.min_eq_left h, List.take_of_length_le (by simp), List.map_drop]
  · cases ts with
    | nil => rfl
    | cons a l =>
      have : l = [] := by cases l with
        | nil => rfl
        | cons _ _ => simp at h
      subst this; rfl
end PD

namespace PD
open PySem PySem.Spec PyProof.Rows L2
section
def topS (i : Nat) : Stmt := PySem.Challenge.pw_leastterms_k90_texts_of_functions_and_fo.main.body.getD i (.Pass ⟨0, 0, 0, 0⟩)
abbrev s_is_whole : Stmt := topS 14
abbrev s_is_answer : Stmt := topS 15
abbrev s_is_function : Stmt := topS 16
abbrev s_need_function : Stmt := topS 17
abbrev s_need_number : Stmt := topS 18
abbrev s_term_good : Stmt := topS 21
abbrev s_shown : Stmt := topS 27
abbrev s_function_text : Stmt := topS 28
abbrev s_form_text : Stmt := topS 29
abbrev s_read_function : Stmt := topS 30
abbrev s_read_form : Stmt := topS 31
abbrev s__law_cell_at : Stmt := topS 33
abbrev s__law_state : Stmt := topS 34
abbrev s__law_take : Stmt := topS 35
abbrev s__law_term : Stmt := topS 36
abbrev s__law_bits : Stmt := topS 37
abbrev s__law_points : Stmt := topS 38
abbrev s__law_function : Stmt := topS 39
abbrev s__law_switches : Stmt := topS 40
abbrev s__law_same : Stmt := topS 41
abbrev s__law_refused : Stmt := topS 42
abbrev s_law : Stmt := topS 43
theorem sc_is_whole : FnScope ["thing"] ["thing"] (defScope s_is_whole) := ⟨rfl, rfl, rfl, by decide +kernel, rfl, by decide +kernel, by decide +kernel⟩
theorem sc_is_answer : FnScope ["thing"] ["thing"] (defScope s_is_answer) := ⟨rfl, rfl, rfl, by decide +kernel, rfl, by decide +kernel, by decide +kernel⟩
theorem sc_is_function : FnScope ["thing", "one"] ["thing"] (defScope s_is_function) := ⟨rfl, rfl, rfl, by decide +kernel, rfl, by decide +kernel, by decide +kernel⟩
theorem sc_need_function : FnScope ["thing"] ["thing"] (defScope s_need_function) := ⟨rfl, rfl, rfl, by decide +kernel, rfl, by decide +kernel, by decide +kernel⟩
theorem sc_need_number : FnScope ["n", "most"] ["n", "most"] (defScope s_need_number) := ⟨rfl, rfl, rfl, by decide +kernel, rfl, by decide +kernel, by decide +kernel⟩
theorem sc_term_good : FnScope ["n", "thing", "sign"] ["n", "thing"] (defScope s_term_good) := ⟨rfl, rfl, rfl, by decide +kernel, rfl, by decide +kernel, by decide +kernel⟩
theorem sc_shown : FnScope ["function", "answer"] ["function"] (defScope s_shown) := ⟨rfl, rfl, rfl, by decide +kernel, rfl, by decide +kernel, by decide +kernel⟩
theorem sc_function_text : FnScope ["function"] ["function"] (defScope s_function_text) := ⟨rfl, rfl, rfl, by decide +kernel, rfl, by decide +kernel, by decide +kernel⟩
theorem sc_form_text : FnScope ["form"] ["form"] (defScope s_form_text) := ⟨rfl, rfl, rfl, by decide +kernel, rfl, by decide +kernel, by decide +kernel⟩
theorem sc_read_function : FnScope ["text", "sign"] ["text"] (defScope s_read_function) := ⟨rfl, rfl, rfl, by decide +kernel, rfl, by decide +kernel, by decide +kernel⟩
theorem sc_read_form : FnScope ["n", "text", "found", "term", "one", "other"] ["n", "text"] (defScope s_read_form) := ⟨rfl, rfl, rfl, by decide +kernel, rfl, by decide +kernel, by decide +kernel⟩
theorem sc__law_cell_at : FnScope ["_law_script", "_law_k"] ["_law_script", "_law_k"] (defScope s__law_cell_at) := ⟨rfl, rfl, rfl, by decide +kernel, rfl, by decide +kernel, by decide +kernel⟩
theorem sc__law_state : FnScope ["_law_script", "_law_k", "_law_cell"] ["_law_script", "_law_k"] (defScope s__law_state) := ⟨rfl, rfl, rfl, by decide +kernel, rfl, by decide +kernel, by decide +kernel⟩
theorem sc__law_take : FnScope ["_law_state_here", "_law_many", "_law_stirred", "_law_found"] ["_law_state_here", "_law_many"] (defScope s__law_take) := ⟨rfl, rfl, rfl, by decide +kernel, rfl, by decide +kernel, by decide +kernel⟩
theorem sc__law_term : FnScope ["_law_state_here", "_law_n", "_law_k"] ["_law_state_here", "_law_n"] (defScope s__law_term) := ⟨rfl, rfl, rfl, by decide +kernel, rfl, by decide +kernel, by decide +kernel⟩
theorem sc__law_bits : FnScope ["_law_n", "_law_point", "_law_found", "_law_k"] ["_law_n", "_law_point"] (defScope s__law_bits) := ⟨rfl, rfl, rfl, by decide +kernel, rfl, by decide +kernel, by decide +kernel⟩
theorem sc__law_points : FnScope ["_law_term_here", "_law_found", "_law_point", "_law_bits_here", "_law_k"] ["_law_term_here"] (defScope s__law_points) := ⟨rfl, rfl, rfl, by decide +kernel, rfl, by decide +kernel, by decide +kernel⟩
theorem sc__law_function : FnScope ["_law_state_here", "_law_n", "_law_way", "_law_held", "_law_turn", "_law_found", "_law_some", "_law_point"] ["_law_state_here"] (defScope s__law_function) := ⟨rfl, rfl, rfl, by decide +kernel, rfl, by decide +kernel, by decide +kernel⟩
theorem sc__law_switches : FnScope ["_law_function_here"] ["_law_function_here"] (defScope s__law_switches) := ⟨rfl, rfl, rfl, by decide +kernel, rfl, by decide +kernel, by decide +kernel⟩
theorem sc__law_same : FnScope ["_law_found", "_law_due", "_law_one", "_law_other"] ["_law_found", "_law_due"] (defScope s__law_same) := ⟨rfl, rfl, rfl, by decide +kernel, rfl, by decide +kernel, by decide +kernel⟩
theorem sc__law_refused : FnScope ["_law_call", "_law_error", "e", "_law_marks", "_law_k"] ["_law_call"] (defScope s__law_refused) := ⟨rfl, rfl, rfl, by decide +kernel, rfl, by decide +kernel, by decide +kernel⟩
theorem sc_law : FnScope ["_law_script", "_law_k", "_law_state_here", "_law_function_here", "_law_n", "_law_form", "_law_text", "_law_words", "_law_none", "_law_bad", "_law_answer", "_law_turn"] ["_law_script"] (defScope s_law) := ⟨rfl, rfl, rfl, by decide +kernel, rfl, by decide +kernel, by decide +kernel⟩
/-- what the top has written -/
structure Tops (w : World) (K : PySem.W.Frag) (mg : Str → Option Value) : Prop where
  d_is_whole : DefAt K mg "is_whole" s_is_whole ["thing"]
  d_is_answer : DefAt K mg "is_answer" s_is_answer ["thing"]
  d_is_function : DefAt K mg "is_function" s_is_function ["thing"]
  d_need_function : DefAt K mg "need_function" s_need_function ["thing"]
  d_need_number : DefAt K mg "need_number" s_need_number ["n", "most"]
  d_term_good : DefAt K mg "term_good" s_term_good ["n", "thing"]
  d_shown : DefAt K mg "shown" s_shown ["function"]
  d_function_text : DefAt K mg "function_text" s_function_text ["function"]
  d_form_text : DefAt K mg "form_text" s_form_text ["form"]
  d_read_function : DefAt K mg "read_function" s_read_function ["text"]
  d_read_form : DefAt K mg "read_form" s_read_form ["n", "text"]
  d__law_cell_at : DefAt K mg "_law_cell_at" s__law_cell_at ["_law_script", "_law_k"]
  d__law_state : DefAt K mg "_law_state" s__law_state ["_law_script", "_law_k"]
  d__law_take : DefAt K mg "_law_take" s__law_take ["_law_state_here", "_law_many"]
  d__law_term : DefAt K mg "_law_term" s__law_term ["_law_state_here", "_law_n"]
  d__law_bits : DefAt K mg "_law_bits" s__law_bits ["_law_n", "_law_point"]
  d__law_points : DefAt K mg "_law_points" s__law_points ["_law_term_here"]
  d__law_function : DefAt K mg "_law_function" s__law_function ["_law_state_here"]
  d__law_switches : DefAt K mg "_law_switches" s__law_switches ["_law_function_here"]
  d__law_same : DefAt K mg "_law_same" s__law_same ["_law_found", "_law_due"]
  d__law_refused : DefAt K mg "_law_refused" s__law_refused ["_law_call"]
  z_ValueError : mg "ValueError" = none
  z_all : mg "all" = none
  z_bool : mg "bool" = none
  z_int : mg "int" = none
  z_isinstance : mg "isinstance" = none
  z_len : mg "len" = none
  z_list : mg "list" = none
  z_max : mg "max" = none
  z_min : mg "min" = none
  z_range : mg "range" = none
  z_set : mg "set" = none
  z_sorted : mg "sorted" = none
  z_str : mg "str" = none
  z_tuple : mg "tuple" = none
  z_zip : mg "zip" = none
  m_ANSWERS : KDat K w mg "ANSWERS" [(.str "0", .int 0), (.str "1", .int 1), (.str "-", .none)]
  c_BETWEEN : ∃ t, mg "BETWEEN" = some (.str " + " t)
  c_MOST : ∃ t, mg "MOST" = some (.int 4 t)
  c_NONE : ∃ t, mg "NONE" = some (.str "none" t)
  m_SIGN : KDat K w mg "SIGN" [(.int 0, .str "0"), (.int 1, .str "1"), (.none, .str "-")]
  c_SIGNS : ∃ t, mg "SIGNS" = some (.str "01-" t)
  m_SIZES : KInt K mg "SIZES" [(2, 1), (4, 2), (8, 3), (16, 4)]
  e_NoFunction : ExcAt K mg "NoFunction"
  e_NoNumber : ExcAt K mg "NoNumber"
  e_NoText : ExcAt K mg "NoText"
  ref : RefAt K mg "NoFunction" "NoTerm" "NoPoint" "NoNumber" "NoForm" "NoChange" "NoText" "NoLine" "NoDeed"
variable {P : Program} {w : World} {K : PySem.W.Frag} {mg : Str → Option Value} {base : Heap}
def b_is_whole : Fs := (sRet [] (fAnd (fUn (onD1 (dIsi "int")) (fVar 0)) (fNot (fUn (onD1 (dIsi "bool")) (fVar 0)))))
def sem_is_whole : Sem_ := bodySem 1 b_is_whole
def b_is_answer : Fs := (sRet [] (fOr (fBin dIsN (fVar 0) (fC .none)) (fAnd (fCall sem_is_whole [(fVar 0)]) (fBin (onD dIn) (fVar 0) (fTup [(fC (.int 0)), (fC (.int 1))])))))
def sem_is_answer : Sem_ := bodySem 1 b_is_answer
def b_is_function : Fs := (sRet [] (fAnd (fUn (onD1 (dIsi "tuple")) (fVar 0)) (fAnd (fUn (onD1 (dInKI [(2, 1), (4, 2), (8, 3), (16, 4)])) (fCall gLen [(fVar 0)])) (fCall (on1 dAll) [(fComp [1] (iSeq (fVar 0)) (gNm 1) fTrue (fCall sem_is_answer [(fVar 1)]))]))))
def sem_is_function : Sem_ := bodySem 2 b_is_function
def b_need_function : Fs := (sIf [] (fNot (fCall sem_is_function [(fVar 0)]))
  (sRaise "NoFunction")
  sSkip)
def sem_need_function : Sem_ := bodySem 1 b_need_function
def b_need_number : Fs := (sIf [] (fOr (fNot (fCall sem_is_whole [(fVar 0)])) (fNot (fChain (onD dLe) (onD dLe) (fC (.int 1)) (fVar 0) (fVar 1))))
  (sRaise "NoNumber")
  sSkip)
def sem_need_number : Sem_ := bodySem 2 b_need_number
def b_term_good : Fs := (sRet [] (fAnd (fUn (onD1 (dIsi "str")) (fVar 1)) (fAnd (fBin (onD dEq) (fCall gLen [(fVar 1)]) (fVar 0)) (fCall (on1 dAll) [(fComp [2] (iSeq (fVar 1)) (gNm 2) fTrue (fBin (onD dIn) (fVar 2) (fC (.str "01-"))))]))))
def sem_term_good : Sem_ := bodySem 3 b_term_good
def b_shown : Fs := (sRet [] (fSm dJoin (fC (.str "")) (fComp [1] (iSeq (fVar 0)) (gNm 1) fTrue (fUn (onD1 (dAtK [(.int 0, .str "0"), (.int 1, .str "1"), (.none, .str "-")])) (fVar 1)))))
def sem_shown : Sem_ := bodySem 2 b_shown
def b_function_text : Fs := (sSeq (sExp [] (fCall sem_need_function [(fVar 0)]))
  (sRet [] (fCall sem_shown [(fVar 0)])))
def sem_function_text : Sem_ := bodySem 1 b_function_text
def b_form_text : Fs := (sRet [] (fOrS (fSm dJoin (fC (.str " + ")) (fVar 0)) (fC (.str "none"))))
def sem_form_text : Sem_ := bodySem 1 b_form_text
def b_read_function : Fs := (sSeq (sIf [] (fOr (fNot (fUn (onD1 (dIsi "str")) (fVar 0))) (fOr (fUn (onD1 (dNotInKI [(2, 1), (4, 2), (8, 3), (16, 4)])) (fCall gLen [(fVar 0)])) (fNot (fCall (on1 dAll) [(fComp [1] (iSeq (fVar 0)) (gNm 1) fTrue (fUn (onD1 (dInK [(.str "0", .int 0), (.str "1", .int 1), (.str "-", .none)])) (fVar 1)))]))))
  (sRaise "NoText")
  sSkip)
  (sRet [] (fCall (on1 dTup) [(fComp [1] (iSeq (fVar 0)) (gNm 1) fTrue (fUn (onD1 (dAtK [(.str "0", .int 0), (.str "1", .int 1), (.str "-", .none)])) (fVar 1)))])))
def sem_read_function : Sem_ := bodySem 2 b_read_function
def b_read_form : Fs := (sSeq (sExp [] (fCall sem_need_number [(fVar 0), (fC (.int 4))]))
  (sSeq (sIf [] (fNot (fUn (onD1 (dIsi "str")) (fVar 1)))
  (sRaise "NoText")
  sSkip)
  (sSeq (sIf [] (fBin (onD dEq) (fVar 1) (fC (.str "none")))
  (sRet [] (fTup []))
  sSkip)
  (sSeq (sSet 2 [] (fCall (on1 dTup) [(fSm dSplit (fVar 1) (fC (.str " + ")))]))
  (sSeq (sIf [2] (fNot (fCall (on1 dAll) [(fComp [3] (iSeq (fVar 2)) (gNm 3) fTrue (fCall sem_term_good [(fVar 0), (fVar 3)]))]))
  (sRaise "NoText")
  sSkip)
  (sSeq (sIf [2] (fNot (fCall (on1 dAll) [(fComp [4, 5] (iZip (fVar 2) (fSl (fVar 2) (some (fC (.int 1))) none)) (gTp [4, 5]) fTrue (fBin (onD dLt) (fVar 4) (fVar 5)))]))
  (sRaise "NoText")
  sSkip)
  (sRetV 2)))))))
def sem_read_form : Sem_ := bodySem 6 b_read_form
def b__law_cell_at : Fs := (sSeq (sIf [] (fBin (onD dLt) (fVar 1) (fCall gLen [(fVar 0)]))
  (sRet [] (fBin dIx (fVar 0) (fVar 1)))
  sSkip)
  (sRet [] (fC (.int 0))))
def sem__law_cell_at : Sem_ := bodySem 2 b__law_cell_at
def b__law_state : Fs := (sSeq (sSet 2 [] (fCall sem__law_cell_at [(fVar 0), (fVar 1)]))
  (sSeq (sIf [2] (fBin (onD dGe) (fVar 2) (fBin (onD dPow) (fC (.int 10)) (fC (.int 18))))
  (sRet [2] (fLst [(fBin (onD dSub) (fVar 2) (fBin (onD dPow) (fC (.int 10)) (fC (.int 18)))), (fC (.bool true))]))
  sSkip)
  (sRet [2] (fLst [(fBin (onD dMod) (fVar 2) (fC (.int 2147483647))), (fC (.bool false))]))))
def sem__law_state : Sem_ := bodySem 3 b__law_state
def b__law_take : Fs := (sSeq (sIf [] (fBin dIx (fVar 0) (fC (.int 1)))
  (sSeq (sSet 3 [] (fBin (onD dMod) (fBin dIx (fVar 0) (fC (.int 0))) (fVar 1)))
  (sSeq (sSetIx 0 [] (fBin (onD dDiv) (fBin dIx (fVar 0) (fC (.int 0))) (fVar 1)) (fC (.int 0)))
  (sRetV 3)))
  sSkip)
  (sSeq (sSetIx 0 [] (fBin (onD dMod) (fBin (onD dAdd) (fBin (onD dMul) (fBin dIx (fVar 0) (fC (.int 0))) (fC (.int 48271))) (fC (.int 29))) (fC (.int 2147483647))) (fC (.int 0)))
  (sSeq (sSet 2 [] (fBin (onD dMod) (fBin (onD dAdd) (fBin (onD dAdd) (fBin (onD dMul) (fBin dIx (fVar 0) (fC (.int 0))) (fBin dIx (fVar 0) (fC (.int 0)))) (fBin (onD dMul) (fC (.int 39373)) (fBin dIx (fVar 0) (fC (.int 0))))) (fC (.int 7))) (fC (.int 2147483629))))
  (sSeq (sSet 2 [2] (fBin (onD dMod) (fBin (onD dAdd) (fBin (onD dMul) (fVar 2) (fVar 2)) (fBin (onD dMul) (fC (.int 16807)) (fVar 2))) (fC (.int 2147483587))))
  (sRet [2] (fBin (onD dMod) (fBin (onD dDiv) (fVar 2) (fC (.int 8))) (fVar 1)))))))
def sem__law_take : Sem_ := bodySem 4 b__law_take
def b__law_term : Fs := (sRet [] (fSm dJoin (fC (.str "")) (fComp [2] (iRng1 (fVar 1)) (gNm 2) fTrue (fBin dIx (fC (.str "01--")) (fCall sem__law_take [(fVar 0), (fC (.int 4))])))))
def sem__law_term : Sem_ := bodySem 3 b__law_term
def b__law_bits : Fs := (sSeq (sSet 2 [] (fC (.str "")))
  (sSeq (sFor [] (iRng1 (fVar 0)) (sNm 3)
  (sSeq (sSet 2 [1, 2] (fBin (onD dAdd) (fCall (on1 dStr) [(fBin (onD dMod) (fVar 1) (fC (.int 2)))]) (fVar 2)))
  (sSet 1 [1] (fBin (onD dDiv) (fVar 1) (fC (.int 2))))))
  (sRetV 2)))
def sem__law_bits : Sem_ := bodySem 4 b__law_bits
def b__law_points : Fs := (sSeq (sSet 1 [] (fLst []))
  (sSeq (sFor [] (iRng1 (fBin (onD dShl) (fC (.int 1)) (fCall gLen [(fVar 0)]))) (sNm 2)
  (sSeq (sSet 3 [] (fCall sem__law_bits [(fCall gLen [(fVar 0)]), (fVar 2)]))
  (sIf [3] (fBin (onD dEq) (fComp [4] (iRng1 (fCall gLen [(fVar 0)])) (gNm 4) (fBin (onD dNotIn) (fBin dIx (fVar 0) (fVar 4)) (fTup [(fC (.str "-")), (fBin dIx (fVar 3) (fVar 4))])) (fVar 4)) (fLst []))
  (sApp 1 [] (fVar 2))
  sSkip)))
  (sRetV 1)))
def sem__law_points : Sem_ := bodySem 5 b__law_points
def b__law_function : Fs := (sSeq (sSet 1 [] (fBin dIx (fLst [(fC (.int 4)), (fC (.int 3)), (fC (.int 3)), (fC (.int 2)), (fC (.int 4)), (fC (.int 3)), (fC (.int 4)), (fC (.int 1))]) (fCall sem__law_take [(fVar 0), (fC (.int 8))])))
  (sSeq (sSet 2 [] (fCall sem__law_take [(fVar 0), (fC (.int 6))]))
  (sSeq (sIf [2] (fBin (onD dLt) (fVar 2) (fC (.int 4)))
  (sSeq (sSet 6 [2] (fBin dIx (fLst [(fLst [(fC (.int 0)), (fC (.int 1))]), (fLst [(fC (.int 0)), (fC (.int 1)), (fC .none)]), (fLst [(fC (.int 0)), (fC (.int 0)), (fC (.int 0)), (fC (.int 1)), (fC .none)]), (fLst [(fC (.int 1)), (fC (.int 1)), (fC (.int 1)), (fC (.int 0)), (fC .none)])]) (fVar 2)))
  (sRet [] (fCall (on1 dTup) [(fComp [7] (iRng1 (fBin (onD dShl) (fC (.int 1)) (fVar 1))) (gNm 7) fTrue (fBin dIx (fVar 6) (fCall sem__law_take [(fVar 0), (fCall gLen [(fVar 6)])])))])))
  sSkip)
  (sSeq (sSet 3 [] (fLst []))
  (sSeq (sFor [] (iRng1 (fBin (onD dAdd) (fC (.int 1)) (fCall sem__law_take [(fVar 0), (fC (.int 5))]))) (sNm 4)
  (sSet 3 [3] (fBin (onD dAdd) (fVar 3) (fCall sem__law_points [(fCall sem__law_term [(fVar 0), (fVar 1)])]))))
  (sSeq (sSet 5 [3] (fComp [7] (iRng1 (fBin (onD dShl) (fC (.int 1)) (fVar 1))) (gNm 7) fTrue (fCall (on1 dInt) [(fBin (onD dIn) (fVar 7) (fVar 3))])))
  (sSeq (sIf [2] (fBin (onD dEq) (fVar 2) (fC (.int 5)))
  (sSetIx 5 [] (fC .none) (fCall sem__law_take [(fVar 0), (fBin (onD dShl) (fC (.int 1)) (fVar 1))]))
  sSkip)
  (sRet [5] (fCall (on1 dTup) [(fVar 5)])))))))))
def sem__law_function : Sem_ := bodySem 8 b__law_function
def b__law_switches : Fs := (sRet [] (fUn (onD1 (dAtKI [(2, 1), (4, 2), (8, 3), (16, 4)])) (fCall gLen [(fVar 0)])))
def sem__law_switches : Sem_ := bodySem 1 b__law_switches
def b__law_same (self : Sem_) : Fs := (sSeq (sIf [] (fUn (onD1 (dIsi2 "tuple" "list")) (fVar 1))
  (sSeq (sIf [] (fOr (fBin (onD dNe) (fUn (onD1 (dIsi "tuple")) (fVar 0)) (fUn (onD1 (dIsi "tuple")) (fVar 1))) (fBin (onD dNe) (fUn (onD1 (dIsi "list")) (fVar 0)) (fUn (onD1 (dIsi "list")) (fVar 1))))
  (sRet [] (fC (.bool false)))
  sSkip)
  (sSeq (sIf [] (fBin (onD dNe) (fCall gLen [(fVar 0)]) (fCall gLen [(fVar 1)]))
  (sRet [] (fC (.bool false)))
  sSkip)
  (sRet [] (fCall (on1 dAll) [(fComp [2, 3] (iZip (fVar 0) (fVar 1)) (gTp [2, 3]) fTrue (fCall self [(fVar 2), (fVar 3)]))]))))
  sSkip)
  (sRet [] (fAnd (fBin (onD dEq) (fVar 0) (fVar 1)) (fBin (onD dEq) (fUn (onD1 (dIsi "bool")) (fVar 0)) (fUn (onD1 (dIsi "bool")) (fVar 1))))))
def sem__law_same : Nat → Sem_
  | 0 => fun _ _ => .stuck
  | n + 1 => bodySem 4 (b__law_same (sem__law_same n))
def b_law : Fs := (sSeq (sFor [] (iRng1 (fCall (gMax2 fun i j => if j > i then j else i) [(fC (.int 1)), (fCall (gMax2 fun i j => if j < i then j else i) [(fCall gLen [(fVar 0)]), (fC (.int 8))])])) (sNm 1)
  (sCell 2 (fCall sem__law_state [(fVar 0), (fVar 1)])
  (sSeq (sSet 3 [2] (fCall sem__law_function [(fVar 2)]))
  (sSeq (sSet 4 [3] (fCall sem__law_switches [(fVar 3)]))
  (sSeq (sSet 5 [2, 4] (fCall (on1 dTup) [(fUn (onD1 dSortSet) (fComp [11] (iRng1 (fCall sem__law_take [(fVar 2), (fC (.int 5))])) (gNm 11) fTrue (fCall sem__law_term [(fVar 2), (fVar 4)])))]))
  (sSeq (sSet 6 [3] (fSm dJoin (fC (.str "")) (fComp [10] (iSeq (fVar 3)) (gNm 10) fTrue (fUn (onD1 (dAtK [(.int 0, .str "0"), (.int 1, .str "1"), (.none, .str "-")])) (fVar 10)))))
  (sSeq (sSet 7 [5] (fOrS (fSm dJoin (fC (.str " + ")) (fVar 5)) (fC (.str "none"))))
  (sSeq (sIf [3, 5, 6] (fOr (fBin (onD dNe) (fCall sem_function_text [(fVar 3)]) (fVar 6)) (fBin (onD dNe) (fCall sem_form_text [(fVar 5)]) (fVar 7)))
  (sRet [] (fC (.bool false)))
  sSkip)
  (sSeq (sIf [3, 4, 5, 6] (fOr (fNot (fCall (sem__law_same 4) [(fCall sem_read_function [(fVar 6)]), (fVar 3)])) (fNot (fCall (sem__law_same 4) [(fCall sem_read_form [(fVar 4), (fVar 7)]), (fVar 5)])))
  (sRet [] (fC (.bool false)))
  sSkip)
  (sSeq (sSet 8 [2] (fBin dIx (fLst [(fC .none), (fC (.int 0)), (fTup []), (fTup [(fC (.int 0))]), (fTup [(fC (.int 0)), (fC (.int 2))]), (fLst [(fC (.int 0)), (fC (.int 1))]), (fTup [(fC (.int 0)), (fC (.bool true))]), (fC (.str "01"))]) (fCall sem__law_take [(fVar 2), (fC (.int 8))])))
  (sSeq (sSet 9 [2] (fBin dIx (fLst [(fC (.int 0)), (fC (.int 5)), (fUn (onD1 dNeg) (fC (.int 1))), (fC (.bool true)), (fC .none), (fC (.str "2")), (fTup [(fC (.int 1))])]) (fCall sem__law_take [(fVar 2), (fC (.int 7))])))
  (sSeq (sIf [] (fBin (onD dNe) (fRef ["NoFunction", "NoTerm", "NoPoint", "NoNumber", "NoForm", "NoChange", "NoText", "NoLine", "NoDeed"] (fCall sem_function_text [(fVar 8)])) (fLst [(fC (.int 0))]))
  (sRet [] (fC (.bool false)))
  sSkip)
  (sIf [] (fBin (onD dNe) (fRef ["NoFunction", "NoTerm", "NoPoint", "NoNumber", "NoForm", "NoChange", "NoText", "NoLine", "NoDeed"] (fCall sem_read_form [(fVar 9), (fC (.int 0))])) (fLst [(fC (.int 3))]))
  (sRet [] (fC (.bool false)))
  sSkip)))))))))))))
  (sRet [] (fAnd (fBin (onD dEq) (fCall sem_form_text [(fTup [])]) (fC (.str "none"))) (fBin (onD dEq) (fCall sem_read_form [(fC (.int 4)), (fC (.str "none"))]) (fTup [])))))
def sem_law : Sem_ := bodySem 12 b_law
theorem ok_is_whole (T : Tops w K mg) : OkAt P w K mg base 1 "is_whole" ["thing"] sem_is_whole := ok_of T.d_is_whole sc_is_whole (by decide) fun f cdv A outer s H E hr => by
  exact (vss_one (vs_ret [] (ve_and (ve_isi (T := "int") rfl T.z_isinstance (ve_var 0) rfl T.z_int (by decide +kernel)) (ve_one (ve_not (ve_isi (T := "bool") rfl T.z_isinstance (ve_var 0) rfl T.z_bool (by decide +kernel)))))))
theorem ok_is_answer (T : Tops w K mg) : OkAt P w K mg base 2 "is_answer" ["thing"] sem_is_answer := ok_of T.d_is_answer sc_is_answer (by decide) fun f cdv A outer s H E hr => by
  exact (vss_one (vs_ret [] (ve_or (ve_cv cv_isN (ve_var 0) ve_non) (ve_one (ve_and (ve_callO hr (takes_of rfl rfl rfl rfl) (ok_is_whole T) (va_cons (ve_var 0) va_nil)) (ve_one (ve_cv (cv_in hr) (ve_var 0) (ve_tup (va_cons ve_int (va_cons ve_int va_nil))))))))))
theorem ok_is_function (T : Tops w K mg) : OkAt P w K mg base 3 "is_function" ["thing"] sem_is_function := ok_of T.d_is_function sc_is_function (by decide) fun f cdv A outer s H E hr => by
  exact (vss_one (vs_ret [] (ve_and (ve_isi (T := "tuple") rfl T.z_isinstance (ve_var 0) rfl T.z_tuple (by decide +kernel)) (ve_and (ve_inKI T.m_SIZES (ve_len rfl T.z_len (ve_var 0))) (ve_one (ve_all rfl rfl T.z_all (ve_comp (own := [("one", 1)]) rfl sc_is_function.nd (vi_seq (ve_var 0)) (blkOk_by (by kernel_rfl)) (fun _ _ _ _ _ => (vg_name 1 sc_is_function.nd)) (fun _ _ _ _ _ => vts_nil) (fun _ _ _ _ _ => (ve_callO hr takes0 (ok_is_answer T) (va_cons (ve_var 1) va_nil))))))))))
theorem ok_need_function (T : Tops w K mg) : OkAt P w K mg base 4 "need_function" ["thing"] sem_need_function := ok_of T.d_need_function sc_need_function (by decide) fun f cdv A outer s H E hr => by
  exact (vss_one (vs_if [] (vt_not (vt_val (ve_callO hr (takes_of rfl rfl rfl rfl) (ok_is_function T) (va_cons (ve_var 0) va_nil))))
  (vss_one (vs_raiseO (takes_of rfl rfl rfl rfl) T.e_NoFunction))
  vss_nil))
theorem ok_need_number (T : Tops w K mg) : OkAt P w K mg base 2 "need_number" ["n", "most"] sem_need_number := ok_of T.d_need_number sc_need_number (by decide) fun f cdv A outer s H E hr => by
  exact (vss_one (vs_if [] (PW.pt (vw_or (vt_not (vt_val (ve_callO hr (takes_of rfl rfl rfl rfl) (ok_is_whole T) (va_cons (ve_var 0) va_nil)))) (vw_or1 (vt_not (vt_chain cv_le cv_le ve_int (ve_var 0) (ve_var 1))))))
  (vss_one (vs_raiseO (takes_of rfl rfl rfl rfl) T.e_NoNumber))
  vss_nil))
theorem ok_term_good (T : Tops w K mg) : OkAt P w K mg base 1 "term_good" ["n", "thing"] sem_term_good := ok_of T.d_term_good sc_term_good (by decide) fun f cdv A outer s H E hr => by
  exact (vss_one (vs_ret [] (ve_and (ve_isi (T := "str") rfl T.z_isinstance (ve_var 1) rfl T.z_str (by decide +kernel)) (ve_and (ve_cv (cv_eq hr) (ve_len rfl T.z_len (ve_var 1)) (ve_var 0)) (ve_one (ve_all rfl rfl T.z_all (ve_comp (own := [("sign", 2)]) rfl sc_term_good.nd (vi_seq (ve_var 1)) (blkOk_by (by kernel_rfl)) (fun _ _ _ _ _ => (vg_name 2 sc_term_good.nd)) (fun _ _ _ _ _ => vts_nil) (fun _ _ _ _ _ => (ve_cv (cv_in hr) (ve_var 2) (ve_cstr T.c_SIGNS.choose_spec))))))))))
theorem ok_shown (T : Tops w K mg) : OkAt P w K mg base 1 "shown" ["function"] sem_shown := ok_of T.d_shown sc_shown (by decide) fun f cdv A outer s H E hr => by
  exact (vss_one (vs_ret [] (ve_join ve_str (ve_comp (own := [("answer", 1)]) rfl sc_shown.nd (vi_seq (ve_var 0)) (blkOk_by (by kernel_rfl)) (fun _ _ _ _ _ => (vg_name 1 sc_shown.nd)) (fun _ _ _ _ _ => vts_nil) (fun _ _ _ _ _ => (ve_atK T.m_SIGN (ve_var 1)))))))
theorem ok_function_text (T : Tops w K mg) : OkAt P w K mg base 5 "function_text" ["function"] sem_function_text := ok_of T.d_function_text sc_function_text (by decide) fun f cdv A outer s H E hr => by
  exact (vss_cons (vs_exp [] (ve_callO hr (takes_of rfl rfl rfl rfl) (ok_need_function T) (va_cons (ve_var 0) va_nil)))
  (vss_one (vs_ret [] (ve_callO hr (takes_of rfl rfl rfl rfl) (ok_shown T) (va_cons (ve_var 0) va_nil)))))
theorem ok_form_text (T : Tops w K mg) : OkAt P w K mg base 1 "form_text" ["form"] sem_form_text := ok_of T.d_form_text sc_form_text (by decide) fun f cdv A outer s H E hr => by
  exact (vss_one (vs_ret [] (ve_orS (ve_join (ve_cstr T.c_BETWEEN.choose_spec) (ve_var 0)) (ve_one (ve_cstr T.c_NONE.choose_spec)))))
theorem ok_read_function (T : Tops w K mg) : OkAt P w K mg base 1 "read_function" ["text"] sem_read_function := ok_of T.d_read_function sc_read_function (by decide) fun f cdv A outer s H E hr => by
  exact (vss_cons (vs_if [] (PW.pt (vw_or (vt_not (vt_val (ve_isi (T := "str") rfl T.z_isinstance (ve_var 0) rfl T.z_str (by decide +kernel)))) (vw_or (vt_notInKI T.m_SIZES (ve_len rfl T.z_len (ve_var 0))) (vw_or1 (vt_not (vt_val (ve_all rfl rfl T.z_all (ve_comp (own := [("sign", 1)]) rfl sc_read_function.nd (vi_seq (ve_var 0)) (blkOk_by (by kernel_rfl)) (fun _ _ _ _ _ => (vg_name 1 sc_read_function.nd)) (fun _ _ _ _ _ => vts_nil) (fun _ _ _ _ _ => (ve_inK T.m_ANSWERS (ve_var 1)))))))))))
  (vss_one (vs_raiseO (takes_of rfl rfl rfl rfl) T.e_NoText))
  vss_nil)
  (vss_one (vs_ret [] (ve_tuple rfl T.z_tuple (ve_comp (own := [("sign", 1)]) rfl sc_read_function.nd (vi_seq (ve_var 0)) (blkOk_by (by kernel_rfl)) (fun _ _ _ _ _ => (vg_name 1 sc_read_function.nd)) (fun _ _ _ _ _ => vts_nil) (fun _ _ _ _ _ => (ve_atK T.m_ANSWERS (ve_var 1))))))))
theorem ok_read_form (T : Tops w K mg) : OkAt P w K mg base 3 "read_form" ["n", "text"] sem_read_form := ok_of T.d_read_form sc_read_form (by decide) fun f cdv A outer s H E hr => by
  exact (vss_cons (vs_exp [] (ve_callO hr (takes_of rfl rfl rfl rfl) (ok_need_number T) (va_cons (ve_var 0) (va_cons (ve_cint T.c_MOST.choose_spec) va_nil))))
  (vss_cons (vs_if [] (vt_not (vt_val (ve_isi (T := "str") rfl T.z_isinstance (ve_var 1) rfl T.z_str (by decide +kernel))))
  (vss_one (vs_raiseO (takes_of rfl rfl rfl rfl) T.e_NoText))
  vss_nil)
  (vss_cons (vs_if [] (vt_cv (cv_eq hr) (ve_var 1) (ve_cstr T.c_NONE.choose_spec))
  (vss_one (vs_ret [] (ve_tup va_nil)))
  vss_nil)
  (vss_cons (vs_set 2 [] sc_read_form.nd (ve_tuple rfl T.z_tuple (ve_split (ve_var 1) (ve_cstr T.c_BETWEEN.choose_spec))))
  (vss_cons (vs_if [2] (vt_not (vt_val (ve_all rfl rfl T.z_all (ve_comp (own := [("term", 3)]) rfl sc_read_form.nd (vi_seq (ve_var 2)) (blkOk_by (by kernel_rfl)) (fun _ _ _ _ _ => (vg_name 3 sc_read_form.nd)) (fun _ _ _ _ _ => vts_nil) (fun _ _ _ _ _ => (ve_callO hr takes0 (ok_term_good T) (va_cons (ve_var 0) (va_cons (ve_var 3) va_nil))))))))
  (vss_one (vs_raiseO (takes_of rfl rfl rfl rfl) T.e_NoText))
  vss_nil)
  (vss_cons (vs_if [2] (vt_not (vt_val (ve_all rfl rfl T.z_all (ve_comp (own := [("one", 4), ("other", 5)]) rfl sc_read_form.nd (vi_zip rfl T.z_zip (ve_var 2) (ve_sl (ve_var 2) (vo_some ve_int) vo_none)) (blkOk_by (by kernel_rfl)) (fun _ _ _ _ _ => (vg_tup rfl (gns_cons 4 sc_read_form.nd (gns_cons 5 sc_read_form.nd gns_nil)))) (fun _ _ _ _ _ => vts_nil) (fun _ _ _ _ _ => (ve_cv cv_lt (ve_var 4) (ve_var 5)))))))
  (vss_one (vs_raiseO (takes_of rfl rfl rfl rfl) T.e_NoText))
  vss_nil)
  (vss_one (vs_retV 2))))))))
theorem ok__law_cell_at (T : Tops w K mg) : OkAt P w K mg base 1 "_law_cell_at" ["_law_script", "_law_k"] sem__law_cell_at := ok_of T.d__law_cell_at sc__law_cell_at (by decide) fun f cdv A outer s H E hr => by
  exact (vss_cons (vs_if [] (vt_cv cv_lt (ve_var 1) (ve_len rfl T.z_len (ve_var 0)))
  (vss_one (vs_ret [] (ve_at (ve_var 0) (ve_var 1))))
  vss_nil)
  (vss_one (vs_ret [] ve_int)))
theorem ok__law_state (T : Tops w K mg) : OkAt P w K mg base 2 "_law_state" ["_law_script", "_law_k"] sem__law_state := ok_of T.d__law_state sc__law_state (by decide) fun f cdv A outer s H E hr => by
  exact (vss_cons (vs_set 2 [] sc__law_state.nd (ve_callO hr (takes_of rfl rfl rfl rfl) (ok__law_cell_at T) (va_cons (ve_var 0) (va_cons (ve_var 1) va_nil))))
  (vss_cons (vs_if [2] (vt_cv cv_ge (ve_var 2) (ve_pow ve_int ve_int))
  (vss_one (vs_ret [2] (ve_lst (va_cons (ve_sub (ve_var 2) (ve_pow ve_int ve_int)) (va_cons ve_bl va_nil)))))
  vss_nil)
  (vss_one (vs_ret [2] (ve_lst (va_cons (ve_mod (ve_var 2) ve_int) (va_cons ve_bl va_nil)))))))
theorem ok__law_take (T : Tops w K mg) : OkAt P w K mg base 1 "_law_take" ["_law_state_here", "_law_many"] sem__law_take := ok_of T.d__law_take sc__law_take (by decide) fun f cdv A outer s H E hr => by
  exact (vss_cons (vs_if [] (vt_val (ve_at (ve_var 0) ve_int))
  (vss_cons (vs_set 3 [] sc__law_take.nd (ve_mod (ve_at (ve_var 0) ve_int) (ve_var 1)))
  (vss_cons (vs_setIx 0 [] (ve_div (ve_at (ve_var 0) ve_int) (ve_var 1)) ve_int)
  (vss_one (vs_retV 3))))
  vss_nil)
  (vss_cons (vs_setIx 0 [] (ve_mod (ve_add (ve_mul (ve_at (ve_var 0) ve_int) ve_int) ve_int) ve_int) ve_int)
  (vss_cons (vs_set 2 [] sc__law_take.nd (ve_mod (ve_add (ve_add (ve_mul (ve_at (ve_var 0) ve_int) (ve_at (ve_var 0) ve_int)) (ve_mul ve_int (ve_at (ve_var 0) ve_int))) ve_int) ve_int))
  (vss_cons (vs_set 2 [2] sc__law_take.nd (ve_mod (ve_add (ve_mul (ve_var 2) (ve_var 2)) (ve_mul ve_int (ve_var 2))) ve_int))
  (vss_one (vs_ret [2] (ve_mod (ve_div (ve_var 2) ve_int) (ve_var 1))))))))
theorem ok__law_term (T : Tops w K mg) : OkAt P w K mg base 2 "_law_term" ["_law_state_here", "_law_n"] sem__law_term := ok_of T.d__law_term sc__law_term (by decide) fun f cdv A outer s H E hr => by
  exact (vss_one (vs_ret [] (ve_join ve_str (ve_comp (own := [("_law_k", 2)]) rfl sc__law_term.nd (vi_rng1 rfl T.z_range (ve_var 1)) (blkOk_by (by kernel_rfl)) (fun _ _ _ _ _ => (vg_name 2 sc__law_term.nd)) (fun _ _ _ _ _ => vts_nil) (fun _ _ _ _ _ => (ve_at ve_str (ve_callO hr takes0 (ok__law_take T) (va_cons (ve_var 0) (va_cons ve_int va_nil)))))))))
theorem ok__law_bits (T : Tops w K mg) : OkAt P w K mg base 1 "_law_bits" ["_law_n", "_law_point"] sem__law_bits := ok_of T.d__law_bits sc__law_bits (by decide) fun f cdv A outer s H E hr => by
  exact (vss_cons (vs_set 2 [] sc__law_bits.nd ve_str)
  (vss_cons (vs_for [] (passes_of rfl) rfl (vi_rng1 rfl T.z_range (ve_var 0)) (vgs_name 3 sc__law_bits.nd)
  (vss_cons (vs_set 2 [1, 2] sc__law_bits.nd (ve_add (ve_str1 rfl T.z_str (ve_mod (ve_var 1) ve_int)) (ve_var 2)))
  (vss_one (vs_set 1 [1] sc__law_bits.nd (ve_div (ve_var 1) ve_int)))))
  (vss_one (vs_retV 2))))
theorem ok__law_points (T : Tops w K mg) : OkAt P w K mg base 2 "_law_points" ["_law_term_here"] sem__law_points := ok_of T.d__law_points sc__law_points (by decide) fun f cdv A outer s H E hr => by
  exact (vss_cons (vs_set 1 [] sc__law_points.nd (ve_lst va_nil))
  (vss_cons (vs_for [] (passes_of rfl) rfl (vi_rng1 rfl T.z_range (ve_shl ve_int (ve_len rfl T.z_len (ve_var 0)))) (vgs_name 2 sc__law_points.nd)
  (vss_cons (vs_set 3 [] sc__law_points.nd (ve_callO hr (takes_of rfl rfl rfl rfl) (ok__law_bits T) (va_cons (ve_len rfl T.z_len (ve_var 0)) (va_cons (ve_var 2) va_nil))))
  (vss_one (vs_if [3] (vt_cv (cv_eq hr) (ve_comp (own := [("_law_k", 4)]) rfl sc__law_points.nd (vi_rng1 rfl T.z_range (ve_len rfl T.z_len (ve_var 0))) (blkOk_by (by kernel_rfl)) (fun _ _ _ _ _ => (vg_name 4 sc__law_points.nd)) (fun _ _ _ _ _ => (vts_one (vt_cv (cv_notIn hr) (ve_at (ve_var 0) (ve_var 4)) (ve_tup (va_cons ve_str (va_cons (ve_at (ve_var 3) (ve_var 4)) va_nil)))))) (fun _ _ _ _ _ => (ve_var 4))) (ve_lst va_nil))
  (vss_one (vs_app 1 [] (ve_var 2)))
  vss_nil))))
  (vss_one (vs_retV 1))))
theorem ok__law_function (T : Tops w K mg) : OkAt P w K mg base 3 "_law_function" ["_law_state_here"] sem__law_function := ok_of T.d__law_function sc__law_function (by decide) fun f cdv A outer s H E hr => by
  exact (vss_cons (vs_set 1 [] sc__law_function.nd (ve_at (ve_lst (va_cons ve_int (va_cons ve_int (va_cons ve_int (va_cons ve_int (va_cons ve_int (va_cons ve_int (va_cons ve_int (va_cons ve_int va_nil))))))))) (ve_callO hr (takes_of rfl rfl rfl rfl) (ok__law_take T) (va_cons (ve_var 0) (va_cons ve_int va_nil)))))
  (vss_cons (vs_set 2 [] sc__law_function.nd (ve_callO hr (takes_of rfl rfl rfl rfl) (ok__law_take T) (va_cons (ve_var 0) (va_cons ve_int va_nil))))
  (vss_cons (vs_if [2] (vt_cv cv_lt (ve_var 2) ve_int)
  (vss_cons (vs_set 6 [2] sc__law_function.nd (ve_at (ve_lst (va_cons (ve_lst (va_cons ve_int (va_cons ve_int va_nil))) (va_cons (ve_lst (va_cons ve_int (va_cons ve_int (va_cons ve_non va_nil)))) (va_cons (ve_lst (va_cons ve_int (va_cons ve_int (va_cons ve_int (va_cons ve_int (va_cons ve_non va_nil)))))) (va_cons (ve_lst (va_cons ve_int (va_cons ve_int (va_cons ve_int (va_cons ve_int (va_cons ve_non va_nil)))))) va_nil))))) (ve_var 2)))
  (vss_one (vs_ret [] (ve_tuple rfl T.z_tuple (ve_comp (own := [("_law_point", 7)]) rfl sc__law_function.nd (vi_rng1 rfl T.z_range (ve_shl ve_int (ve_var 1))) (blkOk_by (by kernel_rfl)) (fun _ _ _ _ _ => (vg_name 7 sc__law_function.nd)) (fun _ _ _ _ _ => vts_nil) (fun _ _ _ _ _ => (ve_at (ve_var 6) (ve_callO hr takes0 (ok__law_take T) (va_cons (ve_var 0) (va_cons (ve_len rfl T.z_len (ve_var 6)) va_nil))))))))))
  vss_nil)
  (vss_cons (vs_set 3 [] sc__law_function.nd (ve_lst va_nil))
  (vss_cons (vs_for [] (passes_of rfl) rfl (vi_rng1 rfl T.z_range (ve_add ve_int (ve_callO hr (takes_of rfl rfl rfl rfl) (ok__law_take T) (va_cons (ve_var 0) (va_cons ve_int va_nil))))) (vgs_name 4 sc__law_function.nd)
  (vss_one (vs_set 3 [3] sc__law_function.nd (ve_add (ve_var 3) (ve_callO hr (takes_of rfl rfl rfl rfl) (ok__law_points T) (va_cons (ve_callO hr (takes_of rfl rfl rfl rfl) (ok__law_term T) (va_cons (ve_var 0) (va_cons (ve_var 1) va_nil))) va_nil))))))
  (vss_cons (vs_setc 5 [3] sc__law_function.nd (own := [("_law_point", 7)]) (vi_rng1 rfl T.z_range (ve_shl ve_int (ve_var 1))) (blkOk_by (by kernel_rfl)) (fun _ _ _ _ _ => (vg_name 7 sc__law_function.nd)) (fun _ _ _ _ _ => vts_nil) (fun _ _ _ _ _ => (ve_int1 rfl T.z_int (ve_cv (cv_in hr) (ve_var 7) (ve_var 3)))))
  (vss_cons (vs_if [2] (vt_cv (cv_eq hr) (ve_var 2) ve_int)
  (vss_one (vs_setIx 5 [] ve_non (ve_callO hr (takes_of rfl rfl rfl rfl) (ok__law_take T) (va_cons (ve_var 0) (va_cons (ve_shl ve_int (ve_var 1)) va_nil)))))
  vss_nil)
  (vss_one (vs_ret [5] (ve_tuple rfl T.z_tuple (ve_var 5)))))))))))
theorem ok__law_switches (T : Tops w K mg) : OkAt P w K mg base 1 "_law_switches" ["_law_function_here"] sem__law_switches := ok_of T.d__law_switches sc__law_switches (by decide) fun f cdv A outer s H E hr => by
  exact (vss_one (vs_ret [] (ve_disp (kvs := [(2, 1), (4, 2), (8, 3), (16, 4)]) hr (pps_int (pps_int (pps_int (pps_int pps_nil)))) (ve_len rfl T.z_len (ve_var 0)) (hv := kv_sizes))))
theorem ok__law_same (T : Tops w K mg) : ∀ n : Nat, OkAt P w K mg base (0 + n) "_law_same" ["_law_found", "_law_due"] (sem__law_same n)
  | 0 => .never T.d__law_same
  | n + 1 => by
    have G := ok__law_same T n
    exact ok_of T.d__law_same sc__law_same (by decide) fun f cdv A outer s H E hr => (vss_cons (vs_if [] (vt_val (ve_isi2 (T := "tuple") (T' := "list") rfl T.z_isinstance (ve_var 1) rfl T.z_tuple (by decide +kernel) rfl T.z_list (by decide +kernel)))
  (vss_cons (vs_if [] (PW.pt (vw_or (vt_cv (cv_ne hr) (ve_isi (T := "tuple") rfl T.z_isinstance (ve_var 0) rfl T.z_tuple (by decide +kernel)) (ve_isi (T := "tuple") rfl T.z_isinstance (ve_var 1) rfl T.z_tuple (by decide +kernel))) (vw_or1 (vt_cv (cv_ne hr) (ve_isi (T := "list") rfl T.z_isinstance (ve_var 0) rfl T.z_list (by decide +kernel)) (ve_isi (T := "list") rfl T.z_isinstance (ve_var 1) rfl T.z_list (by decide +kernel))))))
  (vss_one (vs_ret [] ve_bl))
  vss_nil)
  (vss_cons (vs_if [] (vt_cv (cv_ne hr) (ve_len rfl T.z_len (ve_var 0)) (ve_len rfl T.z_len (ve_var 1)))
  (vss_one (vs_ret [] ve_bl))
  vss_nil)
  (vss_one (vs_ret [] (ve_all rfl rfl T.z_all (ve_comp (own := [("_law_one", 2), ("_law_other", 3)]) rfl sc__law_same.nd (vi_zip rfl T.z_zip (ve_var 0) (ve_var 1)) (blkOk_by (by kernel_rfl)) (fun _ _ _ _ _ => (vg_tup rfl (gns_cons 2 sc__law_same.nd (gns_cons 3 sc__law_same.nd gns_nil)))) (fun _ _ _ _ _ => vts_nil) (fun _ _ _ _ _ => (ve_callO hr takes0 G (va_cons (ve_var 2) (va_cons (ve_var 3) va_nil))))))))))
  vss_nil)
  (vss_one (vs_ret [] (ve_and (ve_cv (cv_eq hr) (ve_var 0) (ve_var 1)) (ve_one (ve_cv (cv_eq hr) (ve_isi (T := "bool") rfl T.z_isinstance (ve_var 0) rfl T.z_bool (by decide +kernel)) (ve_isi (T := "bool") rfl T.z_isinstance (ve_var 1) rfl T.z_bool (by decide +kernel))))))))
theorem ok__law_refused {X : Cx} (T : Tops X.w X.K X.mg) (g : Addr) (cdg : Value) (q : Str) : LamX.GivesTo X ["_law_call", "_law_error", "e", "_law_marks", "_law_k"] "_law_refused" (defScope s__law_refused) g cdg (defBody s__law_refused) "_law_call" q (TTR X.K X.mg ["NoFunction", "NoTerm", "NoPoint", "NoNumber", "NoForm", "NoChange", "NoText", "NoLine", "NoDeed"]) := by
  obtain ⟨c0, c1, c2, c3, c4, c5, c6, c7, c8, CT, ⟨m0, m1, m2, m3, m4, m5, m6, m7, m8⟩, mT, ho, nd⟩ := T.ref.ex
  have hD : ∀ C ∈ [c0, c1, c2, c3, c4, c5, c6, c7, c8], ExcC X.K C := fun C h => ((refOk_at ho).1 C h).1
  refine ref_gives (ie := 1) (ix := 2) (CT := CT) (gr := grR X.K c0 c1 c2 c3 c4 c5 c6 c7 c8) sc__law_refused.nd rfl rfl (by decide) (by decide) (by decide) rfl rfl rfl mT (by decide) (by decide) (by decide) rfl (ref_ords ⟨m0, m1, m2, m3, m4, m5, m6, m7, m8⟩ ho) (fun s H => ?rest)
    (fun S fl => grR_non ho S fl) (fun S n k C fl hk hm => grR_err ho nd S fl k (ref_k ⟨m0, m1, m2, m3, m4, m5, m6, m7, m8⟩ hk hm))
  case rest => exact (vss_cons (vs_set 3 [] sc__law_refused.nd (ve_lst (hl := by simp) (va_cons (ve_isC hD T.z_isinstance m0 (ve_var 1)) (va_cons (ve_isC hD T.z_isinstance m1 (ve_var 1)) (va_cons (ve_isC hD T.z_isinstance m2 (ve_var 1)) va_nil)))))
    (vss_cons (vs_set 3 [3] sc__law_refused.nd (ve_add (ve_var 3) (ve_lst (hl := by simp) (va_cons (ve_isC hD T.z_isinstance m3 (ve_var 1)) (va_cons (ve_isC hD T.z_isinstance m4 (ve_var 1)) (va_cons (ve_isC hD T.z_isinstance m5 (ve_var 1)) va_nil))))))
    (vss_cons (vs_set 3 [3] sc__law_refused.nd (ve_add (ve_var 3) (ve_lst (hl := by simp) (va_cons (ve_isC hD T.z_isinstance m6 (ve_var 1)) (va_cons (ve_isC hD T.z_isinstance m7 (ve_var 1)) (va_cons (ve_isC hD T.z_isinstance m8 (ve_var 1)) va_nil))))))
    (vss_cons (vs_if [] (vt_not (vt_val (ve_isV (T := "ValueError") hD T.z_isinstance T.z_ValueError (ve_var 1)))) (vss_one (vs_ret [] ve_non)) vss_nil)
    (vss_one (vs_ret [3] (ve_comp (own := [("_law_k", 4)]) rfl sc__law_refused.nd (vi_rng1 rfl T.z_range ve_int) (blkOk_by (by kernel_rfl)) (fun _ _ _ _ _ => (vg_name 4 sc__law_refused.nd)) (fun _ _ _ _ _ => (vts_one (vt_val (ve_at (ve_var 3) (ve_var 4))))) (fun _ _ _ _ _ => (ve_var 4)))))))))

theorem ok_law {f c PT : Addr} {oc : Value} {od an : Option Addr} {dV kV doc pm ct : Value} {osl : Array (Option Value)} (T : Tops w K mg) (TB : LamX.TabB base mg c PT) (hTab : tabsK K = [(PT, (("law" : Str) ++ ".<locals>.") ++ "<lambda>")]) (lk : K.lookup f = some ⟨oc, od, .func (PySem.W.fnOf "law" "law" (defArgs s_law) (defBody s_law) (defScope s_law) dV kV doc pm an (.ref c) ct), osl⟩) (hcd : PySem.W.codeIn K (.ref c) "law" = true) : FnOk P w K mg base (L2.CX P w) 8 f (PySem.W.fnOf "law" "law" (defArgs s_law) (defBody s_law) (defScope s_law) dV kV doc pm an (.ref c) ct) ["_law_script"] (spD K mg 1 sem_law) := def_okC lk hcd sc_law (by decide) fun A outer s H E hr => by
  exact (vss_cons (vs_for [] (passes_of rfl) rfl (vi_rng1 rfl T.z_range (ve_max2 rfl rfl T.z_max ve_int (ve_min2 rfl rfl T.z_min (ve_len rfl T.z_len (ve_var 0)) ve_int))) (vgs_name 1 sc_law.nd)
  (vss_cell 2 sc_law.nd (ve_callO hr (takes_of rfl rfl rfl rfl) (ok__law_state T) (va_cons (ve_var 0) (va_cons (ve_var 1) va_nil)))
  (vss_cons (vs_set 3 [2] sc_law.nd (ve_callO hr (takes_of rfl rfl rfl rfl) (ok__law_function T) (va_cons (ve_var 2) va_nil)))
  (vss_cons (vs_set 4 [3] sc_law.nd (ve_callO hr (takes_of rfl rfl rfl rfl) (ok__law_switches T) (va_cons (ve_var 3) va_nil)))
  (vss_cons (vs_set 5 [2, 4] sc_law.nd (ve_tuple rfl T.z_tuple (ve_sortSet hr T.z_sorted T.z_set (ve_comp (own := [("_law_turn", 11)]) rfl sc_law.nd (vi_rng1 rfl T.z_range (ve_callO hr (takes_of rfl rfl rfl rfl) (ok__law_take T) (va_cons (ve_var 2) (va_cons ve_int va_nil)))) (blkOk_by (by kernel_rfl)) (fun _ _ _ _ _ => (vg_name 11 sc_law.nd)) (fun _ _ _ _ _ => vts_nil) (fun _ _ _ _ _ => (ve_callO hr takes0 (ok__law_term T) (va_cons (ve_var 2) (va_cons (ve_var 4) va_nil))))))))
  (vss_cons (vs_set 6 [3] sc_law.nd (ve_join ve_str (ve_comp (own := [("_law_answer", 10)]) rfl sc_law.nd (vi_seq (ve_var 3)) (blkOk_by (by kernel_rfl)) (fun _ _ _ _ _ => (vg_name 10 sc_law.nd)) (fun _ _ _ _ _ => vts_nil) (fun _ _ _ _ _ => (ve_dispK (kvs := [(.int 0, .str "0"), (.int 1, .str "1"), (.none, .str "-")]) (ppsD_cons (k := .int 0) (v := .str "0") pe_int pe_str (ppsD_cons (k := .int 1) (v := .str "1") pe_int pe_str (ppsD_cons (k := .none) (v := .str "-") pe_non pe_str ppsD_nil))) (ve_var 10))))))
  (vss_cons (vs_set 7 [5] sc_law.nd (ve_orS (ve_join ve_str (ve_var 5)) (ve_one ve_str)))
  (vss_cons (vs_if [3, 5, 6] (PW.pt (vw_or (vt_cv (cv_ne hr) (ve_callO hr (takes_of rfl rfl rfl rfl) (ok_function_text T) (va_cons (ve_var 3) va_nil)) (ve_var 6)) (vw_or1 (vt_cv (cv_ne hr) (ve_callO hr (takes_of rfl rfl rfl rfl) (ok_form_text T) (va_cons (ve_var 5) va_nil)) (ve_var 7)))))
  (vss_one (vs_ret [] ve_bl))
  vss_nil)
  (vss_cons (vs_if [3, 4, 5, 6] (PW.pt (vw_or (vt_not (vt_val (ve_callO hr (takes_of rfl rfl rfl rfl) (ok__law_same T 4) (va_cons (ve_callO hr (takes_of rfl rfl rfl rfl) (ok_read_function T) (va_cons (ve_var 6) va_nil)) (va_cons (ve_var 3) va_nil))))) (vw_or1 (vt_not (vt_val (ve_callO hr (takes_of rfl rfl rfl rfl) (ok__law_same T 4) (va_cons (ve_callO hr (takes_of rfl rfl rfl rfl) (ok_read_form T) (va_cons (ve_var 4) (va_cons (ve_var 7) va_nil))) (va_cons (ve_var 5) va_nil))))))))
  (vss_one (vs_ret [] ve_bl))
  vss_nil)
  (vss_cons (vs_set 8 [2] sc_law.nd (ve_at (ve_lst (va_cons ve_non (va_cons ve_int (va_cons (ve_tup va_nil) (va_cons (ve_tup (va_cons ve_int va_nil)) (va_cons (ve_tup (va_cons ve_int (va_cons ve_int va_nil))) (va_cons (ve_lst (va_cons ve_int (va_cons ve_int va_nil))) (va_cons (ve_tup (va_cons ve_int (va_cons ve_bl va_nil))) (va_cons ve_str va_nil))))))))) (ve_callO hr (takes_of rfl rfl rfl rfl) (ok__law_take T) (va_cons (ve_var 2) (va_cons ve_int va_nil)))))
  (vss_cons (vs_set 9 [2] sc_law.nd (ve_at (ve_lst (va_cons ve_int (va_cons ve_int (va_cons (ve_neg ve_int) (va_cons ve_bl (va_cons ve_non (va_cons ve_str (va_cons (ve_tup (va_cons ve_int va_nil)) va_nil)))))))) (ve_callO hr (takes_of rfl rfl rfl rfl) (ok__law_take T) (va_cons (ve_var 2) (va_cons ve_int va_nil)))))
  (vss_cons (vs_if [] (vt_cv (cv_ne hr) (ve_ref (k := 5) (hr.mono (by omega)) T.d__law_refused sc__law_refused rfl (by first | exact Or.inl rfl | exact Or.inr (Or.inl rfl)) (fun g cdg => ok__law_refused T g cdg _) TB rfl hTab (LamX.lamS_by (by kernel_rfl)) (fun A outer s H E f1 c1 hr => (ve_callO hr (takes_of rfl rfl rfl rfl) (ok_function_text T) (va_cons (ve_var 8) va_nil)))) (ve_lst (va_cons ve_int va_nil)))
  (vss_one (vs_ret [] ve_bl))
  vss_nil)
  (vss_one (vs_if [] (vt_cv (cv_ne hr) (ve_ref (k := 5) (hr.mono (by omega)) T.d__law_refused sc__law_refused rfl (by first | exact Or.inl rfl | exact Or.inr (Or.inl rfl)) (fun g cdg => ok__law_refused T g cdg _) TB rfl hTab (LamX.lamS_by (by kernel_rfl)) (fun A outer s H E f1 c1 hr => (ve_callO hr (takes_of rfl rfl rfl rfl) (ok_read_form T) (va_cons (ve_var 9) (va_cons ve_int va_nil))))) (ve_lst (va_cons ve_int va_nil)))
  (vss_one (vs_ret [] ve_bl))
  vss_nil))))))))))))))
  (vss_one (vs_ret [] (ve_and (ve_cv (cv_eq hr) (ve_callO hr (takes_of rfl rfl rfl rfl) (ok_form_text T) (va_cons (ve_tup va_nil) va_nil)) ve_str) (ve_one (ve_cv (cv_eq hr) (ve_callO hr (takes_of rfl rfl rfl rfl) (ok_read_form T) (va_cons ve_int (va_cons ve_str va_nil))) (ve_tup va_nil)))))))
end
theorem tops_mk {w : World} {K : PySem.W.Frag} {h : Heap} {mg : Str → Option Value} (X : K.In h) (G : h.Ns mainGlobals mg)
    {f0 : Addr} {oc0 : Value} {od0 an0 : Option Addr} {osl0 : Array (Option Value)} {kV0 doc0 pm0 cdv0 ct0 : Value}
    {f1 : Addr} {oc1 : Value} {od1 an1 : Option Addr} {osl1 : Array (Option Value)} {kV1 doc1 pm1 cdv1 ct1 : Value}
    {f2 : Addr} {oc2 : Value} {od2 an2 : Option Addr} {osl2 : Array (Option Value)} {kV2 doc2 pm2 cdv2 ct2 : Value}
    {f3 : Addr} {oc3 : Value} {od3 an3 : Option Addr} {osl3 : Array (Option Value)} {kV3 doc3 pm3 cdv3 ct3 : Value}
    {f4 : Addr} {oc4 : Value} {od4 an4 : Option Addr} {osl4 : Array (Option Value)} {kV4 doc4 pm4 cdv4 ct4 : Value}
    {f5 : Addr} {oc5 : Value} {od5 an5 : Option Addr} {osl5 : Array (Option Value)} {kV5 doc5 pm5 cdv5 ct5 : Value}
    {f6 : Addr} {oc6 : Value} {od6 an6 : Option Addr} {osl6 : Array (Option Value)} {kV6 doc6 pm6 cdv6 ct6 : Value}
    {f7 : Addr} {oc7 : Value} {od7 an7 : Option Addr} {osl7 : Array (Option Value)} {kV7 doc7 pm7 cdv7 ct7 : Value}
    {f8 : Addr} {oc8 : Value} {od8 an8 : Option Addr} {osl8 : Array (Option Value)} {kV8 doc8 pm8 cdv8 ct8 : Value}
    {f9 : Addr} {oc9 : Value} {od9 an9 : Option Addr} {osl9 : Array (Option Value)} {kV9 doc9 pm9 cdv9 ct9 : Value}
    {f10 : Addr} {oc10 : Value} {od10 an10 : Option Addr} {osl10 : Array (Option Value)} {kV10 doc10 pm10 cdv10 ct10 : Value}
    {f11 : Addr} {oc11 : Value} {od11 an11 : Option Addr} {osl11 : Array (Option Value)} {kV11 doc11 pm11 cdv11 ct11 : Value}
    {f12 : Addr} {oc12 : Value} {od12 an12 : Option Addr} {osl12 : Array (Option Value)} {kV12 doc12 pm12 cdv12 ct12 : Value}
    {f13 : Addr} {oc13 : Value} {od13 an13 : Option Addr} {osl13 : Array (Option Value)} {kV13 doc13 pm13 cdv13 ct13 : Value}
    {f14 : Addr} {oc14 : Value} {od14 an14 : Option Addr} {osl14 : Array (Option Value)} {kV14 doc14 pm14 cdv14 ct14 : Value}
    {f15 : Addr} {oc15 : Value} {od15 an15 : Option Addr} {osl15 : Array (Option Value)} {kV15 doc15 pm15 cdv15 ct15 : Value}
    {f16 : Addr} {oc16 : Value} {od16 an16 : Option Addr} {osl16 : Array (Option Value)} {kV16 doc16 pm16 cdv16 ct16 : Value}
    {f17 : Addr} {oc17 : Value} {od17 an17 : Option Addr} {osl17 : Array (Option Value)} {kV17 doc17 pm17 cdv17 ct17 : Value}
    {f18 : Addr} {oc18 : Value} {od18 an18 : Option Addr} {osl18 : Array (Option Value)} {kV18 doc18 pm18 cdv18 ct18 : Value}
    {f19 : Addr} {oc19 : Value} {od19 an19 : Option Addr} {osl19 : Array (Option Value)} {kV19 doc19 pm19 cdv19 ct19 : Value}
    {f20 : Addr} {oc20 : Value} {od20 an20 : Option Addr} {osl20 : Array (Option Value)} {kV20 doc20 pm20 cdv20 ct20 : Value}
    {d_ANSWERS : Addr} {n_ANSWERS : Nat} {tk_ANSWERS_0 tv_ANSWERS_0 tk_ANSWERS_1 tv_ANSWERS_1 tk_ANSWERS_2 : Tok}
    {t_BETWEEN : Tok}
    {t_MOST : Tok}
    {t_NONE : Tok}
    {d_SIGN : Addr} {n_SIGN : Nat} {tk_SIGN_0 tv_SIGN_0 tk_SIGN_1 tv_SIGN_1 tv_SIGN_2 : Tok}
    {t_SIGNS : Tok}
    {d_SIZES : Addr} {n_SIZES : Nat} {t1 t2 t3 t4 u1 u2 u3 u4 : Tok}
    {C_NoFunction : Addr}
    {C_NoNumber : Addr}
    {C_NoText : Addr}
    {R0 R1 R2 R3 R4 R5 R6 R7 R8 RT : Addr}
    (a0 : PySem.W.nsIn K mainGlobals "is_whole" = some (some (.ref f0)))
    (l0 : K.lookup f0 = some ⟨oc0, od0, .func (PySem.W.fnOf "is_whole" "is_whole" (defArgs s_is_whole) (defBody s_is_whole) (defScope s_is_whole) .none kV0 doc0 pm0 an0 cdv0 ct0), osl0⟩)
    (c0 : PySem.W.codeIn K cdv0 "is_whole" = true)
    (k0 : PySem.W.keepIn K (.ref f0) = true)
    (a1 : PySem.W.nsIn K mainGlobals "is_answer" = some (some (.ref f1)))
    (l1 : K.lookup f1 = some ⟨oc1, od1, .func (PySem.W.fnOf "is_answer" "is_answer" (defArgs s_is_answer) (defBody s_is_answer) (defScope s_is_answer) .none kV1 doc1 pm1 an1 cdv1 ct1), osl1⟩)
    (c1 : PySem.W.codeIn K cdv1 "is_answer" = true)
    (k1 : PySem.W.keepIn K (.ref f1) = true)
    (a2 : PySem.W.nsIn K mainGlobals "is_function" = some (some (.ref f2)))
    (l2 : K.lookup f2 = some ⟨oc2, od2, .func (PySem.W.fnOf "is_function" "is_function" (defArgs s_is_function) (defBody s_is_function) (defScope s_is_function) .none kV2 doc2 pm2 an2 cdv2 ct2), osl2⟩)
    (c2 : PySem.W.codeIn K cdv2 "is_function" = true)
    (k2 : PySem.W.keepIn K (.ref f2) = true)
    (a3 : PySem.W.nsIn K mainGlobals "need_function" = some (some (.ref f3)))
    (l3 : K.lookup f3 = some ⟨oc3, od3, .func (PySem.W.fnOf "need_function" "need_function" (defArgs s_need_function) (defBody s_need_function) (defScope s_need_function) .none kV3 doc3 pm3 an3 cdv3 ct3), osl3⟩)
    (c3 : PySem.W.codeIn K cdv3 "need_function" = true)
    (k3 : PySem.W.keepIn K (.ref f3) = true)
    (a4 : PySem.W.nsIn K mainGlobals "need_number" = some (some (.ref f4)))
    (l4 : K.lookup f4 = some ⟨oc4, od4, .func (PySem.W.fnOf "need_number" "need_number" (defArgs s_need_number) (defBody s_need_number) (defScope s_need_number) .none kV4 doc4 pm4 an4 cdv4 ct4), osl4⟩)
    (c4 : PySem.W.codeIn K cdv4 "need_number" = true)
    (k4 : PySem.W.keepIn K (.ref f4) = true)
    (a5 : PySem.W.nsIn K mainGlobals "term_good" = some (some (.ref f5)))
    (l5 : K.lookup f5 = some ⟨oc5, od5, .func (PySem.W.fnOf "term_good" "term_good" (defArgs s_term_good) (defBody s_term_good) (defScope s_term_good) .none kV5 doc5 pm5 an5 cdv5 ct5), osl5⟩)
    (c5 : PySem.W.codeIn K cdv5 "term_good" = true)
    (k5 : PySem.W.keepIn K (.ref f5) = true)
    (a6 : PySem.W.nsIn K mainGlobals "shown" = some (some (.ref f6)))
    (l6 : K.lookup f6 = some ⟨oc6, od6, .func (PySem.W.fnOf "shown" "shown" (defArgs s_shown) (defBody s_shown) (defScope s_shown) .none kV6 doc6 pm6 an6 cdv6 ct6), osl6⟩)
    (c6 : PySem.W.codeIn K cdv6 "shown" = true)
    (k6 : PySem.W.keepIn K (.ref f6) = true)
    (a7 : PySem.W.nsIn K mainGlobals "function_text" = some (some (.ref f7)))
    (l7 : K.lookup f7 = some ⟨oc7, od7, .func (PySem.W.fnOf "function_text" "function_text" (defArgs s_function_text) (defBody s_function_text) (defScope s_function_text) .none kV7 doc7 pm7 an7 cdv7 ct7), osl7⟩)
    (c7 : PySem.W.codeIn K cdv7 "function_text" = true)
    (k7 : PySem.W.keepIn K (.ref f7) = true)
    (a8 : PySem.W.nsIn K mainGlobals "form_text" = some (some (.ref f8)))
    (l8 : K.lookup f8 = some ⟨oc8, od8, .func (PySem.W.fnOf "form_text" "form_text" (defArgs s_form_text) (defBody s_form_text) (defScope s_form_text) .none kV8 doc8 pm8 an8 cdv8 ct8), osl8⟩)
    (c8 : PySem.W.codeIn K cdv8 "form_text" = true)
    (k8 : PySem.W.keepIn K (.ref f8) = true)
    (a9 : PySem.W.nsIn K mainGlobals "read_function" = some (some (.ref f9)))
    (l9 : K.lookup f9 = some ⟨oc9, od9, .func (PySem.W.fnOf "read_function" "read_function" (defArgs s_read_function) (defBody s_read_function) (defScope s_read_function) .none kV9 doc9 pm9 an9 cdv9 ct9), osl9⟩)
    (c9 : PySem.W.codeIn K cdv9 "read_function" = true)
    (k9 : PySem.W.keepIn K (.ref f9) = true)
    (a10 : PySem.W.nsIn K mainGlobals "read_form" = some (some (.ref f10)))
    (l10 : K.lookup f10 = some ⟨oc10, od10, .func (PySem.W.fnOf "read_form" "read_form" (defArgs s_read_form) (defBody s_read_form) (defScope s_read_form) .none kV10 doc10 pm10 an10 cdv10 ct10), osl10⟩)
    (c10 : PySem.W.codeIn K cdv10 "read_form" = true)
    (k10 : PySem.W.keepIn K (.ref f10) = true)
    (a11 : PySem.W.nsIn K mainGlobals "_law_cell_at" = some (some (.ref f11)))
    (l11 : K.lookup f11 = some ⟨oc11, od11, .func (PySem.W.fnOf "_law_cell_at" "_law_cell_at" (defArgs s__law_cell_at) (defBody s__law_cell_at) (defScope s__law_cell_at) .none kV11 doc11 pm11 an11 cdv11 ct11), osl11⟩)
    (c11 : PySem.W.codeIn K cdv11 "_law_cell_at" = true)
    (k11 : PySem.W.keepIn K (.ref f11) = true)
    (a12 : PySem.W.nsIn K mainGlobals "_law_state" = some (some (.ref f12)))
    (l12 : K.lookup f12 = some ⟨oc12, od12, .func (PySem.W.fnOf "_law_state" "_law_state" (defArgs s__law_state) (defBody s__law_state) (defScope s__law_state) .none kV12 doc12 pm12 an12 cdv12 ct12), osl12⟩)
    (c12 : PySem.W.codeIn K cdv12 "_law_state" = true)
    (k12 : PySem.W.keepIn K (.ref f12) = true)
    (a13 : PySem.W.nsIn K mainGlobals "_law_take" = some (some (.ref f13)))
    (l13 : K.lookup f13 = some ⟨oc13, od13, .func (PySem.W.fnOf "_law_take" "_law_take" (defArgs s__law_take) (defBody s__law_take) (defScope s__law_take) .none kV13 doc13 pm13 an13 cdv13 ct13), osl13⟩)
    (c13 : PySem.W.codeIn K cdv13 "_law_take" = true)
    (k13 : PySem.W.keepIn K (.ref f13) = true)
    (a14 : PySem.W.nsIn K mainGlobals "_law_term" = some (some (.ref f14)))
    (l14 : K.lookup f14 = some ⟨oc14, od14, .func (PySem.W.fnOf "_law_term" "_law_term" (defArgs s__law_term) (defBody s__law_term) (defScope s__law_term) .none kV14 doc14 pm14 an14 cdv14 ct14), osl14⟩)
    (c14 : PySem.W.codeIn K cdv14 "_law_term" = true)
    (k14 : PySem.W.keepIn K (.ref f14) = true)
    (a15 : PySem.W.nsIn K mainGlobals "_law_bits" = some (some (.ref f15)))
    (l15 : K.lookup f15 = some ⟨oc15, od15, .func (PySem.W.fnOf "_law_bits" "_law_bits" (defArgs s__law_bits) (defBody s__law_bits) (defScope s__law_bits) .none kV15 doc15 pm15 an15 cdv15 ct15), osl15⟩)
    (c15 : PySem.W.codeIn K cdv15 "_law_bits" = true)
    (k15 : PySem.W.keepIn K (.ref f15) = true)
    (a16 : PySem.W.nsIn K mainGlobals "_law_points" = some (some (.ref f16)))
    (l16 : K.lookup f16 = some ⟨oc16, od16, .func (PySem.W.fnOf "_law_points" "_law_points" (defArgs s__law_points) (defBody s__law_points) (defScope s__law_points) .none kV16 doc16 pm16 an16 cdv16 ct16), osl16⟩)
    (c16 : PySem.W.codeIn K cdv16 "_law_points" = true)
    (k16 : PySem.W.keepIn K (.ref f16) = true)
    (a17 : PySem.W.nsIn K mainGlobals "_law_function" = some (some (.ref f17)))
    (l17 : K.lookup f17 = some ⟨oc17, od17, .func (PySem.W.fnOf "_law_function" "_law_function" (defArgs s__law_function) (defBody s__law_function) (defScope s__law_function) .none kV17 doc17 pm17 an17 cdv17 ct17), osl17⟩)
    (c17 : PySem.W.codeIn K cdv17 "_law_function" = true)
    (k17 : PySem.W.keepIn K (.ref f17) = true)
    (a18 : PySem.W.nsIn K mainGlobals "_law_switches" = some (some (.ref f18)))
    (l18 : K.lookup f18 = some ⟨oc18, od18, .func (PySem.W.fnOf "_law_switches" "_law_switches" (defArgs s__law_switches) (defBody s__law_switches) (defScope s__law_switches) .none kV18 doc18 pm18 an18 cdv18 ct18), osl18⟩)
    (c18 : PySem.W.codeIn K cdv18 "_law_switches" = true)
    (k18 : PySem.W.keepIn K (.ref f18) = true)
    (a19 : PySem.W.nsIn K mainGlobals "_law_same" = some (some (.ref f19)))
    (l19 : K.lookup f19 = some ⟨oc19, od19, .func (PySem.W.fnOf "_law_same" "_law_same" (defArgs s__law_same) (defBody s__law_same) (defScope s__law_same) .none kV19 doc19 pm19 an19 cdv19 ct19), osl19⟩)
    (c19 : PySem.W.codeIn K cdv19 "_law_same" = true)
    (k19 : PySem.W.keepIn K (.ref f19) = true)
    (a20 : PySem.W.nsIn K mainGlobals "_law_refused" = some (some (.ref f20)))
    (l20 : K.lookup f20 = some ⟨oc20, od20, .func (PySem.W.fnOf "_law_refused" "_law_refused" (defArgs s__law_refused) (defBody s__law_refused) (defScope s__law_refused) .none kV20 doc20 pm20 an20 cdv20 ct20), osl20⟩)
    (c20 : PySem.W.codeIn K cdv20 "_law_refused" = true)
    (k20 : PySem.W.keepIn K (.ref f20) = true)
    (z_ValueError : PySem.W.nsIn K mainGlobals "ValueError" = some none)
    (z_all : PySem.W.nsIn K mainGlobals "all" = some none)
    (z_bool : PySem.W.nsIn K mainGlobals "bool" = some none)
    (z_int : PySem.W.nsIn K mainGlobals "int" = some none)
    (z_isinstance : PySem.W.nsIn K mainGlobals "isinstance" = some none)
    (z_len : PySem.W.nsIn K mainGlobals "len" = some none)
    (z_list : PySem.W.nsIn K mainGlobals "list" = some none)
    (z_max : PySem.W.nsIn K mainGlobals "max" = some none)
    (z_min : PySem.W.nsIn K mainGlobals "min" = some none)
    (z_range : PySem.W.nsIn K mainGlobals "range" = some none)
    (z_set : PySem.W.nsIn K mainGlobals "set" = some none)
    (z_sorted : PySem.W.nsIn K mainGlobals "sorted" = some none)
    (z_str : PySem.W.nsIn K mainGlobals "str" = some none)
    (z_tuple : PySem.W.nsIn K mainGlobals "tuple" = some none)
    (z_zip : PySem.W.nsIn K mainGlobals "zip" = some none)
    (a_ANSWERS : PySem.W.nsIn K mainGlobals "ANSWERS" = some (some (.ref d_ANSWERS)))
    (l_ANSWERS : K.lookup d_ANSWERS = some ⟨.type "dict", none, .dict #[⟨PyData.keyHash w.params "0", .str "0" tk_ANSWERS_0, .int 0 tv_ANSWERS_0⟩, ⟨PyData.keyHash w.params "1", .str "1" tk_ANSWERS_1, .int 1 tv_ANSWERS_1⟩, ⟨PyData.keyHash w.params "-", .str "-" tk_ANSWERS_2, .none⟩] n_ANSWERS, #[]⟩)
    (s_ANSWERS : (d_ANSWERS == sysModules) = false)
    (a_BETWEEN : PySem.W.nsIn K mainGlobals "BETWEEN" = some (some (.str " + " t_BETWEEN)))
    (a_MOST : PySem.W.nsIn K mainGlobals "MOST" = some (some (.int 4 t_MOST)))
    (a_NONE : PySem.W.nsIn K mainGlobals "NONE" = some (some (.str "none" t_NONE)))
    (a_SIGN : PySem.W.nsIn K mainGlobals "SIGN" = some (some (.ref d_SIGN)))
    (l_SIGN : K.lookup d_SIGN = some ⟨.type "dict", none, .dict #[⟨0, .int 0 tk_SIGN_0, .str "0" tv_SIGN_0⟩, ⟨1, .int 1 tk_SIGN_1, .str "1" tv_SIGN_1⟩, ⟨4238894112, .none, .str "-" tv_SIGN_2⟩] n_SIGN, #[]⟩)
    (s_SIGN : (d_SIGN == sysModules) = false)
    (a_SIGNS : PySem.W.nsIn K mainGlobals "SIGNS" = some (some (.str "01-" t_SIGNS)))
    (a_SIZES : PySem.W.nsIn K mainGlobals "SIZES" = some (some (.ref d_SIZES)))
    (l_SIZES : K.lookup d_SIZES = some ⟨.type "dict", none, .dict #[⟨2, .int 2 t1, .int 1 u1⟩, ⟨4, .int 4 t2, .int 2 u2⟩, ⟨8, .int 8 t3, .int 3 u3⟩, ⟨16, .int 16 t4, .int 4 u4⟩] n_SIZES, #[]⟩)
    (s_SIZES : (d_SIZES == sysModules) = false)
    (xa_NoFunction : PySem.W.nsIn K mainGlobals "NoFunction" = some (some (.ref C_NoFunction)))
    (xq_NoFunction : PySem.W.excIn K C_NoFunction [.type "ValueError", .type "Exception", .type "BaseException", .type "object"] "ValueError.__new__" = true)
    (xk_NoFunction : PySem.W.keepIn K (.ref C_NoFunction) = true)
    (xb_NoFunction : PySem.W.subIn K (.ref C_NoFunction) (.type "BaseException") = some true)
    (xt_NoFunction : PySem.W.typeIn K (.ref C_NoFunction) = some (.type "type"))
    (xa_NoNumber : PySem.W.nsIn K mainGlobals "NoNumber" = some (some (.ref C_NoNumber)))
    (xq_NoNumber : PySem.W.excIn K C_NoNumber [.type "ValueError", .type "Exception", .type "BaseException", .type "object"] "ValueError.__new__" = true)
    (xk_NoNumber : PySem.W.keepIn K (.ref C_NoNumber) = true)
    (xb_NoNumber : PySem.W.subIn K (.ref C_NoNumber) (.type "BaseException") = some true)
    (xt_NoNumber : PySem.W.typeIn K (.ref C_NoNumber) = some (.type "type"))
    (xa_NoText : PySem.W.nsIn K mainGlobals "NoText" = some (some (.ref C_NoText)))
    (xq_NoText : PySem.W.excIn K C_NoText [.type "ValueError", .type "Exception", .type "BaseException", .type "object"] "ValueError.__new__" = true)
    (xk_NoText : PySem.W.keepIn K (.ref C_NoText) = true)
    (xb_NoText : PySem.W.subIn K (.ref C_NoText) (.type "BaseException") = some true)
    (xt_NoText : PySem.W.typeIn K (.ref C_NoText) = some (.type "type"))
    (ar0 : PySem.W.nsIn K mainGlobals "NoFunction" = some (some (.ref R0)))
    (ar1 : PySem.W.nsIn K mainGlobals "NoTerm" = some (some (.ref R1)))
    (ar2 : PySem.W.nsIn K mainGlobals "NoPoint" = some (some (.ref R2)))
    (ar3 : PySem.W.nsIn K mainGlobals "NoNumber" = some (some (.ref R3)))
    (ar4 : PySem.W.nsIn K mainGlobals "NoForm" = some (some (.ref R4)))
    (ar5 : PySem.W.nsIn K mainGlobals "NoChange" = some (some (.ref R5)))
    (ar6 : PySem.W.nsIn K mainGlobals "NoText" = some (some (.ref R6)))
    (ar7 : PySem.W.nsIn K mainGlobals "NoLine" = some (some (.ref R7)))
    (ar8 : PySem.W.nsIn K mainGlobals "NoDeed" = some (some (.ref R8)))
    (arT : PySem.W.nsIn K mainGlobals "TermError" = some (some (.ref RT)))
    (xq_ref : refOk K [R0, R1, R2, R3, R4, R5, R6, R7, R8] RT = true)
    (s_ref : [R0, R1, R2, R3, R4, R5, R6, R7, R8].Nodup)
    : Tops w K mg :=
  ⟨def_at (st := s_is_whole) X G a0 l0 c0 k0 fun _ _ _ _ _ _ us hl => match us, hl with | [_], _ => rfl,
   def_at (st := s_is_answer) X G a1 l1 c1 k1 fun _ _ _ _ _ _ us hl => match us, hl with | [_], _ => rfl,
   def_at (st := s_is_function) X G a2 l2 c2 k2 fun _ _ _ _ _ _ us hl => match us, hl with | [_], _ => rfl,
   def_at (st := s_need_function) X G a3 l3 c3 k3 fun _ _ _ _ _ _ us hl => match us, hl with | [_], _ => rfl,
   def_at (st := s_need_number) X G a4 l4 c4 k4 fun _ _ _ _ _ _ us hl => match us, hl with | [_, _], _ => rfl,
   def_at (st := s_term_good) X G a5 l5 c5 k5 fun _ _ _ _ _ _ us hl => match us, hl with | [_, _], _ => rfl,
   def_at (st := s_shown) X G a6 l6 c6 k6 fun _ _ _ _ _ _ us hl => match us, hl with | [_], _ => rfl,
   def_at (st := s_function_text) X G a7 l7 c7 k7 fun _ _ _ _ _ _ us hl => match us, hl with | [_], _ => rfl,
   def_at (st := s_form_text) X G a8 l8 c8 k8 fun _ _ _ _ _ _ us hl => match us, hl with | [_], _ => rfl,
   def_at (st := s_read_function) X G a9 l9 c9 k9 fun _ _ _ _ _ _ us hl => match us, hl with | [_], _ => rfl,
   def_at (st := s_read_form) X G a10 l10 c10 k10 fun _ _ _ _ _ _ us hl => match us, hl with | [_, _], _ => rfl,
   def_at (st := s__law_cell_at) X G a11 l11 c11 k11 fun _ _ _ _ _ _ us hl => match us, hl with | [_, _], _ => rfl,
   def_at (st := s__law_state) X G a12 l12 c12 k12 fun _ _ _ _ _ _ us hl => match us, hl with | [_, _], _ => rfl,
   def_at (st := s__law_take) X G a13 l13 c13 k13 fun _ _ _ _ _ _ us hl => match us, hl with | [_, _], _ => rfl,
   def_at (st := s__law_term) X G a14 l14 c14 k14 fun _ _ _ _ _ _ us hl => match us, hl with | [_, _], _ => rfl,
   def_at (st := s__law_bits) X G a15 l15 c15 k15 fun _ _ _ _ _ _ us hl => match us, hl with | [_, _], _ => rfl,
   def_at (st := s__law_points) X G a16 l16 c16 k16 fun _ _ _ _ _ _ us hl => match us, hl with | [_], _ => rfl,
   def_at (st := s__law_function) X G a17 l17 c17 k17 fun _ _ _ _ _ _ us hl => match us, hl with | [_], _ => rfl,
   def_at (st := s__law_switches) X G a18 l18 c18 k18 fun _ _ _ _ _ _ us hl => match us, hl with | [_], _ => rfl,
   def_at (st := s__law_same) X G a19 l19 c19 k19 fun _ _ _ _ _ _ us hl => match us, hl with | [_, _], _ => rfl,
   def_at (st := s__law_refused) X G a20 l20 c20 k20 fun _ _ _ _ _ _ us hl => match us, hl with | [_], _ => rfl,
   PySem.W.mg_none_of X G z_ValueError,
   PySem.W.mg_none_of X G z_all,
   PySem.W.mg_none_of X G z_bool,
   PySem.W.mg_none_of X G z_int,
   PySem.W.mg_none_of X G z_isinstance,
   PySem.W.mg_none_of X G z_len,
   PySem.W.mg_none_of X G z_list,
   PySem.W.mg_none_of X G z_max,
   PySem.W.mg_none_of X G z_min,
   PySem.W.mg_none_of X G z_range,
   PySem.W.mg_none_of X G z_set,
   PySem.W.mg_none_of X G z_sorted,
   PySem.W.mg_none_of X G z_str,
   PySem.W.mg_none_of X G z_tuple,
   PySem.W.mg_none_of X G z_zip,
   kdat_at X G a_ANSWERS l_ANSWERS s_ANSWERS ⟨⟨_, rfl, (nk_txt _ _), (hash_txt w "0"), _, rfl, ⟨tv_ANSWERS_0, rfl⟩⟩, ⟨_, rfl, (nk_txt _ _), (hash_txt w "1"), _, rfl, ⟨tv_ANSWERS_1, rfl⟩⟩, ⟨_, rfl, (nk_txt _ _), (hash_txt w "-"), _, rfl, rfl⟩, trivial⟩,
   str_at X G a_BETWEEN,
   int_at X G a_MOST,
   str_at X G a_NONE,
   kdat_at X G a_SIGN l_SIGN s_SIGN ⟨⟨_, rfl, (nk_lit rfl), (hash_int w 0 (by decide)), _, rfl, ⟨tv_SIGN_0, rfl⟩⟩, ⟨_, rfl, (nk_lit rfl), (hash_int w 1 (by decide)), _, rfl, ⟨tv_SIGN_1, rfl⟩⟩, ⟨_, rfl, rfl, (hash_non w), _, rfl, ⟨tv_SIGN_2, rfl⟩⟩, trivial⟩,
   str_at X G a_SIGNS,
   sizes_at X G a_SIZES l_SIZES s_SIZES,
   exc_at X G xa_NoFunction xq_NoFunction xk_NoFunction xb_NoFunction xt_NoFunction,
   exc_at X G xa_NoNumber xq_NoNumber xk_NoNumber xb_NoNumber xt_NoNumber,
   exc_at X G xa_NoText xq_NoText xk_NoText xb_NoText xt_NoText,
   ref_at X G ar0 ar1 ar2 ar3 ar4 ar5 ar6 ar7 ar8 arT xq_ref s_ref⟩
theorem law_main {l : PySem.W.OpenLaw} {w : World} {K : PySem.W.Frag} {h : Heap} {mg : Str → Option Value} {fa : Addr} (X : K.In h) (G : h.Ns mainGlobals mg) (hfa : mg "law" = some (.ref fa))
    {f0 : Addr} {oc0 : Value} {od0 an0 : Option Addr} {osl0 : Array (Option Value)} {kV0 doc0 pm0 cdv0 ct0 : Value}
    {f1 : Addr} {oc1 : Value} {od1 an1 : Option Addr} {osl1 : Array (Option Value)} {kV1 doc1 pm1 cdv1 ct1 : Value}
    {f2 : Addr} {oc2 : Value} {od2 an2 : Option Addr} {osl2 : Array (Option Value)} {kV2 doc2 pm2 cdv2 ct2 : Value}
    {f3 : Addr} {oc3 : Value} {od3 an3 : Option Addr} {osl3 : Array (Option Value)} {kV3 doc3 pm3 cdv3 ct3 : Value}
    {f4 : Addr} {oc4 : Value} {od4 an4 : Option Addr} {osl4 : Array (Option Value)} {kV4 doc4 pm4 cdv4 ct4 : Value}
    {f5 : Addr} {oc5 : Value} {od5 an5 : Option Addr} {osl5 : Array (Option Value)} {kV5 doc5 pm5 cdv5 ct5 : Value}
    {f6 : Addr} {oc6 : Value} {od6 an6 : Option Addr} {osl6 : Array (Option Value)} {kV6 doc6 pm6 cdv6 ct6 : Value}
    {f7 : Addr} {oc7 : Value} {od7 an7 : Option Addr} {osl7 : Array (Option Value)} {kV7 doc7 pm7 cdv7 ct7 : Value}
    {f8 : Addr} {oc8 : Value} {od8 an8 : Option Addr} {osl8 : Array (Option Value)} {kV8 doc8 pm8 cdv8 ct8 : Value}
    {f9 : Addr} {oc9 : Value} {od9 an9 : Option Addr} {osl9 : Array (Option Value)} {kV9 doc9 pm9 cdv9 ct9 : Value}
    {f10 : Addr} {oc10 : Value} {od10 an10 : Option Addr} {osl10 : Array (Option Value)} {kV10 doc10 pm10 cdv10 ct10 : Value}
    {f11 : Addr} {oc11 : Value} {od11 an11 : Option Addr} {osl11 : Array (Option Value)} {kV11 doc11 pm11 cdv11 ct11 : Value}
    {f12 : Addr} {oc12 : Value} {od12 an12 : Option Addr} {osl12 : Array (Option Value)} {kV12 doc12 pm12 cdv12 ct12 : Value}
    {f13 : Addr} {oc13 : Value} {od13 an13 : Option Addr} {osl13 : Array (Option Value)} {kV13 doc13 pm13 cdv13 ct13 : Value}
    {f14 : Addr} {oc14 : Value} {od14 an14 : Option Addr} {osl14 : Array (Option Value)} {kV14 doc14 pm14 cdv14 ct14 : Value}
    {f15 : Addr} {oc15 : Value} {od15 an15 : Option Addr} {osl15 : Array (Option Value)} {kV15 doc15 pm15 cdv15 ct15 : Value}
    {f16 : Addr} {oc16 : Value} {od16 an16 : Option Addr} {osl16 : Array (Option Value)} {kV16 doc16 pm16 cdv16 ct16 : Value}
    {f17 : Addr} {oc17 : Value} {od17 an17 : Option Addr} {osl17 : Array (Option Value)} {kV17 doc17 pm17 cdv17 ct17 : Value}
    {f18 : Addr} {oc18 : Value} {od18 an18 : Option Addr} {osl18 : Array (Option Value)} {kV18 doc18 pm18 cdv18 ct18 : Value}
    {f19 : Addr} {oc19 : Value} {od19 an19 : Option Addr} {osl19 : Array (Option Value)} {kV19 doc19 pm19 cdv19 ct19 : Value}
    {f20 : Addr} {oc20 : Value} {od20 an20 : Option Addr} {osl20 : Array (Option Value)} {kV20 doc20 pm20 cdv20 ct20 : Value}
    {d_ANSWERS : Addr} {n_ANSWERS : Nat} {tk_ANSWERS_0 tv_ANSWERS_0 tk_ANSWERS_1 tv_ANSWERS_1 tk_ANSWERS_2 : Tok}
    {t_BETWEEN : Tok}
    {t_MOST : Tok}
    {t_NONE : Tok}
    {d_SIGN : Addr} {n_SIGN : Nat} {tk_SIGN_0 tv_SIGN_0 tk_SIGN_1 tv_SIGN_1 tv_SIGN_2 : Tok}
    {t_SIGNS : Tok}
    {d_SIZES : Addr} {n_SIZES : Nat} {t1 t2 t3 t4 u1 u2 u3 u4 : Tok}
    {C_NoFunction : Addr}
    {C_NoNumber : Addr}
    {C_NoText : Addr}
    {R0 R1 R2 R3 R4 R5 R6 R7 R8 RT : Addr}
    {fL : Addr} {ocL : Value} {odL anL : Option Addr} {oslL : Array (Option Value)} {kVL docL pmL ctL coL : Value}
    {cdL PL : Addr} {codL : Option Addr} {vsL : Array Value} {cslL : Array (Option Value)}
    (a0 : PySem.W.nsIn K mainGlobals "is_whole" = some (some (.ref f0)))
    (l0 : K.lookup f0 = some ⟨oc0, od0, .func (PySem.W.fnOf "is_whole" "is_whole" (defArgs s_is_whole) (defBody s_is_whole) (defScope s_is_whole) .none kV0 doc0 pm0 an0 cdv0 ct0), osl0⟩)
    (c0 : PySem.W.codeIn K cdv0 "is_whole" = true)
    (k0 : PySem.W.keepIn K (.ref f0) = true)
    (a1 : PySem.W.nsIn K mainGlobals "is_answer" = some (some (.ref f1)))
    (l1 : K.lookup f1 = some ⟨oc1, od1, .func (PySem.W.fnOf "is_answer" "is_answer" (defArgs s_is_answer) (defBody s_is_answer) (defScope s_is_answer) .none kV1 doc1 pm1 an1 cdv1 ct1), osl1⟩)
    (c1 : PySem.W.codeIn K cdv1 "is_answer" = true)
    (k1 : PySem.W.keepIn K (.ref f1) = true)
    (a2 : PySem.W.nsIn K mainGlobals "is_function" = some (some (.ref f2)))
    (l2 : K.lookup f2 = some ⟨oc2, od2, .func (PySem.W.fnOf "is_function" "is_function" (defArgs s_is_function) (defBody s_is_function) (defScope s_is_function) .none kV2 doc2 pm2 an2 cdv2 ct2), osl2⟩)
    (c2 : PySem.W.codeIn K cdv2 "is_function" = true)
    (k2 : PySem.W.keepIn K (.ref f2) = true)
    (a3 : PySem.W.nsIn K mainGlobals "need_function" = some (some (.ref f3)))
    (l3 : K.lookup f3 = some ⟨oc3, od3, .func (PySem.W.fnOf "need_function" "need_function" (defArgs s_need_function) (defBody s_need_function) (defScope s_need_function) .none kV3 doc3 pm3 an3 cdv3 ct3), osl3⟩)
    (c3 : PySem.W.codeIn K cdv3 "need_function" = true)
    (k3 : PySem.W.keepIn K (.ref f3) = true)
    (a4 : PySem.W.nsIn K mainGlobals "need_number" = some (some (.ref f4)))
    (l4 : K.lookup f4 = some ⟨oc4, od4, .func (PySem.W.fnOf "need_number" "need_number" (defArgs s_need_number) (defBody s_need_number) (defScope s_need_number) .none kV4 doc4 pm4 an4 cdv4 ct4), osl4⟩)
    (c4 : PySem.W.codeIn K cdv4 "need_number" = true)
    (k4 : PySem.W.keepIn K (.ref f4) = true)
    (a5 : PySem.W.nsIn K mainGlobals "term_good" = some (some (.ref f5)))
    (l5 : K.lookup f5 = some ⟨oc5, od5, .func (PySem.W.fnOf "term_good" "term_good" (defArgs s_term_good) (defBody s_term_good) (defScope s_term_good) .none kV5 doc5 pm5 an5 cdv5 ct5), osl5⟩)
    (c5 : PySem.W.codeIn K cdv5 "term_good" = true)
    (k5 : PySem.W.keepIn K (.ref f5) = true)
    (a6 : PySem.W.nsIn K mainGlobals "shown" = some (some (.ref f6)))
    (l6 : K.lookup f6 = some ⟨oc6, od6, .func (PySem.W.fnOf "shown" "shown" (defArgs s_shown) (defBody s_shown) (defScope s_shown) .none kV6 doc6 pm6 an6 cdv6 ct6), osl6⟩)
    (c6 : PySem.W.codeIn K cdv6 "shown" = true)
    (k6 : PySem.W.keepIn K (.ref f6) = true)
    (a7 : PySem.W.nsIn K mainGlobals "function_text" = some (some (.ref f7)))
    (l7 : K.lookup f7 = some ⟨oc7, od7, .func (PySem.W.fnOf "function_text" "function_text" (defArgs s_function_text) (defBody s_function_text) (defScope s_function_text) .none kV7 doc7 pm7 an7 cdv7 ct7), osl7⟩)
    (c7 : PySem.W.codeIn K cdv7 "function_text" = true)
    (k7 : PySem.W.keepIn K (.ref f7) = true)
    (a8 : PySem.W.nsIn K mainGlobals "form_text" = some (some (.ref f8)))
    (l8 : K.lookup f8 = some ⟨oc8, od8, .func (PySem.W.fnOf "form_text" "form_text" (defArgs s_form_text) (defBody s_form_text) (defScope s_form_text) .none kV8 doc8 pm8 an8 cdv8 ct8), osl8⟩)
    (c8 : PySem.W.codeIn K cdv8 "form_text" = true)
    (k8 : PySem.W.keepIn K (.ref f8) = true)
    (a9 : PySem.W.nsIn K mainGlobals "read_function" = some (some (.ref f9)))
    (l9 : K.lookup f9 = some ⟨oc9, od9, .func (PySem.W.fnOf "read_function" "read_function" (defArgs s_read_function) (defBody s_read_function) (defScope s_read_function) .none kV9 doc9 pm9 an9 cdv9 ct9), osl9⟩)
    (c9 : PySem.W.codeIn K cdv9 "read_function" = true)
    (k9 : PySem.W.keepIn K (.ref f9) = true)
    (a10 : PySem.W.nsIn K mainGlobals "read_form" = some (some (.ref f10)))
    (l10 : K.lookup f10 = some ⟨oc10, od10, .func (PySem.W.fnOf "read_form" "read_form" (defArgs s_read_form) (defBody s_read_form) (defScope s_read_form) .none kV10 doc10 pm10 an10 cdv10 ct10), osl10⟩)
    (c10 : PySem.W.codeIn K cdv10 "read_form" = true)
    (k10 : PySem.W.keepIn K (.ref f10) = true)
    (a11 : PySem.W.nsIn K mainGlobals "_law_cell_at" = some (some (.ref f11)))
    (l11 : K.lookup f11 = some ⟨oc11, od11, .func (PySem.W.fnOf "_law_cell_at" "_law_cell_at" (defArgs s__law_cell_at) (defBody s__law_cell_at) (defScope s__law_cell_at) .none kV11 doc11 pm11 an11 cdv11 ct11), osl11⟩)
    (c11 : PySem.W.codeIn K cdv11 "_law_cell_at" = true)
    (k11 : PySem.W.keepIn K (.ref f11) = true)
    (a12 : PySem.W.nsIn K mainGlobals "_law_state" = some (some (.ref f12)))
    (l12 : K.lookup f12 = some ⟨oc12, od12, .func (PySem.W.fnOf "_law_state" "_law_state" (defArgs s__law_state) (defBody s__law_state) (defScope s__law_state) .none kV12 doc12 pm12 an12 cdv12 ct12), osl12⟩)
    (c12 : PySem.W.codeIn K cdv12 "_law_state" = true)
    (k12 : PySem.W.keepIn K (.ref f12) = true)
    (a13 : PySem.W.nsIn K mainGlobals "_law_take" = some (some (.ref f13)))
    (l13 : K.lookup f13 = some ⟨oc13, od13, .func (PySem.W.fnOf "_law_take" "_law_take" (defArgs s__law_take) (defBody s__law_take) (defScope s__law_take) .none kV13 doc13 pm13 an13 cdv13 ct13), osl13⟩)
    (c13 : PySem.W.codeIn K cdv13 "_law_take" = true)
    (k13 : PySem.W.keepIn K (.ref f13) = true)
    (a14 : PySem.W.nsIn K mainGlobals "_law_term" = some (some (.ref f14)))
    (l14 : K.lookup f14 = some ⟨oc14, od14, .func (PySem.W.fnOf "_law_term" "_law_term" (defArgs s__law_term) (defBody s__law_term) (defScope s__law_term) .none kV14 doc14 pm14 an14 cdv14 ct14), osl14⟩)
    (c14 : PySem.W.codeIn K cdv14 "_law_term" = true)
    (k14 : PySem.W.keepIn K (.ref f14) = true)
    (a15 : PySem.W.nsIn K mainGlobals "_law_bits" = some (some (.ref f15)))
    (l15 : K.lookup f15 = some ⟨oc15, od15, .func (PySem.W.fnOf "_law_bits" "_law_bits" (defArgs s__law_bits) (defBody s__law_bits) (defScope s__law_bits) .none kV15 doc15 pm15 an15 cdv15 ct15), osl15⟩)
    (c15 : PySem.W.codeIn K cdv15 "_law_bits" = true)
    (k15 : PySem.W.keepIn K (.ref f15) = true)
    (a16 : PySem.W.nsIn K mainGlobals "_law_points" = some (some (.ref f16)))
    (l16 : K.lookup f16 = some ⟨oc16, od16, .func (PySem.W.fnOf "_law_points" "_law_points" (defArgs s__law_points) (defBody s__law_points) (defScope s__law_points) .none kV16 doc16 pm16 an16 cdv16 ct16), osl16⟩)
    (c16 : PySem.W.codeIn K cdv16 "_law_points" = true)
    (k16 : PySem.W.keepIn K (.ref f16) = true)
    (a17 : PySem.W.nsIn K mainGlobals "_law_function" = some (some (.ref f17)))
    (l17 : K.lookup f17 = some ⟨oc17, od17, .func (PySem.W.fnOf "_law_function" "_law_function" (defArgs s__law_function) (defBody s__law_function) (defScope s__law_function) .none kV17 doc17 pm17 an17 cdv17 ct17), osl17⟩)
    (c17 : PySem.W.codeIn K cdv17 "_law_function" = true)
    (k17 : PySem.W.keepIn K (.ref f17) = true)
    (a18 : PySem.W.nsIn K mainGlobals "_law_switches" = some (some (.ref f18)))
    (l18 : K.lookup f18 = some ⟨oc18, od18, .func (PySem.W.fnOf "_law_switches" "_law_switches" (defArgs s__law_switches) (defBody s__law_switches) (defScope s__law_switches) .none kV18 doc18 pm18 an18 cdv18 ct18), osl18⟩)
    (c18 : PySem.W.codeIn K cdv18 "_law_switches" = true)
    (k18 : PySem.W.keepIn K (.ref f18) = true)
    (a19 : PySem.W.nsIn K mainGlobals "_law_same" = some (some (.ref f19)))
    (l19 : K.lookup f19 = some ⟨oc19, od19, .func (PySem.W.fnOf "_law_same" "_law_same" (defArgs s__law_same) (defBody s__law_same) (defScope s__law_same) .none kV19 doc19 pm19 an19 cdv19 ct19), osl19⟩)
    (c19 : PySem.W.codeIn K cdv19 "_law_same" = true)
    (k19 : PySem.W.keepIn K (.ref f19) = true)
    (a20 : PySem.W.nsIn K mainGlobals "_law_refused" = some (some (.ref f20)))
    (l20 : K.lookup f20 = some ⟨oc20, od20, .func (PySem.W.fnOf "_law_refused" "_law_refused" (defArgs s__law_refused) (defBody s__law_refused) (defScope s__law_refused) .none kV20 doc20 pm20 an20 cdv20 ct20), osl20⟩)
    (c20 : PySem.W.codeIn K cdv20 "_law_refused" = true)
    (k20 : PySem.W.keepIn K (.ref f20) = true)
    (z_ValueError : PySem.W.nsIn K mainGlobals "ValueError" = some none)
    (z_all : PySem.W.nsIn K mainGlobals "all" = some none)
    (z_bool : PySem.W.nsIn K mainGlobals "bool" = some none)
    (z_int : PySem.W.nsIn K mainGlobals "int" = some none)
    (z_isinstance : PySem.W.nsIn K mainGlobals "isinstance" = some none)
    (z_len : PySem.W.nsIn K mainGlobals "len" = some none)
    (z_list : PySem.W.nsIn K mainGlobals "list" = some none)
    (z_max : PySem.W.nsIn K mainGlobals "max" = some none)
    (z_min : PySem.W.nsIn K mainGlobals "min" = some none)
    (z_range : PySem.W.nsIn K mainGlobals "range" = some none)
    (z_set : PySem.W.nsIn K mainGlobals "set" = some none)
    (z_sorted : PySem.W.nsIn K mainGlobals "sorted" = some none)
    (z_str : PySem.W.nsIn K mainGlobals "str" = some none)
    (z_tuple : PySem.W.nsIn K mainGlobals "tuple" = some none)
    (z_zip : PySem.W.nsIn K mainGlobals "zip" = some none)
    (a_ANSWERS : PySem.W.nsIn K mainGlobals "ANSWERS" = some (some (.ref d_ANSWERS)))
    (l_ANSWERS : K.lookup d_ANSWERS = some ⟨.type "dict", none, .dict #[⟨PyData.keyHash w.params "0", .str "0" tk_ANSWERS_0, .int 0 tv_ANSWERS_0⟩, ⟨PyData.keyHash w.params "1", .str "1" tk_ANSWERS_1, .int 1 tv_ANSWERS_1⟩, ⟨PyData.keyHash w.params "-", .str "-" tk_ANSWERS_2, .none⟩] n_ANSWERS, #[]⟩)
    (s_ANSWERS : (d_ANSWERS == sysModules) = false)
    (a_BETWEEN : PySem.W.nsIn K mainGlobals "BETWEEN" = some (some (.str " + " t_BETWEEN)))
    (a_MOST : PySem.W.nsIn K mainGlobals "MOST" = some (some (.int 4 t_MOST)))
    (a_NONE : PySem.W.nsIn K mainGlobals "NONE" = some (some (.str "none" t_NONE)))
    (a_SIGN : PySem.W.nsIn K mainGlobals "SIGN" = some (some (.ref d_SIGN)))
    (l_SIGN : K.lookup d_SIGN = some ⟨.type "dict", none, .dict #[⟨0, .int 0 tk_SIGN_0, .str "0" tv_SIGN_0⟩, ⟨1, .int 1 tk_SIGN_1, .str "1" tv_SIGN_1⟩, ⟨4238894112, .none, .str "-" tv_SIGN_2⟩] n_SIGN, #[]⟩)
    (s_SIGN : (d_SIGN == sysModules) = false)
    (a_SIGNS : PySem.W.nsIn K mainGlobals "SIGNS" = some (some (.str "01-" t_SIGNS)))
    (a_SIZES : PySem.W.nsIn K mainGlobals "SIZES" = some (some (.ref d_SIZES)))
    (l_SIZES : K.lookup d_SIZES = some ⟨.type "dict", none, .dict #[⟨2, .int 2 t1, .int 1 u1⟩, ⟨4, .int 4 t2, .int 2 u2⟩, ⟨8, .int 8 t3, .int 3 u3⟩, ⟨16, .int 16 t4, .int 4 u4⟩] n_SIZES, #[]⟩)
    (s_SIZES : (d_SIZES == sysModules) = false)
    (xa_NoFunction : PySem.W.nsIn K mainGlobals "NoFunction" = some (some (.ref C_NoFunction)))
    (xq_NoFunction : PySem.W.excIn K C_NoFunction [.type "ValueError", .type "Exception", .type "BaseException", .type "object"] "ValueError.__new__" = true)
    (xk_NoFunction : PySem.W.keepIn K (.ref C_NoFunction) = true)
    (xb_NoFunction : PySem.W.subIn K (.ref C_NoFunction) (.type "BaseException") = some true)
    (xt_NoFunction : PySem.W.typeIn K (.ref C_NoFunction) = some (.type "type"))
    (xa_NoNumber : PySem.W.nsIn K mainGlobals "NoNumber" = some (some (.ref C_NoNumber)))
    (xq_NoNumber : PySem.W.excIn K C_NoNumber [.type "ValueError", .type "Exception", .type "BaseException", .type "object"] "ValueError.__new__" = true)
    (xk_NoNumber : PySem.W.keepIn K (.ref C_NoNumber) = true)
    (xb_NoNumber : PySem.W.subIn K (.ref C_NoNumber) (.type "BaseException") = some true)
    (xt_NoNumber : PySem.W.typeIn K (.ref C_NoNumber) = some (.type "type"))
    (xa_NoText : PySem.W.nsIn K mainGlobals "NoText" = some (some (.ref C_NoText)))
    (xq_NoText : PySem.W.excIn K C_NoText [.type "ValueError", .type "Exception", .type "BaseException", .type "object"] "ValueError.__new__" = true)
    (xk_NoText : PySem.W.keepIn K (.ref C_NoText) = true)
    (xb_NoText : PySem.W.subIn K (.ref C_NoText) (.type "BaseException") = some true)
    (xt_NoText : PySem.W.typeIn K (.ref C_NoText) = some (.type "type"))
    (ar0 : PySem.W.nsIn K mainGlobals "NoFunction" = some (some (.ref R0)))
    (ar1 : PySem.W.nsIn K mainGlobals "NoTerm" = some (some (.ref R1)))
    (ar2 : PySem.W.nsIn K mainGlobals "NoPoint" = some (some (.ref R2)))
    (ar3 : PySem.W.nsIn K mainGlobals "NoNumber" = some (some (.ref R3)))
    (ar4 : PySem.W.nsIn K mainGlobals "NoForm" = some (some (.ref R4)))
    (ar5 : PySem.W.nsIn K mainGlobals "NoChange" = some (some (.ref R5)))
    (ar6 : PySem.W.nsIn K mainGlobals "NoText" = some (some (.ref R6)))
    (ar7 : PySem.W.nsIn K mainGlobals "NoLine" = some (some (.ref R7)))
    (ar8 : PySem.W.nsIn K mainGlobals "NoDeed" = some (some (.ref R8)))
    (arT : PySem.W.nsIn K mainGlobals "TermError" = some (some (.ref RT)))
    (xq_ref : refOk K [R0, R1, R2, R3, R4, R5, R6, R7, R8] RT = true)
    (s_ref : [R0, R1, R2, R3, R4, R5, R6, R7, R8].Nodup)
    (aL : PySem.W.nsIn K mainGlobals "law" = some (some (.ref fL)))
    (lL : K.lookup fL = some ⟨ocL, odL, .func (PySem.W.fnOf "law" "law" (defArgs s_law) (defBody s_law) (defScope s_law) .none kVL docL pmL anL (.ref cdL) ctL), oslL⟩) (cL : PySem.W.codeIn K (.ref cdL) "law" = true) (kL : PySem.W.keepIn K (.ref fL) = true)
    (lcL : K.lookup cdL = some ⟨coL, codL, .fields vsL, cslL⟩) (xpL : vsL[11]? = some (.ref PL)) (nTL : K.lookup PL = none) (xhL : PySem.W.codeHdIn K cdL PL = true) (yTL : h.get? PL = some { cls := .none, data := .fields #[] })
    (hlaw : ∀ ns : List Int, ∃ S, sem_law [.s ns] [] = .ok (bD true) S) :
    LamX.LawAtS l w K (L2.CX l.prog w) 8 63 "_law_script" mg fa h := by
  have e := hfa.symm.trans (PySem.W.mg_of X G aL)
  cases e
  have T := tops_mk (w := w) X G a0 l0 c0 k0 a1 l1 c1 k1 a2 l2 c2 k2 a3 l3 c3 k3 a4 l4 c4 k4 a5 l5 c5 k5 a6 l6 c6 k6 a7 l7 c7 k7 a8 l8 c8 k8 a9 l9 c9 k9 a10 l10 c10 k10 a11 l11 c11 k11 a12 l12 c12 k12 a13 l13 c13 k13 a14 l14 c14 k14 a15 l15 c15 k15 a16 l16 c16 k16 a17 l17 c17 k17 a18 l18 c18 k18 a19 l19 c19 k19 a20 l20 c20 k20 z_ValueError z_all z_bool z_int z_isinstance z_len z_list z_max z_min z_range z_set z_sorted z_str z_tuple z_zip a_ANSWERS l_ANSWERS s_ANSWERS a_BETWEEN a_MOST a_NONE a_SIGN l_SIGN s_SIGN a_SIGNS a_SIZES l_SIZES s_SIZES xa_NoFunction xq_NoFunction xk_NoFunction xb_NoFunction xt_NoFunction xa_NoNumber xq_NoNumber xk_NoNumber xb_NoNumber xt_NoNumber xa_NoText xq_NoText xk_NoText xb_NoText xt_NoText ar0 ar1 ar2 ar3 ar4 ar5 ar6 ar7 ar8 arT xq_ref s_ref
  have hK := tab_of_law aL lL lcL xpL
  exact law_at hK yTL nTL (PySem.W.codeHd_of_K X xhL) (fun s u => .of_eq rfl) (fun base hK1 hN TB => ok_law T TB (tabsK_of hK) lL cL) fun ns _ _ => hlaw ns
end PD

namespace PD
open PySem PySem.Spec PyProof.Rows L2
theorem e_isW (d : D) (S : Cs) : sem_is_whole [.d d] S = .ok (bD (isInt d)) S := by
  have h1 : dIsi "int" d = some (bD (isInt d || (match d with | .bool _ => true | _ => false))) := by cases d <;> rfl
  have h2 : dIsi "bool" d = some (bD (match d with | .bool _ => true | _ => false)) := by cases d <;> rfl
  simp only [sem_is_whole, b_is_whole, p_body, p_skip, p_seq, p_set, p_ret, p_retN, p_retV_s, p_retV_0, p_exp, p_if, p_raise, p_app, p_ext, p_setT, p_for, p_cell', nxt_nx, nxt_rt, nxt_exc, fin_nx, fin_rt, fin_exc, set_ok, set_exc, ret_ok, ret_exc, exp_ok, exp_exc, if_tt, if_ff, if_ok, if_exc, for_ok, for_exc, app_s, app_0, app_0o, ext_s, ext_0, cons_nx, cons_exc, setT_ok, cell_ok, pop_nx, pop_rt, unC_nil, unC_n, unC_d, unC_st, no_nil, no_n, no_a, mask_nil, mask_t, mask_f, dom_nil, dom_s, dom_n, start_0, start_s, setW_nil, setW_cons, ev_nil, ev_n, ev_a, ev_o, ev_own, frzE_nil, frzE_cons, frz1_s, frz1_0o, frz1_0a, frz1_0n, sNm_ap, sTp_ap, q_var0, q_varS, q_c, q_bin, bin1_a, bin1_o, bin1_e, bin2_a, bin2_o, bin2_e, q_un, un1_a, un1_o, q_call, call_n, call_c, call1_a, call1_o, call1_e, q_tup, allD_nil, allD_cons, tupE_ap, q_lst, lst_n, lst_c, lst1_ok, q_comp, comp_ok, q_and, and_tt, and_ff, asB_ok, asB_e, and_ok, and_fold, q_or, or_tt, or_ff, or_ok, or_fold, q_not, not_ok, not_e, q_ife, ife_tt, ife_ff, ife_ok, q_seq, q_rng1, q_rng2, q_enum, q_zip, srcS_a, srcS_o, src1_a, src1_o, src2_a, src2_o, of_some, q_sl, sl_nn, sl_n, sl_s, slo_nn, slo_n, slo_s, slLo_n, slLo_s, slHi_ok, slLo_n', slLo_s', slHi_ok', q_sm, sm1_a, sm2_a, sm2_o, on1_ap, onD1_ap, true_ap, gNm_ap, gTp_ap, setD_nil, setD_cons, wipe_nil, wipe_cons, max2_ap, rng1_n, rng1_l, rng1_1, Nat.reduceAdd, Nat.reduceSub, Nat.reduceLeDiff, List.length_cons, List.length_nil, List.length_map, List.length_range, List.replicate, List.set_cons_zero, List.set_cons_succ, List.map_cons, List.map_nil, List.cons_append, List.nil_append, Option.map_some, if_true, Bool.false_eq_true, if_false, Bool.not_true, Bool.not_false, o_add, o_sub, o_shr, o_band, o_lt, o_le, o_gt, o_ge, own0, own1, own2, own3, own4, own5, own6, own7, own8, own9, own10, own11, own12, seqD_lst, seqD_tup, seqD_eF, seqD_eG, i2n, isi_eF, isi_eG, isi_eT, gLen_eF, gLen_eG, gLen_lst, gLen_tup, dAll_m, dAny_m, all_tt, dInt_b, isi_int_none, isi_int_bool, isi_int_int, isi_int_str, isi_int_list, isi_int_tuple, isi_bool_none, isi_bool_bool, isi_bool_int, isi_bool_str, isi_bool_list, isi_bool_tuple, isi_str_none, isi_str_bool, isi_str_int, isi_str_str, isi_str_list, isi_str_tuple, isi_list_none, isi_list_bool, isi_list_int, isi_list_str, isi_list_list, isi_list_tuple, isi_tuple_none, isi_tuple_bool, isi_tuple_int, isi_tuple_str, isi_tuple_list, isi_tuple_tuple, isi2_tl_none, isi2_tl_bool, isi2_tl_int, isi2_tl_str, isi2_tl_list, isi2_tl_tuple, zip2, zipD_map, isi_int_dict, isi_bool_dict, isi_str_dict, isi_list_dict, isi_tuple_dict, isi2_tl_dict, dIsN, dNotN, p_setIx, setIx1_ok, setIx2_s, bin1_w, bin1o_some, toDs_nil, toDs_a, toDs_o, ret_nxt, rngD_map, Int.reduceToNat, p_appV, appV_ok', p_forB, forB_ok, sm1_T, List.getElem?_cons_succ, List.getElem?_cons_zero, q_chain, ch1_a, ch2_a, ch3_tt, ch3_ff, ch4_a, lt_TT, par_ap, par1_ok, par2_ok, srcS_e, src1_e, src2_e, comp_e, un1_e, lst1_e, and_e, or_e, q_sm0, sm01_a, sm01_T, smO_some, app_0w, h1, h2]
  cases d <;> rfl
theorem e_is_whole_aO (b : Bool) (S : Cs) : sem_is_whole [.d (aO (some b))] S = .ok (bD true) S := by
  simp only [sem_is_whole, b_is_whole, bodySem, startE, sRet, sRetV, sRetN, sSeq, sSet, sSkip, sExp, sIf, fSm, fC, fComp, iRng1, iSeq, iZip, iEnum, fVar, fCall, fBin, fUn, onD1, on1, evs_nil, evs_cons, frzE, ev, ev1_own, ev1_ownD, ev1_a, ev1_no, List.map_cons, List.map_nil, List.cons_append, List.nil_append, List.replicate, List.length_cons, List.length_nil, Nat.reduceAdd, Nat.reduceSub, bnd_a, bi_a, bi_own, bnd_own, List.getElem?_cons_zero, List.getElem?_cons_succ, rng1, SR.of, if_true, wipeE, List.set_cons_zero, List.set_cons_succ, rngD_map, i2n, and_self, setD, Option.map_some, gNm, gTp, o_add, o_sub, o_shr, o_band, o_lt, o_le, o_gt, o_ge, fTup, allD, zip2, zipD_map, Function.comp_def, List.map_map, own0, own1, own2, own3, own4, own5, own6, own7, own8, own9, own10, own11, own12, fLst, evsW, sFor, dom, seqD_lst, seqD_tup, Option.isSome, sNm, sTp, setW, frz1_s, frz1_0o, frz1_0a, frz1_0n, isi_int_none, isi_int_bool, isi_int_int, isi_int_str, isi_int_list, isi_int_tuple, isi_bool_none, isi_bool_bool, isi_bool_int, isi_bool_str, isi_bool_list, isi_bool_tuple, isi_str_none, isi_str_bool, isi_str_int, isi_str_str, isi_str_list, isi_str_tuple, isi_list_none, isi_list_bool, isi_list_int, isi_list_str, isi_list_list, isi_list_tuple, isi_tuple_none, isi_tuple_bool, isi_tuple_int, isi_tuple_str, isi_tuple_list, isi_tuple_tuple, isi2_tl_none, isi2_tl_bool, isi2_tl_int, isi2_tl_str, isi2_tl_list, isi2_tl_tuple, br_tt, br_ff, Bool.false_eq_true, if_false, seqD_eF, seqD_eG, isi_eF, isi_eG, isi_eT, gLen_eF, gLen_eG, gLen_lst, gLen_tup, dAll_m, dAny_m, all_tt, dInt_b, aO, fAnd, fNot]
theorem e_isA (d : D) (S : Cs) : sem_is_answer [.d d] S = .ok (bD (isAns d)) S := by
  cases d with
  | int i =>
    simp only [sem_is_answer, b_is_answer, p_body, p_skip, p_seq, p_set, p_ret, p_retN, p_retV_s, p_retV_0, p_exp, p_if, p_raise, p_app, p_ext, p_setT, p_for, p_cell', nxt_nx, nxt_rt, nxt_exc, fin_nx, fin_rt, fin_exc, set_ok, set_exc, ret_ok, ret_exc, exp_ok, exp_exc, if_tt, if_ff, if_ok, if_exc, for_ok, for_exc, app_s, app_0, app_0o, ext_s, ext_0, cons_nx, cons_exc, setT_ok, cell_ok, pop_nx, pop_rt, unC_nil, unC_n, unC_d, unC_st, no_nil, no_n, no_a, mask_nil, mask_t, mask_f, dom_nil, dom_s, dom_n, start_0, start_s, setW_nil, setW_cons, ev_nil, ev_n, ev_a, ev_o, ev_own, frzE_nil, frzE_cons, frz1_s, frz1_0o, frz1_0a, frz1_0n, sNm_ap, sTp_ap, q_var0, q_varS, q_c, q_bin, bin1_a, bin1_o, bin1_e, bin2_a, bin2_o, bin2_e, q_un, un1_a, un1_o, q_call, call_n, call_c, call1_a, call1_o, call1_e, q_tup, allD_nil, allD_cons, tupE_ap, q_lst, lst_n, lst_c, lst1_ok, q_comp, comp_ok, q_and, and_tt, and_ff, asB_ok, asB_e, and_ok, and_fold, q_or, or_tt, or_ff, or_ok, or_fold, q_not, not_ok, not_e, q_ife, ife_tt, ife_ff, ife_ok, q_seq, q_rng1, q_rng2, q_enum, q_zip, srcS_a, srcS_o, src1_a, src1_o, src2_a, src2_o, of_some, q_sl, sl_nn, sl_n, sl_s, slo_nn, slo_n, slo_s, slLo_n, slLo_s, slHi_ok, slLo_n', slLo_s', slHi_ok', q_sm, sm1_a, sm2_a, sm2_o, on1_ap, onD1_ap, true_ap, gNm_ap, gTp_ap, setD_nil, setD_cons, wipe_nil, wipe_cons, max2_ap, rng1_n, rng1_l, rng1_1, Nat.reduceAdd, Nat.reduceSub, Nat.reduceLeDiff, List.length_cons, List.length_nil, List.length_map, List.length_range, List.replicate, List.set_cons_zero, List.set_cons_succ, List.map_cons, List.map_nil, List.cons_append, List.nil_append, Option.map_some, if_true, Bool.false_eq_true, if_false, Bool.not_true, Bool.not_false, o_add, o_sub, o_shr, o_band, o_lt, o_le, o_gt, o_ge, own0, own1, own2, own3, own4, own5, own6, own7, own8, own9, own10, own11, own12, seqD_lst, seqD_tup, seqD_eF, seqD_eG, i2n, isi_eF, isi_eG, isi_eT, gLen_eF, gLen_eG, gLen_lst, gLen_tup, dAll_m, dAny_m, all_tt, dInt_b, isi_int_none, isi_int_bool, isi_int_int, isi_int_str, isi_int_list, isi_int_tuple, isi_bool_none, isi_bool_bool, isi_bool_int, isi_bool_str, isi_bool_list, isi_bool_tuple, isi_str_none, isi_str_bool, isi_str_int, isi_str_str, isi_str_list, isi_str_tuple, isi_list_none, isi_list_bool, isi_list_int, isi_list_str, isi_list_list, isi_list_tuple, isi_tuple_none, isi_tuple_bool, isi_tuple_int, isi_tuple_str, isi_tuple_list, isi_tuple_tuple, isi2_tl_none, isi2_tl_bool, isi2_tl_int, isi2_tl_str, isi2_tl_list, isi2_tl_tuple, zip2, zipD_map, isi_int_dict, isi_bool_dict, isi_str_dict, isi_list_dict, isi_tuple_dict, isi2_tl_dict, dIsN, dNotN, p_setIx, setIx1_ok, setIx2_s, bin1_w, bin1o_some, toDs_nil, toDs_a, toDs_o, ret_nxt, rngD_map, Int.reduceToNat, p_appV, appV_ok', p_forB, forB_ok, sm1_T, List.getElem?_cons_succ, List.getElem?_cons_zero, q_chain, ch1_a, ch2_a, ch3_tt, ch3_ff, ch4_a, lt_TT, par_ap, par1_ok, par2_ok, srcS_e, src1_e, src2_e, comp_e, un1_e, lst1_e, and_e, or_e, q_sm0, sm01_a, sm01_T, smO_some, app_0w, e_isW, isInt, o_in_tup (x := .int i) (ds := [.int 0, .int 1]) S rfl rfl]
    simp [inD, isAns, PyData.eqv]
  | _ => simp only [sem_is_answer, b_is_answer, p_body, p_skip, p_seq, p_set, p_ret, p_retN, p_retV_s, p_retV_0, p_exp, p_if, p_raise, p_app, p_ext, p_setT, p_for, p_cell', nxt_nx, nxt_rt, nxt_exc, fin_nx, fin_rt, fin_exc, set_ok, set_exc, ret_ok, ret_exc, exp_ok, exp_exc, if_tt, if_ff, if_ok, if_exc, for_ok, for_exc, app_s, app_0, app_0o, ext_s, ext_0, cons_nx, cons_exc, setT_ok, cell_ok, pop_nx, pop_rt, unC_nil, unC_n, unC_d, unC_st, no_nil, no_n, no_a, mask_nil, mask_t, mask_f, dom_nil, dom_s, dom_n, start_0, start_s, setW_nil, setW_cons, ev_nil, ev_n, ev_a, ev_o, ev_own, frzE_nil, frzE_cons, frz1_s, frz1_0o, frz1_0a, frz1_0n, sNm_ap, sTp_ap, q_var0, q_varS, q_c, q_bin, bin1_a, bin1_o, bin1_e, bin2_a, bin2_o, bin2_e, q_un, un1_a, un1_o, q_call, call_n, call_c, call1_a, call1_o, call1_e, q_tup, allD_nil, allD_cons, tupE_ap, q_lst, lst_n, lst_c, lst1_ok, q_comp, comp_ok, q_and, and_tt, and_ff, asB_ok, asB_e, and_ok, and_fold, q_or, or_tt, or_ff, or_ok, or_fold, q_not, not_ok, not_e, q_ife, ife_tt, ife_ff, ife_ok, q_seq, q_rng1, q_rng2, q_enum, q_zip, srcS_a, srcS_o, src1_a, src1_o, src2_a, src2_o, of_some, q_sl, sl_nn, sl_n, sl_s, slo_nn, slo_n, slo_s, slLo_n, slLo_s, slHi_ok, slLo_n', slLo_s', slHi_ok', q_sm, sm1_a, sm2_a, sm2_o, on1_ap, onD1_ap, true_ap, gNm_ap, gTp_ap, setD_nil, setD_cons, wipe_nil, wipe_cons, max2_ap, rng1_n, rng1_l, rng1_1, Nat.reduceAdd, Nat.reduceSub, Nat.reduceLeDiff, List.length_cons, List.length_nil, List.length_map, List.length_range, List.replicate, List.set_cons_zero, List.set_cons_succ, List.map_cons, List.map_nil, List.cons_append, List.nil_append, Option.map_some, if_true, Bool.false_eq_true, if_false, Bool.not_true, Bool.not_false, o_add, o_sub, o_shr, o_band, o_lt, o_le, o_gt, o_ge, own0, own1, own2, own3, own4, own5, own6, own7, own8, own9, own10, own11, own12, seqD_lst, seqD_tup, seqD_eF, seqD_eG, i2n, isi_eF, isi_eG, isi_eT, gLen_eF, gLen_eG, gLen_lst, gLen_tup, dAll_m, dAny_m, all_tt, dInt_b, isi_int_none, isi_int_bool, isi_int_int, isi_int_str, isi_int_list, isi_int_tuple, isi_bool_none, isi_bool_bool, isi_bool_int, isi_bool_str, isi_bool_list, isi_bool_tuple, isi_str_none, isi_str_bool, isi_str_int, isi_str_str, isi_str_list, isi_str_tuple, isi_list_none, isi_list_bool, isi_list_int, isi_list_str, isi_list_list, isi_list_tuple, isi_tuple_none, isi_tuple_bool, isi_tuple_int, isi_tuple_str, isi_tuple_list, isi_tuple_tuple, isi2_tl_none, isi2_tl_bool, isi2_tl_int, isi2_tl_str, isi2_tl_list, isi2_tl_tuple, zip2, zipD_map, isi_int_dict, isi_bool_dict, isi_str_dict, isi_list_dict, isi_tuple_dict, isi2_tl_dict, dIsN, dNotN, p_setIx, setIx1_ok, setIx2_s, bin1_w, bin1o_some, toDs_nil, toDs_a, toDs_o, ret_nxt, rngD_map, Int.reduceToNat, p_appV, appV_ok', p_forB, forB_ok, sm1_T, List.getElem?_cons_succ, List.getElem?_cons_zero, q_chain, ch1_a, ch2_a, ch3_tt, ch3_ff, ch4_a, lt_TT, par_ap, par1_ok, par2_ok, srcS_e, src1_e, src2_e, comp_e, un1_e, lst1_e, and_e, or_e, q_sm0, sm01_a, sm01_T, smO_some, app_0w, e_isW, isInt, isAns]
theorem e_is_answer (a : Option Bool) (S : Cs) : sem_is_answer [.d (aO a)] S = .ok (bD true) S := by
  cases a with
  | none => simp only [sem_is_answer, b_is_answer, bodySem, startE, sRet, sRetV, sRetN, sSeq, sSet, sSkip, sExp, sIf, fSm, fC, fComp, iRng1, iSeq, iZip, iEnum, fVar, fCall, fBin, fUn, onD1, on1, evs_nil, evs_cons, frzE, ev, ev1_own, ev1_ownD, ev1_a, ev1_no, List.map_cons, List.map_nil, List.cons_append, List.nil_append, List.replicate, List.length_cons, List.length_nil, Nat.reduceAdd, Nat.reduceSub, bnd_a, bi_a, bi_own, bnd_own, List.getElem?_cons_zero, List.getElem?_cons_succ, rng1, SR.of, if_true, wipeE, List.set_cons_zero, List.set_cons_succ, rngD_map, i2n, and_self, setD, Option.map_some, gNm, gTp, o_add, o_sub, o_shr, o_band, o_lt, o_le, o_gt, o_ge, fTup, allD, zip2, zipD_map, Function.comp_def, List.map_map, own0, own1, own2, own3, own4, own5, own6, own7, own8, own9, own10, own11, own12, fLst, evsW, sFor, dom, seqD_lst, seqD_tup, Option.isSome, sNm, sTp, setW, frz1_s, frz1_0o, frz1_0a, frz1_0n, isi_int_none, isi_int_bool, isi_int_int, isi_int_str, isi_int_list, isi_int_tuple, isi_bool_none, isi_bool_bool, isi_bool_int, isi_bool_str, isi_bool_list, isi_bool_tuple, isi_str_none, isi_str_bool, isi_str_int, isi_str_str, isi_str_list, isi_str_tuple, isi_list_none, isi_list_bool, isi_list_int, isi_list_str, isi_list_list, isi_list_tuple, isi_tuple_none, isi_tuple_bool, isi_tuple_int, isi_tuple_str, isi_tuple_list, isi_tuple_tuple, isi2_tl_none, isi2_tl_bool, isi2_tl_int, isi2_tl_str, isi2_tl_list, isi2_tl_tuple, br_tt, br_ff, Bool.false_eq_true, if_false, seqD_eF, seqD_eG, isi_eF, isi_eG, isi_eT, gLen_eF, gLen_eG, gLen_lst, gLen_tup, dAll_m, dAny_m, all_tt, dInt_b, aO, fOr, dIsN]
  | some b =>
    have h := e_is_whole_aO b S
    simp only [aO] at h
    simp only [sem_is_answer, b_is_answer, bodySem, startE, sRet, sRetV, sRetN, sSeq, sSet, sSkip, sExp, sIf, fSm, fC, fComp, iRng1, iSeq, iZip, iEnum, fVar, fCall, fBin, fUn, onD1, on1, evs_nil, evs_cons, frzE, ev, ev1_own, ev1_ownD, ev1_a, ev1_no, List.map_cons, List.map_nil, List.cons_append, List.nil_append, List.replicate, List.length_cons, List.length_nil, Nat.reduceAdd, Nat.reduceSub, bnd_a, bi_a, bi_own, bnd_own, List.getElem?_cons_zero, List.getElem?_cons_succ, rng1, SR.of, if_true, wipeE, List.set_cons_zero, List.set_cons_succ, rngD_map, i2n, and_self, setD, Option.map_some, gNm, gTp, o_add, o_sub, o_shr, o_band, o_lt, o_le, o_gt, o_ge, fTup, allD, zip2, zipD_map, Function.comp_def, List.map_map, own0, own1, own2, own3, own4, own5, own6, own7, own8, own9, own10, own11, own12, fLst, evsW, sFor, dom, seqD_lst, seqD_tup, Option.isSome, sNm, sTp, setW, frz1_s, frz1_0o, frz1_0a, frz1_0n, isi_int_none, isi_int_bool, isi_int_int, isi_int_str, isi_int_list, isi_int_tuple, isi_bool_none, isi_bool_bool, isi_bool_int, isi_bool_str, isi_bool_list, isi_bool_tuple, isi_str_none, isi_str_bool, isi_str_int, isi_str_str, isi_str_list, isi_str_tuple, isi_list_none, isi_list_bool, isi_list_int, isi_list_str, isi_list_list, isi_list_tuple, isi_tuple_none, isi_tuple_bool, isi_tuple_int, isi_tuple_str, isi_tuple_list, isi_tuple_tuple, isi2_tl_none, isi2_tl_bool, isi2_tl_int, isi2_tl_str, isi2_tl_list, isi2_tl_tuple, br_tt, br_ff, Bool.false_eq_true, if_false, seqD_eF, seqD_eG, isi_eF, isi_eG, isi_eT, gLen_eF, gLen_eG, gLen_lst, gLen_tup, dAll_m, dAny_m, all_tt, dInt_b, aO, fOr, fAnd, dIsN, h]
    rw [o_in_tup _ rfl rfl]
    cases b <;> rfl
theorem e_isF (d : D) (S : Cs) : sem_is_function [.d d] S = .ok (bD (isFnD d)) S := by
  simp only [sem_is_function, b_is_function, p_body, p_skip, p_seq, p_set, p_ret, p_retN, p_retV_s, p_retV_0, p_exp, p_if, p_raise, p_app, p_ext, p_setT, p_for, p_cell', nxt_nx, nxt_rt, nxt_exc, fin_nx, fin_rt, fin_exc, set_ok, set_exc, ret_ok, ret_exc, exp_ok, exp_exc, if_tt, if_ff, if_ok, if_exc, for_ok, for_exc, app_s, app_0, app_0o, ext_s, ext_0, cons_nx, cons_exc, setT_ok, cell_ok, pop_nx, pop_rt, unC_nil, unC_n, unC_d, unC_st, no_nil, no_n, no_a, mask_nil, mask_t, mask_f, dom_nil, dom_s, dom_n, start_0, start_s, setW_nil, setW_cons, ev_nil, ev_n, ev_a, ev_o, ev_own, frzE_nil, frzE_cons, frz1_s, frz1_0o, frz1_0a, frz1_0n, sNm_ap, sTp_ap, q_var0, q_varS, q_c, q_bin, bin1_a, bin1_o, bin1_e, bin2_a, bin2_o, bin2_e, q_un, un1_a, un1_o, q_call, call_n, call_c, call1_a, call1_o, call1_e, q_tup, allD_nil, allD_cons, tupE_ap, q_lst, lst_n, lst_c, lst1_ok, q_comp, comp_ok, q_and, and_tt, and_ff, asB_ok, asB_e, and_ok, and_fold, q_or, or_tt, or_ff, or_ok, or_fold, q_not, not_ok, not_e, q_ife, ife_tt, ife_ff, ife_ok, q_seq, q_rng1, q_rng2, q_enum, q_zip, srcS_a, srcS_o, src1_a, src1_o, src2_a, src2_o, of_some, q_sl, sl_nn, sl_n, sl_s, slo_nn, slo_n, slo_s, slLo_n, slLo_s, slHi_ok, slLo_n', slLo_s', slHi_ok', q_sm, sm1_a, sm2_a, sm2_o, on1_ap, onD1_ap, true_ap, gNm_ap, gTp_ap, setD_nil, setD_cons, wipe_nil, wipe_cons, max2_ap, rng1_n, rng1_l, rng1_1, Nat.reduceAdd, Nat.reduceSub, Nat.reduceLeDiff, List.length_cons, List.length_nil, List.length_map, List.length_range, List.replicate, List.set_cons_zero, List.set_cons_succ, List.map_cons, List.map_nil, List.cons_append, List.nil_append, Option.map_some, if_true, Bool.false_eq_true, if_false, Bool.not_true, Bool.not_false, o_add, o_sub, o_shr, o_band, o_lt, o_le, o_gt, o_ge, own0, own1, own2, own3, own4, own5, own6, own7, own8, own9, own10, own11, own12, seqD_lst, seqD_tup, seqD_eF, seqD_eG, i2n, isi_eF, isi_eG, isi_eT, gLen_eF, gLen_eG, gLen_lst, gLen_tup, dAll_m, dAny_m, all_tt, dInt_b, isi_int_none, isi_int_bool, isi_int_int, isi_int_str, isi_int_list, isi_int_tuple, isi_bool_none, isi_bool_bool, isi_bool_int, isi_bool_str, isi_bool_list, isi_bool_tuple, isi_str_none, isi_str_bool, isi_str_int, isi_str_str, isi_str_list, isi_str_tuple, isi_list_none, isi_list_bool, isi_list_int, isi_list_str, isi_list_list, isi_list_tuple, isi_tuple_none, isi_tuple_bool, isi_tuple_int, isi_tuple_str, isi_tuple_list, isi_tuple_tuple, isi2_tl_none, isi2_tl_bool, isi2_tl_int, isi2_tl_str, isi2_tl_list, isi2_tl_tuple, zip2, zipD_map, isi_int_dict, isi_bool_dict, isi_str_dict, isi_list_dict, isi_tuple_dict, isi2_tl_dict, dIsN, dNotN, p_setIx, setIx1_ok, setIx2_s, bin1_w, bin1o_some, toDs_nil, toDs_a, toDs_o, ret_nxt, rngD_map, Int.reduceToNat, p_appV, appV_ok', p_forB, forB_ok, sm1_T, List.getElem?_cons_succ, List.getElem?_cons_zero, q_chain, ch1_a, ch2_a, ch3_tt, ch3_ff, ch4_a, lt_TT, par_ap, par1_ok, par2_ok, srcS_e, src1_e, src2_e, comp_e, un1_e, lst1_e, and_e, or_e, q_sm0, sm01_a, sm01_T, smO_some, app_0w]
  cases d with
  | tuple ds =>
    have hl : gLen [.d (.tuple ds)] S = .ok (iD ds.length) S := rfl
    have hc : compL (gNm 1) fTrue (fCall sem_is_answer [fVar 1]) [some (.d (.tuple ds)), none] ds S [] = .ok (ownD (ds.map fun d => .bool (isAns d))) S := by
      have := compL_m (g := gNm 1) (fe := fCall sem_is_answer [fVar 1]) (ρ := [some (.d (.tuple ds)), none]) (S := S) id (fun d => .bool (isAns d)) ds (fun d _ => ⟨_, rfl, by simp only [p_body, p_skip, p_seq, p_set, p_ret, p_retN, p_retV_s, p_retV_0, p_exp, p_if, p_raise, p_app, p_ext, p_setT, p_for, p_cell', nxt_nx, nxt_rt, nxt_exc, fin_nx, fin_rt, fin_exc, set_ok, set_exc, ret_ok, ret_exc, exp_ok, exp_exc, if_tt, if_ff, if_ok, if_exc, for_ok, for_exc, app_s, app_0, app_0o, ext_s, ext_0, cons_nx, cons_exc, setT_ok, cell_ok, pop_nx, pop_rt, unC_nil, unC_n, unC_d, unC_st, no_nil, no_n, no_a, mask_nil, mask_t, mask_f, dom_nil, dom_s, dom_n, start_0, start_s, setW_nil, setW_cons, ev_nil, ev_n, ev_a, ev_o, ev_own, frzE_nil, frzE_cons, frz1_s, frz1_0o, frz1_0a, frz1_0n, sNm_ap, sTp_ap, q_var0, q_varS, q_c, q_bin, bin1_a, bin1_o, bin1_e, bin2_a, bin2_o, bin2_e, q_un, un1_a, un1_o, q_call, call_n, call_c, call1_a, call1_o, call1_e, q_tup, allD_nil, allD_cons, tupE_ap, q_lst, lst_n, lst_c, lst1_ok, q_comp, comp_ok, q_and, and_tt, and_ff, asB_ok, asB_e, and_ok, and_fold, q_or, or_tt, or_ff, or_ok, or_fold, q_not, not_ok, not_e, q_ife, ife_tt, ife_ff, ife_ok, q_seq, q_rng1, q_rng2, q_enum, q_zip, srcS_a, srcS_o, src1_a, src1_o, src2_a, src2_o, of_some, q_sl, sl_nn, sl_n, sl_s, slo_nn, slo_n, slo_s, slLo_n, slLo_s, slHi_ok, slLo_n', slLo_s', slHi_ok', q_sm, sm1_a, sm2_a, sm2_o, on1_ap, onD1_ap, true_ap, gNm_ap, gTp_ap, setD_nil, setD_cons, wipe_nil, wipe_cons, max2_ap, rng1_n, rng1_l, rng1_1, Nat.reduceAdd, Nat.reduceSub, Nat.reduceLeDiff, List.length_cons, List.length_nil, List.length_map, List.length_range, List.replicate, List.set_cons_zero, List.set_cons_succ, List.map_cons, List.map_nil, List.cons_append, List.nil_append, Option.map_some, if_true, Bool.false_eq_true, if_false, Bool.not_true, Bool.not_false, o_add, o_sub, o_shr, o_band, o_lt, o_le, o_gt, o_ge, own0, own1, own2, own3, own4, own5, own6, own7, own8, own9, own10, own11, own12, seqD_lst, seqD_tup, seqD_eF, seqD_eG, i2n, isi_eF, isi_eG, isi_eT, gLen_eF, gLen_eG, gLen_lst, gLen_tup, dAll_m, dAny_m, all_tt, dInt_b, isi_int_none, isi_int_bool, isi_int_int, isi_int_str, isi_int_list, isi_int_tuple, isi_bool_none, isi_bool_bool, isi_bool_int, isi_bool_str, isi_bool_list, isi_bool_tuple, isi_str_none, isi_str_bool, isi_str_int, isi_str_str, isi_str_list, isi_str_tuple, isi_list_none, isi_list_bool, isi_list_int, isi_list_str, isi_list_list, isi_list_tuple, isi_tuple_none, isi_tuple_bool, isi_tuple_int, isi_tuple_str, isi_tuple_list, isi_tuple_tuple, isi2_tl_none, isi2_tl_bool, isi2_tl_int, isi2_tl_str, isi2_tl_list, isi2_tl_tuple, zip2, zipD_map, isi_int_dict, isi_bool_dict, isi_str_dict, isi_list_dict, isi_tuple_dict, isi2_tl_dict, dIsN, dNotN, p_setIx, setIx1_ok, setIx2_s, bin1_w, bin1o_some, toDs_nil, toDs_a, toDs_o, ret_nxt, rngD_map, Int.reduceToNat, p_appV, appV_ok', p_forB, forB_ok, sm1_T, List.getElem?_cons_succ, List.getElem?_cons_zero, q_chain, ch1_a, ch2_a, ch3_tt, ch3_ff, ch4_a, lt_TT, par_ap, par1_ok, par2_ok, srcS_e, src1_e, src2_e, comp_e, un1_e, lst1_e, and_e, or_e, q_sm0, sm01_a, sm01_T, smO_some, app_0w, e_isA, id]⟩)
      simpa using this
    simp only [p_body, p_skip, p_seq, p_set, p_ret, p_retN, p_retV_s, p_retV_0, p_exp, p_if, p_raise, p_app, p_ext, p_setT, p_for, p_cell', nxt_nx, nxt_rt, nxt_exc, fin_nx, fin_rt, fin_exc, set_ok, set_exc, ret_ok, ret_exc, exp_ok, exp_exc, if_tt, if_ff, if_ok, if_exc, for_ok, for_exc, app_s, app_0, app_0o, ext_s, ext_0, cons_nx, cons_exc, setT_ok, cell_ok, pop_nx, pop_rt, unC_nil, unC_n, unC_d, unC_st, no_nil, no_n, no_a, mask_nil, mask_t, mask_f, dom_nil, dom_s, dom_n, start_0, start_s, setW_nil, setW_cons, ev_nil, ev_n, ev_a, ev_o, ev_own, frzE_nil, frzE_cons, frz1_s, frz1_0o, frz1_0a, frz1_0n, sNm_ap, sTp_ap, q_var0, q_varS, q_c, q_bin, bin1_a, bin1_o, bin1_e, bin2_a, bin2_o, bin2_e, q_un, un1_a, un1_o, q_call, call_n, call_c, call1_a, call1_o, call1_e, q_tup, allD_nil, allD_cons, tupE_ap, q_lst, lst_n, lst_c, lst1_ok, q_comp, comp_ok, q_and, and_tt, and_ff, asB_ok, asB_e, and_ok, and_fold, q_or, or_tt, or_ff, or_ok, or_fold, q_not, not_ok, not_e, q_ife, ife_tt, ife_ff, ife_ok, q_seq, q_rng1, q_rng2, q_enum, q_zip, srcS_a, srcS_o, src1_a, src1_o, src2_a, src2_o, of_some, q_sl, sl_nn, sl_n, sl_s, slo_nn, slo_n, slo_s, slLo_n, slLo_s, slHi_ok, slLo_n', slLo_s', slHi_ok', q_sm, sm1_a, sm2_a, sm2_o, on1_ap, onD1_ap, true_ap, gNm_ap, gTp_ap, setD_nil, setD_cons, wipe_nil, wipe_cons, max2_ap, rng1_n, rng1_l, rng1_1, Nat.reduceAdd, Nat.reduceSub, Nat.reduceLeDiff, List.length_cons, List.length_nil, List.length_map, List.length_range, List.replicate, List.set_cons_zero, List.set_cons_succ, List.map_cons, List.map_nil, List.cons_append, List.nil_append, Option.map_some, if_true, Bool.false_eq_true, if_false, Bool.not_true, Bool.not_false, o_add, o_sub, o_shr, o_band, o_lt, o_le, o_gt, o_ge, own0, own1, own2, own3, own4, own5, own6, own7, own8, own9, own10, own11, own12, seqD_lst, seqD_tup, seqD_eF, seqD_eG, i2n, isi_eF, isi_eG, isi_eT, gLen_eF, gLen_eG, gLen_lst, gLen_tup, dAll_m, dAny_m, all_tt, dInt_b, isi_int_none, isi_int_bool, isi_int_int, isi_int_str, isi_int_list, isi_int_tuple, isi_bool_none, isi_bool_bool, isi_bool_int, isi_bool_str, isi_bool_list, isi_bool_tuple, isi_str_none, isi_str_bool, isi_str_int, isi_str_str, isi_str_list, isi_str_tuple, isi_list_none, isi_list_bool, isi_list_int, isi_list_str, isi_list_list, isi_list_tuple, isi_tuple_none, isi_tuple_bool, isi_tuple_int, isi_tuple_str, isi_tuple_list, isi_tuple_tuple, isi2_tl_none, isi2_tl_bool, isi2_tl_int, isi2_tl_str, isi2_tl_list, isi2_tl_tuple, zip2, zipD_map, isi_int_dict, isi_bool_dict, isi_str_dict, isi_list_dict, isi_tuple_dict, isi2_tl_dict, dIsN, dNotN, p_setIx, setIx1_ok, setIx2_s, bin1_w, bin1o_some, toDs_nil, toDs_a, toDs_o, ret_nxt, rngD_map, Int.reduceToNat, p_appV, appV_ok', p_forB, forB_ok, sm1_T, List.getElem?_cons_succ, List.getElem?_cons_zero, q_chain, ch1_a, ch2_a, ch3_tt, ch3_ff, ch4_a, lt_TT, par_ap, par1_ok, par2_ok, srcS_e, src1_e, src2_e, comp_e, un1_e, lst1_e, and_e, or_e, q_sm0, sm01_a, sm01_T, smO_some, app_0w, hl, dInKI, hc, isFnD, dAll_m]
  | _ => simp only [p_body, p_skip, p_seq, p_set, p_ret, p_retN, p_retV_s, p_retV_0, p_exp, p_if, p_raise, p_app, p_ext, p_setT, p_for, p_cell', nxt_nx, nxt_rt, nxt_exc, fin_nx, fin_rt, fin_exc, set_ok, set_exc, ret_ok, ret_exc, exp_ok, exp_exc, if_tt, if_ff, if_ok, if_exc, for_ok, for_exc, app_s, app_0, app_0o, ext_s, ext_0, cons_nx, cons_exc, setT_ok, cell_ok, pop_nx, pop_rt, unC_nil, unC_n, unC_d, unC_st, no_nil, no_n, no_a, mask_nil, mask_t, mask_f, dom_nil, dom_s, dom_n, start_0, start_s, setW_nil, setW_cons, ev_nil, ev_n, ev_a, ev_o, ev_own, frzE_nil, frzE_cons, frz1_s, frz1_0o, frz1_0a, frz1_0n, sNm_ap, sTp_ap, q_var0, q_varS, q_c, q_bin, bin1_a, bin1_o, bin1_e, bin2_a, bin2_o, bin2_e, q_un, un1_a, un1_o, q_call, call_n, call_c, call1_a, call1_o, call1_e, q_tup, allD_nil, allD_cons, tupE_ap, q_lst, lst_n, lst_c, lst1_ok, q_comp, comp_ok, q_and, and_tt, and_ff, asB_ok, asB_e, and_ok, and_fold, q_or, or_tt, or_ff, or_ok, or_fold, q_not, not_ok, not_e, q_ife, ife_tt, ife_ff, ife_ok, q_seq, q_rng1, q_rng2, q_enum, q_zip, srcS_a, srcS_o, src1_a, src1_o, src2_a, src2_o, of_some, q_sl, sl_nn, sl_n, sl_s, slo_nn, slo_n, slo_s, slLo_n, slLo_s, slHi_ok, slLo_n', slLo_s', slHi_ok', q_sm, sm1_a, sm2_a, sm2_o, on1_ap, onD1_ap, true_ap, gNm_ap, gTp_ap, setD_nil, setD_cons, wipe_nil, wipe_cons, max2_ap, rng1_n, rng1_l, rng1_1, Nat.reduceAdd, Nat.reduceSub, Nat.reduceLeDiff, List.length_cons, List.length_nil, List.length_map, List.length_range, List.replicate, List.set_cons_zero, List.set_cons_succ, List.map_cons, List.map_nil, List.cons_append, List.nil_append, Option.map_some, if_true, Bool.false_eq_true, if_false, Bool.not_true, Bool.not_false, o_add, o_sub, o_shr, o_band, o_lt, o_le, o_gt, o_ge, own0, own1, own2, own3, own4, own5, own6, own7, own8, own9, own10, own11, own12, seqD_lst, seqD_tup, seqD_eF, seqD_eG, i2n, isi_eF, isi_eG, isi_eT, gLen_eF, gLen_eG, gLen_lst, gLen_tup, dAll_m, dAny_m, all_tt, dInt_b, isi_int_none, isi_int_bool, isi_int_int, isi_int_str, isi_int_list, isi_int_tuple, isi_bool_none, isi_bool_bool, isi_bool_int, isi_bool_str, isi_bool_list, isi_bool_tuple, isi_str_none, isi_str_bool, isi_str_int, isi_str_str, isi_str_list, isi_str_tuple, isi_list_none, isi_list_bool, isi_list_int, isi_list_str, isi_list_list, isi_list_tuple, isi_tuple_none, isi_tuple_bool, isi_tuple_int, isi_tuple_str, isi_tuple_list, isi_tuple_tuple, isi2_tl_none, isi2_tl_bool, isi2_tl_int, isi2_tl_str, isi2_tl_list, isi2_tl_tuple, zip2, zipD_map, isi_int_dict, isi_bool_dict, isi_str_dict, isi_list_dict, isi_tuple_dict, isi2_tl_dict, dIsN, dNotN, p_setIx, setIx1_ok, setIx2_s, bin1_w, bin1o_some, toDs_nil, toDs_a, toDs_o, ret_nxt, rngD_map, Int.reduceToNat, p_appV, appV_ok', p_forB, forB_ok, sm1_T, List.getElem?_cons_succ, List.getElem?_cons_zero, q_chain, ch1_a, ch2_a, ch3_tt, ch3_ff, ch4_a, lt_TT, par_ap, par1_ok, par2_ok, srcS_e, src1_e, src2_e, comp_e, un1_e, lst1_e, and_e, or_e, q_sm0, sm01_a, sm01_T, smO_some, app_0w, isFnD]
theorem e_is_function {f : Fn} {n : Nat} (hf : f.length = 2 ^ n) (h1 : 1 ≤ n) (h4 : n ≤ 4) (S : Cs) : sem_is_function [.d (eF f)] S = .ok (bD true) S := by
  simp only [sem_is_function, b_is_function, bodySem, startE, sRet, sRetV, sRetN, sSeq, sSet, sSkip, sExp, sIf, fSm, fC, fComp, iRng1, iSeq, iZip, iEnum, fVar, fCall, fBin, fUn, onD1, on1, evs_nil, evs_cons, frzE, ev, ev1_own, ev1_ownD, ev1_a, ev1_no, List.map_cons, List.map_nil, List.cons_append, List.nil_append, List.replicate, List.length_cons, List.length_nil, Nat.reduceAdd, Nat.reduceSub, bnd_a, bi_a, bi_own, bnd_own, List.getElem?_cons_zero, List.getElem?_cons_succ, rng1, SR.of, if_true, wipeE, List.set_cons_zero, List.set_cons_succ, rngD_map, i2n, and_self, setD, Option.map_some, gNm, gTp, o_add, o_sub, o_shr, o_band, o_lt, o_le, o_gt, o_ge, fTup, allD, zip2, zipD_map, Function.comp_def, List.map_map, own0, own1, own2, own3, own4, own5, own6, own7, own8, own9, own10, own11, own12, fLst, evsW, sFor, dom, seqD_lst, seqD_tup, Option.isSome, sNm, sTp, setW, frz1_s, frz1_0o, frz1_0a, frz1_0n, isi_int_none, isi_int_bool, isi_int_int, isi_int_str, isi_int_list, isi_int_tuple, isi_bool_none, isi_bool_bool, isi_bool_int, isi_bool_str, isi_bool_list, isi_bool_tuple, isi_str_none, isi_str_bool, isi_str_int, isi_str_str, isi_str_list, isi_str_tuple, isi_list_none, isi_list_bool, isi_list_int, isi_list_str, isi_list_list, isi_list_tuple, isi_tuple_none, isi_tuple_bool, isi_tuple_int, isi_tuple_str, isi_tuple_list, isi_tuple_tuple, isi2_tl_none, isi2_tl_bool, isi2_tl_int, isi2_tl_str, isi2_tl_list, isi2_tl_tuple, br_tt, br_ff, Bool.false_eq_true, if_false, seqD_eF, seqD_eG, isi_eF, isi_eG, isi_eT, gLen_eF, gLen_eG, gLen_lst, gLen_tup, dAll_m, dAny_m, all_tt, dInt_b, fAnd, hf, dInKI, kv_at h1 h4, Option.isSome]
  rw [compL_m aO (fun _ => PyData.bool true) f]
  · simp only [bodySem, startE, sRet, sRetV, sRetN, sSeq, sSet, sSkip, sExp, sIf, fSm, fC, fComp, iRng1, iSeq, iZip, iEnum, fVar, fCall, fBin, fUn, onD1, on1, evs_nil, evs_cons, frzE, ev, ev1_own, ev1_ownD, ev1_a, ev1_no, List.map_cons, List.map_nil, List.cons_append, List.nil_append, List.replicate, List.length_cons, List.length_nil, Nat.reduceAdd, Nat.reduceSub, bnd_a, bi_a, bi_own, bnd_own, List.getElem?_cons_zero, List.getElem?_cons_succ, rng1, SR.of, if_true, wipeE, List.set_cons_zero, List.set_cons_succ, rngD_map, i2n, and_self, setD, Option.map_some, gNm, gTp, o_add, o_sub, o_shr, o_band, o_lt, o_le, o_gt, o_ge, fTup, allD, zip2, zipD_map, Function.comp_def, List.map_map, own0, own1, own2, own3, own4, own5, own6, own7, own8, own9, own10, own11, own12, fLst, evsW, sFor, dom, seqD_lst, seqD_tup, Option.isSome, sNm, sTp, setW, frz1_s, frz1_0o, frz1_0a, frz1_0n, isi_int_none, isi_int_bool, isi_int_int, isi_int_str, isi_int_list, isi_int_tuple, isi_bool_none, isi_bool_bool, isi_bool_int, isi_bool_str, isi_bool_list, isi_bool_tuple, isi_str_none, isi_str_bool, isi_str_int, isi_str_str, isi_str_list, isi_str_tuple, isi_list_none, isi_list_bool, isi_list_int, isi_list_str, isi_list_list, isi_list_tuple, isi_tuple_none, isi_tuple_bool, isi_tuple_int, isi_tuple_str, isi_tuple_list, isi_tuple_tuple, isi2_tl_none, isi2_tl_bool, isi2_tl_int, isi2_tl_str, isi2_tl_list, isi2_tl_tuple, br_tt, br_ff, Bool.false_eq_true, if_false, seqD_eF, seqD_eG, isi_eF, isi_eG, isi_eT, gLen_eF, gLen_eG, gLen_lst, gLen_tup, dAll_m, dAny_m, all_tt, dInt_b, dAll_tt]
  · intro a ha
    refine ⟨_, rfl, ?_⟩
    simp only [bodySem, startE, sRet, sRetV, sRetN, sSeq, sSet, sSkip, sExp, sIf, fSm, fC, fComp, iRng1, iSeq, iZip, iEnum, fVar, fCall, fBin, fUn, onD1, on1, evs_nil, evs_cons, frzE, ev, ev1_own, ev1_ownD, ev1_a, ev1_no, List.map_cons, List.map_nil, List.cons_append, List.nil_append, List.replicate, List.length_cons, List.length_nil, Nat.reduceAdd, Nat.reduceSub, bnd_a, bi_a, bi_own, bnd_own, List.getElem?_cons_zero, List.getElem?_cons_succ, rng1, SR.of, if_true, wipeE, List.set_cons_zero, List.set_cons_succ, rngD_map, i2n, and_self, setD, Option.map_some, gNm, gTp, o_add, o_sub, o_shr, o_band, o_lt, o_le, o_gt, o_ge, fTup, allD, zip2, zipD_map, Function.comp_def, List.map_map, own0, own1, own2, own3, own4, own5, own6, own7, own8, own9, own10, own11, own12, fLst, evsW, sFor, dom, seqD_lst, seqD_tup, Option.isSome, sNm, sTp, setW, frz1_s, frz1_0o, frz1_0a, frz1_0n, isi_int_none, isi_int_bool, isi_int_int, isi_int_str, isi_int_list, isi_int_tuple, isi_bool_none, isi_bool_bool, isi_bool_int, isi_bool_str, isi_bool_list, isi_bool_tuple, isi_str_none, isi_str_bool, isi_str_int, isi_str_str, isi_str_list, isi_str_tuple, isi_list_none, isi_list_bool, isi_list_int, isi_list_str, isi_list_list, isi_list_tuple, isi_tuple_none, isi_tuple_bool, isi_tuple_int, isi_tuple_str, isi_tuple_list, isi_tuple_tuple, isi2_tl_none, isi2_tl_bool, isi2_tl_int, isi2_tl_str, isi2_tl_list, isi2_tl_tuple, br_tt, br_ff, Bool.false_eq_true, if_false, seqD_eF, seqD_eG, isi_eF, isi_eG, isi_eT, gLen_eF, gLen_eG, gLen_lst, gLen_tup, dAll_m, dAny_m, all_tt, dInt_b, e_is_answer]
theorem e_need_function {d : D} (h : isFnD d = true) (S : Cs) (hS : flatCs S = true) : sem_need_function [.d d] S = .ok nD S := by
  simp only [sem_need_function, b_need_function, p_body, p_skip, p_seq, p_set, p_ret, p_retN, p_retV_s, p_retV_0, p_exp, p_if, p_raise, p_app, p_ext, p_setT, p_for, p_cell', nxt_nx, nxt_rt, nxt_exc, fin_nx, fin_rt, fin_exc, set_ok, set_exc, ret_ok, ret_exc, exp_ok, exp_exc, if_tt, if_ff, if_ok, if_exc, for_ok, for_exc, app_s, app_0, app_0o, ext_s, ext_0, cons_nx, cons_exc, setT_ok, cell_ok, pop_nx, pop_rt, unC_nil, unC_n, unC_d, unC_st, no_nil, no_n, no_a, mask_nil, mask_t, mask_f, dom_nil, dom_s, dom_n, start_0, start_s, setW_nil, setW_cons, ev_nil, ev_n, ev_a, ev_o, ev_own, frzE_nil, frzE_cons, frz1_s, frz1_0o, frz1_0a, frz1_0n, sNm_ap, sTp_ap, q_var0, q_varS, q_c, q_bin, bin1_a, bin1_o, bin1_e, bin2_a, bin2_o, bin2_e, q_un, un1_a, un1_o, q_call, call_n, call_c, call1_a, call1_o, call1_e, q_tup, allD_nil, allD_cons, tupE_ap, q_lst, lst_n, lst_c, lst1_ok, q_comp, comp_ok, q_and, and_tt, and_ff, asB_ok, asB_e, and_ok, and_fold, q_or, or_tt, or_ff, or_ok, or_fold, q_not, not_ok, not_e, q_ife, ife_tt, ife_ff, ife_ok, q_seq, q_rng1, q_rng2, q_enum, q_zip, srcS_a, srcS_o, src1_a, src1_o, src2_a, src2_o, of_some, q_sl, sl_nn, sl_n, sl_s, slo_nn, slo_n, slo_s, slLo_n, slLo_s, slHi_ok, slLo_n', slLo_s', slHi_ok', q_sm, sm1_a, sm2_a, sm2_o, on1_ap, onD1_ap, true_ap, gNm_ap, gTp_ap, setD_nil, setD_cons, wipe_nil, wipe_cons, max2_ap, rng1_n, rng1_l, rng1_1, Nat.reduceAdd, Nat.reduceSub, Nat.reduceLeDiff, List.length_cons, List.length_nil, List.length_map, List.length_range, List.replicate, List.set_cons_zero, List.set_cons_succ, List.map_cons, List.map_nil, List.cons_append, List.nil_append, Option.map_some, if_true, Bool.false_eq_true, if_false, Bool.not_true, Bool.not_false, o_add, o_sub, o_shr, o_band, o_lt, o_le, o_gt, o_ge, own0, own1, own2, own3, own4, own5, own6, own7, own8, own9, own10, own11, own12, seqD_lst, seqD_tup, seqD_eF, seqD_eG, i2n, isi_eF, isi_eG, isi_eT, gLen_eF, gLen_eG, gLen_lst, gLen_tup, dAll_m, dAny_m, all_tt, dInt_b, isi_int_none, isi_int_bool, isi_int_int, isi_int_str, isi_int_list, isi_int_tuple, isi_bool_none, isi_bool_bool, isi_bool_int, isi_bool_str, isi_bool_list, isi_bool_tuple, isi_str_none, isi_str_bool, isi_str_int, isi_str_str, isi_str_list, isi_str_tuple, isi_list_none, isi_list_bool, isi_list_int, isi_list_str, isi_list_list, isi_list_tuple, isi_tuple_none, isi_tuple_bool, isi_tuple_int, isi_tuple_str, isi_tuple_list, isi_tuple_tuple, isi2_tl_none, isi2_tl_bool, isi2_tl_int, isi2_tl_str, isi2_tl_list, isi2_tl_tuple, zip2, zipD_map, isi_int_dict, isi_bool_dict, isi_str_dict, isi_list_dict, isi_tuple_dict, isi2_tl_dict, dIsN, dNotN, p_setIx, setIx1_ok, setIx2_s, bin1_w, bin1o_some, toDs_nil, toDs_a, toDs_o, ret_nxt, rngD_map, Int.reduceToNat, p_appV, appV_ok', p_forB, forB_ok, sm1_T, List.getElem?_cons_succ, List.getElem?_cons_zero, q_chain, ch1_a, ch2_a, ch3_tt, ch3_ff, ch4_a, lt_TT, par_ap, par1_ok, par2_ok, srcS_e, src1_e, src2_e, comp_e, un1_e, lst1_e, and_e, or_e, q_sm0, sm01_a, sm01_T, smO_some, app_0w, e_isF, h, hS]
theorem e_need_function0 {d : D} (h : isFnD d = false) (S : Cs) (hS : flatCs S = true) : sem_need_function [.d d] S = .exc "NoFunction" S := by
  simp only [sem_need_function, b_need_function, p_body, p_skip, p_seq, p_set, p_ret, p_retN, p_retV_s, p_retV_0, p_exp, p_if, p_raise, p_app, p_ext, p_setT, p_for, p_cell', nxt_nx, nxt_rt, nxt_exc, fin_nx, fin_rt, fin_exc, set_ok, set_exc, ret_ok, ret_exc, exp_ok, exp_exc, if_tt, if_ff, if_ok, if_exc, for_ok, for_exc, app_s, app_0, app_0o, ext_s, ext_0, cons_nx, cons_exc, setT_ok, cell_ok, pop_nx, pop_rt, unC_nil, unC_n, unC_d, unC_st, no_nil, no_n, no_a, mask_nil, mask_t, mask_f, dom_nil, dom_s, dom_n, start_0, start_s, setW_nil, setW_cons, ev_nil, ev_n, ev_a, ev_o, ev_own, frzE_nil, frzE_cons, frz1_s, frz1_0o, frz1_0a, frz1_0n, sNm_ap, sTp_ap, q_var0, q_varS, q_c, q_bin, bin1_a, bin1_o, bin1_e, bin2_a, bin2_o, bin2_e, q_un, un1_a, un1_o, q_call, call_n, call_c, call1_a, call1_o, call1_e, q_tup, allD_nil, allD_cons, tupE_ap, q_lst, lst_n, lst_c, lst1_ok, q_comp, comp_ok, q_and, and_tt, and_ff, asB_ok, asB_e, and_ok, and_fold, q_or, or_tt, or_ff, or_ok, or_fold, q_not, not_ok, not_e, q_ife, ife_tt, ife_ff, ife_ok, q_seq, q_rng1, q_rng2, q_enum, q_zip, srcS_a, srcS_o, src1_a, src1_o, src2_a, src2_o, of_some, q_sl, sl_nn, sl_n, sl_s, slo_nn, slo_n, slo_s, slLo_n, slLo_s, slHi_ok, slLo_n', slLo_s', slHi_ok', q_sm, sm1_a, sm2_a, sm2_o, on1_ap, onD1_ap, true_ap, gNm_ap, gTp_ap, setD_nil, setD_cons, wipe_nil, wipe_cons, max2_ap, rng1_n, rng1_l, rng1_1, Nat.reduceAdd, Nat.reduceSub, Nat.reduceLeDiff, List.length_cons, List.length_nil, List.length_map, List.length_range, List.replicate, List.set_cons_zero, List.set_cons_succ, List.map_cons, List.map_nil, List.cons_append, List.nil_append, Option.map_some, if_true, Bool.false_eq_true, if_false, Bool.not_true, Bool.not_false, o_add, o_sub, o_shr, o_band, o_lt, o_le, o_gt, o_ge, own0, own1, own2, own3, own4, own5, own6, own7, own8, own9, own10, own11, own12, seqD_lst, seqD_tup, seqD_eF, seqD_eG, i2n, isi_eF, isi_eG, isi_eT, gLen_eF, gLen_eG, gLen_lst, gLen_tup, dAll_m, dAny_m, all_tt, dInt_b, isi_int_none, isi_int_bool, isi_int_int, isi_int_str, isi_int_list, isi_int_tuple, isi_bool_none, isi_bool_bool, isi_bool_int, isi_bool_str, isi_bool_list, isi_bool_tuple, isi_str_none, isi_str_bool, isi_str_int, isi_str_str, isi_str_list, isi_str_tuple, isi_list_none, isi_list_bool, isi_list_int, isi_list_str, isi_list_list, isi_list_tuple, isi_tuple_none, isi_tuple_bool, isi_tuple_int, isi_tuple_str, isi_tuple_list, isi_tuple_tuple, isi2_tl_none, isi2_tl_bool, isi2_tl_int, isi2_tl_str, isi2_tl_list, isi2_tl_tuple, zip2, zipD_map, isi_int_dict, isi_bool_dict, isi_str_dict, isi_list_dict, isi_tuple_dict, isi2_tl_dict, dIsN, dNotN, p_setIx, setIx1_ok, setIx2_s, bin1_w, bin1o_some, toDs_nil, toDs_a, toDs_o, ret_nxt, rngD_map, Int.reduceToNat, p_appV, appV_ok', p_forB, forB_ok, sm1_T, List.getElem?_cons_succ, List.getElem?_cons_zero, q_chain, ch1_a, ch2_a, ch3_tt, ch3_ff, ch4_a, lt_TT, par_ap, par1_ok, par2_ok, srcS_e, src1_e, src2_e, comp_e, un1_e, lst1_e, and_e, or_e, q_sm0, sm01_a, sm01_T, smO_some, app_0w, e_isF, h, hS]
theorem e_need_number {n : Int} (h : 1 ≤ n ∧ n ≤ 4) (S : Cs) (hS : flatCs S = true) : sem_need_number [.d (.int n), .d (.int 4)] S = .ok nD S := by
  simp only [sem_need_number, b_need_number, p_body, p_skip, p_seq, p_set, p_ret, p_retN, p_retV_s, p_retV_0, p_exp, p_if, p_raise, p_app, p_ext, p_setT, p_for, p_cell', nxt_nx, nxt_rt, nxt_exc, fin_nx, fin_rt, fin_exc, set_ok, set_exc, ret_ok, ret_exc, exp_ok, exp_exc, if_tt, if_ff, if_ok, if_exc, for_ok, for_exc, app_s, app_0, app_0o, ext_s, ext_0, cons_nx, cons_exc, setT_ok, cell_ok, pop_nx, pop_rt, unC_nil, unC_n, unC_d, unC_st, no_nil, no_n, no_a, mask_nil, mask_t, mask_f, dom_nil, dom_s, dom_n, start_0, start_s, setW_nil, setW_cons, ev_nil, ev_n, ev_a, ev_o, ev_own, frzE_nil, frzE_cons, frz1_s, frz1_0o, frz1_0a, frz1_0n, sNm_ap, sTp_ap, q_var0, q_varS, q_c, q_bin, bin1_a, bin1_o, bin1_e, bin2_a, bin2_o, bin2_e, q_un, un1_a, un1_o, q_call, call_n, call_c, call1_a, call1_o, call1_e, q_tup, allD_nil, allD_cons, tupE_ap, q_lst, lst_n, lst_c, lst1_ok, q_comp, comp_ok, q_and, and_tt, and_ff, asB_ok, asB_e, and_ok, and_fold, q_or, or_tt, or_ff, or_ok, or_fold, q_not, not_ok, not_e, q_ife, ife_tt, ife_ff, ife_ok, q_seq, q_rng1, q_rng2, q_enum, q_zip, srcS_a, srcS_o, src1_a, src1_o, src2_a, src2_o, of_some, q_sl, sl_nn, sl_n, sl_s, slo_nn, slo_n, slo_s, slLo_n, slLo_s, slHi_ok, slLo_n', slLo_s', slHi_ok', q_sm, sm1_a, sm2_a, sm2_o, on1_ap, onD1_ap, true_ap, gNm_ap, gTp_ap, setD_nil, setD_cons, wipe_nil, wipe_cons, max2_ap, rng1_n, rng1_l, rng1_1, Nat.reduceAdd, Nat.reduceSub, Nat.reduceLeDiff, List.length_cons, List.length_nil, List.length_map, List.length_range, List.replicate, List.set_cons_zero, List.set_cons_succ, List.map_cons, List.map_nil, List.cons_append, List.nil_append, Option.map_some, if_true, Bool.false_eq_true, if_false, Bool.not_true, Bool.not_false, o_add, o_sub, o_shr, o_band, o_lt, o_le, o_gt, o_ge, own0, own1, own2, own3, own4, own5, own6, own7, own8, own9, own10, own11, own12, seqD_lst, seqD_tup, seqD_eF, seqD_eG, i2n, isi_eF, isi_eG, isi_eT, gLen_eF, gLen_eG, gLen_lst, gLen_tup, dAll_m, dAny_m, all_tt, dInt_b, isi_int_none, isi_int_bool, isi_int_int, isi_int_str, isi_int_list, isi_int_tuple, isi_bool_none, isi_bool_bool, isi_bool_int, isi_bool_str, isi_bool_list, isi_bool_tuple, isi_str_none, isi_str_bool, isi_str_int, isi_str_str, isi_str_list, isi_str_tuple, isi_list_none, isi_list_bool, isi_list_int, isi_list_str, isi_list_list, isi_list_tuple, isi_tuple_none, isi_tuple_bool, isi_tuple_int, isi_tuple_str, isi_tuple_list, isi_tuple_tuple, isi2_tl_none, isi2_tl_bool, isi2_tl_int, isi2_tl_str, isi2_tl_list, isi2_tl_tuple, zip2, zipD_map, isi_int_dict, isi_bool_dict, isi_str_dict, isi_list_dict, isi_tuple_dict, isi2_tl_dict, dIsN, dNotN, p_setIx, setIx1_ok, setIx2_s, bin1_w, bin1o_some, toDs_nil, toDs_a, toDs_o, ret_nxt, rngD_map, Int.reduceToNat, p_appV, appV_ok', p_forB, forB_ok, sm1_T, List.getElem?_cons_succ, List.getElem?_cons_zero, q_chain, ch1_a, ch2_a, ch3_tt, ch3_ff, ch4_a, lt_TT, par_ap, par1_ok, par2_ok, srcS_e, src1_e, src2_e, comp_e, un1_e, lst1_e, and_e, or_e, q_sm0, sm01_a, sm01_T, smO_some, app_0w, e_isW, isInt, decide_eq_true h.1, decide_eq_true h.2, hS]
theorem e_need_number0 {d : D} (h : ∀ n, d = .int n → ¬ (1 ≤ n ∧ n ≤ 4)) (S : Cs) (hS : flatCs S = true) : sem_need_number [.d d, .d (.int 4)] S = .exc "NoNumber" S := by
  cases d with
  | int n =>
    have h := h n rfl
    by_cases h1 : 1 ≤ n
    · have h2 : ¬ n ≤ 4 := fun z => h ⟨h1, z⟩
      simp only [sem_need_number, b_need_number, p_body, p_skip, p_seq, p_set, p_ret, p_retN, p_retV_s, p_retV_0, p_exp, p_if, p_raise, p_app, p_ext, p_setT, p_for, p_cell', nxt_nx, nxt_rt, nxt_exc, fin_nx, fin_rt, fin_exc, set_ok, set_exc, ret_ok, ret_exc, exp_ok, exp_exc, if_tt, if_ff, if_ok, if_exc, for_ok, for_exc, app_s, app_0, app_0o, ext_s, ext_0, cons_nx, cons_exc, setT_ok, cell_ok, pop_nx, pop_rt, unC_nil, unC_n, unC_d, unC_st, no_nil, no_n, no_a, mask_nil, mask_t, mask_f, dom_nil, dom_s, dom_n, start_0, start_s, setW_nil, setW_cons, ev_nil, ev_n, ev_a, ev_o, ev_own, frzE_nil, frzE_cons, frz1_s, frz1_0o, frz1_0a, frz1_0n, sNm_ap, sTp_ap, q_var0, q_varS, q_c, q_bin, bin1_a, bin1_o, bin1_e, bin2_a, bin2_o, bin2_e, q_un, un1_a, un1_o, q_call, call_n, call_c, call1_a, call1_o, call1_e, q_tup, allD_nil, allD_cons, tupE_ap, q_lst, lst_n, lst_c, lst1_ok, q_comp, comp_ok, q_and, and_tt, and_ff, asB_ok, asB_e, and_ok, and_fold, q_or, or_tt, or_ff, or_ok, or_fold, q_not, not_ok, not_e, q_ife, ife_tt, ife_ff, ife_ok, q_seq, q_rng1, q_rng2, q_enum, q_zip, srcS_a, srcS_o, src1_a, src1_o, src2_a, src2_o, of_some, q_sl, sl_nn, sl_n, sl_s, slo_nn, slo_n, slo_s, slLo_n, slLo_s, slHi_ok, slLo_n', slLo_s', slHi_ok', q_sm, sm1_a, sm2_a, sm2_o, on1_ap, onD1_ap, true_ap, gNm_ap, gTp_ap, setD_nil, setD_cons, wipe_nil, wipe_cons, max2_ap, rng1_n, rng1_l, rng1_1, Nat.reduceAdd, Nat.reduceSub, Nat.reduceLeDiff, List.length_cons, List.length_nil, List.length_map, List.length_range, List.replicate, List.set_cons_zero, List.set_cons_succ, List.map_cons, List.map_nil, List.cons_append, List.nil_append, Option.map_some, if_true, Bool.false_eq_true, if_false, Bool.not_true, Bool.not_false, o_add, o_sub, o_shr, o_band, o_lt, o_le, o_gt, o_ge, own0, own1, own2, own3, own4, own5, own6, own7, own8, own9, own10, own11, own12, seqD_lst, seqD_tup, seqD_eF, seqD_eG, i2n, isi_eF, isi_eG, isi_eT, gLen_eF, gLen_eG, gLen_lst, gLen_tup, dAll_m, dAny_m, all_tt, dInt_b, isi_int_none, isi_int_bool, isi_int_int, isi_int_str, isi_int_list, isi_int_tuple, isi_bool_none, isi_bool_bool, isi_bool_int, isi_bool_str, isi_bool_list, isi_bool_tuple, isi_str_none, isi_str_bool, isi_str_int, isi_str_str, isi_str_list, isi_str_tuple, isi_list_none, isi_list_bool, isi_list_int, isi_list_str, isi_list_list, isi_list_tuple, isi_tuple_none, isi_tuple_bool, isi_tuple_int, isi_tuple_str, isi_tuple_list, isi_tuple_tuple, isi2_tl_none, isi2_tl_bool, isi2_tl_int, isi2_tl_str, isi2_tl_list, isi2_tl_tuple, zip2, zipD_map, isi_int_dict, isi_bool_dict, isi_str_dict, isi_list_dict, isi_tuple_dict, isi2_tl_dict, dIsN, dNotN, p_setIx, setIx1_ok, setIx2_s, bin1_w, bin1o_some, toDs_nil, toDs_a, toDs_o, ret_nxt, rngD_map, Int.reduceToNat, p_appV, appV_ok', p_forB, forB_ok, sm1_T, List.getElem?_cons_succ, List.getElem?_cons_zero, q_chain, ch1_a, ch2_a, ch3_tt, ch3_ff, ch4_a, lt_TT, par_ap, par1_ok, par2_ok, srcS_e, src1_e, src2_e, comp_e, un1_e, lst1_e, and_e, or_e, q_sm0, sm01_a, sm01_T, smO_some, app_0w, e_isW, isInt, decide_eq_true h1, decide_eq_false h2, hS]
    · simp only [sem_need_number, b_need_number, p_body, p_skip, p_seq, p_set, p_ret, p_retN, p_retV_s, p_retV_0, p_exp, p_if, p_raise, p_app, p_ext, p_setT, p_for, p_cell', nxt_nx, nxt_rt, nxt_exc, fin_nx, fin_rt, fin_exc, set_ok, set_exc, ret_ok, ret_exc, exp_ok, exp_exc, if_tt, if_ff, if_ok, if_exc, for_ok, for_exc, app_s, app_0, app_0o, ext_s, ext_0, cons_nx, cons_exc, setT_ok, cell_ok, pop_nx, pop_rt, unC_nil, unC_n, unC_d, unC_st, no_nil, no_n, no_a, mask_nil, mask_t, mask_f, dom_nil, dom_s, dom_n, start_0, start_s, setW_nil, setW_cons, ev_nil, ev_n, ev_a, ev_o, ev_own, frzE_nil, frzE_cons, frz1_s, frz1_0o, frz1_0a, frz1_0n, sNm_ap, sTp_ap, q_var0, q_varS, q_c, q_bin, bin1_a, bin1_o, bin1_e, bin2_a, bin2_o, bin2_e, q_un, un1_a, un1_o, q_call, call_n, call_c, call1_a, call1_o, call1_e, q_tup, allD_nil, allD_cons, tupE_ap, q_lst, lst_n, lst_c, lst1_ok, q_comp, comp_ok, q_and, and_tt, and_ff, asB_ok, asB_e, and_ok, and_fold, q_or, or_tt, or_ff, or_ok, or_fold, q_not, not_ok, not_e, q_ife, ife_tt, ife_ff, ife_ok, q_seq, q_rng1, q_rng2, q_enum, q_zip, srcS_a, srcS_o, src1_a, src1_o, src2_a, src2_o, of_some, q_sl, sl_nn, sl_n, sl_s, slo_nn, slo_n, slo_s, slLo_n, slLo_s, slHi_ok, slLo_n', slLo_s', slHi_ok', q_sm, sm1_a, sm2_a, sm2_o, on1_ap, onD1_ap, true_ap, gNm_ap, gTp_ap, setD_nil, setD_cons, wipe_nil, wipe_cons, max2_ap, rng1_n, rng1_l, rng1_1, Nat.reduceAdd, Nat.reduceSub, Nat.reduceLeDiff, List.length_cons, List.length_nil, List.length_map, List.length_range, List.replicate, List.set_cons_zero, List.set_cons_succ, List.map_cons, List.map_nil, List.cons_append, List.nil_append, Option.map_some, if_true, Bool.false_eq_true, if_false, Bool.not_true, Bool.not_false, o_add, o_sub, o_shr, o_band, o_lt, o_le, o_gt, o_ge, own0, own1, own2, own3, own4, own5, own6, own7, own8, own9, own10, own11, own12, seqD_lst, seqD_tup, seqD_eF, seqD_eG, i2n, isi_eF, isi_eG, isi_eT, gLen_eF, gLen_eG, gLen_lst, gLen_tup, dAll_m, dAny_m, all_tt, dInt_b, isi_int_none, isi_int_bool, isi_int_int, isi_int_str, isi_int_list, isi_int_tuple, isi_bool_none, isi_bool_bool, isi_bool_int, isi_bool_str, isi_bool_list, isi_bool_tuple, isi_str_none, isi_str_bool, isi_str_int, isi_str_str, isi_str_list, isi_str_tuple, isi_list_none, isi_list_bool, isi_list_int, isi_list_str, isi_list_list, isi_list_tuple, isi_tuple_none, isi_tuple_bool, isi_tuple_int, isi_tuple_str, isi_tuple_list, isi_tuple_tuple, isi2_tl_none, isi2_tl_bool, isi2_tl_int, isi2_tl_str, isi2_tl_list, isi2_tl_tuple, zip2, zipD_map, isi_int_dict, isi_bool_dict, isi_str_dict, isi_list_dict, isi_tuple_dict, isi2_tl_dict, dIsN, dNotN, p_setIx, setIx1_ok, setIx2_s, bin1_w, bin1o_some, toDs_nil, toDs_a, toDs_o, ret_nxt, rngD_map, Int.reduceToNat, p_appV, appV_ok', p_forB, forB_ok, sm1_T, List.getElem?_cons_succ, List.getElem?_cons_zero, q_chain, ch1_a, ch2_a, ch3_tt, ch3_ff, ch4_a, lt_TT, par_ap, par1_ok, par2_ok, srcS_e, src1_e, src2_e, comp_e, un1_e, lst1_e, and_e, or_e, q_sm0, sm01_a, sm01_T, smO_some, app_0w, e_isW, isInt, decide_eq_false h1, hS]
  | _ => simp only [sem_need_number, b_need_number, p_body, p_skip, p_seq, p_set, p_ret, p_retN, p_retV_s, p_retV_0, p_exp, p_if, p_raise, p_app, p_ext, p_setT, p_for, p_cell', nxt_nx, nxt_rt, nxt_exc, fin_nx, fin_rt, fin_exc, set_ok, set_exc, ret_ok, ret_exc, exp_ok, exp_exc, if_tt, if_ff, if_ok, if_exc, for_ok, for_exc, app_s, app_0, app_0o, ext_s, ext_0, cons_nx, cons_exc, setT_ok, cell_ok, pop_nx, pop_rt, unC_nil, unC_n, unC_d, unC_st, no_nil, no_n, no_a, mask_nil, mask_t, mask_f, dom_nil, dom_s, dom_n, start_0, start_s, setW_nil, setW_cons, ev_nil, ev_n, ev_a, ev_o, ev_own, frzE_nil, frzE_cons, frz1_s, frz1_0o, frz1_0a, frz1_0n, sNm_ap, sTp_ap, q_var0, q_varS, q_c, q_bin, bin1_a, bin1_o, bin1_e, bin2_a, bin2_o, bin2_e, q_un, un1_a, un1_o, q_call, call_n, call_c, call1_a, call1_o, call1_e, q_tup, allD_nil, allD_cons, tupE_ap, q_lst, lst_n, lst_c, lst1_ok, q_comp, comp_ok, q_and, and_tt, and_ff, asB_ok, asB_e, and_ok, and_fold, q_or, or_tt, or_ff, or_ok, or_fold, q_not, not_ok, not_e, q_ife, ife_tt, ife_ff, ife_ok, q_seq, q_rng1, q_rng2, q_enum, q_zip, srcS_a, srcS_o, src1_a, src1_o, src2_a, src2_o, of_some, q_sl, sl_nn, sl_n, sl_s, slo_nn, slo_n, slo_s, slLo_n, slLo_s, slHi_ok, slLo_n', slLo_s', slHi_ok', q_sm, sm1_a, sm2_a, sm2_o, on1_ap, onD1_ap, true_ap, gNm_ap, gTp_ap, setD_nil, setD_cons, wipe_nil, wipe_cons, max2_ap, rng1_n, rng1_l, rng1_1, Nat.reduceAdd, Nat.reduceSub, Nat.reduceLeDiff, List.length_cons, List.length_nil, List.length_map, List.length_range, List.replicate, List.set_cons_zero, List.set_cons_succ, List.map_cons, List.map_nil, List.cons_append, List.nil_append, Option.map_some, if_true, Bool.false_eq_true, if_false, Bool.not_true, Bool.not_false, o_add, o_sub, o_shr, o_band, o_lt, o_le, o_gt, o_ge, own0, own1, own2, own3, own4, own5, own6, own7, own8, own9, own10, own11, own12, seqD_lst, seqD_tup, seqD_eF, seqD_eG, i2n, isi_eF, isi_eG, isi_eT, gLen_eF, gLen_eG, gLen_lst, gLen_tup, dAll_m, dAny_m, all_tt, dInt_b, isi_int_none, isi_int_bool, isi_int_int, isi_int_str, isi_int_list, isi_int_tuple, isi_bool_none, isi_bool_bool, isi_bool_int, isi_bool_str, isi_bool_list, isi_bool_tuple, isi_str_none, isi_str_bool, isi_str_int, isi_str_str, isi_str_list, isi_str_tuple, isi_list_none, isi_list_bool, isi_list_int, isi_list_str, isi_list_list, isi_list_tuple, isi_tuple_none, isi_tuple_bool, isi_tuple_int, isi_tuple_str, isi_tuple_list, isi_tuple_tuple, isi2_tl_none, isi2_tl_bool, isi2_tl_int, isi2_tl_str, isi2_tl_list, isi2_tl_tuple, zip2, zipD_map, isi_int_dict, isi_bool_dict, isi_str_dict, isi_list_dict, isi_tuple_dict, isi2_tl_dict, dIsN, dNotN, p_setIx, setIx1_ok, setIx2_s, bin1_w, bin1o_some, toDs_nil, toDs_a, toDs_o, ret_nxt, rngD_map, Int.reduceToNat, p_appV, appV_ok', p_forB, forB_ok, sm1_T, List.getElem?_cons_succ, List.getElem?_cons_zero, q_chain, ch1_a, ch2_a, ch3_tt, ch3_ff, ch4_a, lt_TT, par_ap, par1_ok, par2_ok, srcS_e, src1_e, src2_e, comp_e, un1_e, lst1_e, and_e, or_e, q_sm0, sm01_a, sm01_T, smO_some, app_0w, e_isW, isInt, hS]
theorem e_term_good (n : Nat) {d : D} (hd : shortD d) (S : Cs) : sem_term_good [.d (.int n), .d d] S = .ok (bD (isTmD n d)) S := by
  simp only [sem_term_good, b_term_good, p_body, p_skip, p_seq, p_set, p_ret, p_retN, p_retV_s, p_retV_0, p_exp, p_if, p_raise, p_app, p_ext, p_setT, p_for, p_cell', nxt_nx, nxt_rt, nxt_exc, fin_nx, fin_rt, fin_exc, set_ok, set_exc, ret_ok, ret_exc, exp_ok, exp_exc, if_tt, if_ff, if_ok, if_exc, for_ok, for_exc, app_s, app_0, app_0o, ext_s, ext_0, cons_nx, cons_exc, setT_ok, cell_ok, pop_nx, pop_rt, unC_nil, unC_n, unC_d, unC_st, no_nil, no_n, no_a, mask_nil, mask_t, mask_f, dom_nil, dom_s, dom_n, start_0, start_s, setW_nil, setW_cons, ev_nil, ev_n, ev_a, ev_o, ev_own, frzE_nil, frzE_cons, frz1_s, frz1_0o, frz1_0a, frz1_0n, sNm_ap, sTp_ap, q_var0, q_varS, q_c, q_bin, bin1_a, bin1_o, bin1_e, bin2_a, bin2_o, bin2_e, q_un, un1_a, un1_o, q_call, call_n, call_c, call1_a, call1_o, call1_e, q_tup, allD_nil, allD_cons, tupE_ap, q_lst, lst_n, lst_c, lst1_ok, q_comp, comp_ok, q_and, and_tt, and_ff, asB_ok, asB_e, and_ok, and_fold, q_or, or_tt, or_ff, or_ok, or_fold, q_not, not_ok, not_e, q_ife, ife_tt, ife_ff, ife_ok, q_seq, q_rng1, q_rng2, q_enum, q_zip, srcS_a, srcS_o, src1_a, src1_o, src2_a, src2_o, of_some, q_sl, sl_nn, sl_n, sl_s, slo_nn, slo_n, slo_s, slLo_n, slLo_s, slHi_ok, slLo_n', slLo_s', slHi_ok', q_sm, sm1_a, sm2_a, sm2_o, on1_ap, onD1_ap, true_ap, gNm_ap, gTp_ap, setD_nil, setD_cons, wipe_nil, wipe_cons, max2_ap, rng1_n, rng1_l, rng1_1, Nat.reduceAdd, Nat.reduceSub, Nat.reduceLeDiff, List.length_cons, List.length_nil, List.length_map, List.length_range, List.replicate, List.set_cons_zero, List.set_cons_succ, List.map_cons, List.map_nil, List.cons_append, List.nil_append, Option.map_some, if_true, Bool.false_eq_true, if_false, Bool.not_true, Bool.not_false, o_add, o_sub, o_shr, o_band, o_lt, o_le, o_gt, o_ge, own0, own1, own2, own3, own4, own5, own6, own7, own8, own9, own10, own11, own12, seqD_lst, seqD_tup, seqD_eF, seqD_eG, i2n, isi_eF, isi_eG, isi_eT, gLen_eF, gLen_eG, gLen_lst, gLen_tup, dAll_m, dAny_m, all_tt, dInt_b, isi_int_none, isi_int_bool, isi_int_int, isi_int_str, isi_int_list, isi_int_tuple, isi_bool_none, isi_bool_bool, isi_bool_int, isi_bool_str, isi_bool_list, isi_bool_tuple, isi_str_none, isi_str_bool, isi_str_int, isi_str_str, isi_str_list, isi_str_tuple, isi_list_none, isi_list_bool, isi_list_int, isi_list_str, isi_list_list, isi_list_tuple, isi_tuple_none, isi_tuple_bool, isi_tuple_int, isi_tuple_str, isi_tuple_list, isi_tuple_tuple, isi2_tl_none, isi2_tl_bool, isi2_tl_int, isi2_tl_str, isi2_tl_list, isi2_tl_tuple, zip2, zipD_map, isi_int_dict, isi_bool_dict, isi_str_dict, isi_list_dict, isi_tuple_dict, isi2_tl_dict, dIsN, dNotN, p_setIx, setIx1_ok, setIx2_s, bin1_w, bin1o_some, toDs_nil, toDs_a, toDs_o, ret_nxt, rngD_map, Int.reduceToNat, p_appV, appV_ok', p_forB, forB_ok, sm1_T, List.getElem?_cons_succ, List.getElem?_cons_zero, q_chain, ch1_a, ch2_a, ch3_tt, ch3_ff, ch4_a, lt_TT, par_ap, par1_ok, par2_ok, srcS_e, src1_e, src2_e, comp_e, un1_e, lst1_e, and_e, or_e, q_sm0, sm01_a, sm01_T, smO_some, app_0w]
  cases d with
  | str z =>
    have hz : z.length ≤ 1000 := hd z rfl
    rw [str_tS z] at hz ⊢
    rw [isTm_tS]
    generalize z.cps.toList = cs at hz ⊢
    rw [tS_len] at hz
    have hc : compL (gNm 2) fTrue (fBin (onD dIn) (fVar 2) (fC (.str (Str.ofString "01-")))) [some (.d (.int n)), some (.d (.str (tS cs))), none] (cs.map fun c => .str (tS [c])) S [] = .ok (ownD (cs.map fun c => .bool (chT c))) S := by
      rw [compL_m (fun c => .str (tS [c])) (fun c => .bool (chT c))]
      intro c hc
      refine ⟨_, rfl, ?_⟩
      simp only [p_body, p_skip, p_seq, p_set, p_ret, p_retN, p_retV_s, p_retV_0, p_exp, p_if, p_raise, p_app, p_ext, p_setT, p_for, p_cell', nxt_nx, nxt_rt, nxt_exc, fin_nx, fin_rt, fin_exc, set_ok, set_exc, ret_ok, ret_exc, exp_ok, exp_exc, if_tt, if_ff, if_ok, if_exc, for_ok, for_exc, app_s, app_0, app_0o, ext_s, ext_0, cons_nx, cons_exc, setT_ok, cell_ok, pop_nx, pop_rt, unC_nil, unC_n, unC_d, unC_st, no_nil, no_n, no_a, mask_nil, mask_t, mask_f, dom_nil, dom_s, dom_n, start_0, start_s, setW_nil, setW_cons, ev_nil, ev_n, ev_a, ev_o, ev_own, frzE_nil, frzE_cons, frz1_s, frz1_0o, frz1_0a, frz1_0n, sNm_ap, sTp_ap, q_var0, q_varS, q_c, q_bin, bin1_a, bin1_o, bin1_e, bin2_a, bin2_o, bin2_e, q_un, un1_a, un1_o, q_call, call_n, call_c, call1_a, call1_o, call1_e, q_tup, allD_nil, allD_cons, tupE_ap, q_lst, lst_n, lst_c, lst1_ok, q_comp, comp_ok, q_and, and_tt, and_ff, asB_ok, asB_e, and_ok, and_fold, q_or, or_tt, or_ff, or_ok, or_fold, q_not, not_ok, not_e, q_ife, ife_tt, ife_ff, ife_ok, q_seq, q_rng1, q_rng2, q_enum, q_zip, srcS_a, srcS_o, src1_a, src1_o, src2_a, src2_o, of_some, q_sl, sl_nn, sl_n, sl_s, slo_nn, slo_n, slo_s, slLo_n, slLo_s, slHi_ok, slLo_n', slLo_s', slHi_ok', q_sm, sm1_a, sm2_a, sm2_o, on1_ap, onD1_ap, true_ap, gNm_ap, gTp_ap, setD_nil, setD_cons, wipe_nil, wipe_cons, max2_ap, rng1_n, rng1_l, rng1_1, Nat.reduceAdd, Nat.reduceSub, Nat.reduceLeDiff, List.length_cons, List.length_nil, List.length_map, List.length_range, List.replicate, List.set_cons_zero, List.set_cons_succ, List.map_cons, List.map_nil, List.cons_append, List.nil_append, Option.map_some, if_true, Bool.false_eq_true, if_false, Bool.not_true, Bool.not_false, o_add, o_sub, o_shr, o_band, o_lt, o_le, o_gt, o_ge, own0, own1, own2, own3, own4, own5, own6, own7, own8, own9, own10, own11, own12, seqD_lst, seqD_tup, seqD_eF, seqD_eG, i2n, isi_eF, isi_eG, isi_eT, gLen_eF, gLen_eG, gLen_lst, gLen_tup, dAll_m, dAny_m, all_tt, dInt_b, isi_int_none, isi_int_bool, isi_int_int, isi_int_str, isi_int_list, isi_int_tuple, isi_bool_none, isi_bool_bool, isi_bool_int, isi_bool_str, isi_bool_list, isi_bool_tuple, isi_str_none, isi_str_bool, isi_str_int, isi_str_str, isi_str_list, isi_str_tuple, isi_list_none, isi_list_bool, isi_list_int, isi_list_str, isi_list_list, isi_list_tuple, isi_tuple_none, isi_tuple_bool, isi_tuple_int, isi_tuple_str, isi_tuple_list, isi_tuple_tuple, isi2_tl_none, isi2_tl_bool, isi2_tl_int, isi2_tl_str, isi2_tl_list, isi2_tl_tuple, zip2, zipD_map, isi_int_dict, isi_bool_dict, isi_str_dict, isi_list_dict, isi_tuple_dict, isi2_tl_dict, dIsN, dNotN, p_setIx, setIx1_ok, setIx2_s, bin1_w, bin1o_some, toDs_nil, toDs_a, toDs_o, ret_nxt, rngD_map, Int.reduceToNat, p_appV, appV_ok', p_forB, forB_ok, sm1_T, List.getElem?_cons_succ, List.getElem?_cons_zero, q_chain, ch1_a, ch2_a, ch3_tt, ch3_ff, ch4_a, lt_TT, par_ap, par1_ok, par2_ok, srcS_e, src1_e, src2_e, comp_e, un1_e, lst1_e, and_e, or_e, q_sm0, sm01_a, sm01_T, smO_some, app_0w, sign_in]
    simp only [p_body, p_skip, p_seq, p_set, p_ret, p_retN, p_retV_s, p_retV_0, p_exp, p_if, p_raise, p_app, p_ext, p_setT, p_for, p_cell', nxt_nx, nxt_rt, nxt_exc, fin_nx, fin_rt, fin_exc, set_ok, set_exc, ret_ok, ret_exc, exp_ok, exp_exc, if_tt, if_ff, if_ok, if_exc, for_ok, for_exc, app_s, app_0, app_0o, ext_s, ext_0, cons_nx, cons_exc, setT_ok, cell_ok, pop_nx, pop_rt, unC_nil, unC_n, unC_d, unC_st, no_nil, no_n, no_a, mask_nil, mask_t, mask_f, dom_nil, dom_s, dom_n, start_0, start_s, setW_nil, setW_cons, ev_nil, ev_n, ev_a, ev_o, ev_own, frzE_nil, frzE_cons, frz1_s, frz1_0o, frz1_0a, frz1_0n, sNm_ap, sTp_ap, q_var0, q_varS, q_c, q_bin, bin1_a, bin1_o, bin1_e, bin2_a, bin2_o, bin2_e, q_un, un1_a, un1_o, q_call, call_n, call_c, call1_a, call1_o, call1_e, q_tup, allD_nil, allD_cons, tupE_ap, q_lst, lst_n, lst_c, lst1_ok, q_comp, comp_ok, q_and, and_tt, and_ff, asB_ok, asB_e, and_ok, and_fold, q_or, or_tt, or_ff, or_ok, or_fold, q_not, not_ok, not_e, q_ife, ife_tt, ife_ff, ife_ok, q_seq, q_rng1, q_rng2, q_enum, q_zip, srcS_a, srcS_o, src1_a, src1_o, src2_a, src2_o, of_some, q_sl, sl_nn, sl_n, sl_s, slo_nn, slo_n, slo_s, slLo_n, slLo_s, slHi_ok, slLo_n', slLo_s', slHi_ok', q_sm, sm1_a, sm2_a, sm2_o, on1_ap, onD1_ap, true_ap, gNm_ap, gTp_ap, setD_nil, setD_cons, wipe_nil, wipe_cons, max2_ap, rng1_n, rng1_l, rng1_1, Nat.reduceAdd, Nat.reduceSub, Nat.reduceLeDiff, List.length_cons, List.length_nil, List.length_map, List.length_range, List.replicate, List.set_cons_zero, List.set_cons_succ, List.map_cons, List.map_nil, List.cons_append, List.nil_append, Option.map_some, if_true, Bool.false_eq_true, if_false, Bool.not_true, Bool.not_false, o_add, o_sub, o_shr, o_band, o_lt, o_le, o_gt, o_ge, own0, own1, own2, own3, own4, own5, own6, own7, own8, own9, own10, own11, own12, seqD_lst, seqD_tup, seqD_eF, seqD_eG, i2n, isi_eF, isi_eG, isi_eT, gLen_eF, gLen_eG, gLen_lst, gLen_tup, dAll_m, dAny_m, all_tt, dInt_b, isi_int_none, isi_int_bool, isi_int_int, isi_int_str, isi_int_list, isi_int_tuple, isi_bool_none, isi_bool_bool, isi_bool_int, isi_bool_str, isi_bool_list, isi_bool_tuple, isi_str_none, isi_str_bool, isi_str_int, isi_str_str, isi_str_list, isi_str_tuple, isi_list_none, isi_list_bool, isi_list_int, isi_list_str, isi_list_list, isi_list_tuple, isi_tuple_none, isi_tuple_bool, isi_tuple_int, isi_tuple_str, isi_tuple_list, isi_tuple_tuple, isi2_tl_none, isi2_tl_bool, isi2_tl_int, isi2_tl_str, isi2_tl_list, isi2_tl_tuple, zip2, zipD_map, isi_int_dict, isi_bool_dict, isi_str_dict, isi_list_dict, isi_tuple_dict, isi2_tl_dict, dIsN, dNotN, p_setIx, setIx1_ok, setIx2_s, bin1_w, bin1o_some, toDs_nil, toDs_a, toDs_o, ret_nxt, rngD_map, Int.reduceToNat, p_appV, appV_ok', p_forB, forB_ok, sm1_T, List.getElem?_cons_succ, List.getElem?_cons_zero, q_chain, ch1_a, ch2_a, ch3_tt, ch3_ff, ch4_a, lt_TT, par_ap, par1_ok, par2_ok, srcS_e, src1_e, src2_e, comp_e, un1_e, lst1_e, and_e, or_e, q_sm0, sm01_a, sm01_T, smO_some, app_0w, gLen_txt _ hz, seqD_txt _ hz, hc, eq_i]
    congr 2
    have : decide ((cs.length : Int) = (n : Int)) = (cs.length == n) := by
      rw [Bool.eq_iff_iff, decide_eq_true_iff, beq_iff_eq]
      omega
    rw [this]
  | _ => simp only [p_body, p_skip, p_seq, p_set, p_ret, p_retN, p_retV_s, p_retV_0, p_exp, p_if, p_raise, p_app, p_ext, p_setT, p_for, p_cell', nxt_nx, nxt_rt, nxt_exc, fin_nx, fin_rt, fin_exc, set_ok, set_exc, ret_ok, ret_exc, exp_ok, exp_exc, if_tt, if_ff, if_ok, if_exc, for_ok, for_exc, app_s, app_0, app_0o, ext_s, ext_0, cons_nx, cons_exc, setT_ok, cell_ok, pop_nx, pop_rt, unC_nil, unC_n, unC_d, unC_st, no_nil, no_n, no_a, mask_nil, mask_t, mask_f, dom_nil, dom_s, dom_n, start_0, start_s, setW_nil, setW_cons, ev_nil, ev_n, ev_a, ev_o, ev_own, frzE_nil, frzE_cons, frz1_s, frz1_0o, frz1_0a, frz1_0n, sNm_ap, sTp_ap, q_var0, q_varS, q_c, q_bin, bin1_a, bin1_o, bin1_e, bin2_a, bin2_o, bin2_e, q_un, un1_a, un1_o, q_call, call_n, call_c, call1_a, call1_o, call1_e, q_tup, allD_nil, allD_cons, tupE_ap, q_lst, lst_n, lst_c, lst1_ok, q_comp, comp_ok, q_and, and_tt, and_ff, asB_ok, asB_e, and_ok, and_fold, q_or, or_tt, or_ff, or_ok, or_fold, q_not, not_ok, not_e, q_ife, ife_tt, ife_ff, ife_ok, q_seq, q_rng1, q_rng2, q_enum, q_zip, srcS_a, srcS_o, src1_a, src1_o, src2_a, src2_o, of_some, q_sl, sl_nn, sl_n, sl_s, slo_nn, slo_n, slo_s, slLo_n, slLo_s, slHi_ok, slLo_n', slLo_s', slHi_ok', q_sm, sm1_a, sm2_a, sm2_o, on1_ap, onD1_ap, true_ap, gNm_ap, gTp_ap, setD_nil, setD_cons, wipe_nil, wipe_cons, max2_ap, rng1_n, rng1_l, rng1_1, Nat.reduceAdd, Nat.reduceSub, Nat.reduceLeDiff, List.length_cons, List.length_nil, List.length_map, List.length_range, List.replicate, List.set_cons_zero, List.set_cons_succ, List.map_cons, List.map_nil, List.cons_append, List.nil_append, Option.map_some, if_true, Bool.false_eq_true, if_false, Bool.not_true, Bool.not_false, o_add, o_sub, o_shr, o_band, o_lt, o_le, o_gt, o_ge, own0, own1, own2, own3, own4, own5, own6, own7, own8, own9, own10, own11, own12, seqD_lst, seqD_tup, seqD_eF, seqD_eG, i2n, isi_eF, isi_eG, isi_eT, gLen_eF, gLen_eG, gLen_lst, gLen_tup, dAll_m, dAny_m, all_tt, dInt_b, isi_int_none, isi_int_bool, isi_int_int, isi_int_str, isi_int_list, isi_int_tuple, isi_bool_none, isi_bool_bool, isi_bool_int, isi_bool_str, isi_bool_list, isi_bool_tuple, isi_str_none, isi_str_bool, isi_str_int, isi_str_str, isi_str_list, isi_str_tuple, isi_list_none, isi_list_bool, isi_list_int, isi_list_str, isi_list_list, isi_list_tuple, isi_tuple_none, isi_tuple_bool, isi_tuple_int, isi_tuple_str, isi_tuple_list, isi_tuple_tuple, isi2_tl_none, isi2_tl_bool, isi2_tl_int, isi2_tl_str, isi2_tl_list, isi2_tl_tuple, zip2, zipD_map, isi_int_dict, isi_bool_dict, isi_str_dict, isi_list_dict, isi_tuple_dict, isi2_tl_dict, dIsN, dNotN, p_setIx, setIx1_ok, setIx2_s, bin1_w, bin1o_some, toDs_nil, toDs_a, toDs_o, ret_nxt, rngD_map, Int.reduceToNat, p_appV, appV_ok', p_forB, forB_ok, sm1_T, List.getElem?_cons_succ, List.getElem?_cons_zero, q_chain, ch1_a, ch2_a, ch3_tt, ch3_ff, ch4_a, lt_TT, par_ap, par1_ok, par2_ok, srcS_e, src1_e, src2_e, comp_e, un1_e, lst1_e, and_e, or_e, q_sm0, sm01_a, sm01_T, smO_some, app_0w, isTmD]
theorem sign_of (a : Option Bool) : dAtK [(.int 0, .str "0"), (.int 1, .str "1"), (.none, .str "-")] (aO a) = some (sD (tS [sgO a])) := by
  cases a with
  | none => rfl
  | some b => cases b <;> rfl
theorem e_shown (f : Fn) (h : f.length ≤ 1000) (S : Cs) : sem_shown [.d (eF f)] S = .ok (.a (.d (eT f))) S := by
  have hc : compL (gNm 1) fTrue (fUn (onD1 (dAtK [(.int 0, .str "0"), (.int 1, .str "1"), (.none, .str "-")])) (fVar 1)) [some (.d (eF f)), none] (f.map aO) S [] = .ok (ownD (f.map fun a => .str (tS [sgO a]))) S := by
    rw [compL_m aO (fun a => .str (tS [sgO a])) f]
    intro a ha
    exact ⟨_, rfl, by simp only [p_body, p_skip, p_seq, p_set, p_ret, p_retN, p_retV_s, p_retV_0, p_exp, p_if, p_raise, p_app, p_ext, p_setT, p_for, p_cell', nxt_nx, nxt_rt, nxt_exc, fin_nx, fin_rt, fin_exc, set_ok, set_exc, ret_ok, ret_exc, exp_ok, exp_exc, if_tt, if_ff, if_ok, if_exc, for_ok, for_exc, app_s, app_0, app_0o, ext_s, ext_0, cons_nx, cons_exc, setT_ok, cell_ok, pop_nx, pop_rt, unC_nil, unC_n, unC_d, unC_st, no_nil, no_n, no_a, mask_nil, mask_t, mask_f, dom_nil, dom_s, dom_n, start_0, start_s, setW_nil, setW_cons, ev_nil, ev_n, ev_a, ev_o, ev_own, frzE_nil, frzE_cons, frz1_s, frz1_0o, frz1_0a, frz1_0n, sNm_ap, sTp_ap, q_var0, q_varS, q_c, q_bin, bin1_a, bin1_o, bin1_e, bin2_a, bin2_o, bin2_e, q_un, un1_a, un1_o, q_call, call_n, call_c, call1_a, call1_o, call1_e, q_tup, allD_nil, allD_cons, tupE_ap, q_lst, lst_n, lst_c, lst1_ok, q_comp, comp_ok, q_and, and_tt, and_ff, asB_ok, asB_e, and_ok, and_fold, q_or, or_tt, or_ff, or_ok, or_fold, q_not, not_ok, not_e, q_ife, ife_tt, ife_ff, ife_ok, q_seq, q_rng1, q_rng2, q_enum, q_zip, srcS_a, srcS_o, src1_a, src1_o, src2_a, src2_o, of_some, q_sl, sl_nn, sl_n, sl_s, slo_nn, slo_n, slo_s, slLo_n, slLo_s, slHi_ok, slLo_n', slLo_s', slHi_ok', q_sm, sm1_a, sm2_a, sm2_o, on1_ap, onD1_ap, true_ap, gNm_ap, gTp_ap, setD_nil, setD_cons, wipe_nil, wipe_cons, max2_ap, rng1_n, rng1_l, rng1_1, Nat.reduceAdd, Nat.reduceSub, Nat.reduceLeDiff, List.length_cons, List.length_nil, List.length_map, List.length_range, List.replicate, List.set_cons_zero, List.set_cons_succ, List.map_cons, List.map_nil, List.cons_append, List.nil_append, Option.map_some, if_true, Bool.false_eq_true, if_false, Bool.not_true, Bool.not_false, o_add, o_sub, o_shr, o_band, o_lt, o_le, o_gt, o_ge, own0, own1, own2, own3, own4, own5, own6, own7, own8, own9, own10, own11, own12, seqD_lst, seqD_tup, seqD_eF, seqD_eG, i2n, isi_eF, isi_eG, isi_eT, gLen_eF, gLen_eG, gLen_lst, gLen_tup, dAll_m, dAny_m, all_tt, dInt_b, isi_int_none, isi_int_bool, isi_int_int, isi_int_str, isi_int_list, isi_int_tuple, isi_bool_none, isi_bool_bool, isi_bool_int, isi_bool_str, isi_bool_list, isi_bool_tuple, isi_str_none, isi_str_bool, isi_str_int, isi_str_str, isi_str_list, isi_str_tuple, isi_list_none, isi_list_bool, isi_list_int, isi_list_str, isi_list_list, isi_list_tuple, isi_tuple_none, isi_tuple_bool, isi_tuple_int, isi_tuple_str, isi_tuple_list, isi_tuple_tuple, isi2_tl_none, isi2_tl_bool, isi2_tl_int, isi2_tl_str, isi2_tl_list, isi2_tl_tuple, zip2, zipD_map, isi_int_dict, isi_bool_dict, isi_str_dict, isi_list_dict, isi_tuple_dict, isi2_tl_dict, dIsN, dNotN, p_setIx, setIx1_ok, setIx2_s, bin1_w, bin1o_some, toDs_nil, toDs_a, toDs_o, ret_nxt, rngD_map, Int.reduceToNat, p_appV, appV_ok', p_forB, forB_ok, sm1_T, List.getElem?_cons_succ, List.getElem?_cons_zero, q_chain, ch1_a, ch2_a, ch3_tt, ch3_ff, ch4_a, lt_TT, par_ap, par1_ok, par2_ok, srcS_e, src1_e, src2_e, comp_e, un1_e, lst1_e, and_e, or_e, q_sm0, sm01_a, sm01_T, smO_some, app_0w, sign_of]⟩
  simp only [sem_shown, b_shown, p_body, p_skip, p_seq, p_set, p_ret, p_retN, p_retV_s, p_retV_0, p_exp, p_if, p_raise, p_app, p_ext, p_setT, p_for, p_cell', nxt_nx, nxt_rt, nxt_exc, fin_nx, fin_rt, fin_exc, set_ok, set_exc, ret_ok, ret_exc, exp_ok, exp_exc, if_tt, if_ff, if_ok, if_exc, for_ok, for_exc, app_s, app_0, app_0o, ext_s, ext_0, cons_nx, cons_exc, setT_ok, cell_ok, pop_nx, pop_rt, unC_nil, unC_n, unC_d, unC_st, no_nil, no_n, no_a, mask_nil, mask_t, mask_f, dom_nil, dom_s, dom_n, start_0, start_s, setW_nil, setW_cons, ev_nil, ev_n, ev_a, ev_o, ev_own, frzE_nil, frzE_cons, frz1_s, frz1_0o, frz1_0a, frz1_0n, sNm_ap, sTp_ap, q_var0, q_varS, q_c, q_bin, bin1_a, bin1_o, bin1_e, bin2_a, bin2_o, bin2_e, q_un, un1_a, un1_o, q_call, call_n, call_c, call1_a, call1_o, call1_e, q_tup, allD_nil, allD_cons, tupE_ap, q_lst, lst_n, lst_c, lst1_ok, q_comp, comp_ok, q_and, and_tt, and_ff, asB_ok, asB_e, and_ok, and_fold, q_or, or_tt, or_ff, or_ok, or_fold, q_not, not_ok, not_e, q_ife, ife_tt, ife_ff, ife_ok, q_seq, q_rng1, q_rng2, q_enum, q_zip, srcS_a, srcS_o, src1_a, src1_o, src2_a, src2_o, of_some, q_sl, sl_nn, sl_n, sl_s, slo_nn, slo_n, slo_s, slLo_n, slLo_s, slHi_ok, slLo_n', slLo_s', slHi_ok', q_sm, sm1_a, sm2_a, sm2_o, on1_ap, onD1_ap, true_ap, gNm_ap, gTp_ap, setD_nil, setD_cons, wipe_nil, wipe_cons, max2_ap, rng1_n, rng1_l, rng1_1, Nat.reduceAdd, Nat.reduceSub, Nat.reduceLeDiff, List.length_cons, List.length_nil, List.length_map, List.length_range, List.replicate, List.set_cons_zero, List.set_cons_succ, List.map_cons, List.map_nil, List.cons_append, List.nil_append, Option.map_some, if_true, Bool.false_eq_true, if_false, Bool.not_true, Bool.not_false, o_add, o_sub, o_shr, o_band, o_lt, o_le, o_gt, o_ge, own0, own1, own2, own3, own4, own5, own6, own7, own8, own9, own10, own11, own12, seqD_lst, seqD_tup, seqD_eF, seqD_eG, i2n, isi_eF, isi_eG, isi_eT, gLen_eF, gLen_eG, gLen_lst, gLen_tup, dAll_m, dAny_m, all_tt, dInt_b, isi_int_none, isi_int_bool, isi_int_int, isi_int_str, isi_int_list, isi_int_tuple, isi_bool_none, isi_bool_bool, isi_bool_int, isi_bool_str, isi_bool_list, isi_bool_tuple, isi_str_none, isi_str_bool, isi_str_int, isi_str_str, isi_str_list, isi_str_tuple, isi_list_none, isi_list_bool, isi_list_int, isi_list_str, isi_list_list, isi_list_tuple, isi_tuple_none, isi_tuple_bool, isi_tuple_int, isi_tuple_str, isi_tuple_list, isi_tuple_tuple, isi2_tl_none, isi2_tl_bool, isi2_tl_int, isi2_tl_str, isi2_tl_list, isi2_tl_tuple, zip2, zipD_map, isi_int_dict, isi_bool_dict, isi_str_dict, isi_list_dict, isi_tuple_dict, isi2_tl_dict, dIsN, dNotN, p_setIx, setIx1_ok, setIx2_s, bin1_w, bin1o_some, toDs_nil, toDs_a, toDs_o, ret_nxt, rngD_map, Int.reduceToNat, p_appV, appV_ok', p_forB, forB_ok, sm1_T, List.getElem?_cons_succ, List.getElem?_cons_zero, q_chain, ch1_a, ch2_a, ch3_tt, ch3_ff, ch4_a, lt_TT, par_ap, par1_ok, par2_ok, srcS_e, src1_e, src2_e, comp_e, un1_e, lst1_e, and_e, or_e, q_sm0, sm01_a, sm01_T, smO_some, app_0w, hc, dJoin0 (fun a => sgO a) f h]
  rfl
theorem e_function_text {f : Fn} {n : Nat} (hf : f.length = 2 ^ n) (h1 : 1 ≤ n) (h4 : n ≤ 4) (S : Cs) (hS : flatCs S = true) : sem_function_text [.d (eF f)] S = .ok (.a (.d (eT f))) S := by
  have b2 : 2 ^ n ≤ 16 := Nat.pow_le_pow_right (n := 2) (by decide) h4
  simp only [sem_function_text, b_function_text, p_body, p_skip, p_seq, p_set, p_ret, p_retN, p_retV_s, p_retV_0, p_exp, p_if, p_raise, p_app, p_ext, p_setT, p_for, p_cell', nxt_nx, nxt_rt, nxt_exc, fin_nx, fin_rt, fin_exc, set_ok, set_exc, ret_ok, ret_exc, exp_ok, exp_exc, if_tt, if_ff, if_ok, if_exc, for_ok, for_exc, app_s, app_0, app_0o, ext_s, ext_0, cons_nx, cons_exc, setT_ok, cell_ok, pop_nx, pop_rt, unC_nil, unC_n, unC_d, unC_st, no_nil, no_n, no_a, mask_nil, mask_t, mask_f, dom_nil, dom_s, dom_n, start_0, start_s, setW_nil, setW_cons, ev_nil, ev_n, ev_a, ev_o, ev_own, frzE_nil, frzE_cons, frz1_s, frz1_0o, frz1_0a, frz1_0n, sNm_ap, sTp_ap, q_var0, q_varS, q_c, q_bin, bin1_a, bin1_o, bin1_e, bin2_a, bin2_o, bin2_e, q_un, un1_a, un1_o, q_call, call_n, call_c, call1_a, call1_o, call1_e, q_tup, allD_nil, allD_cons, tupE_ap, q_lst, lst_n, lst_c, lst1_ok, q_comp, comp_ok, q_and, and_tt, and_ff, asB_ok, asB_e, and_ok, and_fold, q_or, or_tt, or_ff, or_ok, or_fold, q_not, not_ok, not_e, q_ife, ife_tt, ife_ff, ife_ok, q_seq, q_rng1, q_rng2, q_enum, q_zip, srcS_a, srcS_o, src1_a, src1_o, src2_a, src2_o, of_some, q_sl, sl_nn, sl_n, sl_s, slo_nn, slo_n, slo_s, slLo_n, slLo_s, slHi_ok, slLo_n', slLo_s', slHi_ok', q_sm, sm1_a, sm2_a, sm2_o, on1_ap, onD1_ap, true_ap, gNm_ap, gTp_ap, setD_nil, setD_cons, wipe_nil, wipe_cons, max2_ap, rng1_n, rng1_l, rng1_1, Nat.reduceAdd, Nat.reduceSub, Nat.reduceLeDiff, List.length_cons, List.length_nil, List.length_map, List.length_range, List.replicate, List.set_cons_zero, List.set_cons_succ, List.map_cons, List.map_nil, List.cons_append, List.nil_append, Option.map_some, if_true, Bool.false_eq_true, if_false, Bool.not_true, Bool.not_false, o_add, o_sub, o_shr, o_band, o_lt, o_le, o_gt, o_ge, own0, own1, own2, own3, own4, own5, own6, own7, own8, own9, own10, own11, own12, seqD_lst, seqD_tup, seqD_eF, seqD_eG, i2n, isi_eF, isi_eG, isi_eT, gLen_eF, gLen_eG, gLen_lst, gLen_tup, dAll_m, dAny_m, all_tt, dInt_b, isi_int_none, isi_int_bool, isi_int_int, isi_int_str, isi_int_list, isi_int_tuple, isi_bool_none, isi_bool_bool, isi_bool_int, isi_bool_str, isi_bool_list, isi_bool_tuple, isi_str_none, isi_str_bool, isi_str_int, isi_str_str, isi_str_list, isi_str_tuple, isi_list_none, isi_list_bool, isi_list_int, isi_list_str, isi_list_list, isi_list_tuple, isi_tuple_none, isi_tuple_bool, isi_tuple_int, isi_tuple_str, isi_tuple_list, isi_tuple_tuple, isi2_tl_none, isi2_tl_bool, isi2_tl_int, isi2_tl_str, isi2_tl_list, isi2_tl_tuple, zip2, zipD_map, isi_int_dict, isi_bool_dict, isi_str_dict, isi_list_dict, isi_tuple_dict, isi2_tl_dict, dIsN, dNotN, p_setIx, setIx1_ok, setIx2_s, bin1_w, bin1o_some, toDs_nil, toDs_a, toDs_o, ret_nxt, rngD_map, Int.reduceToNat, p_appV, appV_ok', p_forB, forB_ok, sm1_T, List.getElem?_cons_succ, List.getElem?_cons_zero, q_chain, ch1_a, ch2_a, ch3_tt, ch3_ff, ch4_a, lt_TT, par_ap, par1_ok, par2_ok, srcS_e, src1_e, src2_e, comp_e, un1_e, lst1_e, and_e, or_e, q_sm0, sm01_a, sm01_T, smO_some, app_0w, e_need_function (isFn_eF hf h1 h4) S hS, e_shown f (by omega) S, hS]
theorem e_function_text0 {d : D} (h : isFnD d = false) (S : Cs) (hS : flatCs S = true) : sem_function_text [.d d] S = .exc "NoFunction" S := by
  simp only [sem_function_text, b_function_text, p_body, p_skip, p_seq, p_set, p_ret, p_retN, p_retV_s, p_retV_0, p_exp, p_if, p_raise, p_app, p_ext, p_setT, p_for, p_cell', nxt_nx, nxt_rt, nxt_exc, fin_nx, fin_rt, fin_exc, set_ok, set_exc, ret_ok, ret_exc, exp_ok, exp_exc, if_tt, if_ff, if_ok, if_exc, for_ok, for_exc, app_s, app_0, app_0o, ext_s, ext_0, cons_nx, cons_exc, setT_ok, cell_ok, pop_nx, pop_rt, unC_nil, unC_n, unC_d, unC_st, no_nil, no_n, no_a, mask_nil, mask_t, mask_f, dom_nil, dom_s, dom_n, start_0, start_s, setW_nil, setW_cons, ev_nil, ev_n, ev_a, ev_o, ev_own, frzE_nil, frzE_cons, frz1_s, frz1_0o, frz1_0a, frz1_0n, sNm_ap, sTp_ap, q_var0, q_varS, q_c, q_bin, bin1_a, bin1_o, bin1_e, bin2_a, bin2_o, bin2_e, q_un, un1_a, un1_o, q_call, call_n, call_c, call1_a, call1_o, call1_e, q_tup, allD_nil, allD_cons, tupE_ap, q_lst, lst_n, lst_c, lst1_ok, q_comp, comp_ok, q_and, and_tt, and_ff, asB_ok, asB_e, and_ok, and_fold, q_or, or_tt, or_ff, or_ok, or_fold, q_not, not_ok, not_e, q_ife, ife_tt, ife_ff, ife_ok, q_seq, q_rng1, q_rng2, q_enum, q_zip, srcS_a, srcS_o, src1_a, src1_o, src2_a, src2_o, of_some, q_sl, sl_nn, sl_n, sl_s, slo_nn, slo_n, slo_s, slLo_n, slLo_s, slHi_ok, slLo_n', slLo_s', slHi_ok', q_sm, sm1_a, sm2_a, sm2_o, on1_ap, onD1_ap, true_ap, gNm_ap, gTp_ap, setD_nil, setD_cons, wipe_nil, wipe_cons, max2_ap, rng1_n, rng1_l, rng1_1, Nat.reduceAdd, Nat.reduceSub, Nat.reduceLeDiff, List.length_cons, List.length_nil, List.length_map, List.length_range, List.replicate, List.set_cons_zero, List.set_cons_succ, List.map_cons, List.map_nil, List.cons_append, List.nil_append, Option.map_some, if_true, Bool.false_eq_true, if_false, Bool.not_true, Bool.not_false, o_add, o_sub, o_shr, o_band, o_lt, o_le, o_gt, o_ge, own0, own1, own2, own3, own4, own5, own6, own7, own8, own9, own10, own11, own12, seqD_lst, seqD_tup, seqD_eF, seqD_eG, i2n, isi_eF, isi_eG, isi_eT, gLen_eF, gLen_eG, gLen_lst, gLen_tup, dAll_m, dAny_m, all_tt, dInt_b, isi_int_none, isi_int_bool, isi_int_int, isi_int_str, isi_int_list, isi_int_tuple, isi_bool_none, isi_bool_bool, isi_bool_int, isi_bool_str, isi_bool_list, isi_bool_tuple, isi_str_none, isi_str_bool, isi_str_int, isi_str_str, isi_str_list, isi_str_tuple, isi_list_none, isi_list_bool, isi_list_int, isi_list_str, isi_list_list, isi_list_tuple, isi_tuple_none, isi_tuple_bool, isi_tuple_int, isi_tuple_str, isi_tuple_list, isi_tuple_tuple, isi2_tl_none, isi2_tl_bool, isi2_tl_int, isi2_tl_str, isi2_tl_list, isi2_tl_tuple, zip2, zipD_map, isi_int_dict, isi_bool_dict, isi_str_dict, isi_list_dict, isi_tuple_dict, isi2_tl_dict, dIsN, dNotN, p_setIx, setIx1_ok, setIx2_s, bin1_w, bin1o_some, toDs_nil, toDs_a, toDs_o, ret_nxt, rngD_map, Int.reduceToNat, p_appV, appV_ok', p_forB, forB_ok, sm1_T, List.getElem?_cons_succ, List.getElem?_cons_zero, q_chain, ch1_a, ch2_a, ch3_tt, ch3_ff, ch4_a, lt_TT, par_ap, par1_ok, par2_ok, srcS_e, src1_e, src2_e, comp_e, un1_e, lst1_e, and_e, or_e, q_sm0, sm01_a, sm01_T, smO_some, app_0w, e_need_function0 h S hS]
def sgs (us : List Tm) : List (List Nat) := us.map fun u => u.map sgO
def wrdM (us : List Tm) : Str := if us = [] then Str.ofString "none" else tS (gluM plus3 (sgs us))
theorem strs_T (us : List Tm) : strsOf (us.map eT) = some ((sgs us).map tS) := by
  have : us.map eT = ((sgs us).map tS).map PyData.str := by unfold sgs; rw [List.map_map, List.map_map]; rfl
  rw [this, strs_map]
theorem glu_len {z : List Nat} : ∀ ts : List (List Nat), (gluM z ts).length ≤ (ts.map (·.length)).sum + ts.length * z.length
  | [] => by simp [gluM]
  | [t] => by simp [gluM]
  | t :: u :: ts => by
    have ih := glu_len (z := z) (u :: ts)
    show (t ++ (z ++ gluM z (u :: ts))).length ≤ _
    rw [List.length_append, List.length_append, List.map_cons, List.sum_cons, List.length_cons, Nat.add_mul]
    omega
theorem sum_le {n : Nat} : ∀ us : List Tm, (∀ u ∈ us, u.length = n) → ((sgs us).map (·.length)).sum = us.length * n
  | [], _ => by simp [sgs]
  | u :: us, h => by
    have ih := sum_le (n := n) us fun v hv => h v (List.mem_cons_of_mem _ hv)
    unfold sgs at ih ⊢
    rw [List.map_cons, List.map_cons, List.sum_cons, ih, List.length_map, h u List.mem_cons_self, List.length_cons, Nat.add_mul]
    omega
theorem join_T {us : List Tm} {n : Nat} (hl : ∀ u ∈ us, u.length = n) (h4 : n ≤ 4) (hm : us.length ≤ 100) (h0 : us ≠ []) : dJoin (Str.ofString " + ") (.tuple (us.map eT)) = some (sD (tS (gluM plus3 (sgs us)))) := by
  unfold dJoin
  simp only [strs_T]
  have e1 : ((sgs us).map tS).map (·.length) = (sgs us).map (·.length) := by
    rw [List.map_map]
    refine List.map_congr_left fun c _ => ?_
    simp [tS, Str.length]
  have e2 : (Str.ofString " + ").length = 3 := by decide
  have e3 : ((sgs us).map tS).length = us.length := by simp [sgs]
  have hb : us.length * n ≤ 400 := Nat.mul_le_mul hm h4
  rw [if_pos (by rw [e1, e2, e3, sum_le us hl]; omega), plus_eq, join_tS _ (by simpa [sgs] using h0)]
  rfl
theorem glu_pos {n : Nat} (h1 : 1 ≤ n) : ∀ {us : List Tm}, (∀ u ∈ us, u.length = n) → us ≠ [] → 1 ≤ (gluM plus3 (sgs us)).length
  | [], _, h0 => absurd rfl h0
  | [u], hl, _ => by
    show 1 ≤ (u.map sgO).length
    rw [List.length_map, hl u List.mem_cons_self]
    exact h1
  | u :: v :: us, hl, _ => by
    show 1 ≤ (u.map sgO ++ (plus3 ++ gluM plus3 (sgs (v :: us)))).length
    rw [List.length_append, List.length_map, hl u List.mem_cons_self]
    omega
theorem glu_len4 {us : List Tm} {n : Nat} (hl : ∀ u ∈ us, u.length = n) (h4 : n ≤ 4) (hm : us.length ≤ 100) : (gluM plus3 (sgs us)).length ≤ 700 := by
  have h := glu_len (z := plus3) (sgs us)
  rw [sum_le us hl] at h
  have hb : us.length * n ≤ 400 := Nat.mul_le_mul hm h4
  have e : (sgs us).length = us.length := by simp [sgs]
  have e2 : plus3.length = 3 := rfl
  rw [e, e2] at h
  omega
theorem words_T {us : List Tm} {n : Nat} (hl : ∀ u ∈ us, u.length = n) (h1 : 1 ≤ n) (h4 : n ≤ 4) (hm : us.length ≤ 100) (fa : Fe) (ρ : En) (S : Cs) (ha : fa ρ S = .ok (.a (.d (.tuple (us.map eT)))) S) : fOrS (fSm dJoin (fC (.str " + ")) fa) (fC (.str "none")) ρ S = .ok (.a (.d (.str (wrdM us)))) S := by
  have hj : (fSm dJoin (fC (.str " + ")) fa) ρ S = (match dJoin (Str.ofString " + ") (.tuple (us.map eT)) with | some w => .ok w S | none => .stuck) := by
    first | (simp only [p_body, p_skip, p_seq, p_set, p_ret, p_retN, p_retV_s, p_retV_0, p_exp, p_if, p_raise, p_app, p_ext, p_setT, p_for, p_cell', nxt_nx, nxt_rt, nxt_exc, fin_nx, fin_rt, fin_exc, set_ok, set_exc, ret_ok, ret_exc, exp_ok, exp_exc, if_tt, if_ff, if_ok, if_exc, for_ok, for_exc, app_s, app_0, app_0o, ext_s, ext_0, cons_nx, cons_exc, setT_ok, cell_ok, pop_nx, pop_rt, unC_nil, unC_n, unC_d, unC_st, no_nil, no_n, no_a, mask_nil, mask_t, mask_f, dom_nil, dom_s, dom_n, start_0, start_s, setW_nil, setW_cons, ev_nil, ev_n, ev_a, ev_o, ev_own, frzE_nil, frzE_cons, frz1_s, frz1_0o, frz1_0a, frz1_0n, sNm_ap, sTp_ap, q_var0, q_varS, q_c, q_bin, bin1_a, bin1_o, bin1_e, bin2_a, bin2_o, bin2_e, q_un, un1_a, un1_o, q_call, call_n, call_c, call1_a, call1_o, call1_e, q_tup, allD_nil, allD_cons, tupE_ap, q_lst, lst_n, lst_c, lst1_ok, q_comp, comp_ok, q_and, and_tt, and_ff, asB_ok, asB_e, and_ok, and_fold, q_or, or_tt, or_ff, or_ok, or_fold, q_not, not_ok, not_e, q_ife, ife_tt, ife_ff, ife_ok, q_seq, q_rng1, q_rng2, q_enum, q_zip, srcS_a, srcS_o, src1_a, src1_o, src2_a, src2_o, of_some, q_sl, sl_nn, sl_n, sl_s, slo_nn, slo_n, slo_s, slLo_n, slLo_s, slHi_ok, slLo_n', slLo_s', slHi_ok', q_sm, sm1_a, sm2_a, sm2_o, on1_ap, onD1_ap, true_ap, gNm_ap, gTp_ap, setD_nil, setD_cons, wipe_nil, wipe_cons, max2_ap, rng1_n, rng1_l, rng1_1, Nat.reduceAdd, Nat.reduceSub, Nat.reduceLeDiff, List.length_cons, List.length_nil, List.length_map, List.length_range, List.replicate, List.set_cons_zero, List.set_cons_succ, List.map_cons, List.map_nil, List.cons_append, List.nil_append, Option.map_some, if_true, Bool.false_eq_true, if_false, Bool.not_true, Bool.not_false, o_add, o_sub, o_shr, o_band, o_lt, o_le, o_gt, o_ge, own0, own1, own2, own3, own4, own5, own6, own7, own8, own9, own10, own11, own12, seqD_lst, seqD_tup, seqD_eF, seqD_eG, i2n, isi_eF, isi_eG, isi_eT, gLen_eF, gLen_eG, gLen_lst, gLen_tup, dAll_m, dAny_m, all_tt, dInt_b, isi_int_none, isi_int_bool, isi_int_int, isi_int_str, isi_int_list, isi_int_tuple, isi_bool_none, isi_bool_bool, isi_bool_int, isi_bool_str, isi_bool_list, isi_bool_tuple, isi_str_none, isi_str_bool, isi_str_int, isi_str_str, isi_str_list, isi_str_tuple, isi_list_none, isi_list_bool, isi_list_int, isi_list_str, isi_list_list, isi_list_tuple, isi_tuple_none, isi_tuple_bool, isi_tuple_int, isi_tuple_str, isi_tuple_list, isi_tuple_tuple, isi2_tl_none, isi2_tl_bool, isi2_tl_int, isi2_tl_str, isi2_tl_list, isi2_tl_tuple, zip2, zipD_map, isi_int_dict, isi_bool_dict, isi_str_dict, isi_list_dict, isi_tuple_dict, isi2_tl_dict, dIsN, dNotN, p_setIx, setIx1_ok, setIx2_s, bin1_w, bin1o_some, toDs_nil, toDs_a, toDs_o, ret_nxt, rngD_map, Int.reduceToNat, p_appV, appV_ok', p_forB, forB_ok, sm1_T, List.getElem?_cons_succ, List.getElem?_cons_zero, q_chain, ch1_a, ch2_a, ch3_tt, ch3_ff, ch4_a, lt_TT, par_ap, par1_ok, par2_ok, srcS_e, src1_e, src2_e, comp_e, un1_e, lst1_e, and_e, or_e, q_sm0, sm01_a, sm01_T, smO_some, app_0w, ha]; rfl) | simp only [p_body, p_skip, p_seq, p_set, p_ret, p_retN, p_retV_s, p_retV_0, p_exp, p_if, p_raise, p_app, p_ext, p_setT, p_for, p_cell', nxt_nx, nxt_rt, nxt_exc, fin_nx, fin_rt, fin_exc, set_ok, set_exc, ret_ok, ret_exc, exp_ok, exp_exc, if_tt, if_ff, if_ok, if_exc, for_ok, for_exc, app_s, app_0, app_0o, ext_s, ext_0, cons_nx, cons_exc, setT_ok, cell_ok, pop_nx, pop_rt, unC_nil, unC_n, unC_d, unC_st, no_nil, no_n, no_a, mask_nil, mask_t, mask_f, dom_nil, dom_s, dom_n, start_0, start_s, setW_nil, setW_cons, ev_nil, ev_n, ev_a, ev_o, ev_own, frzE_nil, frzE_cons, frz1_s, frz1_0o, frz1_0a, frz1_0n, sNm_ap, sTp_ap, q_var0, q_varS, q_c, q_bin, bin1_a, bin1_o, bin1_e, bin2_a, bin2_o, bin2_e, q_un, un1_a, un1_o, q_call, call_n, call_c, call1_a, call1_o, call1_e, q_tup, allD_nil, allD_cons, tupE_ap, q_lst, lst_n, lst_c, lst1_ok, q_comp, comp_ok, q_and, and_tt, and_ff, asB_ok, asB_e, and_ok, and_fold, q_or, or_tt, or_ff, or_ok, or_fold, q_not, not_ok, not_e, q_ife, ife_tt, ife_ff, ife_ok, q_seq, q_rng1, q_rng2, q_enum, q_zip, srcS_a, srcS_o, src1_a, src1_o, src2_a, src2_o, of_some, q_sl, sl_nn, sl_n, sl_s, slo_nn, slo_n, slo_s, slLo_n, slLo_s, slHi_ok, slLo_n', slLo_s', slHi_ok', q_sm, sm1_a, sm2_a, sm2_o, on1_ap, onD1_ap, true_ap, gNm_ap, gTp_ap, setD_nil, setD_cons, wipe_nil, wipe_cons, max2_ap, rng1_n, rng1_l, rng1_1, Nat.reduceAdd, Nat.reduceSub, Nat.reduceLeDiff, List.length_cons, List.length_nil, List.length_map, List.length_range, List.replicate, List.set_cons_zero, List.set_cons_succ, List.map_cons, List.map_nil, List.cons_append, List.nil_append, Option.map_some, if_true, Bool.false_eq_true, if_false, Bool.not_true, Bool.not_false, o_add, o_sub, o_shr, o_band, o_lt, o_le, o_gt, o_ge, own0, own1, own2, own3, own4, own5, own6, own7, own8, own9, own10, own11, own12, seqD_lst, seqD_tup, seqD_eF, seqD_eG, i2n, isi_eF, isi_eG, isi_eT, gLen_eF, gLen_eG, gLen_lst, gLen_tup, dAll_m, dAny_m, all_tt, dInt_b, isi_int_none, isi_int_bool, isi_int_int, isi_int_str, isi_int_list, isi_int_tuple, isi_bool_none, isi_bool_bool, isi_bool_int, isi_bool_str, isi_bool_list, isi_bool_tuple, isi_str_none, isi_str_bool, isi_str_int, isi_str_str, isi_str_list, isi_str_tuple, isi_list_none, isi_list_bool, isi_list_int, isi_list_str, isi_list_list, isi_list_tuple, isi_tuple_none, isi_tuple_bool, isi_tuple_int, isi_tuple_str, isi_tuple_list, isi_tuple_tuple, isi2_tl_none, isi2_tl_bool, isi2_tl_int, isi2_tl_str, isi2_tl_list, isi2_tl_tuple, zip2, zipD_map, isi_int_dict, isi_bool_dict, isi_str_dict, isi_list_dict, isi_tuple_dict, isi2_tl_dict, dIsN, dNotN, p_setIx, setIx1_ok, setIx2_s, bin1_w, bin1o_some, toDs_nil, toDs_a, toDs_o, ret_nxt, rngD_map, Int.reduceToNat, p_appV, appV_ok', p_forB, forB_ok, sm1_T, List.getElem?_cons_succ, List.getElem?_cons_zero, q_chain, ch1_a, ch2_a, ch3_tt, ch3_ff, ch4_a, lt_TT, par_ap, par1_ok, par2_ok, srcS_e, src1_e, src2_e, comp_e, un1_e, lst1_e, and_e, or_e, q_sm0, sm01_a, sm01_T, smO_some, app_0w, ha]
  unfold fOrS
  rw [hj]
  by_cases h0 : us = []
  · subst h0
    rfl
  · rw [join_T hl h4 hm h0]
    have hp := glu_pos h1 hl h0
    have h7 := glu_len4 hl h4 hm
    show (if (tS (gluM plus3 (sgs us))).length ≤ sizeLine then _ else _) = _
    rw [if_pos (by rw [tS_len, sizeLine_eq]; omega), if_neg (by rw [tS_len]; omega)]
    unfold wrdM
    rw [if_neg h0]
theorem e_form_text {us : List Tm} {n : Nat} (hl : ∀ u ∈ us, u.length = n) (h1 : 1 ≤ n) (h4 : n ≤ 4) (hm : us.length ≤ 100) (S : Cs) : sem_form_text [.d (.tuple (us.map eT))] S = .ok (.a (.d (.str (wrdM us)))) S := by
  simp only [sem_form_text, b_form_text, p_body, p_skip, p_seq, p_set, p_ret, p_retN, p_retV_s, p_retV_0, p_exp, p_if, p_raise, p_app, p_ext, p_setT, p_for, p_cell', nxt_nx, nxt_rt, nxt_exc, fin_nx, fin_rt, fin_exc, set_ok, set_exc, ret_ok, ret_exc, exp_ok, exp_exc, if_tt, if_ff, if_ok, if_exc, for_ok, for_exc, app_s, app_0, app_0o, ext_s, ext_0, cons_nx, cons_exc, setT_ok, cell_ok, pop_nx, pop_rt, unC_nil, unC_n, unC_d, unC_st, no_nil, no_n, no_a, mask_nil, mask_t, mask_f, dom_nil, dom_s, dom_n, start_0, start_s, setW_nil, setW_cons, ev_nil, ev_n, ev_a, ev_o, ev_own, frzE_nil, frzE_cons, frz1_s, frz1_0o, frz1_0a, frz1_0n, sNm_ap, sTp_ap, q_var0, q_varS, q_c, q_bin, bin1_a, bin1_o, bin1_e, bin2_a, bin2_o, bin2_e, q_un, un1_a, un1_o, q_call, call_n, call_c, call1_a, call1_o, call1_e, q_tup, allD_nil, allD_cons, tupE_ap, q_lst, lst_n, lst_c, lst1_ok, q_comp, comp_ok, q_and, and_tt, and_ff, asB_ok, asB_e, and_ok, and_fold, q_or, or_tt, or_ff, or_ok, or_fold, q_not, not_ok, not_e, q_ife, ife_tt, ife_ff, ife_ok, q_seq, q_rng1, q_rng2, q_enum, q_zip, srcS_a, srcS_o, src1_a, src1_o, src2_a, src2_o, of_some, q_sl, sl_nn, sl_n, sl_s, slo_nn, slo_n, slo_s, slLo_n, slLo_s, slHi_ok, slLo_n', slLo_s', slHi_ok', q_sm, sm1_a, sm2_a, sm2_o, on1_ap, onD1_ap, true_ap, gNm_ap, gTp_ap, setD_nil, setD_cons, wipe_nil, wipe_cons, max2_ap, rng1_n, rng1_l, rng1_1, Nat.reduceAdd, Nat.reduceSub, Nat.reduceLeDiff, List.length_cons, List.length_nil, List.length_map, List.length_range, List.replicate, List.set_cons_zero, List.set_cons_succ, List.map_cons, List.map_nil, List.cons_append, List.nil_append, Option.map_some, if_true, Bool.false_eq_true, if_false, Bool.not_true, Bool.not_false, o_add, o_sub, o_shr, o_band, o_lt, o_le, o_gt, o_ge, own0, own1, own2, own3, own4, own5, own6, own7, own8, own9, own10, own11, own12, seqD_lst, seqD_tup, seqD_eF, seqD_eG, i2n, isi_eF, isi_eG, isi_eT, gLen_eF, gLen_eG, gLen_lst, gLen_tup, dAll_m, dAny_m, all_tt, dInt_b, isi_int_none, isi_int_bool, isi_int_int, isi_int_str, isi_int_list, isi_int_tuple, isi_bool_none, isi_bool_bool, isi_bool_int, isi_bool_str, isi_bool_list, isi_bool_tuple, isi_str_none, isi_str_bool, isi_str_int, isi_str_str, isi_str_list, isi_str_tuple, isi_list_none, isi_list_bool, isi_list_int, isi_list_str, isi_list_list, isi_list_tuple, isi_tuple_none, isi_tuple_bool, isi_tuple_int, isi_tuple_str, isi_tuple_list, isi_tuple_tuple, isi2_tl_none, isi2_tl_bool, isi2_tl_int, isi2_tl_str, isi2_tl_list, isi2_tl_tuple, zip2, zipD_map, isi_int_dict, isi_bool_dict, isi_str_dict, isi_list_dict, isi_tuple_dict, isi2_tl_dict, dIsN, dNotN, p_setIx, setIx1_ok, setIx2_s, bin1_w, bin1o_some, toDs_nil, toDs_a, toDs_o, ret_nxt, rngD_map, Int.reduceToNat, p_appV, appV_ok', p_forB, forB_ok, sm1_T, List.getElem?_cons_succ, List.getElem?_cons_zero, q_chain, ch1_a, ch2_a, ch3_tt, ch3_ff, ch4_a, lt_TT, par_ap, par1_ok, par2_ok, srcS_e, src1_e, src2_e, comp_e, un1_e, lst1_e, and_e, or_e, q_sm0, sm01_a, sm01_T, smO_some, app_0w, words_T hl h1 h4 hm (fVar 0) [some (.d (.tuple (us.map eT)))] S rfl]
theorem in_ans (a : Option Bool) : dInK [(.str "0", .int 0), (.str "1", .int 1), (.str "-", .none)] (.str (tS [sgO a])) = some (bD true) := by
  cases a with
  | none => rfl
  | some b => cases b <;> rfl
theorem at_ans (a : Option Bool) : dAtK [(.str "0", .int 0), (.str "1", .int 1), (.str "-", .none)] (.str (tS [sgO a])) = some (.a (.d (aO a))) := by
  cases a with
  | none => rfl
  | some b => cases b <;> rfl
theorem e_read_function {f : Fn} {n : Nat} (hf : f.length = 2 ^ n) (h1 : 1 ≤ n) (h4 : n ≤ 4) (S : Cs) (hS : flatCs S = true) : sem_read_function [.d (eT f)] S = .ok (.a (.d (eF f))) S := by
  have b2 : 2 ^ n ≤ 16 := Nat.pow_le_pow_right (n := 2) (by decide) h4
  have hk : dNotInKI [(2, 1), (4, 2), (8, 3), (16, 4)] (.int (f.length : Nat)) = some (bD false) := by
    unfold dNotInKI
    simp only
    rw [hf, kv_at h1 h4]
    rfl
  have hc : compL (gNm 1) fTrue (fUn (onD1 (dInK [(.str "0", .int 0), (.str "1", .int 1), (.str "-", .none)])) (fVar 1)) [some (.d (eT f)), none] (f.map fun a => .str (tS [sgO a])) S [] = .ok (ownD (f.map fun _ => .bool true)) S := by
    rw [compL_m (fun a => .str (tS [sgO a])) (fun _ => .bool true) f]
    intro a ha
    exact ⟨_, rfl, by simp only [p_body, p_skip, p_seq, p_set, p_ret, p_retN, p_retV_s, p_retV_0, p_exp, p_if, p_raise, p_app, p_ext, p_setT, p_for, p_cell', nxt_nx, nxt_rt, nxt_exc, fin_nx, fin_rt, fin_exc, set_ok, set_exc, ret_ok, ret_exc, exp_ok, exp_exc, if_tt, if_ff, if_ok, if_exc, for_ok, for_exc, app_s, app_0, app_0o, ext_s, ext_0, cons_nx, cons_exc, setT_ok, cell_ok, pop_nx, pop_rt, unC_nil, unC_n, unC_d, unC_st, no_nil, no_n, no_a, mask_nil, mask_t, mask_f, dom_nil, dom_s, dom_n, start_0, start_s, setW_nil, setW_cons, ev_nil, ev_n, ev_a, ev_o, ev_own, frzE_nil, frzE_cons, frz1_s, frz1_0o, frz1_0a, frz1_0n, sNm_ap, sTp_ap, q_var0, q_varS, q_c, q_bin, bin1_a, bin1_o, bin1_e, bin2_a, bin2_o, bin2_e, q_un, un1_a, un1_o, q_call, call_n, call_c, call1_a, call1_o, call1_e, q_tup, allD_nil, allD_cons, tupE_ap, q_lst, lst_n, lst_c, lst1_ok, q_comp, comp_ok, q_and, and_tt, and_ff, asB_ok, asB_e, and_ok, and_fold, q_or, or_tt, or_ff, or_ok, or_fold, q_not, not_ok, not_e, q_ife, ife_tt, ife_ff, ife_ok, q_seq, q_rng1, q_rng2, q_enum, q_zip, srcS_a, srcS_o, src1_a, src1_o, src2_a, src2_o, of_some, q_sl, sl_nn, sl_n, sl_s, slo_nn, slo_n, slo_s, slLo_n, slLo_s, slHi_ok, slLo_n', slLo_s', slHi_ok', q_sm, sm1_a, sm2_a, sm2_o, on1_ap, onD1_ap, true_ap, gNm_ap, gTp_ap, setD_nil, setD_cons, wipe_nil, wipe_cons, max2_ap, rng1_n, rng1_l, rng1_1, Nat.reduceAdd, Nat.reduceSub, Nat.reduceLeDiff, List.length_cons, List.length_nil, List.length_map, List.length_range, List.replicate, List.set_cons_zero, List.set_cons_succ, List.map_cons, List.map_nil, List.cons_append, List.nil_append, Option.map_some, if_true, Bool.false_eq_true, if_false, Bool.not_true, Bool.not_false, o_add, o_sub, o_shr, o_band, o_lt, o_le, o_gt, o_ge, own0, own1, own2, own3, own4, own5, own6, own7, own8, own9, own10, own11, own12, seqD_lst, seqD_tup, seqD_eF, seqD_eG, i2n, isi_eF, isi_eG, isi_eT, gLen_eF, gLen_eG, gLen_lst, gLen_tup, dAll_m, dAny_m, all_tt, dInt_b, isi_int_none, isi_int_bool, isi_int_int, isi_int_str, isi_int_list, isi_int_tuple, isi_bool_none, isi_bool_bool, isi_bool_int, isi_bool_str, isi_bool_list, isi_bool_tuple, isi_str_none, isi_str_bool, isi_str_int, isi_str_str, isi_str_list, isi_str_tuple, isi_list_none, isi_list_bool, isi_list_int, isi_list_str, isi_list_list, isi_list_tuple, isi_tuple_none, isi_tuple_bool, isi_tuple_int, isi_tuple_str, isi_tuple_list, isi_tuple_tuple, isi2_tl_none, isi2_tl_bool, isi2_tl_int, isi2_tl_str, isi2_tl_list, isi2_tl_tuple, zip2, zipD_map, isi_int_dict, isi_bool_dict, isi_str_dict, isi_list_dict, isi_tuple_dict, isi2_tl_dict, dIsN, dNotN, p_setIx, setIx1_ok, setIx2_s, bin1_w, bin1o_some, toDs_nil, toDs_a, toDs_o, ret_nxt, rngD_map, Int.reduceToNat, p_appV, appV_ok', p_forB, forB_ok, sm1_T, List.getElem?_cons_succ, List.getElem?_cons_zero, q_chain, ch1_a, ch2_a, ch3_tt, ch3_ff, ch4_a, lt_TT, par_ap, par1_ok, par2_ok, srcS_e, src1_e, src2_e, comp_e, un1_e, lst1_e, and_e, or_e, q_sm0, sm01_a, sm01_T, smO_some, app_0w, in_ans]⟩
  have hc2 : compL (gNm 1) fTrue (fUn (onD1 (dAtK [(.str "0", .int 0), (.str "1", .int 1), (.str "-", .none)])) (fVar 1)) [some (.d (eT f)), none] (f.map fun a => .str (tS [sgO a])) S [] = .ok (ownD (f.map aO)) S := by
    rw [compL_m (fun a => .str (tS [sgO a])) aO f]
    intro a ha
    exact ⟨_, rfl, by simp only [p_body, p_skip, p_seq, p_set, p_ret, p_retN, p_retV_s, p_retV_0, p_exp, p_if, p_raise, p_app, p_ext, p_setT, p_for, p_cell', nxt_nx, nxt_rt, nxt_exc, fin_nx, fin_rt, fin_exc, set_ok, set_exc, ret_ok, ret_exc, exp_ok, exp_exc, if_tt, if_ff, if_ok, if_exc, for_ok, for_exc, app_s, app_0, app_0o, ext_s, ext_0, cons_nx, cons_exc, setT_ok, cell_ok, pop_nx, pop_rt, unC_nil, unC_n, unC_d, unC_st, no_nil, no_n, no_a, mask_nil, mask_t, mask_f, dom_nil, dom_s, dom_n, start_0, start_s, setW_nil, setW_cons, ev_nil, ev_n, ev_a, ev_o, ev_own, frzE_nil, frzE_cons, frz1_s, frz1_0o, frz1_0a, frz1_0n, sNm_ap, sTp_ap, q_var0, q_varS, q_c, q_bin, bin1_a, bin1_o, bin1_e, bin2_a, bin2_o, bin2_e, q_un, un1_a, un1_o, q_call, call_n, call_c, call1_a, call1_o, call1_e, q_tup, allD_nil, allD_cons, tupE_ap, q_lst, lst_n, lst_c, lst1_ok, q_comp, comp_ok, q_and, and_tt, and_ff, asB_ok, asB_e, and_ok, and_fold, q_or, or_tt, or_ff, or_ok, or_fold, q_not, not_ok, not_e, q_ife, ife_tt, ife_ff, ife_ok, q_seq, q_rng1, q_rng2, q_enum, q_zip, srcS_a, srcS_o, src1_a, src1_o, src2_a, src2_o, of_some, q_sl, sl_nn, sl_n, sl_s, slo_nn, slo_n, slo_s, slLo_n, slLo_s, slHi_ok, slLo_n', slLo_s', slHi_ok', q_sm, sm1_a, sm2_a, sm2_o, on1_ap, onD1_ap, true_ap, gNm_ap, gTp_ap, setD_nil, setD_cons, wipe_nil, wipe_cons, max2_ap, rng1_n, rng1_l, rng1_1, Nat.reduceAdd, Nat.reduceSub, Nat.reduceLeDiff, List.length_cons, List.length_nil, List.length_map, List.length_range, List.replicate, List.set_cons_zero, List.set_cons_succ, List.map_cons, List.map_nil, List.cons_append, List.nil_append, Option.map_some, if_true, Bool.false_eq_true, if_false, Bool.not_true, Bool.not_false, o_add, o_sub, o_shr, o_band, o_lt, o_le, o_gt, o_ge, own0, own1, own2, own3, own4, own5, own6, own7, own8, own9, own10, own11, own12, seqD_lst, seqD_tup, seqD_eF, seqD_eG, i2n, isi_eF, isi_eG, isi_eT, gLen_eF, gLen_eG, gLen_lst, gLen_tup, dAll_m, dAny_m, all_tt, dInt_b, isi_int_none, isi_int_bool, isi_int_int, isi_int_str, isi_int_list, isi_int_tuple, isi_bool_none, isi_bool_bool, isi_bool_int, isi_bool_str, isi_bool_list, isi_bool_tuple, isi_str_none, isi_str_bool, isi_str_int, isi_str_str, isi_str_list, isi_str_tuple, isi_list_none, isi_list_bool, isi_list_int, isi_list_str, isi_list_list, isi_list_tuple, isi_tuple_none, isi_tuple_bool, isi_tuple_int, isi_tuple_str, isi_tuple_list, isi_tuple_tuple, isi2_tl_none, isi2_tl_bool, isi2_tl_int, isi2_tl_str, isi2_tl_list, isi2_tl_tuple, zip2, zipD_map, isi_int_dict, isi_bool_dict, isi_str_dict, isi_list_dict, isi_tuple_dict, isi2_tl_dict, dIsN, dNotN, p_setIx, setIx1_ok, setIx2_s, bin1_w, bin1o_some, toDs_nil, toDs_a, toDs_o, ret_nxt, rngD_map, Int.reduceToNat, p_appV, appV_ok', p_forB, forB_ok, sm1_T, List.getElem?_cons_succ, List.getElem?_cons_zero, q_chain, ch1_a, ch2_a, ch3_tt, ch3_ff, ch4_a, lt_TT, par_ap, par1_ok, par2_ok, srcS_e, src1_e, src2_e, comp_e, un1_e, lst1_e, and_e, or_e, q_sm0, sm01_a, sm01_T, smO_some, app_0w, at_ans]⟩
  simp only [sem_read_function, b_read_function, p_body, p_skip, p_seq, p_set, p_ret, p_retN, p_retV_s, p_retV_0, p_exp, p_if, p_raise, p_app, p_ext, p_setT, p_for, p_cell', nxt_nx, nxt_rt, nxt_exc, fin_nx, fin_rt, fin_exc, set_ok, set_exc, ret_ok, ret_exc, exp_ok, exp_exc, if_tt, if_ff, if_ok, if_exc, for_ok, for_exc, app_s, app_0, app_0o, ext_s, ext_0, cons_nx, cons_exc, setT_ok, cell_ok, pop_nx, pop_rt, unC_nil, unC_n, unC_d, unC_st, no_nil, no_n, no_a, mask_nil, mask_t, mask_f, dom_nil, dom_s, dom_n, start_0, start_s, setW_nil, setW_cons, ev_nil, ev_n, ev_a, ev_o, ev_own, frzE_nil, frzE_cons, frz1_s, frz1_0o, frz1_0a, frz1_0n, sNm_ap, sTp_ap, q_var0, q_varS, q_c, q_bin, bin1_a, bin1_o, bin1_e, bin2_a, bin2_o, bin2_e, q_un, un1_a, un1_o, q_call, call_n, call_c, call1_a, call1_o, call1_e, q_tup, allD_nil, allD_cons, tupE_ap, q_lst, lst_n, lst_c, lst1_ok, q_comp, comp_ok, q_and, and_tt, and_ff, asB_ok, asB_e, and_ok, and_fold, q_or, or_tt, or_ff, or_ok, or_fold, q_not, not_ok, not_e, q_ife, ife_tt, ife_ff, ife_ok, q_seq, q_rng1, q_rng2, q_enum, q_zip, srcS_a, srcS_o, src1_a, src1_o, src2_a, src2_o, of_some, q_sl, sl_nn, sl_n, sl_s, slo_nn, slo_n, slo_s, slLo_n, slLo_s, slHi_ok, slLo_n', slLo_s', slHi_ok', q_sm, sm1_a, sm2_a, sm2_o, on1_ap, onD1_ap, true_ap, gNm_ap, gTp_ap, setD_nil, setD_cons, wipe_nil, wipe_cons, max2_ap, rng1_n, rng1_l, rng1_1, Nat.reduceAdd, Nat.reduceSub, Nat.reduceLeDiff, List.length_cons, List.length_nil, List.length_map, List.length_range, List.replicate, List.set_cons_zero, List.set_cons_succ, List.map_cons, List.map_nil, List.cons_append, List.nil_append, Option.map_some, if_true, Bool.false_eq_true, if_false, Bool.not_true, Bool.not_false, o_add, o_sub, o_shr, o_band, o_lt, o_le, o_gt, o_ge, own0, own1, own2, own3, own4, own5, own6, own7, own8, own9, own10, own11, own12, seqD_lst, seqD_tup, seqD_eF, seqD_eG, i2n, isi_eF, isi_eG, isi_eT, gLen_eF, gLen_eG, gLen_lst, gLen_tup, dAll_m, dAny_m, all_tt, dInt_b, isi_int_none, isi_int_bool, isi_int_int, isi_int_str, isi_int_list, isi_int_tuple, isi_bool_none, isi_bool_bool, isi_bool_int, isi_bool_str, isi_bool_list, isi_bool_tuple, isi_str_none, isi_str_bool, isi_str_int, isi_str_str, isi_str_list, isi_str_tuple, isi_list_none, isi_list_bool, isi_list_int, isi_list_str, isi_list_list, isi_list_tuple, isi_tuple_none, isi_tuple_bool, isi_tuple_int, isi_tuple_str, isi_tuple_list, isi_tuple_tuple, isi2_tl_none, isi2_tl_bool, isi2_tl_int, isi2_tl_str, isi2_tl_list, isi2_tl_tuple, zip2, zipD_map, isi_int_dict, isi_bool_dict, isi_str_dict, isi_list_dict, isi_tuple_dict, isi2_tl_dict, dIsN, dNotN, p_setIx, setIx1_ok, setIx2_s, bin1_w, bin1o_some, toDs_nil, toDs_a, toDs_o, ret_nxt, rngD_map, Int.reduceToNat, p_appV, appV_ok', p_forB, forB_ok, sm1_T, List.getElem?_cons_succ, List.getElem?_cons_zero, q_chain, ch1_a, ch2_a, ch3_tt, ch3_ff, ch4_a, lt_TT, par_ap, par1_ok, par2_ok, srcS_e, src1_e, src2_e, comp_e, un1_e, lst1_e, and_e, or_e, q_sm0, sm01_a, sm01_T, smO_some, app_0w, gLen_eT f (by omega), hk, seqD_eT f (by omega), hc, hc2, all_tt, hS, dTup]
  rfl
theorem sg_lt (a : Option Bool) : sgO a ≠ 32 ∧ sgO a < 256 ∧ sgO a ≠ 110 := by
  cases a with
  | none => decide
  | some b => cases b <;> decide
theorem sgs_of {P : Nat → Prop} (hP : ∀ a, P (sgO a)) (us : List Tm) : ∀ t ∈ sgs us, ∀ c ∈ t, P c := by
  intro t ht c hc
  obtain ⟨u, _, rfl⟩ := List.mem_map.mp ht
  obtain ⟨a, _, rfl⟩ := List.mem_map.mp hc
  exact hP a
theorem not_none {us : List Tm} (h0 : us ≠ []) (S : Cs) : onD dEq (.d (.str (wrdM us))) (.d (.str (Str.ofString "none"))) S = .ok (bD false) S := by
  rw [o_eq _ (eqOk_flat rfl rfl)]
  have hne : wrdM us ≠ Str.ofString "none" := by
    unfold wrdM
    rw [if_neg h0]
    intro z
    have e : (tS (gluM plus3 (sgs us))).cps.toList = (Str.ofString "none").cps.toList := by rw [z]
    have e1 : (tS (gluM plus3 (sgs us))).cps.toList = gluM plus3 (sgs us) := by simp [tS]
    rw [e1] at e
    have h110 : (110 : Nat) ∈ gluM plus3 (sgs us) := by rw [e]; decide
    exact glu_all (P := fun c => c ≠ 110) (by decide) (sgs_of (fun a => (sg_lt a).2.2) us) 110 h110 rfl
  have : PyData.eqv (.str (wrdM us)) (.str (Str.ofString "none")) = false := by
    rw [Bool.eq_false_iff]
    intro z
    have := (eqv_plain _ _ rfl rfl).mp z
    exact hne (by injection this)
  rw [this]
theorem e_read_form {us : List Tm} {n : Nat} (hl : ∀ u ∈ us, u.length = n) (hp : us.Pairwise fun a b => ltT a b = true) (h1 : 1 ≤ n) (h4 : n ≤ 4) (hm : us.length ≤ 100) (S : Cs) (hS : flatCs S = true) : sem_read_form [.d (.int (n : Nat)), .d (.str (wrdM us))] S = .ok (.a (.d (.tuple (us.map eT)))) S := by
  by_cases h0 : us = []
  · subst h0
    have heq : onD dEq (.d (.str (wrdM []))) (.d (.str (Str.ofString "none"))) S = .ok (bD true) S := by
      rw [o_eq _ (eqOk_flat rfl rfl)]
      rfl
    simp only [sem_read_form, b_read_form, p_body, p_skip, p_seq, p_set, p_ret, p_retN, p_retV_s, p_retV_0, p_exp, p_if, p_raise, p_app, p_ext, p_setT, p_for, p_cell', nxt_nx, nxt_rt, nxt_exc, fin_nx, fin_rt, fin_exc, set_ok, set_exc, ret_ok, ret_exc, exp_ok, exp_exc, if_tt, if_ff, if_ok, if_exc, for_ok, for_exc, app_s, app_0, app_0o, ext_s, ext_0, cons_nx, cons_exc, setT_ok, cell_ok, pop_nx, pop_rt, unC_nil, unC_n, unC_d, unC_st, no_nil, no_n, no_a, mask_nil, mask_t, mask_f, dom_nil, dom_s, dom_n, start_0, start_s, setW_nil, setW_cons, ev_nil, ev_n, ev_a, ev_o, ev_own, frzE_nil, frzE_cons, frz1_s, frz1_0o, frz1_0a, frz1_0n, sNm_ap, sTp_ap, q_var0, q_varS, q_c, q_bin, bin1_a, bin1_o, bin1_e, bin2_a, bin2_o, bin2_e, q_un, un1_a, un1_o, q_call, call_n, call_c, call1_a, call1_o, call1_e, q_tup, allD_nil, allD_cons, tupE_ap, q_lst, lst_n, lst_c, lst1_ok, q_comp, comp_ok, q_and, and_tt, and_ff, asB_ok, asB_e, and_ok, and_fold, q_or, or_tt, or_ff, or_ok, or_fold, q_not, not_ok, not_e, q_ife, ife_tt, ife_ff, ife_ok, q_seq, q_rng1, q_rng2, q_enum, q_zip, srcS_a, srcS_o, src1_a, src1_o, src2_a, src2_o, of_some, q_sl, sl_nn, sl_n, sl_s, slo_nn, slo_n, slo_s, slLo_n, slLo_s, slHi_ok, slLo_n', slLo_s', slHi_ok', q_sm, sm1_a, sm2_a, sm2_o, on1_ap, onD1_ap, true_ap, gNm_ap, gTp_ap, setD_nil, setD_cons, wipe_nil, wipe_cons, max2_ap, rng1_n, rng1_l, rng1_1, Nat.reduceAdd, Nat.reduceSub, Nat.reduceLeDiff, List.length_cons, List.length_nil, List.length_map, List.length_range, List.replicate, List.set_cons_zero, List.set_cons_succ, List.map_cons, List.map_nil, List.cons_append, List.nil_append, Option.map_some, if_true, Bool.false_eq_true, if_false, Bool.not_true, Bool.not_false, o_add, o_sub, o_shr, o_band, o_lt, o_le, o_gt, o_ge, own0, own1, own2, own3, own4, own5, own6, own7, own8, own9, own10, own11, own12, seqD_lst, seqD_tup, seqD_eF, seqD_eG, i2n, isi_eF, isi_eG, isi_eT, gLen_eF, gLen_eG, gLen_lst, gLen_tup, dAll_m, dAny_m, all_tt, dInt_b, isi_int_none, isi_int_bool, isi_int_int, isi_int_str, isi_int_list, isi_int_tuple, isi_bool_none, isi_bool_bool, isi_bool_int, isi_bool_str, isi_bool_list, isi_bool_tuple, isi_str_none, isi_str_bool, isi_str_int, isi_str_str, isi_str_list, isi_str_tuple, isi_list_none, isi_list_bool, isi_list_int, isi_list_str, isi_list_list, isi_list_tuple, isi_tuple_none, isi_tuple_bool, isi_tuple_int, isi_tuple_str, isi_tuple_list, isi_tuple_tuple, isi2_tl_none, isi2_tl_bool, isi2_tl_int, isi2_tl_str, isi2_tl_list, isi2_tl_tuple, zip2, zipD_map, isi_int_dict, isi_bool_dict, isi_str_dict, isi_list_dict, isi_tuple_dict, isi2_tl_dict, dIsN, dNotN, p_setIx, setIx1_ok, setIx2_s, bin1_w, bin1o_some, toDs_nil, toDs_a, toDs_o, ret_nxt, rngD_map, Int.reduceToNat, p_appV, appV_ok', p_forB, forB_ok, sm1_T, List.getElem?_cons_succ, List.getElem?_cons_zero, q_chain, ch1_a, ch2_a, ch3_tt, ch3_ff, ch4_a, lt_TT, par_ap, par1_ok, par2_ok, srcS_e, src1_e, src2_e, comp_e, un1_e, lst1_e, and_e, or_e, q_sm0, sm01_a, sm01_T, smO_some, app_0w, e_need_number (n := (n : Int)) ⟨by omega, by omega⟩ S hS, heq, hS]
  · have hw : wrdM us = tS (gluM plus3 (sgs us)) := by unfold wrdM; rw [if_neg h0]
    have h7 := glu_len4 hl h4 hm
    have hsp : dSplit (wrdM us) (.str (Str.ofString " + ")) = some (ownD (us.map eT)) := by
      unfold dSplit
      simp only
      have el : ((Str.ofString " + ").length == 0) = false := by decide
      rw [hw, if_pos ⟨el, by rw [tS_len, sizeLine_eq]; omega⟩, plus_eq, split_back (by simpa [sgs] using h0) fun t ht c hc => ⟨sgs_of (P := fun c => c ≠ 32) (fun a => (sg_lt a).1) us t ht c hc, sgs_of (P := fun c => c < 256) (fun a => (sg_lt a).2.1) us t ht c hc⟩]
      unfold sgs
      rw [List.map_map, List.map_map]
      rfl
    have hc1 : compL (gNm 3) fTrue (fCall sem_term_good [fVar 0, fVar 3]) [some (.d (.int (n : Nat))), some (.d (.str (wrdM us))), some (.d (.tuple (us.map eT))), none, none, none] (us.map eT) S [] = .ok (ownD (us.map fun _ => .bool true)) S := by
      rw [compL_m eT (fun _ => .bool true)]
      intro t htt
      have htl := hl t htt
      refine ⟨_, rfl, ?_⟩
      simp only [p_body, p_skip, p_seq, p_set, p_ret, p_retN, p_retV_s, p_retV_0, p_exp, p_if, p_raise, p_app, p_ext, p_setT, p_for, p_cell', nxt_nx, nxt_rt, nxt_exc, fin_nx, fin_rt, fin_exc, set_ok, set_exc, ret_ok, ret_exc, exp_ok, exp_exc, if_tt, if_ff, if_ok, if_exc, for_ok, for_exc, app_s, app_0, app_0o, ext_s, ext_0, cons_nx, cons_exc, setT_ok, cell_ok, pop_nx, pop_rt, unC_nil, unC_n, unC_d, unC_st, no_nil, no_n, no_a, mask_nil, mask_t, mask_f, dom_nil, dom_s, dom_n, start_0, start_s, setW_nil, setW_cons, ev_nil, ev_n, ev_a, ev_o, ev_own, frzE_nil, frzE_cons, frz1_s, frz1_0o, frz1_0a, frz1_0n, sNm_ap, sTp_ap, q_var0, q_varS, q_c, q_bin, bin1_a, bin1_o, bin1_e, bin2_a, bin2_o, bin2_e, q_un, un1_a, un1_o, q_call, call_n, call_c, call1_a, call1_o, call1_e, q_tup, allD_nil, allD_cons, tupE_ap, q_lst, lst_n, lst_c, lst1_ok, q_comp, comp_ok, q_and, and_tt, and_ff, asB_ok, asB_e, and_ok, and_fold, q_or, or_tt, or_ff, or_ok, or_fold, q_not, not_ok, not_e, q_ife, ife_tt, ife_ff, ife_ok, q_seq, q_rng1, q_rng2, q_enum, q_zip, srcS_a, srcS_o, src1_a, src1_o, src2_a, src2_o, of_some, q_sl, sl_nn, sl_n, sl_s, slo_nn, slo_n, slo_s, slLo_n, slLo_s, slHi_ok, slLo_n', slLo_s', slHi_ok', q_sm, sm1_a, sm2_a, sm2_o, on1_ap, onD1_ap, true_ap, gNm_ap, gTp_ap, setD_nil, setD_cons, wipe_nil, wipe_cons, max2_ap, rng1_n, rng1_l, rng1_1, Nat.reduceAdd, Nat.reduceSub, Nat.reduceLeDiff, List.length_cons, List.length_nil, List.length_map, List.length_range, List.replicate, List.set_cons_zero, List.set_cons_succ, List.map_cons, List.map_nil, List.cons_append, List.nil_append, Option.map_some, if_true, Bool.false_eq_true, if_false, Bool.not_true, Bool.not_false, o_add, o_sub, o_shr, o_band, o_lt, o_le, o_gt, o_ge, own0, own1, own2, own3, own4, own5, own6, own7, own8, own9, own10, own11, own12, seqD_lst, seqD_tup, seqD_eF, seqD_eG, i2n, isi_eF, isi_eG, isi_eT, gLen_eF, gLen_eG, gLen_lst, gLen_tup, dAll_m, dAny_m, all_tt, dInt_b, isi_int_none, isi_int_bool, isi_int_int, isi_int_str, isi_int_list, isi_int_tuple, isi_bool_none, isi_bool_bool, isi_bool_int, isi_bool_str, isi_bool_list, isi_bool_tuple, isi_str_none, isi_str_bool, isi_str_int, isi_str_str, isi_str_list, isi_str_tuple, isi_list_none, isi_list_bool, isi_list_int, isi_list_str, isi_list_list, isi_list_tuple, isi_tuple_none, isi_tuple_bool, isi_tuple_int, isi_tuple_str, isi_tuple_list, isi_tuple_tuple, isi2_tl_none, isi2_tl_bool, isi2_tl_int, isi2_tl_str, isi2_tl_list, isi2_tl_tuple, zip2, zipD_map, isi_int_dict, isi_bool_dict, isi_str_dict, isi_list_dict, isi_tuple_dict, isi2_tl_dict, dIsN, dNotN, p_setIx, setIx1_ok, setIx2_s, bin1_w, bin1o_some, toDs_nil, toDs_a, toDs_o, ret_nxt, rngD_map, Int.reduceToNat, p_appV, appV_ok', p_forB, forB_ok, sm1_T, List.getElem?_cons_succ, List.getElem?_cons_zero, q_chain, ch1_a, ch2_a, ch3_tt, ch3_ff, ch4_a, lt_TT, par_ap, par1_ok, par2_ok, srcS_e, src1_e, src2_e, comp_e, un1_e, lst1_e, and_e, or_e, q_sm0, sm01_a, sm01_T, smO_some, app_0w, e_term_good n (short_eT (t := t) (by omega)), isTm_eT htl]
    have hc2 : compL (gTp [4, 5]) fTrue (fBin (onD dLt) (fVar 4) (fVar 5)) [some (.d (.int (n : Nat))), some (.d (.str (wrdM us))), some (.d (.tuple (us.map eT))), none, none, none] ((us.zip (us.drop 1)).map fun q => .tuple [eT q.1, eT q.2]) S [] = .ok (ownD ((us.zip (us.drop 1)).map fun q => .bool (ltT q.1 q.2))) S := by
      rw [compL_m (fun q : Tm × Tm => .tuple [eT q.1, eT q.2]) (fun q => .bool (ltT q.1 q.2))]
      intro q hq
      refine ⟨_, rfl, ?_⟩
      simp only [p_body, p_skip, p_seq, p_set, p_ret, p_retN, p_retV_s, p_retV_0, p_exp, p_if, p_raise, p_app, p_ext, p_setT, p_for, p_cell', nxt_nx, nxt_rt, nxt_exc, fin_nx, fin_rt, fin_exc, set_ok, set_exc, ret_ok, ret_exc, exp_ok, exp_exc, if_tt, if_ff, if_ok, if_exc, for_ok, for_exc, app_s, app_0, app_0o, ext_s, ext_0, cons_nx, cons_exc, setT_ok, cell_ok, pop_nx, pop_rt, unC_nil, unC_n, unC_d, unC_st, no_nil, no_n, no_a, mask_nil, mask_t, mask_f, dom_nil, dom_s, dom_n, start_0, start_s, setW_nil, setW_cons, ev_nil, ev_n, ev_a, ev_o, ev_own, frzE_nil, frzE_cons, frz1_s, frz1_0o, frz1_0a, frz1_0n, sNm_ap, sTp_ap, q_var0, q_varS, q_c, q_bin, bin1_a, bin1_o, bin1_e, bin2_a, bin2_o, bin2_e, q_un, un1_a, un1_o, q_call, call_n, call_c, call1_a, call1_o, call1_e, q_tup, allD_nil, allD_cons, tupE_ap, q_lst, lst_n, lst_c, lst1_ok, q_comp, comp_ok, q_and, and_tt, and_ff, asB_ok, asB_e, and_ok, and_fold, q_or, or_tt, or_ff, or_ok, or_fold, q_not, not_ok, not_e, q_ife, ife_tt, ife_ff, ife_ok, q_seq, q_rng1, q_rng2, q_enum, q_zip, srcS_a, srcS_o, src1_a, src1_o, src2_a, src2_o, of_some, q_sl, sl_nn, sl_n, sl_s, slo_nn, slo_n, slo_s, slLo_n, slLo_s, slHi_ok, slLo_n', slLo_s', slHi_ok', q_sm, sm1_a, sm2_a, sm2_o, on1_ap, onD1_ap, true_ap, gNm_ap, gTp_ap, setD_nil, setD_cons, wipe_nil, wipe_cons, max2_ap, rng1_n, rng1_l, rng1_1, Nat.reduceAdd, Nat.reduceSub, Nat.reduceLeDiff, List.length_cons, List.length_nil, List.length_map, List.length_range, List.replicate, List.set_cons_zero, List.set_cons_succ, List.map_cons, List.map_nil, List.cons_append, List.nil_append, Option.map_some, if_true, Bool.false_eq_true, if_false, Bool.not_true, Bool.not_false, o_add, o_sub, o_shr, o_band, o_lt, o_le, o_gt, o_ge, own0, own1, own2, own3, own4, own5, own6, own7, own8, own9, own10, own11, own12, seqD_lst, seqD_tup, seqD_eF, seqD_eG, i2n, isi_eF, isi_eG, isi_eT, gLen_eF, gLen_eG, gLen_lst, gLen_tup, dAll_m, dAny_m, all_tt, dInt_b, isi_int_none, isi_int_bool, isi_int_int, isi_int_str, isi_int_list, isi_int_tuple, isi_bool_none, isi_bool_bool, isi_bool_int, isi_bool_str, isi_bool_list, isi_bool_tuple, isi_str_none, isi_str_bool, isi_str_int, isi_str_str, isi_str_list, isi_str_tuple, isi_list_none, isi_list_bool, isi_list_int, isi_list_str, isi_list_list, isi_list_tuple, isi_tuple_none, isi_tuple_bool, isi_tuple_int, isi_tuple_str, isi_tuple_list, isi_tuple_tuple, isi2_tl_none, isi2_tl_bool, isi2_tl_int, isi2_tl_str, isi2_tl_list, isi2_tl_tuple, zip2, zipD_map, isi_int_dict, isi_bool_dict, isi_str_dict, isi_list_dict, isi_tuple_dict, isi2_tl_dict, dIsN, dNotN, p_setIx, setIx1_ok, setIx2_s, bin1_w, bin1o_some, toDs_nil, toDs_a, toDs_o, ret_nxt, rngD_map, Int.reduceToNat, p_appV, appV_ok', p_forB, forB_ok, sm1_T, List.getElem?_cons_succ, List.getElem?_cons_zero, q_chain, ch1_a, ch2_a, ch3_tt, ch3_ff, ch4_a, lt_TT, par_ap, par1_ok, par2_ok, srcS_e, src1_e, src2_e, comp_e, un1_e, lst1_e, and_e, or_e, q_sm0, sm01_a, sm01_T, smO_some, app_0w]
    have hasc := asc_of hp
    unfold ascT at hasc
    simp only [sem_read_form, b_read_form, p_body, p_skip, p_seq, p_set, p_ret, p_retN, p_retV_s, p_retV_0, p_exp, p_if, p_raise, p_app, p_ext, p_setT, p_for, p_cell', nxt_nx, nxt_rt, nxt_exc, fin_nx, fin_rt, fin_exc, set_ok, set_exc, ret_ok, ret_exc, exp_ok, exp_exc, if_tt, if_ff, if_ok, if_exc, for_ok, for_exc, app_s, app_0, app_0o, ext_s, ext_0, cons_nx, cons_exc, setT_ok, cell_ok, pop_nx, pop_rt, unC_nil, unC_n, unC_d, unC_st, no_nil, no_n, no_a, mask_nil, mask_t, mask_f, dom_nil, dom_s, dom_n, start_0, start_s, setW_nil, setW_cons, ev_nil, ev_n, ev_a, ev_o, ev_own, frzE_nil, frzE_cons, frz1_s, frz1_0o, frz1_0a, frz1_0n, sNm_ap, sTp_ap, q_var0, q_varS, q_c, q_bin, bin1_a, bin1_o, bin1_e, bin2_a, bin2_o, bin2_e, q_un, un1_a, un1_o, q_call, call_n, call_c, call1_a, call1_o, call1_e, q_tup, allD_nil, allD_cons, tupE_ap, q_lst, lst_n, lst_c, lst1_ok, q_comp, comp_ok, q_and, and_tt, and_ff, asB_ok, asB_e, and_ok, and_fold, q_or, or_tt, or_ff, or_ok, or_fold, q_not, not_ok, not_e, q_ife, ife_tt, ife_ff, ife_ok, q_seq, q_rng1, q_rng2, q_enum, q_zip, srcS_a, srcS_o, src1_a, src1_o, src2_a, src2_o, of_some, q_sl, sl_nn, sl_n, sl_s, slo_nn, slo_n, slo_s, slLo_n, slLo_s, slHi_ok, slLo_n', slLo_s', slHi_ok', q_sm, sm1_a, sm2_a, sm2_o, on1_ap, onD1_ap, true_ap, gNm_ap, gTp_ap, setD_nil, setD_cons, wipe_nil, wipe_cons, max2_ap, rng1_n, rng1_l, rng1_1, Nat.reduceAdd, Nat.reduceSub, Nat.reduceLeDiff, List.length_cons, List.length_nil, List.length_map, List.length_range, List.replicate, List.set_cons_zero, List.set_cons_succ, List.map_cons, List.map_nil, List.cons_append, List.nil_append, Option.map_some, if_true, Bool.false_eq_true, if_false, Bool.not_true, Bool.not_false, o_add, o_sub, o_shr, o_band, o_lt, o_le, o_gt, o_ge, own0, own1, own2, own3, own4, own5, own6, own7, own8, own9, own10, own11, own12, seqD_lst, seqD_tup, seqD_eF, seqD_eG, i2n, isi_eF, isi_eG, isi_eT, gLen_eF, gLen_eG, gLen_lst, gLen_tup, dAll_m, dAny_m, all_tt, dInt_b, isi_int_none, isi_int_bool, isi_int_int, isi_int_str, isi_int_list, isi_int_tuple, isi_bool_none, isi_bool_bool, isi_bool_int, isi_bool_str, isi_bool_list, isi_bool_tuple, isi_str_none, isi_str_bool, isi_str_int, isi_str_str, isi_str_list, isi_str_tuple, isi_list_none, isi_list_bool, isi_list_int, isi_list_str, isi_list_list, isi_list_tuple, isi_tuple_none, isi_tuple_bool, isi_tuple_int, isi_tuple_str, isi_tuple_list, isi_tuple_tuple, isi2_tl_none, isi2_tl_bool, isi2_tl_int, isi2_tl_str, isi2_tl_list, isi2_tl_tuple, zip2, zipD_map, isi_int_dict, isi_bool_dict, isi_str_dict, isi_list_dict, isi_tuple_dict, isi2_tl_dict, dIsN, dNotN, p_setIx, setIx1_ok, setIx2_s, bin1_w, bin1o_some, toDs_nil, toDs_a, toDs_o, ret_nxt, rngD_map, Int.reduceToNat, p_appV, appV_ok', p_forB, forB_ok, sm1_T, List.getElem?_cons_succ, List.getElem?_cons_zero, q_chain, ch1_a, ch2_a, ch3_tt, ch3_ff, ch4_a, lt_TT, par_ap, par1_ok, par2_ok, srcS_e, src1_e, src2_e, comp_e, un1_e, lst1_e, and_e, or_e, q_sm0, sm01_a, sm01_T, smO_some, app_0w, e_need_number (n := (n : Int)) ⟨by omega, by omega⟩ S hS, not_none h0 S, hsp, dTup, hS, hc1, sl1_T, hc2, hasc]
theorem e_read_form0 {d x : D} (h : ∀ n, d = .int n → ¬ (1 ≤ n ∧ n ≤ 4)) (S : Cs) (hS : flatCs S = true) : sem_read_form [.d d, .d x] S = .exc "NoNumber" S := by
  simp only [sem_read_form, b_read_form, p_body, p_skip, p_seq, p_set, p_ret, p_retN, p_retV_s, p_retV_0, p_exp, p_if, p_raise, p_app, p_ext, p_setT, p_for, p_cell', nxt_nx, nxt_rt, nxt_exc, fin_nx, fin_rt, fin_exc, set_ok, set_exc, ret_ok, ret_exc, exp_ok, exp_exc, if_tt, if_ff, if_ok, if_exc, for_ok, for_exc, app_s, app_0, app_0o, ext_s, ext_0, cons_nx, cons_exc, setT_ok, cell_ok, pop_nx, pop_rt, unC_nil, unC_n, unC_d, unC_st, no_nil, no_n, no_a, mask_nil, mask_t, mask_f, dom_nil, dom_s, dom_n, start_0, start_s, setW_nil, setW_cons, ev_nil, ev_n, ev_a, ev_o, ev_own, frzE_nil, frzE_cons, frz1_s, frz1_0o, frz1_0a, frz1_0n, sNm_ap, sTp_ap, q_var0, q_varS, q_c, q_bin, bin1_a, bin1_o, bin1_e, bin2_a, bin2_o, bin2_e, q_un, un1_a, un1_o, q_call, call_n, call_c, call1_a, call1_o, call1_e, q_tup, allD_nil, allD_cons, tupE_ap, q_lst, lst_n, lst_c, lst1_ok, q_comp, comp_ok, q_and, and_tt, and_ff, asB_ok, asB_e, and_ok, and_fold, q_or, or_tt, or_ff, or_ok, or_fold, q_not, not_ok, not_e, q_ife, ife_tt, ife_ff, ife_ok, q_seq, q_rng1, q_rng2, q_enum, q_zip, srcS_a, srcS_o, src1_a, src1_o, src2_a, src2_o, of_some, q_sl, sl_nn, sl_n, sl_s, slo_nn, slo_n, slo_s, slLo_n, slLo_s, slHi_ok, slLo_n', slLo_s', slHi_ok', q_sm, sm1_a, sm2_a, sm2_o, on1_ap, onD1_ap, true_ap, gNm_ap, gTp_ap, setD_nil, setD_cons, wipe_nil, wipe_cons, max2_ap, rng1_n, rng1_l, rng1_1, Nat.reduceAdd, Nat.reduceSub, Nat.reduceLeDiff, List.length_cons, List.length_nil, List.length_map, List.length_range, List.replicate, List.set_cons_zero, List.set_cons_succ, List.map_cons, List.map_nil, List.cons_append, List.nil_append, Option.map_some, if_true, Bool.false_eq_true, if_false, Bool.not_true, Bool.not_false, o_add, o_sub, o_shr, o_band, o_lt, o_le, o_gt, o_ge, own0, own1, own2, own3, own4, own5, own6, own7, own8, own9, own10, own11, own12, seqD_lst, seqD_tup, seqD_eF, seqD_eG, i2n, isi_eF, isi_eG, isi_eT, gLen_eF, gLen_eG, gLen_lst, gLen_tup, dAll_m, dAny_m, all_tt, dInt_b, isi_int_none, isi_int_bool, isi_int_int, isi_int_str, isi_int_list, isi_int_tuple, isi_bool_none, isi_bool_bool, isi_bool_int, isi_bool_str, isi_bool_list, isi_bool_tuple, isi_str_none, isi_str_bool, isi_str_int, isi_str_str, isi_str_list, isi_str_tuple, isi_list_none, isi_list_bool, isi_list_int, isi_list_str, isi_list_list, isi_list_tuple, isi_tuple_none, isi_tuple_bool, isi_tuple_int, isi_tuple_str, isi_tuple_list, isi_tuple_tuple, isi2_tl_none, isi2_tl_bool, isi2_tl_int, isi2_tl_str, isi2_tl_list, isi2_tl_tuple, zip2, zipD_map, isi_int_dict, isi_bool_dict, isi_str_dict, isi_list_dict, isi_tuple_dict, isi2_tl_dict, dIsN, dNotN, p_setIx, setIx1_ok, setIx2_s, bin1_w, bin1o_some, toDs_nil, toDs_a, toDs_o, ret_nxt, rngD_map, Int.reduceToNat, p_appV, appV_ok', p_forB, forB_ok, sm1_T, List.getElem?_cons_succ, List.getElem?_cons_zero, q_chain, ch1_a, ch2_a, ch3_tt, ch3_ff, ch4_a, lt_TT, par_ap, par1_ok, par2_ok, srcS_e, src1_e, src2_e, comp_e, un1_e, lst1_e, and_e, or_e, q_sm0, sm01_a, sm01_T, smO_some, app_0w, e_need_number0 h S hS]
theorem e_law_cell_at (ns : List Int) (k : Nat) (S : Cs) (hS : flatCs S = true) : ∃ z : Int, sem__law_cell_at [.s ns, .d (.int k)] S = .ok (iD z) S := by
  have g : gLen [.s ns] S = .ok (iD ns.length) S := rfl
  by_cases hk : k < ns.length
  · have hi : dIx (.s ns) (.d (.int k)) S = .ok (iD ns[k]) S := by
      unfold dIx
      simp only [atI_n (List.getElem?_eq_getElem hk)]
    refine ⟨ns[k], ?_⟩
    simp only [sem__law_cell_at, b__law_cell_at, bodySem, startE, sRet, sRetV, sRetN, sSeq, sSet, sSkip, sExp, sIf, fSm, fC, fComp, iRng1, iSeq, iZip, iEnum, fVar, fCall, fBin, fUn, onD1, on1, evs_nil, evs_cons, frzE, ev, ev1_own, ev1_ownD, ev1_a, ev1_no, List.map_cons, List.map_nil, List.cons_append, List.nil_append, List.replicate, List.length_cons, List.length_nil, Nat.reduceAdd, Nat.reduceSub, bnd_a, bi_a, bi_own, bnd_own, List.getElem?_cons_zero, List.getElem?_cons_succ, rng1, SR.of, if_true, wipeE, List.set_cons_zero, List.set_cons_succ, rngD_map, i2n, and_self, setD, Option.map_some, gNm, gTp, o_add, o_sub, o_shr, o_band, o_lt, o_le, o_gt, o_ge, fTup, allD, zip2, zipD_map, Function.comp_def, List.map_map, own0, own1, own2, own3, own4, own5, own6, own7, own8, own9, own10, own11, own12, fLst, evsW, sFor, dom, seqD_lst, seqD_tup, Option.isSome, sNm, sTp, setW, frz1_s, frz1_0o, frz1_0a, frz1_0n, isi_int_none, isi_int_bool, isi_int_int, isi_int_str, isi_int_list, isi_int_tuple, isi_bool_none, isi_bool_bool, isi_bool_int, isi_bool_str, isi_bool_list, isi_bool_tuple, isi_str_none, isi_str_bool, isi_str_int, isi_str_str, isi_str_list, isi_str_tuple, isi_list_none, isi_list_bool, isi_list_int, isi_list_str, isi_list_list, isi_list_tuple, isi_tuple_none, isi_tuple_bool, isi_tuple_int, isi_tuple_str, isi_tuple_list, isi_tuple_tuple, isi2_tl_none, isi2_tl_bool, isi2_tl_int, isi2_tl_str, isi2_tl_list, isi2_tl_tuple, br_tt, br_ff, Bool.false_eq_true, if_false, seqD_eF, seqD_eG, isi_eF, isi_eG, isi_eT, gLen_eF, gLen_eG, gLen_lst, gLen_tup, dAll_m, dAny_m, all_tt, dInt_b, g, hS, decide_eq_true (show (k : Int) < (ns.length : Int) by omega), hi]
  · refine ⟨0, ?_⟩
    simp only [sem__law_cell_at, b__law_cell_at, bodySem, startE, sRet, sRetV, sRetN, sSeq, sSet, sSkip, sExp, sIf, fSm, fC, fComp, iRng1, iSeq, iZip, iEnum, fVar, fCall, fBin, fUn, onD1, on1, evs_nil, evs_cons, frzE, ev, ev1_own, ev1_ownD, ev1_a, ev1_no, List.map_cons, List.map_nil, List.cons_append, List.nil_append, List.replicate, List.length_cons, List.length_nil, Nat.reduceAdd, Nat.reduceSub, bnd_a, bi_a, bi_own, bnd_own, List.getElem?_cons_zero, List.getElem?_cons_succ, rng1, SR.of, if_true, wipeE, List.set_cons_zero, List.set_cons_succ, rngD_map, i2n, and_self, setD, Option.map_some, gNm, gTp, o_add, o_sub, o_shr, o_band, o_lt, o_le, o_gt, o_ge, fTup, allD, zip2, zipD_map, Function.comp_def, List.map_map, own0, own1, own2, own3, own4, own5, own6, own7, own8, own9, own10, own11, own12, fLst, evsW, sFor, dom, seqD_lst, seqD_tup, Option.isSome, sNm, sTp, setW, frz1_s, frz1_0o, frz1_0a, frz1_0n, isi_int_none, isi_int_bool, isi_int_int, isi_int_str, isi_int_list, isi_int_tuple, isi_bool_none, isi_bool_bool, isi_bool_int, isi_bool_str, isi_bool_list, isi_bool_tuple, isi_str_none, isi_str_bool, isi_str_int, isi_str_str, isi_str_list, isi_str_tuple, isi_list_none, isi_list_bool, isi_list_int, isi_list_str, isi_list_list, isi_list_tuple, isi_tuple_none, isi_tuple_bool, isi_tuple_int, isi_tuple_str, isi_tuple_list, isi_tuple_tuple, isi2_tl_none, isi2_tl_bool, isi2_tl_int, isi2_tl_str, isi2_tl_list, isi2_tl_tuple, br_tt, br_ff, Bool.false_eq_true, if_false, seqD_eF, seqD_eG, isi_eF, isi_eG, isi_eT, gLen_eF, gLen_eG, gLen_lst, gLen_tup, dAll_m, dAny_m, all_tt, dInt_b, g, hS, decide_eq_false (show ¬ (k : Int) < (ns.length : Int) by omega)]
theorem e_law_state (ns : List Int) (k : Nat) (S : Cs) (hS : flatCs S = true) : ∃ (z : Int) (b : Bool), sem__law_state [.s ns, .d (.int k)] S = .ok (ownD [.int z, .bool b]) S ∧ 0 ≤ z ∧ (b = false → z < 2147483647) := by
  obtain ⟨z, e⟩ := e_law_cell_at ns k S hS
  have hp : ∀ S, onD dPow (.d (.int 10)) (.d (.int 18)) S = .ok (iD 1000000000000000000) S := fun S => o_pow _ _ S (by decide)
  by_cases hz : 1000000000000000000 ≤ z
  · refine ⟨z - 1000000000000000000, true, ?_, by omega, fun h => by cases h⟩
    simp only [sem__law_state, b__law_state, bodySem, startE, sRet, sRetV, sRetN, sSeq, sSet, sSkip, sExp, sIf, fSm, fC, fComp, iRng1, iSeq, iZip, iEnum, fVar, fCall, fBin, fUn, onD1, on1, evs_nil, evs_cons, frzE, ev, ev1_own, ev1_ownD, ev1_a, ev1_no, List.map_cons, List.map_nil, List.cons_append, List.nil_append, List.replicate, List.length_cons, List.length_nil, Nat.reduceAdd, Nat.reduceSub, bnd_a, bi_a, bi_own, bnd_own, List.getElem?_cons_zero, List.getElem?_cons_succ, rng1, SR.of, if_true, wipeE, List.set_cons_zero, List.set_cons_succ, rngD_map, i2n, and_self, setD, Option.map_some, gNm, gTp, o_add, o_sub, o_shr, o_band, o_lt, o_le, o_gt, o_ge, fTup, allD, zip2, zipD_map, Function.comp_def, List.map_map, own0, own1, own2, own3, own4, own5, own6, own7, own8, own9, own10, own11, own12, fLst, evsW, sFor, dom, seqD_lst, seqD_tup, Option.isSome, sNm, sTp, setW, frz1_s, frz1_0o, frz1_0a, frz1_0n, isi_int_none, isi_int_bool, isi_int_int, isi_int_str, isi_int_list, isi_int_tuple, isi_bool_none, isi_bool_bool, isi_bool_int, isi_bool_str, isi_bool_list, isi_bool_tuple, isi_str_none, isi_str_bool, isi_str_int, isi_str_str, isi_str_list, isi_str_tuple, isi_list_none, isi_list_bool, isi_list_int, isi_list_str, isi_list_list, isi_list_tuple, isi_tuple_none, isi_tuple_bool, isi_tuple_int, isi_tuple_str, isi_tuple_list, isi_tuple_tuple, isi2_tl_none, isi2_tl_bool, isi2_tl_int, isi2_tl_str, isi2_tl_list, isi2_tl_tuple, br_tt, br_ff, Bool.false_eq_true, if_false, seqD_eF, seqD_eG, isi_eF, isi_eG, isi_eT, gLen_eF, gLen_eG, gLen_lst, gLen_tup, dAll_m, dAny_m, all_tt, dInt_b, e, hp, hS, decide_eq_true hz]
  · refine ⟨z % 2147483647, false, ?_, Int.emod_nonneg _ (by decide), fun _ => Int.emod_lt_of_pos _ (by decide)⟩
    simp only [sem__law_state, b__law_state, bodySem, startE, sRet, sRetV, sRetN, sSeq, sSet, sSkip, sExp, sIf, fSm, fC, fComp, iRng1, iSeq, iZip, iEnum, fVar, fCall, fBin, fUn, onD1, on1, evs_nil, evs_cons, frzE, ev, ev1_own, ev1_ownD, ev1_a, ev1_no, List.map_cons, List.map_nil, List.cons_append, List.nil_append, List.replicate, List.length_cons, List.length_nil, Nat.reduceAdd, Nat.reduceSub, bnd_a, bi_a, bi_own, bnd_own, List.getElem?_cons_zero, List.getElem?_cons_succ, rng1, SR.of, if_true, wipeE, List.set_cons_zero, List.set_cons_succ, rngD_map, i2n, and_self, setD, Option.map_some, gNm, gTp, o_add, o_sub, o_shr, o_band, o_lt, o_le, o_gt, o_ge, fTup, allD, zip2, zipD_map, Function.comp_def, List.map_map, own0, own1, own2, own3, own4, own5, own6, own7, own8, own9, own10, own11, own12, fLst, evsW, sFor, dom, seqD_lst, seqD_tup, Option.isSome, sNm, sTp, setW, frz1_s, frz1_0o, frz1_0a, frz1_0n, isi_int_none, isi_int_bool, isi_int_int, isi_int_str, isi_int_list, isi_int_tuple, isi_bool_none, isi_bool_bool, isi_bool_int, isi_bool_str, isi_bool_list, isi_bool_tuple, isi_str_none, isi_str_bool, isi_str_int, isi_str_str, isi_str_list, isi_str_tuple, isi_list_none, isi_list_bool, isi_list_int, isi_list_str, isi_list_list, isi_list_tuple, isi_tuple_none, isi_tuple_bool, isi_tuple_int, isi_tuple_str, isi_tuple_list, isi_tuple_tuple, isi2_tl_none, isi2_tl_bool, isi2_tl_int, isi2_tl_str, isi2_tl_list, isi2_tl_tuple, br_tt, br_ff, Bool.false_eq_true, if_false, seqD_eF, seqD_eG, isi_eF, isi_eG, isi_eT, gLen_eF, gLen_eG, gLen_lst, gLen_tup, dAll_m, dAny_m, all_tt, dInt_b, e, hp, hS, decide_eq_false hz, o_mod _ _ _ (show (0 : Int) < 2147483647 by decide)]
theorem e_law_take {S : Cs} (h : St S) (m : Nat) (hm : 0 < m) (hm2 : m < 1073741824) : ∃ (r : Nat) (S1 : Cs), sem__law_take [.c 0, .d (.int m)] S = .ok (iD r) S1 ∧ r < m ∧ St S1 := by
  obtain ⟨z, b, rfl, hz, hb⟩ := h
  have hm' : (0 : Int) < (m : Int) := by omega
  have x0 : ∀ (z : Int) (b : Bool), dIx (.c 0) (.d (.int 0)) [[.int z, .bool b]] = .ok (iD z) [[.int z, .bool b]] := fun _ _ => rfl
  have x1 : ∀ (z : Int) (b : Bool), dIx (.c 0) (.d (.int 1)) [[.int z, .bool b]] = .ok (bD b) [[.int z, .bool b]] := fun _ _ => rfl
  have fl : ∀ (z : Int) (b : Bool), flatCs [[.int z, .bool b]] = true := fun _ _ => rfl
  have i0 : ixN 2 0 = some 0 := rfl
  cases b with
  | true =>
    refine ⟨(z % m).toNat, [[.int (z / m), .bool true]], ?_, ?_, z / m, true, rfl, ?_, fun z => by cases z⟩
    · simp only [sem__law_take, b__law_take, bodySem, startE, sRet, sRetV, sRetN, sSeq, sSet, sSkip, sExp, sIf, fSm, fC, fComp, iRng1, iSeq, iZip, iEnum, fVar, fCall, fBin, fUn, onD1, on1, evs_nil, evs_cons, frzE, ev, ev1_own, ev1_ownD, ev1_a, ev1_no, List.map_cons, List.map_nil, List.cons_append, List.nil_append, List.replicate, List.length_cons, List.length_nil, Nat.reduceAdd, Nat.reduceSub, bnd_a, bi_a, bi_own, bnd_own, List.getElem?_cons_zero, List.getElem?_cons_succ, rng1, SR.of, if_true, wipeE, List.set_cons_zero, List.set_cons_succ, rngD_map, i2n, and_self, setD, Option.map_some, gNm, gTp, o_add, o_sub, o_shr, o_band, o_lt, o_le, o_gt, o_ge, fTup, allD, zip2, zipD_map, Function.comp_def, List.map_map, own0, own1, own2, own3, own4, own5, own6, own7, own8, own9, own10, own11, own12, fLst, evsW, sFor, dom, seqD_lst, seqD_tup, Option.isSome, sNm, sTp, setW, frz1_s, frz1_0o, frz1_0a, frz1_0n, isi_int_none, isi_int_bool, isi_int_int, isi_int_str, isi_int_list, isi_int_tuple, isi_bool_none, isi_bool_bool, isi_bool_int, isi_bool_str, isi_bool_list, isi_bool_tuple, isi_str_none, isi_str_bool, isi_str_int, isi_str_str, isi_str_list, isi_str_tuple, isi_list_none, isi_list_bool, isi_list_int, isi_list_str, isi_list_list, isi_list_tuple, isi_tuple_none, isi_tuple_bool, isi_tuple_int, isi_tuple_str, isi_tuple_list, isi_tuple_tuple, isi2_tl_none, isi2_tl_bool, isi2_tl_int, isi2_tl_str, isi2_tl_list, isi2_tl_tuple, br_tt, br_ff, Bool.false_eq_true, if_false, seqD_eF, seqD_eG, isi_eF, isi_eG, isi_eT, gLen_eF, gLen_eG, gLen_lst, gLen_tup, dAll_m, dAny_m, all_tt, dInt_b, x0, x1, fl, o_mod _ _ _ hm', o_div _ _ _ (show (0 : Int) < (m : Int) ∧ (m : Int) < 1073741824 by omega), sSetIx, i0]
      rw [Int.toNat_of_nonneg (Int.emod_nonneg _ (by omega))]
    · have := Int.emod_lt_of_pos z hm'
      have := Int.emod_nonneg z (show (m : Int) ≠ 0 by omega)
      omega
    · exact Int.ediv_nonneg hz (by omega)
  | false =>
    have hb := hb rfl
    have q1 := Int.emod_nonneg (z * 48271 + 29) (show (2147483647 : Int) ≠ 0 by decide)
    have q2 := Int.emod_lt_of_pos (z * 48271 + 29) (show (0 : Int) < 2147483647 by decide)
    generalize hz1 : (z * 48271 + 29) % 2147483647 = z1 at q1 q2
    have q3 := Int.emod_nonneg (z1 * z1 + 39373 * z1 + 7) (show (2147483629 : Int) ≠ 0 by decide)
    have q4 := Int.emod_lt_of_pos (z1 * z1 + 39373 * z1 + 7) (show (0 : Int) < 2147483629 by decide)
    generalize hs : (z1 * z1 + 39373 * z1 + 7) % 2147483629 = s at q3 q4
    have q5 := Int.emod_nonneg (s * s + 16807 * s) (show (2147483587 : Int) ≠ 0 by decide)
    generalize hs2 : (s * s + 16807 * s) % 2147483587 = s2 at q5
    have m1 : ∀ S, onD dMul (.d (.int z)) (.d (.int 48271)) S = .ok (iD (z * 48271)) S := fun S => o_mul _ _ S (by omega)
    have m2 : ∀ S, onD dMul (.d (.int z1)) (.d (.int z1)) S = .ok (iD (z1 * z1)) S := fun S => o_mul _ _ S (by omega)
    have m3 : ∀ S, onD dMul (.d (.int 39373)) (.d (.int z1)) S = .ok (iD (39373 * z1)) S := fun S => o_mul _ _ S (by omega)
    have m4 : ∀ S, onD dMul (.d (.int s)) (.d (.int s)) S = .ok (iD (s * s)) S := fun S => o_mul _ _ S (by omega)
    have m5 : ∀ S, onD dMul (.d (.int 16807)) (.d (.int s)) S = .ok (iD (16807 * s)) S := fun S => o_mul _ _ S (by omega)
    refine ⟨(s2 / 8 % m).toNat, [[.int z1, .bool false]], ?_, ?_, z1, false, rfl, q1, fun _ => q2⟩
    · simp only [sem__law_take, b__law_take, bodySem, startE, sRet, sRetV, sRetN, sSeq, sSet, sSkip, sExp, sIf, fSm, fC, fComp, iRng1, iSeq, iZip, iEnum, fVar, fCall, fBin, fUn, onD1, on1, evs_nil, evs_cons, frzE, ev, ev1_own, ev1_ownD, ev1_a, ev1_no, List.map_cons, List.map_nil, List.cons_append, List.nil_append, List.replicate, List.length_cons, List.length_nil, Nat.reduceAdd, Nat.reduceSub, bnd_a, bi_a, bi_own, bnd_own, List.getElem?_cons_zero, List.getElem?_cons_succ, rng1, SR.of, if_true, wipeE, List.set_cons_zero, List.set_cons_succ, rngD_map, i2n, and_self, setD, Option.map_some, gNm, gTp, o_add, o_sub, o_shr, o_band, o_lt, o_le, o_gt, o_ge, fTup, allD, zip2, zipD_map, Function.comp_def, List.map_map, own0, own1, own2, own3, own4, own5, own6, own7, own8, own9, own10, own11, own12, fLst, evsW, sFor, dom, seqD_lst, seqD_tup, Option.isSome, sNm, sTp, setW, frz1_s, frz1_0o, frz1_0a, frz1_0n, isi_int_none, isi_int_bool, isi_int_int, isi_int_str, isi_int_list, isi_int_tuple, isi_bool_none, isi_bool_bool, isi_bool_int, isi_bool_str, isi_bool_list, isi_bool_tuple, isi_str_none, isi_str_bool, isi_str_int, isi_str_str, isi_str_list, isi_str_tuple, isi_list_none, isi_list_bool, isi_list_int, isi_list_str, isi_list_list, isi_list_tuple, isi_tuple_none, isi_tuple_bool, isi_tuple_int, isi_tuple_str, isi_tuple_list, isi_tuple_tuple, isi2_tl_none, isi2_tl_bool, isi2_tl_int, isi2_tl_str, isi2_tl_list, isi2_tl_tuple, br_tt, br_ff, Bool.false_eq_true, if_false, seqD_eF, seqD_eG, isi_eF, isi_eG, isi_eT, gLen_eF, gLen_eG, gLen_lst, gLen_tup, dAll_m, dAny_m, all_tt, dInt_b, x0, x1, fl, i0, sSetIx, m1, m2, m3, m4, m5, hz1, hs, hs2, o_mod _ _ _ hm', o_mod _ _ _ (show (0 : Int) < 2147483647 by decide), o_mod _ _ _ (show (0 : Int) < 2147483629 by decide), o_mod _ _ _ (show (0 : Int) < 2147483587 by decide), o_div _ _ _ (show (0 : Int) < 8 ∧ (8 : Int) < 1073741824 by decide)]
      rw [Int.toNat_of_nonneg (Int.emod_nonneg _ (by omega))]
    · have := Int.emod_lt_of_pos (s2 / 8) hm'
      have := Int.emod_nonneg (s2 / 8) (show (m : Int) ≠ 0 by omega)
      omega
theorem e_law_term {S : Cs} (h : St S) (n : Nat) (hn : n ≤ 10) : ∃ (t : Tm) (S1 : Cs), sem__law_term [.c 0, .d (.int n)] S = .ok (.a (.d (eT t))) S1 ∧ t.length = n ∧ St S1 := by
  have key : R.To (sem__law_term [.c 0, .d (.int n)] S) fun w S1 => ∃ t : Tm, w = .a (.d (eT t)) ∧ t.length = n ∧ St S1 := by
    simp only [sem__law_term, b__law_term, p_body, p_skip, p_seq, p_set, p_ret, p_retN, p_retV_s, p_retV_0, p_exp, p_if, p_raise, p_app, p_ext, p_setT, p_for, p_cell', nxt_nx, nxt_rt, nxt_exc, fin_nx, fin_rt, fin_exc, set_ok, set_exc, ret_ok, ret_exc, exp_ok, exp_exc, if_tt, if_ff, if_ok, if_exc, for_ok, for_exc, app_s, app_0, app_0o, ext_s, ext_0, cons_nx, cons_exc, setT_ok, cell_ok, pop_nx, pop_rt, unC_nil, unC_n, unC_d, unC_st, no_nil, no_n, no_a, mask_nil, mask_t, mask_f, dom_nil, dom_s, dom_n, start_0, start_s, setW_nil, setW_cons, ev_nil, ev_n, ev_a, ev_o, ev_own, frzE_nil, frzE_cons, frz1_s, frz1_0o, frz1_0a, frz1_0n, sNm_ap, sTp_ap, q_var0, q_varS, q_c, q_bin, bin1_a, bin1_o, bin1_e, bin2_a, bin2_o, bin2_e, q_un, un1_a, un1_o, q_call, call_n, call_c, call1_a, call1_o, call1_e, q_tup, allD_nil, allD_cons, tupE_ap, q_lst, lst_n, lst_c, lst1_ok, q_comp, comp_ok, q_and, and_tt, and_ff, asB_ok, asB_e, and_ok, and_fold, q_or, or_tt, or_ff, or_ok, or_fold, q_not, not_ok, not_e, q_ife, ife_tt, ife_ff, ife_ok, q_seq, q_rng1, q_rng2, q_enum, q_zip, srcS_a, srcS_o, src1_a, src1_o, src2_a, src2_o, of_some, q_sl, sl_nn, sl_n, sl_s, slo_nn, slo_n, slo_s, slLo_n, slLo_s, slHi_ok, slLo_n', slLo_s', slHi_ok', q_sm, sm1_a, sm2_a, sm2_o, on1_ap, onD1_ap, true_ap, gNm_ap, gTp_ap, setD_nil, setD_cons, wipe_nil, wipe_cons, max2_ap, rng1_n, rng1_l, rng1_1, Nat.reduceAdd, Nat.reduceSub, Nat.reduceLeDiff, List.length_cons, List.length_nil, List.length_map, List.length_range, List.replicate, List.set_cons_zero, List.set_cons_succ, List.map_cons, List.map_nil, List.cons_append, List.nil_append, Option.map_some, if_true, Bool.false_eq_true, if_false, Bool.not_true, Bool.not_false, o_add, o_sub, o_shr, o_band, o_lt, o_le, o_gt, o_ge, own0, own1, own2, own3, own4, own5, own6, own7, own8, own9, own10, own11, own12, seqD_lst, seqD_tup, seqD_eF, seqD_eG, i2n, isi_eF, isi_eG, isi_eT, gLen_eF, gLen_eG, gLen_lst, gLen_tup, dAll_m, dAny_m, all_tt, dInt_b, isi_int_none, isi_int_bool, isi_int_int, isi_int_str, isi_int_list, isi_int_tuple, isi_bool_none, isi_bool_bool, isi_bool_int, isi_bool_str, isi_bool_list, isi_bool_tuple, isi_str_none, isi_str_bool, isi_str_int, isi_str_str, isi_str_list, isi_str_tuple, isi_list_none, isi_list_bool, isi_list_int, isi_list_str, isi_list_list, isi_list_tuple, isi_tuple_none, isi_tuple_bool, isi_tuple_int, isi_tuple_str, isi_tuple_list, isi_tuple_tuple, isi2_tl_none, isi2_tl_bool, isi2_tl_int, isi2_tl_str, isi2_tl_list, isi2_tl_tuple, zip2, zipD_map, isi_int_dict, isi_bool_dict, isi_str_dict, isi_list_dict, isi_tuple_dict, isi2_tl_dict, dIsN, dNotN, p_setIx, setIx1_ok, setIx2_s, bin1_w, bin1o_some, toDs_nil, toDs_a, toDs_o, ret_nxt, rngD_map, Int.reduceToNat, p_appV, appV_ok', p_forB, forB_ok, sm1_T, List.getElem?_cons_succ, List.getElem?_cons_zero, q_chain, ch1_a, ch2_a, ch3_tt, ch3_ff, ch4_a, lt_TT, par_ap, par1_ok, par2_ok, srcS_e, src1_e, src2_e, comp_e, un1_e, lst1_e, and_e, or_e, q_sm0, sm01_a, sm01_T, smO_some, app_0w, rng1_n n (by omega), to_fin, to_ret]
    refine to_sm2 (comp_to (fun acc S => ∃ t : Tm, acc = t.map (fun a => .str (tS [sgO a])) ∧ St S) ⟨[], rfl, h⟩ ?_ ?_)
    · rintro x hx acc S1 ⟨t, rfl, hS⟩
      obtain ⟨r, S2, e2, l2, h2⟩ := e_law_take hS 4 (by decide) (by decide)
      obtain ⟨a, ea⟩ := drawn_sign l2 S2
      have e2' : sem__law_take [A.c 0, A.d (PyData.int 4)] S1 = .ok (iD r) S2 := e2
      refine ⟨_, rfl, ?_⟩
      simp only [p_body, p_skip, p_seq, p_set, p_ret, p_retN, p_retV_s, p_retV_0, p_exp, p_if, p_raise, p_app, p_ext, p_setT, p_for, p_cell', nxt_nx, nxt_rt, nxt_exc, fin_nx, fin_rt, fin_exc, set_ok, set_exc, ret_ok, ret_exc, exp_ok, exp_exc, if_tt, if_ff, if_ok, if_exc, for_ok, for_exc, app_s, app_0, app_0o, ext_s, ext_0, cons_nx, cons_exc, setT_ok, cell_ok, pop_nx, pop_rt, unC_nil, unC_n, unC_d, unC_st, no_nil, no_n, no_a, mask_nil, mask_t, mask_f, dom_nil, dom_s, dom_n, start_0, start_s, setW_nil, setW_cons, ev_nil, ev_n, ev_a, ev_o, ev_own, frzE_nil, frzE_cons, frz1_s, frz1_0o, frz1_0a, frz1_0n, sNm_ap, sTp_ap, q_var0, q_varS, q_c, q_bin, bin1_a, bin1_o, bin1_e, bin2_a, bin2_o, bin2_e, q_un, un1_a, un1_o, q_call, call_n, call_c, call1_a, call1_o, call1_e, q_tup, allD_nil, allD_cons, tupE_ap, q_lst, lst_n, lst_c, lst1_ok, q_comp, comp_ok, q_and, and_tt, and_ff, asB_ok, asB_e, and_ok, and_fold, q_or, or_tt, or_ff, or_ok, or_fold, q_not, not_ok, not_e, q_ife, ife_tt, ife_ff, ife_ok, q_seq, q_rng1, q_rng2, q_enum, q_zip, srcS_a, srcS_o, src1_a, src1_o, src2_a, src2_o, of_some, q_sl, sl_nn, sl_n, sl_s, slo_nn, slo_n, slo_s, slLo_n, slLo_s, slHi_ok, slLo_n', slLo_s', slHi_ok', q_sm, sm1_a, sm2_a, sm2_o, on1_ap, onD1_ap, true_ap, gNm_ap, gTp_ap, setD_nil, setD_cons, wipe_nil, wipe_cons, max2_ap, rng1_n, rng1_l, rng1_1, Nat.reduceAdd, Nat.reduceSub, Nat.reduceLeDiff, List.length_cons, List.length_nil, List.length_map, List.length_range, List.replicate, List.set_cons_zero, List.set_cons_succ, List.map_cons, List.map_nil, List.cons_append, List.nil_append, Option.map_some, if_true, Bool.false_eq_true, if_false, Bool.not_true, Bool.not_false, o_add, o_sub, o_shr, o_band, o_lt, o_le, o_gt, o_ge, own0, own1, own2, own3, own4, own5, own6, own7, own8, own9, own10, own11, own12, seqD_lst, seqD_tup, seqD_eF, seqD_eG, i2n, isi_eF, isi_eG, isi_eT, gLen_eF, gLen_eG, gLen_lst, gLen_tup, dAll_m, dAny_m, all_tt, dInt_b, isi_int_none, isi_int_bool, isi_int_int, isi_int_str, isi_int_list, isi_int_tuple, isi_bool_none, isi_bool_bool, isi_bool_int, isi_bool_str, isi_bool_list, isi_bool_tuple, isi_str_none, isi_str_bool, isi_str_int, isi_str_str, isi_str_list, isi_str_tuple, isi_list_none, isi_list_bool, isi_list_int, isi_list_str, isi_list_list, isi_list_tuple, isi_tuple_none, isi_tuple_bool, isi_tuple_int, isi_tuple_str, isi_tuple_list, isi_tuple_tuple, isi2_tl_none, isi2_tl_bool, isi2_tl_int, isi2_tl_str, isi2_tl_list, isi2_tl_tuple, zip2, zipD_map, isi_int_dict, isi_bool_dict, isi_str_dict, isi_list_dict, isi_tuple_dict, isi2_tl_dict, dIsN, dNotN, p_setIx, setIx1_ok, setIx2_s, bin1_w, bin1o_some, toDs_nil, toDs_a, toDs_o, ret_nxt, rngD_map, Int.reduceToNat, p_appV, appV_ok', p_forB, forB_ok, sm1_T, List.getElem?_cons_succ, List.getElem?_cons_zero, q_chain, ch1_a, ch2_a, ch3_tt, ch3_ff, ch4_a, lt_TT, par_ap, par1_ok, par2_ok, srcS_e, src1_e, src2_e, comp_e, un1_e, lst1_e, and_e, or_e, q_sm0, sm01_a, sm01_T, smO_some, app_0w, e2', ea, to_ok]
      exact ⟨_, rfl, t ++ [a], by simp, h2⟩
    · rintro ds S1 ⟨t, rfl, hS⟩ hl
      simp only [List.length_map, List.length_range] at hl
      exact ⟨_, _, ownD_toA _, dJoin0 (fun a => sgO a) t (by omega), t, rfl, hl, hS⟩
  obtain ⟨w, S1, e, t, rfl, hl, h1⟩ := key.get
  exact ⟨t, S1, e, hl, h1⟩
theorem e_law_bits (n p : Nat) (hn : n ≤ 10) (S : Cs) : sem__law_bits [.d (.int n), .d (.int p)] S = .ok (sD (tS ((bits n p).map sg))) S := by
  refine to_eq ?_
  simp only [sem__law_bits, b__law_bits, p_body, p_skip, p_seq, p_set, p_ret, p_retN, p_retV_s, p_retV_0, p_exp, p_if, p_raise, p_app, p_ext, p_setT, p_for, p_cell', nxt_nx, nxt_rt, nxt_exc, fin_nx, fin_rt, fin_exc, set_ok, set_exc, ret_ok, ret_exc, exp_ok, exp_exc, if_tt, if_ff, if_ok, if_exc, for_ok, for_exc, app_s, app_0, app_0o, ext_s, ext_0, cons_nx, cons_exc, setT_ok, cell_ok, pop_nx, pop_rt, unC_nil, unC_n, unC_d, unC_st, no_nil, no_n, no_a, mask_nil, mask_t, mask_f, dom_nil, dom_s, dom_n, start_0, start_s, setW_nil, setW_cons, ev_nil, ev_n, ev_a, ev_o, ev_own, frzE_nil, frzE_cons, frz1_s, frz1_0o, frz1_0a, frz1_0n, sNm_ap, sTp_ap, q_var0, q_varS, q_c, q_bin, bin1_a, bin1_o, bin1_e, bin2_a, bin2_o, bin2_e, q_un, un1_a, un1_o, q_call, call_n, call_c, call1_a, call1_o, call1_e, q_tup, allD_nil, allD_cons, tupE_ap, q_lst, lst_n, lst_c, lst1_ok, q_comp, comp_ok, q_and, and_tt, and_ff, asB_ok, asB_e, and_ok, and_fold, q_or, or_tt, or_ff, or_ok, or_fold, q_not, not_ok, not_e, q_ife, ife_tt, ife_ff, ife_ok, q_seq, q_rng1, q_rng2, q_enum, q_zip, srcS_a, srcS_o, src1_a, src1_o, src2_a, src2_o, of_some, q_sl, sl_nn, sl_n, sl_s, slo_nn, slo_n, slo_s, slLo_n, slLo_s, slHi_ok, slLo_n', slLo_s', slHi_ok', q_sm, sm1_a, sm2_a, sm2_o, on1_ap, onD1_ap, true_ap, gNm_ap, gTp_ap, setD_nil, setD_cons, wipe_nil, wipe_cons, max2_ap, rng1_n, rng1_l, rng1_1, Nat.reduceAdd, Nat.reduceSub, Nat.reduceLeDiff, List.length_cons, List.length_nil, List.length_map, List.length_range, List.replicate, List.set_cons_zero, List.set_cons_succ, List.map_cons, List.map_nil, List.cons_append, List.nil_append, Option.map_some, if_true, Bool.false_eq_true, if_false, Bool.not_true, Bool.not_false, o_add, o_sub, o_shr, o_band, o_lt, o_le, o_gt, o_ge, own0, own1, own2, own3, own4, own5, own6, own7, own8, own9, own10, own11, own12, seqD_lst, seqD_tup, seqD_eF, seqD_eG, i2n, isi_eF, isi_eG, isi_eT, gLen_eF, gLen_eG, gLen_lst, gLen_tup, dAll_m, dAny_m, all_tt, dInt_b, isi_int_none, isi_int_bool, isi_int_int, isi_int_str, isi_int_list, isi_int_tuple, isi_bool_none, isi_bool_bool, isi_bool_int, isi_bool_str, isi_bool_list, isi_bool_tuple, isi_str_none, isi_str_bool, isi_str_int, isi_str_str, isi_str_list, isi_str_tuple, isi_list_none, isi_list_bool, isi_list_int, isi_list_str, isi_list_list, isi_list_tuple, isi_tuple_none, isi_tuple_bool, isi_tuple_int, isi_tuple_str, isi_tuple_list, isi_tuple_tuple, isi2_tl_none, isi2_tl_bool, isi2_tl_int, isi2_tl_str, isi2_tl_list, isi2_tl_tuple, zip2, zipD_map, isi_int_dict, isi_bool_dict, isi_str_dict, isi_list_dict, isi_tuple_dict, isi2_tl_dict, dIsN, dNotN, p_setIx, setIx1_ok, setIx2_s, bin1_w, bin1o_some, toDs_nil, toDs_a, toDs_o, ret_nxt, rngD_map, Int.reduceToNat, p_appV, appV_ok', p_forB, forB_ok, sm1_T, List.getElem?_cons_succ, List.getElem?_cons_zero, q_chain, ch1_a, ch2_a, ch3_tt, ch3_ff, ch4_a, lt_TT, par_ap, par1_ok, par2_ok, srcS_e, src1_e, src2_e, comp_e, un1_e, lst1_e, and_e, or_e, q_sm0, sm01_a, sm01_T, smO_some, app_0w, rng1_n n (by omega), to_fin]
  refine for_allS (fun (i : Nat) => PyData.int (i : Int)) (fun pre ρ S1 => S1 = S ∧ ρ = [some (.a (.d (.int n))), some (iD ((p / 2 ^ pre.length : Nat) : Int)), some (sD (tS (((List.range pre.length).reverse.map fun k => sg (p.testBit k))))), none]) ⟨rfl, by simp [tS]; rfl⟩ ?_ ?_
  · rintro pre i post e ρ S1 ⟨rfl, rfl⟩
    have hl : pre.length < n := by
      have := congrArg List.length e
      simp at this
      omega
    refine ⟨_, rfl, ?_⟩
    have e3 := o_add_txt S1 [sg ((p / 2 ^ pre.length).testBit 0)] ((List.range pre.length).reverse.map fun k => sg (p.testBit k)) (by simp; omega)
    simp only [p_body, p_skip, p_seq, p_set, p_ret, p_retN, p_retV_s, p_retV_0, p_exp, p_if, p_raise, p_app, p_ext, p_setT, p_for, p_cell', nxt_nx, nxt_rt, nxt_exc, fin_nx, fin_rt, fin_exc, set_ok, set_exc, ret_ok, ret_exc, exp_ok, exp_exc, if_tt, if_ff, if_ok, if_exc, for_ok, for_exc, app_s, app_0, app_0o, ext_s, ext_0, cons_nx, cons_exc, setT_ok, cell_ok, pop_nx, pop_rt, unC_nil, unC_n, unC_d, unC_st, no_nil, no_n, no_a, mask_nil, mask_t, mask_f, dom_nil, dom_s, dom_n, start_0, start_s, setW_nil, setW_cons, ev_nil, ev_n, ev_a, ev_o, ev_own, frzE_nil, frzE_cons, frz1_s, frz1_0o, frz1_0a, frz1_0n, sNm_ap, sTp_ap, q_var0, q_varS, q_c, q_bin, bin1_a, bin1_o, bin1_e, bin2_a, bin2_o, bin2_e, q_un, un1_a, un1_o, q_call, call_n, call_c, call1_a, call1_o, call1_e, q_tup, allD_nil, allD_cons, tupE_ap, q_lst, lst_n, lst_c, lst1_ok, q_comp, comp_ok, q_and, and_tt, and_ff, asB_ok, asB_e, and_ok, and_fold, q_or, or_tt, or_ff, or_ok, or_fold, q_not, not_ok, not_e, q_ife, ife_tt, ife_ff, ife_ok, q_seq, q_rng1, q_rng2, q_enum, q_zip, srcS_a, srcS_o, src1_a, src1_o, src2_a, src2_o, of_some, q_sl, sl_nn, sl_n, sl_s, slo_nn, slo_n, slo_s, slLo_n, slLo_s, slHi_ok, slLo_n', slLo_s', slHi_ok', q_sm, sm1_a, sm2_a, sm2_o, on1_ap, onD1_ap, true_ap, gNm_ap, gTp_ap, setD_nil, setD_cons, wipe_nil, wipe_cons, max2_ap, rng1_n, rng1_l, rng1_1, Nat.reduceAdd, Nat.reduceSub, Nat.reduceLeDiff, List.length_cons, List.length_nil, List.length_map, List.length_range, List.replicate, List.set_cons_zero, List.set_cons_succ, List.map_cons, List.map_nil, List.cons_append, List.nil_append, Option.map_some, if_true, Bool.false_eq_true, if_false, Bool.not_true, Bool.not_false, o_add, o_sub, o_shr, o_band, o_lt, o_le, o_gt, o_ge, own0, own1, own2, own3, own4, own5, own6, own7, own8, own9, own10, own11, own12, seqD_lst, seqD_tup, seqD_eF, seqD_eG, i2n, isi_eF, isi_eG, isi_eT, gLen_eF, gLen_eG, gLen_lst, gLen_tup, dAll_m, dAny_m, all_tt, dInt_b, isi_int_none, isi_int_bool, isi_int_int, isi_int_str, isi_int_list, isi_int_tuple, isi_bool_none, isi_bool_bool, isi_bool_int, isi_bool_str, isi_bool_list, isi_bool_tuple, isi_str_none, isi_str_bool, isi_str_int, isi_str_str, isi_str_list, isi_str_tuple, isi_list_none, isi_list_bool, isi_list_int, isi_list_str, isi_list_list, isi_list_tuple, isi_tuple_none, isi_tuple_bool, isi_tuple_int, isi_tuple_str, isi_tuple_list, isi_tuple_tuple, isi2_tl_none, isi2_tl_bool, isi2_tl_int, isi2_tl_str, isi2_tl_list, isi2_tl_tuple, zip2, zipD_map, isi_int_dict, isi_bool_dict, isi_str_dict, isi_list_dict, isi_tuple_dict, isi2_tl_dict, dIsN, dNotN, p_setIx, setIx1_ok, setIx2_s, bin1_w, bin1o_some, toDs_nil, toDs_a, toDs_o, ret_nxt, rngD_map, Int.reduceToNat, p_appV, appV_ok', p_forB, forB_ok, sm1_T, List.getElem?_cons_succ, List.getElem?_cons_zero, q_chain, ch1_a, ch2_a, ch3_tt, ch3_ff, ch4_a, lt_TT, par_ap, par1_ok, par2_ok, srcS_e, src1_e, src2_e, comp_e, un1_e, lst1_e, and_e, or_e, q_sm0, sm01_a, sm01_T, smO_some, app_0w, o_mod _ _ _ (show (0 : Int) < 2 by decide), dStr_bit, e3, o_div _ _ _ (show (0 : Int) < 2 ∧ (2 : Int) < 1073741824 by decide), to_nx]
    refine ⟨trivial, ?_⟩
    rw [div2, testBit_div0, List.length_append, List.length_singleton, List.range_succ, List.reverse_append]
    rfl
  · rintro ρ S1 ⟨rfl, rfl⟩
    refine ⟨?_, rfl⟩
    rw [List.length_range, bits_rev]
theorem e_law_points (t : Tm) (ht : t.length ≤ 10) (S : Cs) (hS : flatCs S = true) : sem__law_points [.d (eT t)] S = .ok (ownD ((ptsM t).map fun (p : Nat) => PyData.int p)) S := by
  have h2 : 2 ^ t.length ≤ 2 ^ 10 := Nat.pow_le_pow_right (by decide) ht
  refine to_eq ?_
  simp only [sem__law_points, b__law_points, p_body, p_skip, p_seq, p_set, p_ret, p_retN, p_retV_s, p_retV_0, p_exp, p_if, p_raise, p_app, p_ext, p_setT, p_for, p_cell', nxt_nx, nxt_rt, nxt_exc, fin_nx, fin_rt, fin_exc, set_ok, set_exc, ret_ok, ret_exc, exp_ok, exp_exc, if_tt, if_ff, if_ok, if_exc, for_ok, for_exc, app_s, app_0, app_0o, ext_s, ext_0, cons_nx, cons_exc, setT_ok, cell_ok, pop_nx, pop_rt, unC_nil, unC_n, unC_d, unC_st, no_nil, no_n, no_a, mask_nil, mask_t, mask_f, dom_nil, dom_s, dom_n, start_0, start_s, setW_nil, setW_cons, ev_nil, ev_n, ev_a, ev_o, ev_own, frzE_nil, frzE_cons, frz1_s, frz1_0o, frz1_0a, frz1_0n, sNm_ap, sTp_ap, q_var0, q_varS, q_c, q_bin, bin1_a, bin1_o, bin1_e, bin2_a, bin2_o, bin2_e, q_un, un1_a, un1_o, q_call, call_n, call_c, call1_a, call1_o, call1_e, q_tup, allD_nil, allD_cons, tupE_ap, q_lst, lst_n, lst_c, lst1_ok, q_comp, comp_ok, q_and, and_tt, and_ff, asB_ok, asB_e, and_ok, and_fold, q_or, or_tt, or_ff, or_ok, or_fold, q_not, not_ok, not_e, q_ife, ife_tt, ife_ff, ife_ok, q_seq, q_rng1, q_rng2, q_enum, q_zip, srcS_a, srcS_o, src1_a, src1_o, src2_a, src2_o, of_some, q_sl, sl_nn, sl_n, sl_s, slo_nn, slo_n, slo_s, slLo_n, slLo_s, slHi_ok, slLo_n', slLo_s', slHi_ok', q_sm, sm1_a, sm2_a, sm2_o, on1_ap, onD1_ap, true_ap, gNm_ap, gTp_ap, setD_nil, setD_cons, wipe_nil, wipe_cons, max2_ap, rng1_n, rng1_l, rng1_1, Nat.reduceAdd, Nat.reduceSub, Nat.reduceLeDiff, List.length_cons, List.length_nil, List.length_map, List.length_range, List.replicate, List.set_cons_zero, List.set_cons_succ, List.map_cons, List.map_nil, List.cons_append, List.nil_append, Option.map_some, if_true, Bool.false_eq_true, if_false, Bool.not_true, Bool.not_false, o_add, o_sub, o_shr, o_band, o_lt, o_le, o_gt, o_ge, own0, own1, own2, own3, own4, own5, own6, own7, own8, own9, own10, own11, own12, seqD_lst, seqD_tup, seqD_eF, seqD_eG, i2n, isi_eF, isi_eG, isi_eT, gLen_eF, gLen_eG, gLen_lst, gLen_tup, dAll_m, dAny_m, all_tt, dInt_b, isi_int_none, isi_int_bool, isi_int_int, isi_int_str, isi_int_list, isi_int_tuple, isi_bool_none, isi_bool_bool, isi_bool_int, isi_bool_str, isi_bool_list, isi_bool_tuple, isi_str_none, isi_str_bool, isi_str_int, isi_str_str, isi_str_list, isi_str_tuple, isi_list_none, isi_list_bool, isi_list_int, isi_list_str, isi_list_list, isi_list_tuple, isi_tuple_none, isi_tuple_bool, isi_tuple_int, isi_tuple_str, isi_tuple_list, isi_tuple_tuple, isi2_tl_none, isi2_tl_bool, isi2_tl_int, isi2_tl_str, isi2_tl_list, isi2_tl_tuple, zip2, zipD_map, isi_int_dict, isi_bool_dict, isi_str_dict, isi_list_dict, isi_tuple_dict, isi2_tl_dict, dIsN, dNotN, p_setIx, setIx1_ok, setIx2_s, bin1_w, bin1o_some, toDs_nil, toDs_a, toDs_o, ret_nxt, rngD_map, Int.reduceToNat, p_appV, appV_ok', p_forB, forB_ok, sm1_T, List.getElem?_cons_succ, List.getElem?_cons_zero, q_chain, ch1_a, ch2_a, ch3_tt, ch3_ff, ch4_a, lt_TT, par_ap, par1_ok, par2_ok, srcS_e, src1_e, src2_e, comp_e, un1_e, lst1_e, and_e, or_e, q_sm0, sm01_a, sm01_T, smO_some, app_0w, gLen_eT t (by omega), o_shl _ t.length (by omega), rng1_n (2 ^ t.length) (by omega), to_fin]
  refine for_allS (fun (i : Nat) => PyData.int (i : Int)) (fun pre ρ S1 => S1 = S ∧ ρ = [some (.a (.d (eT t))), some (ownD ((pre.filter (holdsM t)).map fun (p : Nat) => PyData.int p)), none, none, none]) ⟨rfl, rfl⟩ ?_ ?_
  · rintro pre p post e ρ S1 ⟨rfl, rfl⟩
    have hl : (pre.filter (holdsM t)).length < 1000000 := by
      have h3 := List.length_filter_le (holdsM t) pre
      have := congrArg List.length e
      simp only [List.length_range, List.length_append] at this
      omega
    refine ⟨_, rfl, ?_⟩
    have hc : compL (gNm 4) (fBin (onD dNotIn) (fBin dIx (fVar 0) (fVar 4)) (fTup [fC (PyData.str (Str.ofString "-")), fBin dIx (fVar 3) (fVar 4)])) (fVar 4) [some (.d (eT t)), none, some (.d (.int p)), some (.d (.str (tS ((bits t.length p).map sg)))), none] ((List.range t.length).map fun (i : Nat) => PyData.int (i : Int)) S1 [] = .ok (ownD (((List.range t.length).filter fun k => !((t[k]?.getD none) == none || (t[k]?.getD none) == some (p.testBit (t.length - 1 - k)))).map fun (i : Nat) => PyData.int (i : Int))) S1 := by
      rw [compL_f (fun (i : Nat) => PyData.int i) (fun k => !((t[k]?.getD none) == none || (t[k]?.getD none) == some (p.testBit (t.length - 1 - k)))) (fun (i : Nat) => PyData.int i)]
      intro k hk
      have hk := List.mem_range.mp hk
      have hg := List.getElem?_eq_getElem hk
      refine ⟨_, rfl, ?_, fun _ => rfl⟩
      have hb : ((bits t.length p).map sg)[k]? = some (sg (p.testBit (t.length - 1 - k))) := by rw [List.getElem?_map, bits_at hk]; rfl
      have hi := o_nin_tup S1 (x := .str (tS [sgO t[k]])) (ds := [.str (Str.ofString "-"), .str (tS [sg (p.testBit (t.length - 1 - k))])]) rfl rfl
      rw [in_sign] at hi
      simp only [p_body, p_skip, p_seq, p_set, p_ret, p_retN, p_retV_s, p_retV_0, p_exp, p_if, p_raise, p_app, p_ext, p_setT, p_for, p_cell', nxt_nx, nxt_rt, nxt_exc, fin_nx, fin_rt, fin_exc, set_ok, set_exc, ret_ok, ret_exc, exp_ok, exp_exc, if_tt, if_ff, if_ok, if_exc, for_ok, for_exc, app_s, app_0, app_0o, ext_s, ext_0, cons_nx, cons_exc, setT_ok, cell_ok, pop_nx, pop_rt, unC_nil, unC_n, unC_d, unC_st, no_nil, no_n, no_a, mask_nil, mask_t, mask_f, dom_nil, dom_s, dom_n, start_0, start_s, setW_nil, setW_cons, ev_nil, ev_n, ev_a, ev_o, ev_own, frzE_nil, frzE_cons, frz1_s, frz1_0o, frz1_0a, frz1_0n, sNm_ap, sTp_ap, q_var0, q_varS, q_c, q_bin, bin1_a, bin1_o, bin1_e, bin2_a, bin2_o, bin2_e, q_un, un1_a, un1_o, q_call, call_n, call_c, call1_a, call1_o, call1_e, q_tup, allD_nil, allD_cons, tupE_ap, q_lst, lst_n, lst_c, lst1_ok, q_comp, comp_ok, q_and, and_tt, and_ff, asB_ok, asB_e, and_ok, and_fold, q_or, or_tt, or_ff, or_ok, or_fold, q_not, not_ok, not_e, q_ife, ife_tt, ife_ff, ife_ok, q_seq, q_rng1, q_rng2, q_enum, q_zip, srcS_a, srcS_o, src1_a, src1_o, src2_a, src2_o, of_some, q_sl, sl_nn, sl_n, sl_s, slo_nn, slo_n, slo_s, slLo_n, slLo_s, slHi_ok, slLo_n', slLo_s', slHi_ok', q_sm, sm1_a, sm2_a, sm2_o, on1_ap, onD1_ap, true_ap, gNm_ap, gTp_ap, setD_nil, setD_cons, wipe_nil, wipe_cons, max2_ap, rng1_n, rng1_l, rng1_1, Nat.reduceAdd, Nat.reduceSub, Nat.reduceLeDiff, List.length_cons, List.length_nil, List.length_map, List.length_range, List.replicate, List.set_cons_zero, List.set_cons_succ, List.map_cons, List.map_nil, List.cons_append, List.nil_append, Option.map_some, if_true, Bool.false_eq_true, if_false, Bool.not_true, Bool.not_false, o_add, o_sub, o_shr, o_band, o_lt, o_le, o_gt, o_ge, own0, own1, own2, own3, own4, own5, own6, own7, own8, own9, own10, own11, own12, seqD_lst, seqD_tup, seqD_eF, seqD_eG, i2n, isi_eF, isi_eG, isi_eT, gLen_eF, gLen_eG, gLen_lst, gLen_tup, dAll_m, dAny_m, all_tt, dInt_b, isi_int_none, isi_int_bool, isi_int_int, isi_int_str, isi_int_list, isi_int_tuple, isi_bool_none, isi_bool_bool, isi_bool_int, isi_bool_str, isi_bool_list, isi_bool_tuple, isi_str_none, isi_str_bool, isi_str_int, isi_str_str, isi_str_list, isi_str_tuple, isi_list_none, isi_list_bool, isi_list_int, isi_list_str, isi_list_list, isi_list_tuple, isi_tuple_none, isi_tuple_bool, isi_tuple_int, isi_tuple_str, isi_tuple_list, isi_tuple_tuple, isi2_tl_none, isi2_tl_bool, isi2_tl_int, isi2_tl_str, isi2_tl_list, isi2_tl_tuple, zip2, zipD_map, isi_int_dict, isi_bool_dict, isi_str_dict, isi_list_dict, isi_tuple_dict, isi2_tl_dict, dIsN, dNotN, p_setIx, setIx1_ok, setIx2_s, bin1_w, bin1o_some, toDs_nil, toDs_a, toDs_o, ret_nxt, rngD_map, Int.reduceToNat, p_appV, appV_ok', p_forB, forB_ok, sm1_T, List.getElem?_cons_succ, List.getElem?_cons_zero, q_chain, ch1_a, ch2_a, ch3_tt, ch3_ff, ch4_a, lt_TT, par_ap, par1_ok, par2_ok, srcS_e, src1_e, src2_e, comp_e, un1_e, lst1_e, and_e, or_e, q_sm0, sm01_a, sm01_T, smO_some, app_0w, ix_eT hg (by omega), o_ix_txt hb (by rw [List.length_map, bits_len]; omega), hi, hg, Option.getD_some]
    have hE : ((List.range t.length).filter fun k => !((t[k]?.getD none) == none || (t[k]?.getD none) == some (p.testBit (t.length - 1 - k)))).isEmpty = holdsM t p := by
      refine bool_ext ?_
      rw [holds_iff, List.isEmpty_iff, List.filter_eq_nil_iff]
      simp only [List.mem_range, Bool.not_eq_true, Bool.not_eq_false', Bool.or_eq_true, beq_iff_eq]
      constructor
      · intro h k a ha
        have := h k (List.getElem?_eq_some_iff.mp ha).1
        rw [ha] at this
        simpa using this
      · intro h k hk
        have hg := List.getElem?_eq_getElem hk
        have := h k _ hg
        rw [hg]
        simpa using this
    have hq := eq_nil ((List.range t.length).filter fun k => !((t[k]?.getD none) == none || (t[k]?.getD none) == some (p.testBit (t.length - 1 - k)))) S1
    rw [hE] at hq
    unfold eN at hq
    simp only [p_body, p_skip, p_seq, p_set, p_ret, p_retN, p_retV_s, p_retV_0, p_exp, p_if, p_raise, p_app, p_ext, p_setT, p_for, p_cell', nxt_nx, nxt_rt, nxt_exc, fin_nx, fin_rt, fin_exc, set_ok, set_exc, ret_ok, ret_exc, exp_ok, exp_exc, if_tt, if_ff, if_ok, if_exc, for_ok, for_exc, app_s, app_0, app_0o, ext_s, ext_0, cons_nx, cons_exc, setT_ok, cell_ok, pop_nx, pop_rt, unC_nil, unC_n, unC_d, unC_st, no_nil, no_n, no_a, mask_nil, mask_t, mask_f, dom_nil, dom_s, dom_n, start_0, start_s, setW_nil, setW_cons, ev_nil, ev_n, ev_a, ev_o, ev_own, frzE_nil, frzE_cons, frz1_s, frz1_0o, frz1_0a, frz1_0n, sNm_ap, sTp_ap, q_var0, q_varS, q_c, q_bin, bin1_a, bin1_o, bin1_e, bin2_a, bin2_o, bin2_e, q_un, un1_a, un1_o, q_call, call_n, call_c, call1_a, call1_o, call1_e, q_tup, allD_nil, allD_cons, tupE_ap, q_lst, lst_n, lst_c, lst1_ok, q_comp, comp_ok, q_and, and_tt, and_ff, asB_ok, asB_e, and_ok, and_fold, q_or, or_tt, or_ff, or_ok, or_fold, q_not, not_ok, not_e, q_ife, ife_tt, ife_ff, ife_ok, q_seq, q_rng1, q_rng2, q_enum, q_zip, srcS_a, srcS_o, src1_a, src1_o, src2_a, src2_o, of_some, q_sl, sl_nn, sl_n, sl_s, slo_nn, slo_n, slo_s, slLo_n, slLo_s, slHi_ok, slLo_n', slLo_s', slHi_ok', q_sm, sm1_a, sm2_a, sm2_o, on1_ap, onD1_ap, true_ap, gNm_ap, gTp_ap, setD_nil, setD_cons, wipe_nil, wipe_cons, max2_ap, rng1_n, rng1_l, rng1_1, Nat.reduceAdd, Nat.reduceSub, Nat.reduceLeDiff, List.length_cons, List.length_nil, List.length_map, List.length_range, List.replicate, List.set_cons_zero, List.set_cons_succ, List.map_cons, List.map_nil, List.cons_append, List.nil_append, Option.map_some, if_true, Bool.false_eq_true, if_false, Bool.not_true, Bool.not_false, o_add, o_sub, o_shr, o_band, o_lt, o_le, o_gt, o_ge, own0, own1, own2, own3, own4, own5, own6, own7, own8, own9, own10, own11, own12, seqD_lst, seqD_tup, seqD_eF, seqD_eG, i2n, isi_eF, isi_eG, isi_eT, gLen_eF, gLen_eG, gLen_lst, gLen_tup, dAll_m, dAny_m, all_tt, dInt_b, isi_int_none, isi_int_bool, isi_int_int, isi_int_str, isi_int_list, isi_int_tuple, isi_bool_none, isi_bool_bool, isi_bool_int, isi_bool_str, isi_bool_list, isi_bool_tuple, isi_str_none, isi_str_bool, isi_str_int, isi_str_str, isi_str_list, isi_str_tuple, isi_list_none, isi_list_bool, isi_list_int, isi_list_str, isi_list_list, isi_list_tuple, isi_tuple_none, isi_tuple_bool, isi_tuple_int, isi_tuple_str, isi_tuple_list, isi_tuple_tuple, isi2_tl_none, isi2_tl_bool, isi2_tl_int, isi2_tl_str, isi2_tl_list, isi2_tl_tuple, zip2, zipD_map, isi_int_dict, isi_bool_dict, isi_str_dict, isi_list_dict, isi_tuple_dict, isi2_tl_dict, dIsN, dNotN, p_setIx, setIx1_ok, setIx2_s, bin1_w, bin1o_some, toDs_nil, toDs_a, toDs_o, ret_nxt, rngD_map, Int.reduceToNat, p_appV, appV_ok', p_forB, forB_ok, sm1_T, List.getElem?_cons_succ, List.getElem?_cons_zero, q_chain, ch1_a, ch2_a, ch3_tt, ch3_ff, ch4_a, lt_TT, par_ap, par1_ok, par2_ok, srcS_e, src1_e, src2_e, comp_e, un1_e, lst1_e, and_e, or_e, q_sm0, sm01_a, sm01_T, smO_some, app_0w, gLen_eT t (by omega), rng1_n t.length (by omega), e_law_bits t.length p (by omega), hc, hq, hS, hl, to_ifte, to_nx]
    cases hg : holdsM t p <;> simp [hg]
  · rintro ρ S1 ⟨rfl, rfl⟩
    exact ⟨rfl, rfl⟩
theorem lf_n {r : Nat} (h : r < 8) (S : Cs) : ∃ n : Nat, 1 ≤ n ∧ n ≤ 4 ∧ dIx (.d (.list [.int 4, .int 3, .int 3, .int 2, .int 4, .int 3, .int 4, .int 1])) (.d (.int r)) S = .ok (iD n) S := by
  have : r = 0 ∨ r = 1 ∨ r = 2 ∨ r = 3 ∨ r = 4 ∨ r = 5 ∨ r = 6 ∨ r = 7 := by omega
  rcases this with rfl | rfl | rfl | rfl | rfl | rfl | rfl | rfl
  · exact ⟨4, by decide, by decide, rfl⟩
  · exact ⟨3, by decide, by decide, rfl⟩
  · exact ⟨3, by decide, by decide, rfl⟩
  · exact ⟨2, by decide, by decide, rfl⟩
  · exact ⟨4, by decide, by decide, rfl⟩
  · exact ⟨3, by decide, by decide, rfl⟩
  · exact ⟨4, by decide, by decide, rfl⟩
  · exact ⟨1, by decide, by decide, rfl⟩
theorem lf_some {r : Nat} (h : r < 4) (S : Cs) : ∃ l : Fn, 0 < l.length ∧ l.length < 1000 ∧ dIx (.d (.list [.list [.int 0, .int 1], .list [.int 0, .int 1, .none], .list [.int 0, .int 0, .int 0, .int 1, .none], .list [.int 1, .int 1, .int 1, .int 0, .none]])) (.d (.int r)) S = .ok (.a (.d (.list (l.map aO)))) S := by
  have : r = 0 ∨ r = 1 ∨ r = 2 ∨ r = 3 := by omega
  rcases this with rfl | rfl | rfl | rfl
  · exact ⟨[some false, some true], by decide, by decide, rfl⟩
  · exact ⟨[some false, some true, none], by decide, by decide, rfl⟩
  · exact ⟨[some false, some false, some false, some true, none], by decide, by decide, rfl⟩
  · exact ⟨[some true, some true, some true, some false, none], by decide, by decide, rfl⟩
theorem e_law_function {S : Cs} (h : St S) : ∃ (n : Nat) (f : Fn) (S1 : Cs), sem__law_function [.c 0] S = .ok (.a (.d (eF f))) S1 ∧ f.length = 2 ^ n ∧ 1 ≤ n ∧ n ≤ 4 ∧ St S1 := by
  have key : R.To (sem__law_function [.c 0] S) fun w S1 => ∃ (n : Nat) (f : Fn), w = .a (.d (eF f)) ∧ f.length = 2 ^ n ∧ 1 ≤ n ∧ n ≤ 4 ∧ St S1 := by
    obtain ⟨r1, S1, e1, l1, h1⟩ := e_law_take h 8 (by decide) (by decide)
    obtain ⟨n, n1, n4, p1⟩ := lf_n l1 S1
    obtain ⟨r2, S2, e2, l2, h2⟩ := e_law_take h1 6 (by decide) (by decide)
    have e1' : sem__law_take [A.c 0, A.d (PyData.int 8)] S = .ok (iD r1) S1 := e1
    have e2' : sem__law_take [A.c 0, A.d (PyData.int 6)] S1 = .ok (iD r2) S2 := e2
    have b2 : 2 ^ n ≤ 16 := Nat.pow_le_pow_right (n := 2) (by decide) n4
    have b0 : 0 < 2 ^ n := Nat.pow_pos (by decide)
    by_cases hw : r2 < 4
    · obtain ⟨l, l0, l3, p2⟩ := lf_some hw S2
      have hw2 : decide ((r2 : Int) < 4) = true := decide_eq_true (by omega)
      simp only [sem__law_function, b__law_function, p_body, p_skip, p_seq, p_set, p_ret, p_retN, p_retV_s, p_retV_0, p_exp, p_if, p_raise, p_app, p_ext, p_setT, p_for, p_cell', nxt_nx, nxt_rt, nxt_exc, fin_nx, fin_rt, fin_exc, set_ok, set_exc, ret_ok, ret_exc, exp_ok, exp_exc, if_tt, if_ff, if_ok, if_exc, for_ok, for_exc, app_s, app_0, app_0o, ext_s, ext_0, cons_nx, cons_exc, setT_ok, cell_ok, pop_nx, pop_rt, unC_nil, unC_n, unC_d, unC_st, no_nil, no_n, no_a, mask_nil, mask_t, mask_f, dom_nil, dom_s, dom_n, start_0, start_s, setW_nil, setW_cons, ev_nil, ev_n, ev_a, ev_o, ev_own, frzE_nil, frzE_cons, frz1_s, frz1_0o, frz1_0a, frz1_0n, sNm_ap, sTp_ap, q_var0, q_varS, q_c, q_bin, bin1_a, bin1_o, bin1_e, bin2_a, bin2_o, bin2_e, q_un, un1_a, un1_o, q_call, call_n, call_c, call1_a, call1_o, call1_e, q_tup, allD_nil, allD_cons, tupE_ap, q_lst, lst_n, lst_c, lst1_ok, q_comp, comp_ok, q_and, and_tt, and_ff, asB_ok, asB_e, and_ok, and_fold, q_or, or_tt, or_ff, or_ok, or_fold, q_not, not_ok, not_e, q_ife, ife_tt, ife_ff, ife_ok, q_seq, q_rng1, q_rng2, q_enum, q_zip, srcS_a, srcS_o, src1_a, src1_o, src2_a, src2_o, of_some, q_sl, sl_nn, sl_n, sl_s, slo_nn, slo_n, slo_s, slLo_n, slLo_s, slHi_ok, slLo_n', slLo_s', slHi_ok', q_sm, sm1_a, sm2_a, sm2_o, on1_ap, onD1_ap, true_ap, gNm_ap, gTp_ap, setD_nil, setD_cons, wipe_nil, wipe_cons, max2_ap, rng1_n, rng1_l, rng1_1, Nat.reduceAdd, Nat.reduceSub, Nat.reduceLeDiff, List.length_cons, List.length_nil, List.length_map, List.length_range, List.replicate, List.set_cons_zero, List.set_cons_succ, List.map_cons, List.map_nil, List.cons_append, List.nil_append, Option.map_some, if_true, Bool.false_eq_true, if_false, Bool.not_true, Bool.not_false, o_add, o_sub, o_shr, o_band, o_lt, o_le, o_gt, o_ge, own0, own1, own2, own3, own4, own5, own6, own7, own8, own9, own10, own11, own12, seqD_lst, seqD_tup, seqD_eF, seqD_eG, i2n, isi_eF, isi_eG, isi_eT, gLen_eF, gLen_eG, gLen_lst, gLen_tup, dAll_m, dAny_m, all_tt, dInt_b, isi_int_none, isi_int_bool, isi_int_int, isi_int_str, isi_int_list, isi_int_tuple, isi_bool_none, isi_bool_bool, isi_bool_int, isi_bool_str, isi_bool_list, isi_bool_tuple, isi_str_none, isi_str_bool, isi_str_int, isi_str_str, isi_str_list, isi_str_tuple, isi_list_none, isi_list_bool, isi_list_int, isi_list_str, isi_list_list, isi_list_tuple, isi_tuple_none, isi_tuple_bool, isi_tuple_int, isi_tuple_str, isi_tuple_list, isi_tuple_tuple, isi2_tl_none, isi2_tl_bool, isi2_tl_int, isi2_tl_str, isi2_tl_list, isi2_tl_tuple, zip2, zipD_map, isi_int_dict, isi_bool_dict, isi_str_dict, isi_list_dict, isi_tuple_dict, isi2_tl_dict, dIsN, dNotN, p_setIx, setIx1_ok, setIx2_s, bin1_w, bin1o_some, toDs_nil, toDs_a, toDs_o, ret_nxt, rngD_map, Int.reduceToNat, p_appV, appV_ok', p_forB, forB_ok, sm1_T, List.getElem?_cons_succ, List.getElem?_cons_zero, q_chain, ch1_a, ch2_a, ch3_tt, ch3_ff, ch4_a, lt_TT, par_ap, par1_ok, par2_ok, srcS_e, src1_e, src2_e, comp_e, un1_e, lst1_e, and_e, or_e, q_sm0, sm01_a, sm01_T, smO_some, app_0w, e1', p1, e2', h2.flat, hw2, p2, o_shl _ n (by omega), rng1_n (2 ^ n) (by omega), to_fin, to_ret]
      refine to_call1 (comp_to (fun acc S => (∀ d ∈ acc, ∃ a, d = aO a) ∧ St S) ⟨by simp, h2⟩ ?_ ?_)
      · rintro x hx acc S3 ⟨ha, hS⟩
        obtain ⟨i, hi, rfl⟩ := mem_mapInt hx
        obtain ⟨r3, S4, e3, l4, h4⟩ := e_law_take hS l.length l0 (by omega)
        refine ⟨_, rfl, ?_⟩
        simp only [p_body, p_skip, p_seq, p_set, p_ret, p_retN, p_retV_s, p_retV_0, p_exp, p_if, p_raise, p_app, p_ext, p_setT, p_for, p_cell', nxt_nx, nxt_rt, nxt_exc, fin_nx, fin_rt, fin_exc, set_ok, set_exc, ret_ok, ret_exc, exp_ok, exp_exc, if_tt, if_ff, if_ok, if_exc, for_ok, for_exc, app_s, app_0, app_0o, ext_s, ext_0, cons_nx, cons_exc, setT_ok, cell_ok, pop_nx, pop_rt, unC_nil, unC_n, unC_d, unC_st, no_nil, no_n, no_a, mask_nil, mask_t, mask_f, dom_nil, dom_s, dom_n, start_0, start_s, setW_nil, setW_cons, ev_nil, ev_n, ev_a, ev_o, ev_own, frzE_nil, frzE_cons, frz1_s, frz1_0o, frz1_0a, frz1_0n, sNm_ap, sTp_ap, q_var0, q_varS, q_c, q_bin, bin1_a, bin1_o, bin1_e, bin2_a, bin2_o, bin2_e, q_un, un1_a, un1_o, q_call, call_n, call_c, call1_a, call1_o, call1_e, q_tup, allD_nil, allD_cons, tupE_ap, q_lst, lst_n, lst_c, lst1_ok, q_comp, comp_ok, q_and, and_tt, and_ff, asB_ok, asB_e, and_ok, and_fold, q_or, or_tt, or_ff, or_ok, or_fold, q_not, not_ok, not_e, q_ife, ife_tt, ife_ff, ife_ok, q_seq, q_rng1, q_rng2, q_enum, q_zip, srcS_a, srcS_o, src1_a, src1_o, src2_a, src2_o, of_some, q_sl, sl_nn, sl_n, sl_s, slo_nn, slo_n, slo_s, slLo_n, slLo_s, slHi_ok, slLo_n', slLo_s', slHi_ok', q_sm, sm1_a, sm2_a, sm2_o, on1_ap, onD1_ap, true_ap, gNm_ap, gTp_ap, setD_nil, setD_cons, wipe_nil, wipe_cons, max2_ap, rng1_n, rng1_l, rng1_1, Nat.reduceAdd, Nat.reduceSub, Nat.reduceLeDiff, List.length_cons, List.length_nil, List.length_map, List.length_range, List.replicate, List.set_cons_zero, List.set_cons_succ, List.map_cons, List.map_nil, List.cons_append, List.nil_append, Option.map_some, if_true, Bool.false_eq_true, if_false, Bool.not_true, Bool.not_false, o_add, o_sub, o_shr, o_band, o_lt, o_le, o_gt, o_ge, own0, own1, own2, own3, own4, own5, own6, own7, own8, own9, own10, own11, own12, seqD_lst, seqD_tup, seqD_eF, seqD_eG, i2n, isi_eF, isi_eG, isi_eT, gLen_eF, gLen_eG, gLen_lst, gLen_tup, dAll_m, dAny_m, all_tt, dInt_b, isi_int_none, isi_int_bool, isi_int_int, isi_int_str, isi_int_list, isi_int_tuple, isi_bool_none, isi_bool_bool, isi_bool_int, isi_bool_str, isi_bool_list, isi_bool_tuple, isi_str_none, isi_str_bool, isi_str_int, isi_str_str, isi_str_list, isi_str_tuple, isi_list_none, isi_list_bool, isi_list_int, isi_list_str, isi_list_list, isi_list_tuple, isi_tuple_none, isi_tuple_bool, isi_tuple_int, isi_tuple_str, isi_tuple_list, isi_tuple_tuple, isi2_tl_none, isi2_tl_bool, isi2_tl_int, isi2_tl_str, isi2_tl_list, isi2_tl_tuple, zip2, zipD_map, isi_int_dict, isi_bool_dict, isi_str_dict, isi_list_dict, isi_tuple_dict, isi2_tl_dict, dIsN, dNotN, p_setIx, setIx1_ok, setIx2_s, bin1_w, bin1o_some, toDs_nil, toDs_a, toDs_o, ret_nxt, rngD_map, Int.reduceToNat, p_appV, appV_ok', p_forB, forB_ok, sm1_T, List.getElem?_cons_succ, List.getElem?_cons_zero, q_chain, ch1_a, ch2_a, ch3_tt, ch3_ff, ch4_a, lt_TT, par_ap, par1_ok, par2_ok, srcS_e, src1_e, src2_e, comp_e, un1_e, lst1_e, and_e, or_e, q_sm0, sm01_a, sm01_T, smO_some, app_0w, e3, o_ix_lst aO (List.getElem?_eq_getElem l4), to_ok]
        refine ⟨_, rfl, ?_, h4⟩
        intro d hd
        rcases List.mem_append.mp hd with hd | hd
        · exact ha d hd
        · exact ⟨_, List.mem_singleton.mp hd⟩
      · rintro ds S3 ⟨ha, hS⟩ hl
        obtain ⟨f, rfl⟩ := all_aO ha
        rw [List.length_map, List.length_map, List.length_range] at hl
        exact ⟨_, ownD_toA _, n, f, rfl, hl, n1, n4, hS⟩
    · have hw2 : decide ((r2 : Int) < 4) = false := decide_eq_false (by omega)
      obtain ⟨r3, S3, e3, l3, h3⟩ := e_law_take h2 5 (by decide) (by decide)
      have e3' : sem__law_take [A.c 0, A.d (PyData.int 5)] S2 = .ok (iD r3) S3 := e3
      have b3 : (1 : Int) + (r3 : Int) = ((1 + r3 : Nat) : Int) := by omega
      simp only [sem__law_function, b__law_function, p_body, p_skip, p_seq, p_set, p_ret, p_retN, p_retV_s, p_retV_0, p_exp, p_if, p_raise, p_app, p_ext, p_setT, p_for, p_cell', nxt_nx, nxt_rt, nxt_exc, fin_nx, fin_rt, fin_exc, set_ok, set_exc, ret_ok, ret_exc, exp_ok, exp_exc, if_tt, if_ff, if_ok, if_exc, for_ok, for_exc, app_s, app_0, app_0o, ext_s, ext_0, cons_nx, cons_exc, setT_ok, cell_ok, pop_nx, pop_rt, unC_nil, unC_n, unC_d, unC_st, no_nil, no_n, no_a, mask_nil, mask_t, mask_f, dom_nil, dom_s, dom_n, start_0, start_s, setW_nil, setW_cons, ev_nil, ev_n, ev_a, ev_o, ev_own, frzE_nil, frzE_cons, frz1_s, frz1_0o, frz1_0a, frz1_0n, sNm_ap, sTp_ap, q_var0, q_varS, q_c, q_bin, bin1_a, bin1_o, bin1_e, bin2_a, bin2_o, bin2_e, q_un, un1_a, un1_o, q_call, call_n, call_c, call1_a, call1_o, call1_e, q_tup, allD_nil, allD_cons, tupE_ap, q_lst, lst_n, lst_c, lst1_ok, q_comp, comp_ok, q_and, and_tt, and_ff, asB_ok, asB_e, and_ok, and_fold, q_or, or_tt, or_ff, or_ok, or_fold, q_not, not_ok, not_e, q_ife, ife_tt, ife_ff, ife_ok, q_seq, q_rng1, q_rng2, q_enum, q_zip, srcS_a, srcS_o, src1_a, src1_o, src2_a, src2_o, of_some, q_sl, sl_nn, sl_n, sl_s, slo_nn, slo_n, slo_s, slLo_n, slLo_s, slHi_ok, slLo_n', slLo_s', slHi_ok', q_sm, sm1_a, sm2_a, sm2_o, on1_ap, onD1_ap, true_ap, gNm_ap, gTp_ap, setD_nil, setD_cons, wipe_nil, wipe_cons, max2_ap, rng1_n, rng1_l, rng1_1, Nat.reduceAdd, Nat.reduceSub, Nat.reduceLeDiff, List.length_cons, List.length_nil, List.length_map, List.length_range, List.replicate, List.set_cons_zero, List.set_cons_succ, List.map_cons, List.map_nil, List.cons_append, List.nil_append, Option.map_some, if_true, Bool.false_eq_true, if_false, Bool.not_true, Bool.not_false, o_add, o_sub, o_shr, o_band, o_lt, o_le, o_gt, o_ge, own0, own1, own2, own3, own4, own5, own6, own7, own8, own9, own10, own11, own12, seqD_lst, seqD_tup, seqD_eF, seqD_eG, i2n, isi_eF, isi_eG, isi_eT, gLen_eF, gLen_eG, gLen_lst, gLen_tup, dAll_m, dAny_m, all_tt, dInt_b, isi_int_none, isi_int_bool, isi_int_int, isi_int_str, isi_int_list, isi_int_tuple, isi_bool_none, isi_bool_bool, isi_bool_int, isi_bool_str, isi_bool_list, isi_bool_tuple, isi_str_none, isi_str_bool, isi_str_int, isi_str_str, isi_str_list, isi_str_tuple, isi_list_none, isi_list_bool, isi_list_int, isi_list_str, isi_list_list, isi_list_tuple, isi_tuple_none, isi_tuple_bool, isi_tuple_int, isi_tuple_str, isi_tuple_list, isi_tuple_tuple, isi2_tl_none, isi2_tl_bool, isi2_tl_int, isi2_tl_str, isi2_tl_list, isi2_tl_tuple, zip2, zipD_map, isi_int_dict, isi_bool_dict, isi_str_dict, isi_list_dict, isi_tuple_dict, isi2_tl_dict, dIsN, dNotN, p_setIx, setIx1_ok, setIx2_s, bin1_w, bin1o_some, toDs_nil, toDs_a, toDs_o, ret_nxt, rngD_map, Int.reduceToNat, p_appV, appV_ok', p_forB, forB_ok, sm1_T, List.getElem?_cons_succ, List.getElem?_cons_zero, q_chain, ch1_a, ch2_a, ch3_tt, ch3_ff, ch4_a, lt_TT, par_ap, par1_ok, par2_ok, srcS_e, src1_e, src2_e, comp_e, un1_e, lst1_e, and_e, or_e, q_sm0, sm01_a, sm01_T, smO_some, app_0w, e1', p1, e2', h2.flat, hw2, e3', b3, rng1_n (1 + r3) (by omega), to_fin]
      refine for_allS (fun (i : Nat) => PyData.int (i : Int)) (fun pre ρ S => St S ∧ ∃ l : List Nat, l.length ≤ 16 * pre.length ∧ ρ = [some (.a (.c 0)), some (iD n), some (iD r2), some (ownD (l.map fun (i : Nat) => PyData.int (i : Int))), none, none, none, none]) ⟨h3, [], by simp, rfl⟩ ?_ ?_
      · rintro pre i post e ρ S4 ⟨hS, l, hl, rfl⟩
        have hp := len_pre e
        obtain ⟨t, S5, e5, l5, h5⟩ := e_law_term hS n (by omega)
        refine ⟨_, rfl, ?_⟩
        have hpt : (ptsM t).length ≤ 16 := by
          unfold ptsM
          refine Nat.le_trans (List.length_filter_le _ _) ?_
          rw [List.length_range, l5]; exact b2
        have ha := add_l (l.map fun (i : Nat) => PyData.int (i : Int)) ((ptsM t).map fun (i : Nat) => PyData.int (i : Int)) (by rw [List.length_map, List.length_map]; omega) S5
        simp only [p_body, p_skip, p_seq, p_set, p_ret, p_retN, p_retV_s, p_retV_0, p_exp, p_if, p_raise, p_app, p_ext, p_setT, p_for, p_cell', nxt_nx, nxt_rt, nxt_exc, fin_nx, fin_rt, fin_exc, set_ok, set_exc, ret_ok, ret_exc, exp_ok, exp_exc, if_tt, if_ff, if_ok, if_exc, for_ok, for_exc, app_s, app_0, app_0o, ext_s, ext_0, cons_nx, cons_exc, setT_ok, cell_ok, pop_nx, pop_rt, unC_nil, unC_n, unC_d, unC_st, no_nil, no_n, no_a, mask_nil, mask_t, mask_f, dom_nil, dom_s, dom_n, start_0, start_s, setW_nil, setW_cons, ev_nil, ev_n, ev_a, ev_o, ev_own, frzE_nil, frzE_cons, frz1_s, frz1_0o, frz1_0a, frz1_0n, sNm_ap, sTp_ap, q_var0, q_varS, q_c, q_bin, bin1_a, bin1_o, bin1_e, bin2_a, bin2_o, bin2_e, q_un, un1_a, un1_o, q_call, call_n, call_c, call1_a, call1_o, call1_e, q_tup, allD_nil, allD_cons, tupE_ap, q_lst, lst_n, lst_c, lst1_ok, q_comp, comp_ok, q_and, and_tt, and_ff, asB_ok, asB_e, and_ok, and_fold, q_or, or_tt, or_ff, or_ok, or_fold, q_not, not_ok, not_e, q_ife, ife_tt, ife_ff, ife_ok, q_seq, q_rng1, q_rng2, q_enum, q_zip, srcS_a, srcS_o, src1_a, src1_o, src2_a, src2_o, of_some, q_sl, sl_nn, sl_n, sl_s, slo_nn, slo_n, slo_s, slLo_n, slLo_s, slHi_ok, slLo_n', slLo_s', slHi_ok', q_sm, sm1_a, sm2_a, sm2_o, on1_ap, onD1_ap, true_ap, gNm_ap, gTp_ap, setD_nil, setD_cons, wipe_nil, wipe_cons, max2_ap, rng1_n, rng1_l, rng1_1, Nat.reduceAdd, Nat.reduceSub, Nat.reduceLeDiff, List.length_cons, List.length_nil, List.length_map, List.length_range, List.replicate, List.set_cons_zero, List.set_cons_succ, List.map_cons, List.map_nil, List.cons_append, List.nil_append, Option.map_some, if_true, Bool.false_eq_true, if_false, Bool.not_true, Bool.not_false, o_add, o_sub, o_shr, o_band, o_lt, o_le, o_gt, o_ge, own0, own1, own2, own3, own4, own5, own6, own7, own8, own9, own10, own11, own12, seqD_lst, seqD_tup, seqD_eF, seqD_eG, i2n, isi_eF, isi_eG, isi_eT, gLen_eF, gLen_eG, gLen_lst, gLen_tup, dAll_m, dAny_m, all_tt, dInt_b, isi_int_none, isi_int_bool, isi_int_int, isi_int_str, isi_int_list, isi_int_tuple, isi_bool_none, isi_bool_bool, isi_bool_int, isi_bool_str, isi_bool_list, isi_bool_tuple, isi_str_none, isi_str_bool, isi_str_int, isi_str_str, isi_str_list, isi_str_tuple, isi_list_none, isi_list_bool, isi_list_int, isi_list_str, isi_list_list, isi_list_tuple, isi_tuple_none, isi_tuple_bool, isi_tuple_int, isi_tuple_str, isi_tuple_list, isi_tuple_tuple, isi2_tl_none, isi2_tl_bool, isi2_tl_int, isi2_tl_str, isi2_tl_list, isi2_tl_tuple, zip2, zipD_map, isi_int_dict, isi_bool_dict, isi_str_dict, isi_list_dict, isi_tuple_dict, isi2_tl_dict, dIsN, dNotN, p_setIx, setIx1_ok, setIx2_s, bin1_w, bin1o_some, toDs_nil, toDs_a, toDs_o, ret_nxt, rngD_map, Int.reduceToNat, p_appV, appV_ok', p_forB, forB_ok, sm1_T, List.getElem?_cons_succ, List.getElem?_cons_zero, q_chain, ch1_a, ch2_a, ch3_tt, ch3_ff, ch4_a, lt_TT, par_ap, par1_ok, par2_ok, srcS_e, src1_e, src2_e, comp_e, un1_e, lst1_e, and_e, or_e, q_sm0, sm01_a, sm01_T, smO_some, app_0w, e5, e_law_points t (by omega) S5 h5.flat, ha, to_nx]
        exact ⟨h5, l ++ ptsM t, by rw [List.length_append, List.length_append, List.length_singleton]; omega, by simp⟩
      · rintro ρ S4 ⟨hS, l, hl, rfl⟩
        have hc : compL (gNm 7) fTrue (fCall (on1 dInt) [fBin (onD dIn) (fVar 7) (fVar 3)]) [some (.c 0), some (.d (.int n)), some (.d (.int r2)), some (.d (.list (l.map fun (i : Nat) => PyData.int (i : Int)))), none, none, none, none] ((List.range (2 ^ n)).map fun (i : Nat) => PyData.int (i : Int)) S4 [] = .ok (ownD (((List.range (2 ^ n)).map fun i => some (l.contains i)).map aO)) S4 := by
          rw [compL_m (fun (i : Nat) => PyData.int (i : Int)) (fun i => aO (some (l.contains i)))]
          · rw [List.map_map]; rfl
          · intro i hi
            refine ⟨_, rfl, ?_⟩
            have hn := in_N i l S4
            unfold eN at hn
            simp only [p_body, p_skip, p_seq, p_set, p_ret, p_retN, p_retV_s, p_retV_0, p_exp, p_if, p_raise, p_app, p_ext, p_setT, p_for, p_cell', nxt_nx, nxt_rt, nxt_exc, fin_nx, fin_rt, fin_exc, set_ok, set_exc, ret_ok, ret_exc, exp_ok, exp_exc, if_tt, if_ff, if_ok, if_exc, for_ok, for_exc, app_s, app_0, app_0o, ext_s, ext_0, cons_nx, cons_exc, setT_ok, cell_ok, pop_nx, pop_rt, unC_nil, unC_n, unC_d, unC_st, no_nil, no_n, no_a, mask_nil, mask_t, mask_f, dom_nil, dom_s, dom_n, start_0, start_s, setW_nil, setW_cons, ev_nil, ev_n, ev_a, ev_o, ev_own, frzE_nil, frzE_cons, frz1_s, frz1_0o, frz1_0a, frz1_0n, sNm_ap, sTp_ap, q_var0, q_varS, q_c, q_bin, bin1_a, bin1_o, bin1_e, bin2_a, bin2_o, bin2_e, q_un, un1_a, un1_o, q_call, call_n, call_c, call1_a, call1_o, call1_e, q_tup, allD_nil, allD_cons, tupE_ap, q_lst, lst_n, lst_c, lst1_ok, q_comp, comp_ok, q_and, and_tt, and_ff, asB_ok, asB_e, and_ok, and_fold, q_or, or_tt, or_ff, or_ok, or_fold, q_not, not_ok, not_e, q_ife, ife_tt, ife_ff, ife_ok, q_seq, q_rng1, q_rng2, q_enum, q_zip, srcS_a, srcS_o, src1_a, src1_o, src2_a, src2_o, of_some, q_sl, sl_nn, sl_n, sl_s, slo_nn, slo_n, slo_s, slLo_n, slLo_s, slHi_ok, slLo_n', slLo_s', slHi_ok', q_sm, sm1_a, sm2_a, sm2_o, on1_ap, onD1_ap, true_ap, gNm_ap, gTp_ap, setD_nil, setD_cons, wipe_nil, wipe_cons, max2_ap, rng1_n, rng1_l, rng1_1, Nat.reduceAdd, Nat.reduceSub, Nat.reduceLeDiff, List.length_cons, List.length_nil, List.length_map, List.length_range, List.replicate, List.set_cons_zero, List.set_cons_succ, List.map_cons, List.map_nil, List.cons_append, List.nil_append, Option.map_some, if_true, Bool.false_eq_true, if_false, Bool.not_true, Bool.not_false, o_add, o_sub, o_shr, o_band, o_lt, o_le, o_gt, o_ge, own0, own1, own2, own3, own4, own5, own6, own7, own8, own9, own10, own11, own12, seqD_lst, seqD_tup, seqD_eF, seqD_eG, i2n, isi_eF, isi_eG, isi_eT, gLen_eF, gLen_eG, gLen_lst, gLen_tup, dAll_m, dAny_m, all_tt, dInt_b, isi_int_none, isi_int_bool, isi_int_int, isi_int_str, isi_int_list, isi_int_tuple, isi_bool_none, isi_bool_bool, isi_bool_int, isi_bool_str, isi_bool_list, isi_bool_tuple, isi_str_none, isi_str_bool, isi_str_int, isi_str_str, isi_str_list, isi_str_tuple, isi_list_none, isi_list_bool, isi_list_int, isi_list_str, isi_list_list, isi_list_tuple, isi_tuple_none, isi_tuple_bool, isi_tuple_int, isi_tuple_str, isi_tuple_list, isi_tuple_tuple, isi2_tl_none, isi2_tl_bool, isi2_tl_int, isi2_tl_str, isi2_tl_list, isi2_tl_tuple, zip2, zipD_map, isi_int_dict, isi_bool_dict, isi_str_dict, isi_list_dict, isi_tuple_dict, isi2_tl_dict, dIsN, dNotN, p_setIx, setIx1_ok, setIx2_s, bin1_w, bin1o_some, toDs_nil, toDs_a, toDs_o, ret_nxt, rngD_map, Int.reduceToNat, p_appV, appV_ok', p_forB, forB_ok, sm1_T, List.getElem?_cons_succ, List.getElem?_cons_zero, q_chain, ch1_a, ch2_a, ch3_tt, ch3_ff, ch4_a, lt_TT, par_ap, par1_ok, par2_ok, srcS_e, src1_e, src2_e, comp_e, un1_e, lst1_e, and_e, or_e, q_sm0, sm01_a, sm01_T, smO_some, app_0w, hn]
        have hq : onD dEq (.d (.int r2)) (.d (.int 5)) S4 = .ok (bD (decide (r2 = 5))) S4 := by
          rw [o_eq _ (eqOk_flat rfl rfl)]
          have : PyData.eqv (.int r2) (.int 5) = decide (r2 = 5) := by
            simp only [PyData.eqv]
            by_cases h : r2 = 5
            · subst h; rfl
            · rw [decide_eq_false h]; exact beq_false_of_ne (by omega)
          rw [this]
        by_cases h5 : r2 = 5
        · obtain ⟨r6, S6, e6, l6, h6⟩ := e_law_take hS (2 ^ n) b0 (by omega)
          simp only [p_body, p_skip, p_seq, p_set, p_ret, p_retN, p_retV_s, p_retV_0, p_exp, p_if, p_raise, p_app, p_ext, p_setT, p_for, p_cell', nxt_nx, nxt_rt, nxt_exc, fin_nx, fin_rt, fin_exc, set_ok, set_exc, ret_ok, ret_exc, exp_ok, exp_exc, if_tt, if_ff, if_ok, if_exc, for_ok, for_exc, app_s, app_0, app_0o, ext_s, ext_0, cons_nx, cons_exc, setT_ok, cell_ok, pop_nx, pop_rt, unC_nil, unC_n, unC_d, unC_st, no_nil, no_n, no_a, mask_nil, mask_t, mask_f, dom_nil, dom_s, dom_n, start_0, start_s, setW_nil, setW_cons, ev_nil, ev_n, ev_a, ev_o, ev_own, frzE_nil, frzE_cons, frz1_s, frz1_0o, frz1_0a, frz1_0n, sNm_ap, sTp_ap, q_var0, q_varS, q_c, q_bin, bin1_a, bin1_o, bin1_e, bin2_a, bin2_o, bin2_e, q_un, un1_a, un1_o, q_call, call_n, call_c, call1_a, call1_o, call1_e, q_tup, allD_nil, allD_cons, tupE_ap, q_lst, lst_n, lst_c, lst1_ok, q_comp, comp_ok, q_and, and_tt, and_ff, asB_ok, asB_e, and_ok, and_fold, q_or, or_tt, or_ff, or_ok, or_fold, q_not, not_ok, not_e, q_ife, ife_tt, ife_ff, ife_ok, q_seq, q_rng1, q_rng2, q_enum, q_zip, srcS_a, srcS_o, src1_a, src1_o, src2_a, src2_o, of_some, q_sl, sl_nn, sl_n, sl_s, slo_nn, slo_n, slo_s, slLo_n, slLo_s, slHi_ok, slLo_n', slLo_s', slHi_ok', q_sm, sm1_a, sm2_a, sm2_o, on1_ap, onD1_ap, true_ap, gNm_ap, gTp_ap, setD_nil, setD_cons, wipe_nil, wipe_cons, max2_ap, rng1_n, rng1_l, rng1_1, Nat.reduceAdd, Nat.reduceSub, Nat.reduceLeDiff, List.length_cons, List.length_nil, List.length_map, List.length_range, List.replicate, List.set_cons_zero, List.set_cons_succ, List.map_cons, List.map_nil, List.cons_append, List.nil_append, Option.map_some, if_true, Bool.false_eq_true, if_false, Bool.not_true, Bool.not_false, o_add, o_sub, o_shr, o_band, o_lt, o_le, o_gt, o_ge, own0, own1, own2, own3, own4, own5, own6, own7, own8, own9, own10, own11, own12, seqD_lst, seqD_tup, seqD_eF, seqD_eG, i2n, isi_eF, isi_eG, isi_eT, gLen_eF, gLen_eG, gLen_lst, gLen_tup, dAll_m, dAny_m, all_tt, dInt_b, isi_int_none, isi_int_bool, isi_int_int, isi_int_str, isi_int_list, isi_int_tuple, isi_bool_none, isi_bool_bool, isi_bool_int, isi_bool_str, isi_bool_list, isi_bool_tuple, isi_str_none, isi_str_bool, isi_str_int, isi_str_str, isi_str_list, isi_str_tuple, isi_list_none, isi_list_bool, isi_list_int, isi_list_str, isi_list_list, isi_list_tuple, isi_tuple_none, isi_tuple_bool, isi_tuple_int, isi_tuple_str, isi_tuple_list, isi_tuple_tuple, isi2_tl_none, isi2_tl_bool, isi2_tl_int, isi2_tl_str, isi2_tl_list, isi2_tl_tuple, zip2, zipD_map, isi_int_dict, isi_bool_dict, isi_str_dict, isi_list_dict, isi_tuple_dict, isi2_tl_dict, dIsN, dNotN, p_setIx, setIx1_ok, setIx2_s, bin1_w, bin1o_some, toDs_nil, toDs_a, toDs_o, ret_nxt, rngD_map, Int.reduceToNat, p_appV, appV_ok', p_forB, forB_ok, sm1_T, List.getElem?_cons_succ, List.getElem?_cons_zero, q_chain, ch1_a, ch2_a, ch3_tt, ch3_ff, ch4_a, lt_TT, par_ap, par1_ok, par2_ok, srcS_e, src1_e, src2_e, comp_e, un1_e, lst1_e, and_e, or_e, q_sm0, sm01_a, sm01_T, smO_some, app_0w, o_shl _ n (by omega), rng1_n (2 ^ n) (by omega), hc, hq, decide_eq_true h5, hS.flat, e6, setIx2_0 (show r6 < (((List.range (2 ^ n)).map fun i => some (l.contains i)).map aO).length by simpa using l6), dTup, to_rt]
          refine ⟨n, ((List.range (2 ^ n)).map fun i => some (l.contains i)).set r6 none, ?_, by simp, n1, n4, h6⟩
          rw [eF, List.map_set]
          rfl
        · simp only [p_body, p_skip, p_seq, p_set, p_ret, p_retN, p_retV_s, p_retV_0, p_exp, p_if, p_raise, p_app, p_ext, p_setT, p_for, p_cell', nxt_nx, nxt_rt, nxt_exc, fin_nx, fin_rt, fin_exc, set_ok, set_exc, ret_ok, ret_exc, exp_ok, exp_exc, if_tt, if_ff, if_ok, if_exc, for_ok, for_exc, app_s, app_0, app_0o, ext_s, ext_0, cons_nx, cons_exc, setT_ok, cell_ok, pop_nx, pop_rt, unC_nil, unC_n, unC_d, unC_st, no_nil, no_n, no_a, mask_nil, mask_t, mask_f, dom_nil, dom_s, dom_n, start_0, start_s, setW_nil, setW_cons, ev_nil, ev_n, ev_a, ev_o, ev_own, frzE_nil, frzE_cons, frz1_s, frz1_0o, frz1_0a, frz1_0n, sNm_ap, sTp_ap, q_var0, q_varS, q_c, q_bin, bin1_a, bin1_o, bin1_e, bin2_a, bin2_o, bin2_e, q_un, un1_a, un1_o, q_call, call_n, call_c, call1_a, call1_o, call1_e, q_tup, allD_nil, allD_cons, tupE_ap, q_lst, lst_n, lst_c, lst1_ok, q_comp, comp_ok, q_and, and_tt, and_ff, asB_ok, asB_e, and_ok, and_fold, q_or, or_tt, or_ff, or_ok, or_fold, q_not, not_ok, not_e, q_ife, ife_tt, ife_ff, ife_ok, q_seq, q_rng1, q_rng2, q_enum, q_zip, srcS_a, srcS_o, src1_a, src1_o, src2_a, src2_o, of_some, q_sl, sl_nn, sl_n, sl_s, slo_nn, slo_n, slo_s, slLo_n, slLo_s, slHi_ok, slLo_n', slLo_s', slHi_ok', q_sm, sm1_a, sm2_a, sm2_o, on1_ap, onD1_ap, true_ap, gNm_ap, gTp_ap, setD_nil, setD_cons, wipe_nil, wipe_cons, max2_ap, rng1_n, rng1_l, rng1_1, Nat.reduceAdd, Nat.reduceSub, Nat.reduceLeDiff, List.length_cons, List.length_nil, List.length_map, List.length_range, List.replicate, List.set_cons_zero, List.set_cons_succ, List.map_cons, List.map_nil, List.cons_append, List.nil_append, Option.map_some, if_true, Bool.false_eq_true, if_false, Bool.not_true, Bool.not_false, o_add, o_sub, o_shr, o_band, o_lt, o_le, o_gt, o_ge, own0, own1, own2, own3, own4, own5, own6, own7, own8, own9, own10, own11, own12, seqD_lst, seqD_tup, seqD_eF, seqD_eG, i2n, isi_eF, isi_eG, isi_eT, gLen_eF, gLen_eG, gLen_lst, gLen_tup, dAll_m, dAny_m, all_tt, dInt_b, isi_int_none, isi_int_bool, isi_int_int, isi_int_str, isi_int_list, isi_int_tuple, isi_bool_none, isi_bool_bool, isi_bool_int, isi_bool_str, isi_bool_list, isi_bool_tuple, isi_str_none, isi_str_bool, isi_str_int, isi_str_str, isi_str_list, isi_str_tuple, isi_list_none, isi_list_bool, isi_list_int, isi_list_str, isi_list_list, isi_list_tuple, isi_tuple_none, isi_tuple_bool, isi_tuple_int, isi_tuple_str, isi_tuple_list, isi_tuple_tuple, isi2_tl_none, isi2_tl_bool, isi2_tl_int, isi2_tl_str, isi2_tl_list, isi2_tl_tuple, zip2, zipD_map, isi_int_dict, isi_bool_dict, isi_str_dict, isi_list_dict, isi_tuple_dict, isi2_tl_dict, dIsN, dNotN, p_setIx, setIx1_ok, setIx2_s, bin1_w, bin1o_some, toDs_nil, toDs_a, toDs_o, ret_nxt, rngD_map, Int.reduceToNat, p_appV, appV_ok', p_forB, forB_ok, sm1_T, List.getElem?_cons_succ, List.getElem?_cons_zero, q_chain, ch1_a, ch2_a, ch3_tt, ch3_ff, ch4_a, lt_TT, par_ap, par1_ok, par2_ok, srcS_e, src1_e, src2_e, comp_e, un1_e, lst1_e, and_e, or_e, q_sm0, sm01_a, sm01_T, smO_some, app_0w, o_shl _ n (by omega), rng1_n (2 ^ n) (by omega), hc, hq, decide_eq_false h5, hS.flat, dTup, to_rt]
          exact ⟨n, (List.range (2 ^ n)).map fun i => some (l.contains i), rfl, by simp, n1, n4, hS⟩
  obtain ⟨w, S1, e, n, f, rfl, hl, n1, n4, h1⟩ := key.get
  exact ⟨n, f, S1, e, hl, n1, n4, h1⟩
theorem e_law_switches {f : Fn} {n : Nat} (hf : f.length = 2 ^ n) (h1 : 1 ≤ n) (h4 : n ≤ 4) (S : Cs) : sem__law_switches [.d (eF f)] S = .ok (iD n) S := by
  simp only [sem__law_switches, b__law_switches, bodySem, startE, sRet, sRetV, sRetN, sSeq, sSet, sSkip, sExp, sIf, fSm, fC, fComp, iRng1, iSeq, iZip, iEnum, fVar, fCall, fBin, fUn, onD1, on1, evs_nil, evs_cons, frzE, ev, ev1_own, ev1_ownD, ev1_a, ev1_no, List.map_cons, List.map_nil, List.cons_append, List.nil_append, List.replicate, List.length_cons, List.length_nil, Nat.reduceAdd, Nat.reduceSub, bnd_a, bi_a, bi_own, bnd_own, List.getElem?_cons_zero, List.getElem?_cons_succ, rng1, SR.of, if_true, wipeE, List.set_cons_zero, List.set_cons_succ, rngD_map, i2n, and_self, setD, Option.map_some, gNm, gTp, o_add, o_sub, o_shr, o_band, o_lt, o_le, o_gt, o_ge, fTup, allD, zip2, zipD_map, Function.comp_def, List.map_map, own0, own1, own2, own3, own4, own5, own6, own7, own8, own9, own10, own11, own12, fLst, evsW, sFor, dom, seqD_lst, seqD_tup, Option.isSome, sNm, sTp, setW, frz1_s, frz1_0o, frz1_0a, frz1_0n, isi_int_none, isi_int_bool, isi_int_int, isi_int_str, isi_int_list, isi_int_tuple, isi_bool_none, isi_bool_bool, isi_bool_int, isi_bool_str, isi_bool_list, isi_bool_tuple, isi_str_none, isi_str_bool, isi_str_int, isi_str_str, isi_str_list, isi_str_tuple, isi_list_none, isi_list_bool, isi_list_int, isi_list_str, isi_list_list, isi_list_tuple, isi_tuple_none, isi_tuple_bool, isi_tuple_int, isi_tuple_str, isi_tuple_list, isi_tuple_tuple, isi2_tl_none, isi2_tl_bool, isi2_tl_int, isi2_tl_str, isi2_tl_list, isi2_tl_tuple, br_tt, br_ff, Bool.false_eq_true, if_false, seqD_eF, seqD_eG, isi_eF, isi_eG, isi_eT, gLen_eF, gLen_eG, gLen_lst, gLen_tup, dAll_m, dAny_m, all_tt, dInt_b, hf, dAtKI, kv_at h1 h4]
theorem e_law_same : ∀ (n : Nat) (d : D) (S : Cs), flatCs S = true → sameOk n d → sem__law_same n [.d d, .d d] S = .ok (bD true) S
  | 0, d, S, hS, h => by unfold sameOk at h; exact h.elim
  | n + 1, d, S, hS, h => by
    have leaf : flatD d = true → (fUn (onD1 (dIsi2 "tuple" "list")) (fVar 1)) [some (.d d), some (.d d), none, none] S = .ok (bD false) S → (fUn (onD1 (dIsi "bool")) (fVar 0)) [some (.d d), some (.d d), none, none] S = (fUn (onD1 (dIsi "bool")) (fVar 1)) [some (.d d), some (.d d), none, none] S := fun _ _ => rfl
    cases d with
    | dict kvs => unfold sameOk at h; exact h.elim
    | none => simp only [sem__law_same, b__law_same, bodySem, startE, sRet, sRetV, sRetN, sSeq, sSet, sSkip, sExp, sIf, fSm, fC, fComp, iRng1, iSeq, iZip, iEnum, fVar, fCall, fBin, fUn, onD1, on1, evs_nil, evs_cons, frzE, ev, ev1_own, ev1_ownD, ev1_a, ev1_no, List.map_cons, List.map_nil, List.cons_append, List.nil_append, List.replicate, List.length_cons, List.length_nil, Nat.reduceAdd, Nat.reduceSub, bnd_a, bi_a, bi_own, bnd_own, List.getElem?_cons_zero, List.getElem?_cons_succ, rng1, SR.of, if_true, wipeE, List.set_cons_zero, List.set_cons_succ, rngD_map, i2n, and_self, setD, Option.map_some, gNm, gTp, o_add, o_sub, o_shr, o_band, o_lt, o_le, o_gt, o_ge, fTup, allD, zip2, zipD_map, Function.comp_def, List.map_map, own0, own1, own2, own3, own4, own5, own6, own7, own8, own9, own10, own11, own12, fLst, evsW, sFor, dom, seqD_lst, seqD_tup, Option.isSome, sNm, sTp, setW, frz1_s, frz1_0o, frz1_0a, frz1_0n, isi_int_none, isi_int_bool, isi_int_int, isi_int_str, isi_int_list, isi_int_tuple, isi_bool_none, isi_bool_bool, isi_bool_int, isi_bool_str, isi_bool_list, isi_bool_tuple, isi_str_none, isi_str_bool, isi_str_int, isi_str_str, isi_str_list, isi_str_tuple, isi_list_none, isi_list_bool, isi_list_int, isi_list_str, isi_list_list, isi_list_tuple, isi_tuple_none, isi_tuple_bool, isi_tuple_int, isi_tuple_str, isi_tuple_list, isi_tuple_tuple, isi2_tl_none, isi2_tl_bool, isi2_tl_int, isi2_tl_str, isi2_tl_list, isi2_tl_tuple, br_tt, br_ff, Bool.false_eq_true, if_false, seqD_eF, seqD_eG, isi_eF, isi_eG, isi_eT, gLen_eF, gLen_eG, gLen_lst, gLen_tup, dAll_m, dAny_m, all_tt, dInt_b, hS, fAnd, o_eq S (eqOk_flat (x := .none) (y := .none) rfl rfl), eqv_self .none rfl, same_bool]
    | bool b => simp only [sem__law_same, b__law_same, bodySem, startE, sRet, sRetV, sRetN, sSeq, sSet, sSkip, sExp, sIf, fSm, fC, fComp, iRng1, iSeq, iZip, iEnum, fVar, fCall, fBin, fUn, onD1, on1, evs_nil, evs_cons, frzE, ev, ev1_own, ev1_ownD, ev1_a, ev1_no, List.map_cons, List.map_nil, List.cons_append, List.nil_append, List.replicate, List.length_cons, List.length_nil, Nat.reduceAdd, Nat.reduceSub, bnd_a, bi_a, bi_own, bnd_own, List.getElem?_cons_zero, List.getElem?_cons_succ, rng1, SR.of, if_true, wipeE, List.set_cons_zero, List.set_cons_succ, rngD_map, i2n, and_self, setD, Option.map_some, gNm, gTp, o_add, o_sub, o_shr, o_band, o_lt, o_le, o_gt, o_ge, fTup, allD, zip2, zipD_map, Function.comp_def, List.map_map, own0, own1, own2, own3, own4, own5, own6, own7, own8, own9, own10, own11, own12, fLst, evsW, sFor, dom, seqD_lst, seqD_tup, Option.isSome, sNm, sTp, setW, frz1_s, frz1_0o, frz1_0a, frz1_0n, isi_int_none, isi_int_bool, isi_int_int, isi_int_str, isi_int_list, isi_int_tuple, isi_bool_none, isi_bool_bool, isi_bool_int, isi_bool_str, isi_bool_list, isi_bool_tuple, isi_str_none, isi_str_bool, isi_str_int, isi_str_str, isi_str_list, isi_str_tuple, isi_list_none, isi_list_bool, isi_list_int, isi_list_str, isi_list_list, isi_list_tuple, isi_tuple_none, isi_tuple_bool, isi_tuple_int, isi_tuple_str, isi_tuple_list, isi_tuple_tuple, isi2_tl_none, isi2_tl_bool, isi2_tl_int, isi2_tl_str, isi2_tl_list, isi2_tl_tuple, br_tt, br_ff, Bool.false_eq_true, if_false, seqD_eF, seqD_eG, isi_eF, isi_eG, isi_eT, gLen_eF, gLen_eG, gLen_lst, gLen_tup, dAll_m, dAny_m, all_tt, dInt_b, hS, fAnd, same_bool]
    | int i => simp only [sem__law_same, b__law_same, bodySem, startE, sRet, sRetV, sRetN, sSeq, sSet, sSkip, sExp, sIf, fSm, fC, fComp, iRng1, iSeq, iZip, iEnum, fVar, fCall, fBin, fUn, onD1, on1, evs_nil, evs_cons, frzE, ev, ev1_own, ev1_ownD, ev1_a, ev1_no, List.map_cons, List.map_nil, List.cons_append, List.nil_append, List.replicate, List.length_cons, List.length_nil, Nat.reduceAdd, Nat.reduceSub, bnd_a, bi_a, bi_own, bnd_own, List.getElem?_cons_zero, List.getElem?_cons_succ, rng1, SR.of, if_true, wipeE, List.set_cons_zero, List.set_cons_succ, rngD_map, i2n, and_self, setD, Option.map_some, gNm, gTp, o_add, o_sub, o_shr, o_band, o_lt, o_le, o_gt, o_ge, fTup, allD, zip2, zipD_map, Function.comp_def, List.map_map, own0, own1, own2, own3, own4, own5, own6, own7, own8, own9, own10, own11, own12, fLst, evsW, sFor, dom, seqD_lst, seqD_tup, Option.isSome, sNm, sTp, setW, frz1_s, frz1_0o, frz1_0a, frz1_0n, isi_int_none, isi_int_bool, isi_int_int, isi_int_str, isi_int_list, isi_int_tuple, isi_bool_none, isi_bool_bool, isi_bool_int, isi_bool_str, isi_bool_list, isi_bool_tuple, isi_str_none, isi_str_bool, isi_str_int, isi_str_str, isi_str_list, isi_str_tuple, isi_list_none, isi_list_bool, isi_list_int, isi_list_str, isi_list_list, isi_list_tuple, isi_tuple_none, isi_tuple_bool, isi_tuple_int, isi_tuple_str, isi_tuple_list, isi_tuple_tuple, isi2_tl_none, isi2_tl_bool, isi2_tl_int, isi2_tl_str, isi2_tl_list, isi2_tl_tuple, br_tt, br_ff, Bool.false_eq_true, if_false, seqD_eF, seqD_eG, isi_eF, isi_eG, isi_eT, gLen_eF, gLen_eG, gLen_lst, gLen_tup, dAll_m, dAny_m, all_tt, dInt_b, hS, fAnd, o_eq S (eqOk_flat (x := .int i) (y := .int i) rfl rfl), eqv_self (.int i) rfl, same_bool]
    | str z => simp only [sem__law_same, b__law_same, bodySem, startE, sRet, sRetV, sRetN, sSeq, sSet, sSkip, sExp, sIf, fSm, fC, fComp, iRng1, iSeq, iZip, iEnum, fVar, fCall, fBin, fUn, onD1, on1, evs_nil, evs_cons, frzE, ev, ev1_own, ev1_ownD, ev1_a, ev1_no, List.map_cons, List.map_nil, List.cons_append, List.nil_append, List.replicate, List.length_cons, List.length_nil, Nat.reduceAdd, Nat.reduceSub, bnd_a, bi_a, bi_own, bnd_own, List.getElem?_cons_zero, List.getElem?_cons_succ, rng1, SR.of, if_true, wipeE, List.set_cons_zero, List.set_cons_succ, rngD_map, i2n, and_self, setD, Option.map_some, gNm, gTp, o_add, o_sub, o_shr, o_band, o_lt, o_le, o_gt, o_ge, fTup, allD, zip2, zipD_map, Function.comp_def, List.map_map, own0, own1, own2, own3, own4, own5, own6, own7, own8, own9, own10, own11, own12, fLst, evsW, sFor, dom, seqD_lst, seqD_tup, Option.isSome, sNm, sTp, setW, frz1_s, frz1_0o, frz1_0a, frz1_0n, isi_int_none, isi_int_bool, isi_int_int, isi_int_str, isi_int_list, isi_int_tuple, isi_bool_none, isi_bool_bool, isi_bool_int, isi_bool_str, isi_bool_list, isi_bool_tuple, isi_str_none, isi_str_bool, isi_str_int, isi_str_str, isi_str_list, isi_str_tuple, isi_list_none, isi_list_bool, isi_list_int, isi_list_str, isi_list_list, isi_list_tuple, isi_tuple_none, isi_tuple_bool, isi_tuple_int, isi_tuple_str, isi_tuple_list, isi_tuple_tuple, isi2_tl_none, isi2_tl_bool, isi2_tl_int, isi2_tl_str, isi2_tl_list, isi2_tl_tuple, br_tt, br_ff, Bool.false_eq_true, if_false, seqD_eF, seqD_eG, isi_eF, isi_eG, isi_eT, gLen_eF, gLen_eG, gLen_lst, gLen_tup, dAll_m, dAny_m, all_tt, dInt_b, hS, fAnd, o_eq S (eqOk_flat (x := .str z) (y := .str z) rfl rfl), eqv_self (.str z) rfl, same_bool]
    | list ds =>
      unfold sameOk at h
      have hm := sameOks_mem h.2
      have c : compL (gTp [2, 3]) fTrue (fCall (sem__law_same n) [(fVar 2), (fVar 3)]) [some (A.d (.list ds)), some (A.d (.list ds)), none, none] ((ds.zip ds).map fun p => PyData.tuple [p.1, p.2]) S [] = .ok (ownD ((ds.zip ds).map fun _ => PyData.bool true)) S := by
        refine compL_m (fun p : D × D => PyData.tuple [p.1, p.2]) _ _ fun p hp => ⟨_, rfl, ?_⟩
        have e : p.1 = p.2 ∧ p.1 ∈ ds := by
          obtain ⟨k, hk, e⟩ := List.mem_iff_getElem.mp hp
          rw [List.getElem_zip] at e
          rw [← e]
          exact ⟨rfl, List.getElem_mem _⟩
        simp only [bodySem, startE, sRet, sRetV, sRetN, sSeq, sSet, sSkip, sExp, sIf, fSm, fC, fComp, iRng1, iSeq, iZip, iEnum, fVar, fCall, fBin, fUn, onD1, on1, evs_nil, evs_cons, frzE, ev, ev1_own, ev1_ownD, ev1_a, ev1_no, List.map_cons, List.map_nil, List.cons_append, List.nil_append, List.replicate, List.length_cons, List.length_nil, Nat.reduceAdd, Nat.reduceSub, bnd_a, bi_a, bi_own, bnd_own, List.getElem?_cons_zero, List.getElem?_cons_succ, rng1, SR.of, if_true, wipeE, List.set_cons_zero, List.set_cons_succ, rngD_map, i2n, and_self, setD, Option.map_some, gNm, gTp, o_add, o_sub, o_shr, o_band, o_lt, o_le, o_gt, o_ge, fTup, allD, zip2, zipD_map, Function.comp_def, List.map_map, own0, own1, own2, own3, own4, own5, own6, own7, own8, own9, own10, own11, own12, fLst, evsW, sFor, dom, seqD_lst, seqD_tup, Option.isSome, sNm, sTp, setW, frz1_s, frz1_0o, frz1_0a, frz1_0n, isi_int_none, isi_int_bool, isi_int_int, isi_int_str, isi_int_list, isi_int_tuple, isi_bool_none, isi_bool_bool, isi_bool_int, isi_bool_str, isi_bool_list, isi_bool_tuple, isi_str_none, isi_str_bool, isi_str_int, isi_str_str, isi_str_list, isi_str_tuple, isi_list_none, isi_list_bool, isi_list_int, isi_list_str, isi_list_list, isi_list_tuple, isi_tuple_none, isi_tuple_bool, isi_tuple_int, isi_tuple_str, isi_tuple_list, isi_tuple_tuple, isi2_tl_none, isi2_tl_bool, isi2_tl_int, isi2_tl_str, isi2_tl_list, isi2_tl_tuple, br_tt, br_ff, Bool.false_eq_true, if_false, seqD_eF, seqD_eG, isi_eF, isi_eG, isi_eT, gLen_eF, gLen_eG, gLen_lst, gLen_tup, dAll_m, dAny_m, all_tt, dInt_b]
        rw [← e.1, e_law_same n p.1 S hS (hm _ e.2)]
      simp only [sem__law_same, b__law_same, bodySem, startE, sRet, sRetV, sRetN, sSeq, sSet, sSkip, sExp, sIf, fSm, fC, fComp, iRng1, iSeq, iZip, iEnum, fVar, fCall, fBin, fUn, onD1, on1, evs_nil, evs_cons, frzE, ev, ev1_own, ev1_ownD, ev1_a, ev1_no, List.map_cons, List.map_nil, List.cons_append, List.nil_append, List.replicate, List.length_cons, List.length_nil, Nat.reduceAdd, Nat.reduceSub, bnd_a, bi_a, bi_own, bnd_own, List.getElem?_cons_zero, List.getElem?_cons_succ, rng1, SR.of, if_true, wipeE, List.set_cons_zero, List.set_cons_succ, rngD_map, i2n, and_self, setD, Option.map_some, gNm, gTp, o_add, o_sub, o_shr, o_band, o_lt, o_le, o_gt, o_ge, fTup, allD, zip2, zipD_map, Function.comp_def, List.map_map, own0, own1, own2, own3, own4, own5, own6, own7, own8, own9, own10, own11, own12, fLst, evsW, sFor, dom, seqD_lst, seqD_tup, Option.isSome, sNm, sTp, setW, frz1_s, frz1_0o, frz1_0a, frz1_0n, isi_int_none, isi_int_bool, isi_int_int, isi_int_str, isi_int_list, isi_int_tuple, isi_bool_none, isi_bool_bool, isi_bool_int, isi_bool_str, isi_bool_list, isi_bool_tuple, isi_str_none, isi_str_bool, isi_str_int, isi_str_str, isi_str_list, isi_str_tuple, isi_list_none, isi_list_bool, isi_list_int, isi_list_str, isi_list_list, isi_list_tuple, isi_tuple_none, isi_tuple_bool, isi_tuple_int, isi_tuple_str, isi_tuple_list, isi_tuple_tuple, isi2_tl_none, isi2_tl_bool, isi2_tl_int, isi2_tl_str, isi2_tl_list, isi2_tl_tuple, br_tt, br_ff, Bool.false_eq_true, if_false, seqD_eF, seqD_eG, isi_eF, isi_eG, isi_eT, gLen_eF, gLen_eG, gLen_lst, gLen_tup, dAll_m, dAny_m, all_tt, dInt_b, hS, fAnd, fOr, fNot, ne_bool, gLen, ne_int, zipD, c]
    | tuple ds =>
      unfold sameOk at h
      have hm := sameOks_mem h.2
      have c : compL (gTp [2, 3]) fTrue (fCall (sem__law_same n) [(fVar 2), (fVar 3)]) [some (A.d (.tuple ds)), some (A.d (.tuple ds)), none, none] ((ds.zip ds).map fun p => PyData.tuple [p.1, p.2]) S [] = .ok (ownD ((ds.zip ds).map fun _ => PyData.bool true)) S := by
        refine compL_m (fun p : D × D => PyData.tuple [p.1, p.2]) _ _ fun p hp => ⟨_, rfl, ?_⟩
        have e : p.1 = p.2 ∧ p.1 ∈ ds := by
          obtain ⟨k, hk, e⟩ := List.mem_iff_getElem.mp hp
          rw [List.getElem_zip] at e
          rw [← e]
          exact ⟨rfl, List.getElem_mem _⟩
        simp only [bodySem, startE, sRet, sRetV, sRetN, sSeq, sSet, sSkip, sExp, sIf, fSm, fC, fComp, iRng1, iSeq, iZip, iEnum, fVar, fCall, fBin, fUn, onD1, on1, evs_nil, evs_cons, frzE, ev, ev1_own, ev1_ownD, ev1_a, ev1_no, List.map_cons, List.map_nil, List.cons_append, List.nil_append, List.replicate, List.length_cons, List.length_nil, Nat.reduceAdd, Nat.reduceSub, bnd_a, bi_a, bi_own, bnd_own, List.getElem?_cons_zero, List.getElem?_cons_succ, rng1, SR.of, if_true, wipeE, List.set_cons_zero, List.set_cons_succ, rngD_map, i2n, and_self, setD, Option.map_some, gNm, gTp, o_add, o_sub, o_shr, o_band, o_lt, o_le, o_gt, o_ge, fTup, allD, zip2, zipD_map, Function.comp_def, List.map_map, own0, own1, own2, own3, own4, own5, own6, own7, own8, own9, own10, own11, own12, fLst, evsW, sFor, dom, seqD_lst, seqD_tup, Option.isSome, sNm, sTp, setW, frz1_s, frz1_0o, frz1_0a, frz1_0n, isi_int_none, isi_int_bool, isi_int_int, isi_int_str, isi_int_list, isi_int_tuple, isi_bool_none, isi_bool_bool, isi_bool_int, isi_bool_str, isi_bool_list, isi_bool_tuple, isi_str_none, isi_str_bool, isi_str_int, isi_str_str, isi_str_list, isi_str_tuple, isi_list_none, isi_list_bool, isi_list_int, isi_list_str, isi_list_list, isi_list_tuple, isi_tuple_none, isi_tuple_bool, isi_tuple_int, isi_tuple_str, isi_tuple_list, isi_tuple_tuple, isi2_tl_none, isi2_tl_bool, isi2_tl_int, isi2_tl_str, isi2_tl_list, isi2_tl_tuple, br_tt, br_ff, Bool.false_eq_true, if_false, seqD_eF, seqD_eG, isi_eF, isi_eG, isi_eT, gLen_eF, gLen_eG, gLen_lst, gLen_tup, dAll_m, dAny_m, all_tt, dInt_b]
        rw [← e.1, e_law_same n p.1 S hS (hm _ e.2)]
      simp only [sem__law_same, b__law_same, bodySem, startE, sRet, sRetV, sRetN, sSeq, sSet, sSkip, sExp, sIf, fSm, fC, fComp, iRng1, iSeq, iZip, iEnum, fVar, fCall, fBin, fUn, onD1, on1, evs_nil, evs_cons, frzE, ev, ev1_own, ev1_ownD, ev1_a, ev1_no, List.map_cons, List.map_nil, List.cons_append, List.nil_append, List.replicate, List.length_cons, List.length_nil, Nat.reduceAdd, Nat.reduceSub, bnd_a, bi_a, bi_own, bnd_own, List.getElem?_cons_zero, List.getElem?_cons_succ, rng1, SR.of, if_true, wipeE, List.set_cons_zero, List.set_cons_succ, rngD_map, i2n, and_self, setD, Option.map_some, gNm, gTp, o_add, o_sub, o_shr, o_band, o_lt, o_le, o_gt, o_ge, fTup, allD, zip2, zipD_map, Function.comp_def, List.map_map, own0, own1, own2, own3, own4, own5, own6, own7, own8, own9, own10, own11, own12, fLst, evsW, sFor, dom, seqD_lst, seqD_tup, Option.isSome, sNm, sTp, setW, frz1_s, frz1_0o, frz1_0a, frz1_0n, isi_int_none, isi_int_bool, isi_int_int, isi_int_str, isi_int_list, isi_int_tuple, isi_bool_none, isi_bool_bool, isi_bool_int, isi_bool_str, isi_bool_list, isi_bool_tuple, isi_str_none, isi_str_bool, isi_str_int, isi_str_str, isi_str_list, isi_str_tuple, isi_list_none, isi_list_bool, isi_list_int, isi_list_str, isi_list_list, isi_list_tuple, isi_tuple_none, isi_tuple_bool, isi_tuple_int, isi_tuple_str, isi_tuple_list, isi_tuple_tuple, isi2_tl_none, isi2_tl_bool, isi2_tl_int, isi2_tl_str, isi2_tl_list, isi2_tl_tuple, br_tt, br_ff, Bool.false_eq_true, if_false, seqD_eF, seqD_eG, isi_eF, isi_eG, isi_eT, gLen_eF, gLen_eG, gLen_lst, gLen_tup, dAll_m, dAny_m, all_tt, dInt_b, hS, fAnd, fOr, fNot, ne_bool, gLen, ne_int, zipD, c]
theorem bad_n {r : Nat} (h : r < 7) (S : Cs) : ∃ d : D, dIx (.d (.list [.int 0, .int 5, .int (-1), .bool true, .none, .str (Str.ofString "2"), .tuple [.int 1]])) (.d (.int r)) S = .ok (.a (.d d)) S ∧ ∀ n, d = .int n → ¬ (1 ≤ n ∧ n ≤ 4) := by
  have : r = 0 ∨ r = 1 ∨ r = 2 ∨ r = 3 ∨ r = 4 ∨ r = 5 ∨ r = 6 := by omega
  rcases this with rfl | rfl | rfl | rfl | rfl | rfl | rfl <;> exact ⟨_, rfl, by intro n hn; first | (cases hn; decide) | cases hn⟩
theorem eq_str (x : Str) (S : Cs) : onD dNe (.d (.str x)) (.d (.str x)) S = .ok (bD false) S := by
  rw [o_ne _ (eqOk_flat rfl rfl)]
  have : PyData.eqv (.str x) (.str x) = true := (eqv_plain _ _ rfl rfl).mpr rfl
  rw [this]
  rfl
theorem e_law (ns : List Int) : ∃ S, sem_law [.s ns] [] = .ok (bD true) S := by
  obtain ⟨n0, hn0, hb0⟩ := maxmin ns.length 8
  have hn0 : (if (if (8 : Int) < (ns.length : Int) then (8 : Int) else (ns.length : Int)) > 1 then (if (8 : Int) < (ns.length : Int) then (8 : Int) else (ns.length : Int)) else 1) = (n0 : Int) := hn0
  refine law_of ?_
  simp only [sem_law, b_law, p_body, p_skip, p_seq, p_set, p_ret, p_retN, p_retV_s, p_retV_0, p_exp, p_if, p_raise, p_app, p_ext, p_setT, p_for, p_cell', nxt_nx, nxt_rt, nxt_exc, fin_nx, fin_rt, fin_exc, set_ok, set_exc, ret_ok, ret_exc, exp_ok, exp_exc, if_tt, if_ff, if_ok, if_exc, for_ok, for_exc, app_s, app_0, app_0o, ext_s, ext_0, cons_nx, cons_exc, setT_ok, cell_ok, pop_nx, pop_rt, unC_nil, unC_n, unC_d, unC_st, no_nil, no_n, no_a, mask_nil, mask_t, mask_f, dom_nil, dom_s, dom_n, start_0, start_s, setW_nil, setW_cons, ev_nil, ev_n, ev_a, ev_o, ev_own, frzE_nil, frzE_cons, frz1_s, frz1_0o, frz1_0a, frz1_0n, sNm_ap, sTp_ap, q_var0, q_varS, q_c, q_bin, bin1_a, bin1_o, bin1_e, bin2_a, bin2_o, bin2_e, q_un, un1_a, un1_o, q_call, call_n, call_c, call1_a, call1_o, call1_e, q_tup, allD_nil, allD_cons, tupE_ap, q_lst, lst_n, lst_c, lst1_ok, q_comp, comp_ok, q_and, and_tt, and_ff, asB_ok, asB_e, and_ok, and_fold, q_or, or_tt, or_ff, or_ok, or_fold, q_not, not_ok, not_e, q_ife, ife_tt, ife_ff, ife_ok, q_seq, q_rng1, q_rng2, q_enum, q_zip, srcS_a, srcS_o, src1_a, src1_o, src2_a, src2_o, of_some, q_sl, sl_nn, sl_n, sl_s, slo_nn, slo_n, slo_s, slLo_n, slLo_s, slHi_ok, slLo_n', slLo_s', slHi_ok', q_sm, sm1_a, sm2_a, sm2_o, on1_ap, onD1_ap, true_ap, gNm_ap, gTp_ap, setD_nil, setD_cons, wipe_nil, wipe_cons, max2_ap, rng1_n, rng1_l, rng1_1, Nat.reduceAdd, Nat.reduceSub, Nat.reduceLeDiff, List.length_cons, List.length_nil, List.length_map, List.length_range, List.replicate, List.set_cons_zero, List.set_cons_succ, List.map_cons, List.map_nil, List.cons_append, List.nil_append, Option.map_some, if_true, Bool.false_eq_true, if_false, Bool.not_true, Bool.not_false, o_add, o_sub, o_shr, o_band, o_lt, o_le, o_gt, o_ge, own0, own1, own2, own3, own4, own5, own6, own7, own8, own9, own10, own11, own12, seqD_lst, seqD_tup, seqD_eF, seqD_eG, i2n, isi_eF, isi_eG, isi_eT, gLen_eF, gLen_eG, gLen_lst, gLen_tup, dAll_m, dAny_m, all_tt, dInt_b, isi_int_none, isi_int_bool, isi_int_int, isi_int_str, isi_int_list, isi_int_tuple, isi_bool_none, isi_bool_bool, isi_bool_int, isi_bool_str, isi_bool_list, isi_bool_tuple, isi_str_none, isi_str_bool, isi_str_int, isi_str_str, isi_str_list, isi_str_tuple, isi_list_none, isi_list_bool, isi_list_int, isi_list_str, isi_list_list, isi_list_tuple, isi_tuple_none, isi_tuple_bool, isi_tuple_int, isi_tuple_str, isi_tuple_list, isi_tuple_tuple, isi2_tl_none, isi2_tl_bool, isi2_tl_int, isi2_tl_str, isi2_tl_list, isi2_tl_tuple, zip2, zipD_map, isi_int_dict, isi_bool_dict, isi_str_dict, isi_list_dict, isi_tuple_dict, isi2_tl_dict, dIsN, dNotN, p_setIx, setIx1_ok, setIx2_s, bin1_w, bin1o_some, toDs_nil, toDs_a, toDs_o, ret_nxt, rngD_map, Int.reduceToNat, p_appV, appV_ok', p_forB, forB_ok, sm1_T, List.getElem?_cons_succ, List.getElem?_cons_zero, q_chain, ch1_a, ch2_a, ch3_tt, ch3_ff, ch4_a, lt_TT, par_ap, par1_ok, par2_ok, srcS_e, src1_e, src2_e, comp_e, un1_e, lst1_e, and_e, or_e, q_sm0, sm01_a, sm01_T, smO_some, app_0w, gLen_s, hn0, rng1_n n0 (by omega), to_fin]
  refine for_seq (fun ρ S => S = [] ∧ ρ = [some (.a (.s ns)), none, none, none, none, none, none, none, none, none, none, none]) ⟨rfl, rfl⟩ ?_ ?_
  · rintro x hx ρ S ⟨rfl, rfl⟩
    obtain ⟨i, hi, rfl⟩ := mem_mapInt hx
    obtain ⟨z, b, e1, hz, hb⟩ := e_law_state ns i [] rfl
    obtain ⟨n, f, S1, e2, hf, n1, n4, hS1⟩ := e_law_function (S := [[.int z, .bool b]]) ⟨z, b, rfl, hz, hb⟩
    have b2 : 2 ^ n ≤ 16 := Nat.pow_le_pow_right (n := 2) (by decide) n4
    obtain ⟨r, S2, e3, l3, h2⟩ := e_law_take hS1 5 (by decide) (by decide)
    have e3' : sem__law_take [A.c 0, A.d (PyData.int 5)] S1 = .ok (iD r) S2 := e3
    refine ⟨_, rfl, ?_⟩
    simp only [p_body, p_skip, p_seq, p_set, p_ret, p_retN, p_retV_s, p_retV_0, p_exp, p_if, p_raise, p_app, p_ext, p_setT, p_for, p_cell', nxt_nx, nxt_rt, nxt_exc, fin_nx, fin_rt, fin_exc, set_ok, set_exc, ret_ok, ret_exc, exp_ok, exp_exc, if_tt, if_ff, if_ok, if_exc, for_ok, for_exc, app_s, app_0, app_0o, ext_s, ext_0, cons_nx, cons_exc, setT_ok, cell_ok, pop_nx, pop_rt, unC_nil, unC_n, unC_d, unC_st, no_nil, no_n, no_a, mask_nil, mask_t, mask_f, dom_nil, dom_s, dom_n, start_0, start_s, setW_nil, setW_cons, ev_nil, ev_n, ev_a, ev_o, ev_own, frzE_nil, frzE_cons, frz1_s, frz1_0o, frz1_0a, frz1_0n, sNm_ap, sTp_ap, q_var0, q_varS, q_c, q_bin, bin1_a, bin1_o, bin1_e, bin2_a, bin2_o, bin2_e, q_un, un1_a, un1_o, q_call, call_n, call_c, call1_a, call1_o, call1_e, q_tup, allD_nil, allD_cons, tupE_ap, q_lst, lst_n, lst_c, lst1_ok, q_comp, comp_ok, q_and, and_tt, and_ff, asB_ok, asB_e, and_ok, and_fold, q_or, or_tt, or_ff, or_ok, or_fold, q_not, not_ok, not_e, q_ife, ife_tt, ife_ff, ife_ok, q_seq, q_rng1, q_rng2, q_enum, q_zip, srcS_a, srcS_o, src1_a, src1_o, src2_a, src2_o, of_some, q_sl, sl_nn, sl_n, sl_s, slo_nn, slo_n, slo_s, slLo_n, slLo_s, slHi_ok, slLo_n', slLo_s', slHi_ok', q_sm, sm1_a, sm2_a, sm2_o, on1_ap, onD1_ap, true_ap, gNm_ap, gTp_ap, setD_nil, setD_cons, wipe_nil, wipe_cons, max2_ap, rng1_n, rng1_l, rng1_1, Nat.reduceAdd, Nat.reduceSub, Nat.reduceLeDiff, List.length_cons, List.length_nil, List.length_map, List.length_range, List.replicate, List.set_cons_zero, List.set_cons_succ, List.map_cons, List.map_nil, List.cons_append, List.nil_append, Option.map_some, if_true, Bool.false_eq_true, if_false, Bool.not_true, Bool.not_false, o_add, o_sub, o_shr, o_band, o_lt, o_le, o_gt, o_ge, own0, own1, own2, own3, own4, own5, own6, own7, own8, own9, own10, own11, own12, seqD_lst, seqD_tup, seqD_eF, seqD_eG, i2n, isi_eF, isi_eG, isi_eT, gLen_eF, gLen_eG, gLen_lst, gLen_tup, dAll_m, dAny_m, all_tt, dInt_b, isi_int_none, isi_int_bool, isi_int_int, isi_int_str, isi_int_list, isi_int_tuple, isi_bool_none, isi_bool_bool, isi_bool_int, isi_bool_str, isi_bool_list, isi_bool_tuple, isi_str_none, isi_str_bool, isi_str_int, isi_str_str, isi_str_list, isi_str_tuple, isi_list_none, isi_list_bool, isi_list_int, isi_list_str, isi_list_list, isi_list_tuple, isi_tuple_none, isi_tuple_bool, isi_tuple_int, isi_tuple_str, isi_tuple_list, isi_tuple_tuple, isi2_tl_none, isi2_tl_bool, isi2_tl_int, isi2_tl_str, isi2_tl_list, isi2_tl_tuple, zip2, zipD_map, isi_int_dict, isi_bool_dict, isi_str_dict, isi_list_dict, isi_tuple_dict, isi2_tl_dict, dIsN, dNotN, p_setIx, setIx1_ok, setIx2_s, bin1_w, bin1o_some, toDs_nil, toDs_a, toDs_o, ret_nxt, rngD_map, Int.reduceToNat, p_appV, appV_ok', p_forB, forB_ok, sm1_T, List.getElem?_cons_succ, List.getElem?_cons_zero, q_chain, ch1_a, ch2_a, ch3_tt, ch3_ff, ch4_a, lt_TT, par_ap, par1_ok, par2_ok, srcS_e, src1_e, src2_e, comp_e, un1_e, lst1_e, and_e, or_e, q_sm0, sm01_a, sm01_T, smO_some, app_0w, e1, e2, e_law_switches hf n1 n4, e3', rng1_n r (by omega), to_pop]
    refine to_setn (to_call1 (to_un1 (comp_to (fun ds S => St S ∧ ∀ d ∈ ds, ∃ t : Tm, d = eT t ∧ t.length = n) ⟨h2, by simp⟩ ?_ ?_)))
    · rintro x hx acc S ⟨hS, ha⟩
      obtain ⟨t, S3, e3, l3, h3⟩ := e_law_term hS n (by omega)
      refine ⟨_, rfl, ?_⟩
      simp only [p_body, p_skip, p_seq, p_set, p_ret, p_retN, p_retV_s, p_retV_0, p_exp, p_if, p_raise, p_app, p_ext, p_setT, p_for, p_cell', nxt_nx, nxt_rt, nxt_exc, fin_nx, fin_rt, fin_exc, set_ok, set_exc, ret_ok, ret_exc, exp_ok, exp_exc, if_tt, if_ff, if_ok, if_exc, for_ok, for_exc, app_s, app_0, app_0o, ext_s, ext_0, cons_nx, cons_exc, setT_ok, cell_ok, pop_nx, pop_rt, unC_nil, unC_n, unC_d, unC_st, no_nil, no_n, no_a, mask_nil, mask_t, mask_f, dom_nil, dom_s, dom_n, start_0, start_s, setW_nil, setW_cons, ev_nil, ev_n, ev_a, ev_o, ev_own, frzE_nil, frzE_cons, frz1_s, frz1_0o, frz1_0a, frz1_0n, sNm_ap, sTp_ap, q_var0, q_varS, q_c, q_bin, bin1_a, bin1_o, bin1_e, bin2_a, bin2_o, bin2_e, q_un, un1_a, un1_o, q_call, call_n, call_c, call1_a, call1_o, call1_e, q_tup, allD_nil, allD_cons, tupE_ap, q_lst, lst_n, lst_c, lst1_ok, q_comp, comp_ok, q_and, and_tt, and_ff, asB_ok, asB_e, and_ok, and_fold, q_or, or_tt, or_ff, or_ok, or_fold, q_not, not_ok, not_e, q_ife, ife_tt, ife_ff, ife_ok, q_seq, q_rng1, q_rng2, q_enum, q_zip, srcS_a, srcS_o, src1_a, src1_o, src2_a, src2_o, of_some, q_sl, sl_nn, sl_n, sl_s, slo_nn, slo_n, slo_s, slLo_n, slLo_s, slHi_ok, slLo_n', slLo_s', slHi_ok', q_sm, sm1_a, sm2_a, sm2_o, on1_ap, onD1_ap, true_ap, gNm_ap, gTp_ap, setD_nil, setD_cons, wipe_nil, wipe_cons, max2_ap, rng1_n, rng1_l, rng1_1, Nat.reduceAdd, Nat.reduceSub, Nat.reduceLeDiff, List.length_cons, List.length_nil, List.length_map, List.length_range, List.replicate, List.set_cons_zero, List.set_cons_succ, List.map_cons, List.map_nil, List.cons_append, List.nil_append, Option.map_some, if_true, Bool.false_eq_true, if_false, Bool.not_true, Bool.not_false, o_add, o_sub, o_shr, o_band, o_lt, o_le, o_gt, o_ge, own0, own1, own2, own3, own4, own5, own6, own7, own8, own9, own10, own11, own12, seqD_lst, seqD_tup, seqD_eF, seqD_eG, i2n, isi_eF, isi_eG, isi_eT, gLen_eF, gLen_eG, gLen_lst, gLen_tup, dAll_m, dAny_m, all_tt, dInt_b, isi_int_none, isi_int_bool, isi_int_int, isi_int_str, isi_int_list, isi_int_tuple, isi_bool_none, isi_bool_bool, isi_bool_int, isi_bool_str, isi_bool_list, isi_bool_tuple, isi_str_none, isi_str_bool, isi_str_int, isi_str_str, isi_str_list, isi_str_tuple, isi_list_none, isi_list_bool, isi_list_int, isi_list_str, isi_list_list, isi_list_tuple, isi_tuple_none, isi_tuple_bool, isi_tuple_int, isi_tuple_str, isi_tuple_list, isi_tuple_tuple, isi2_tl_none, isi2_tl_bool, isi2_tl_int, isi2_tl_str, isi2_tl_list, isi2_tl_tuple, zip2, zipD_map, isi_int_dict, isi_bool_dict, isi_str_dict, isi_list_dict, isi_tuple_dict, isi2_tl_dict, dIsN, dNotN, p_setIx, setIx1_ok, setIx2_s, bin1_w, bin1o_some, toDs_nil, toDs_a, toDs_o, ret_nxt, rngD_map, Int.reduceToNat, p_appV, appV_ok', p_forB, forB_ok, sm1_T, List.getElem?_cons_succ, List.getElem?_cons_zero, q_chain, ch1_a, ch2_a, ch3_tt, ch3_ff, ch4_a, lt_TT, par_ap, par1_ok, par2_ok, srcS_e, src1_e, src2_e, comp_e, un1_e, lst1_e, and_e, or_e, q_sm0, sm01_a, sm01_T, smO_some, app_0w, e3, to_ok]
      exact ⟨_, rfl, h3, one_more ha l3⟩
    rintro ds S ⟨hS, ha⟩ hl
    simp only [p_body, p_skip, p_seq, p_set, p_ret, p_retN, p_retV_s, p_retV_0, p_exp, p_if, p_raise, p_app, p_ext, p_setT, p_for, p_cell', nxt_nx, nxt_rt, nxt_exc, fin_nx, fin_rt, fin_exc, set_ok, set_exc, ret_ok, ret_exc, exp_ok, exp_exc, if_tt, if_ff, if_ok, if_exc, for_ok, for_exc, app_s, app_0, app_0o, ext_s, ext_0, cons_nx, cons_exc, setT_ok, cell_ok, pop_nx, pop_rt, unC_nil, unC_n, unC_d, unC_st, no_nil, no_n, no_a, mask_nil, mask_t, mask_f, dom_nil, dom_s, dom_n, start_0, start_s, setW_nil, setW_cons, ev_nil, ev_n, ev_a, ev_o, ev_own, frzE_nil, frzE_cons, frz1_s, frz1_0o, frz1_0a, frz1_0n, sNm_ap, sTp_ap, q_var0, q_varS, q_c, q_bin, bin1_a, bin1_o, bin1_e, bin2_a, bin2_o, bin2_e, q_un, un1_a, un1_o, q_call, call_n, call_c, call1_a, call1_o, call1_e, q_tup, allD_nil, allD_cons, tupE_ap, q_lst, lst_n, lst_c, lst1_ok, q_comp, comp_ok, q_and, and_tt, and_ff, asB_ok, asB_e, and_ok, and_fold, q_or, or_tt, or_ff, or_ok, or_fold, q_not, not_ok, not_e, q_ife, ife_tt, ife_ff, ife_ok, q_seq, q_rng1, q_rng2, q_enum, q_zip, srcS_a, srcS_o, src1_a, src1_o, src2_a, src2_o, of_some, q_sl, sl_nn, sl_n, sl_s, slo_nn, slo_n, slo_s, slLo_n, slLo_s, slHi_ok, slLo_n', slLo_s', slHi_ok', q_sm, sm1_a, sm2_a, sm2_o, on1_ap, onD1_ap, true_ap, gNm_ap, gTp_ap, setD_nil, setD_cons, wipe_nil, wipe_cons, max2_ap, rng1_n, rng1_l, rng1_1, Nat.reduceAdd, Nat.reduceSub, Nat.reduceLeDiff, List.length_cons, List.length_nil, List.length_map, List.length_range, List.replicate, List.set_cons_zero, List.set_cons_succ, List.map_cons, List.map_nil, List.cons_append, List.nil_append, Option.map_some, if_true, Bool.false_eq_true, if_false, Bool.not_true, Bool.not_false, o_add, o_sub, o_shr, o_band, o_lt, o_le, o_gt, o_ge, own0, own1, own2, own3, own4, own5, own6, own7, own8, own9, own10, own11, own12, seqD_lst, seqD_tup, seqD_eF, seqD_eG, i2n, isi_eF, isi_eG, isi_eT, gLen_eF, gLen_eG, gLen_lst, gLen_tup, dAll_m, dAny_m, all_tt, dInt_b, isi_int_none, isi_int_bool, isi_int_int, isi_int_str, isi_int_list, isi_int_tuple, isi_bool_none, isi_bool_bool, isi_bool_int, isi_bool_str, isi_bool_list, isi_bool_tuple, isi_str_none, isi_str_bool, isi_str_int, isi_str_str, isi_str_list, isi_str_tuple, isi_list_none, isi_list_bool, isi_list_int, isi_list_str, isi_list_list, isi_list_tuple, isi_tuple_none, isi_tuple_bool, isi_tuple_int, isi_tuple_str, isi_tuple_list, isi_tuple_tuple, isi2_tl_none, isi2_tl_bool, isi2_tl_int, isi2_tl_str, isi2_tl_list, isi2_tl_tuple, zip2, zipD_map, isi_int_dict, isi_bool_dict, isi_str_dict, isi_list_dict, isi_tuple_dict, isi2_tl_dict, dIsN, dNotN, p_setIx, setIx1_ok, setIx2_s, bin1_w, bin1o_some, toDs_nil, toDs_a, toDs_o, ret_nxt, rngD_map, Int.reduceToNat, p_appV, appV_ok', p_forB, forB_ok, sm1_T, List.getElem?_cons_succ, List.getElem?_cons_zero, q_chain, ch1_a, ch2_a, ch3_tt, ch3_ff, ch4_a, lt_TT, par_ap, par1_ok, par2_ok, srcS_e, src1_e, src2_e, comp_e, un1_e, lst1_e, and_e, or_e, q_sm0, sm01_a, sm01_T, smO_some, app_0w] at hl
    obtain ⟨ts, rfl, hts⟩ := all_T ha
    rw [List.length_map] at hl
    obtain ⟨us, he, hu, hpw, hul⟩ := neD_T ts hts
    refine ⟨_, ownD_toA _, ?_⟩
    rw [sortSetT ts (by omega), to_ok, he]
    refine ⟨_, ownD_toA _, ?_⟩
    have hc : ∀ o : Option A, compL (gNm 10) fTrue (fUn (onD1 (dAtK [(.int 0, .str "0"), (.int 1, .str "1"), (.none, .str "-")])) (fVar 10)) [some (.s ns), some (.d (.int (i : Nat))), some (.c 0), some (.d (eF f)), some (.d (.int (n : Nat))), some (.d (.tuple (us.map eT))), none, none, none, none, none, none] (f.map aO) S [] = .ok (ownD (f.map fun a => .str (tS [sgO a]))) S := by
      intro o
      rw [compL_m aO (fun a => .str (tS [sgO a])) f]
      intro a ha
      exact ⟨_, rfl, by simp only [p_body, p_skip, p_seq, p_set, p_ret, p_retN, p_retV_s, p_retV_0, p_exp, p_if, p_raise, p_app, p_ext, p_setT, p_for, p_cell', nxt_nx, nxt_rt, nxt_exc, fin_nx, fin_rt, fin_exc, set_ok, set_exc, ret_ok, ret_exc, exp_ok, exp_exc, if_tt, if_ff, if_ok, if_exc, for_ok, for_exc, app_s, app_0, app_0o, ext_s, ext_0, cons_nx, cons_exc, setT_ok, cell_ok, pop_nx, pop_rt, unC_nil, unC_n, unC_d, unC_st, no_nil, no_n, no_a, mask_nil, mask_t, mask_f, dom_nil, dom_s, dom_n, start_0, start_s, setW_nil, setW_cons, ev_nil, ev_n, ev_a, ev_o, ev_own, frzE_nil, frzE_cons, frz1_s, frz1_0o, frz1_0a, frz1_0n, sNm_ap, sTp_ap, q_var0, q_varS, q_c, q_bin, bin1_a, bin1_o, bin1_e, bin2_a, bin2_o, bin2_e, q_un, un1_a, un1_o, q_call, call_n, call_c, call1_a, call1_o, call1_e, q_tup, allD_nil, allD_cons, tupE_ap, q_lst, lst_n, lst_c, lst1_ok, q_comp, comp_ok, q_and, and_tt, and_ff, asB_ok, asB_e, and_ok, and_fold, q_or, or_tt, or_ff, or_ok, or_fold, q_not, not_ok, not_e, q_ife, ife_tt, ife_ff, ife_ok, q_seq, q_rng1, q_rng2, q_enum, q_zip, srcS_a, srcS_o, src1_a, src1_o, src2_a, src2_o, of_some, q_sl, sl_nn, sl_n, sl_s, slo_nn, slo_n, slo_s, slLo_n, slLo_s, slHi_ok, slLo_n', slLo_s', slHi_ok', q_sm, sm1_a, sm2_a, sm2_o, on1_ap, onD1_ap, true_ap, gNm_ap, gTp_ap, setD_nil, setD_cons, wipe_nil, wipe_cons, max2_ap, rng1_n, rng1_l, rng1_1, Nat.reduceAdd, Nat.reduceSub, Nat.reduceLeDiff, List.length_cons, List.length_nil, List.length_map, List.length_range, List.replicate, List.set_cons_zero, List.set_cons_succ, List.map_cons, List.map_nil, List.cons_append, List.nil_append, Option.map_some, if_true, Bool.false_eq_true, if_false, Bool.not_true, Bool.not_false, o_add, o_sub, o_shr, o_band, o_lt, o_le, o_gt, o_ge, own0, own1, own2, own3, own4, own5, own6, own7, own8, own9, own10, own11, own12, seqD_lst, seqD_tup, seqD_eF, seqD_eG, i2n, isi_eF, isi_eG, isi_eT, gLen_eF, gLen_eG, gLen_lst, gLen_tup, dAll_m, dAny_m, all_tt, dInt_b, isi_int_none, isi_int_bool, isi_int_int, isi_int_str, isi_int_list, isi_int_tuple, isi_bool_none, isi_bool_bool, isi_bool_int, isi_bool_str, isi_bool_list, isi_bool_tuple, isi_str_none, isi_str_bool, isi_str_int, isi_str_str, isi_str_list, isi_str_tuple, isi_list_none, isi_list_bool, isi_list_int, isi_list_str, isi_list_list, isi_list_tuple, isi_tuple_none, isi_tuple_bool, isi_tuple_int, isi_tuple_str, isi_tuple_list, isi_tuple_tuple, isi2_tl_none, isi2_tl_bool, isi2_tl_int, isi2_tl_str, isi2_tl_list, isi2_tl_tuple, zip2, zipD_map, isi_int_dict, isi_bool_dict, isi_str_dict, isi_list_dict, isi_tuple_dict, isi2_tl_dict, dIsN, dNotN, p_setIx, setIx1_ok, setIx2_s, bin1_w, bin1o_some, toDs_nil, toDs_a, toDs_o, ret_nxt, rngD_map, Int.reduceToNat, p_appV, appV_ok', p_forB, forB_ok, sm1_T, List.getElem?_cons_succ, List.getElem?_cons_zero, q_chain, ch1_a, ch2_a, ch3_tt, ch3_ff, ch4_a, lt_TT, par_ap, par1_ok, par2_ok, srcS_e, src1_e, src2_e, comp_e, un1_e, lst1_e, and_e, or_e, q_sm0, sm01_a, sm01_T, smO_some, app_0w, sign_of]⟩
    have hj : dJoin (Str.ofString "") (.list (f.map fun a => .str (tS [sgO a]))) = some (sD (tS (f.map sgO))) := dJoin0 (fun a => sgO a) f (by omega)
    simp only [p_body, p_skip, p_seq, p_set, p_ret, p_retN, p_retV_s, p_retV_0, p_exp, p_if, p_raise, p_app, p_ext, p_setT, p_for, p_cell', nxt_nx, nxt_rt, nxt_exc, fin_nx, fin_rt, fin_exc, set_ok, set_exc, ret_ok, ret_exc, exp_ok, exp_exc, if_tt, if_ff, if_ok, if_exc, for_ok, for_exc, app_s, app_0, app_0o, ext_s, ext_0, cons_nx, cons_exc, setT_ok, cell_ok, pop_nx, pop_rt, unC_nil, unC_n, unC_d, unC_st, no_nil, no_n, no_a, mask_nil, mask_t, mask_f, dom_nil, dom_s, dom_n, start_0, start_s, setW_nil, setW_cons, ev_nil, ev_n, ev_a, ev_o, ev_own, frzE_nil, frzE_cons, frz1_s, frz1_0o, frz1_0a, frz1_0n, sNm_ap, sTp_ap, q_var0, q_varS, q_c, q_bin, bin1_a, bin1_o, bin1_e, bin2_a, bin2_o, bin2_e, q_un, un1_a, un1_o, q_call, call_n, call_c, call1_a, call1_o, call1_e, q_tup, allD_nil, allD_cons, tupE_ap, q_lst, lst_n, lst_c, lst1_ok, q_comp, comp_ok, q_and, and_tt, and_ff, asB_ok, asB_e, and_ok, and_fold, q_or, or_tt, or_ff, or_ok, or_fold, q_not, not_ok, not_e, q_ife, ife_tt, ife_ff, ife_ok, q_seq, q_rng1, q_rng2, q_enum, q_zip, srcS_a, srcS_o, src1_a, src1_o, src2_a, src2_o, of_some, q_sl, sl_nn, sl_n, sl_s, slo_nn, slo_n, slo_s, slLo_n, slLo_s, slHi_ok, slLo_n', slLo_s', slHi_ok', q_sm, sm1_a, sm2_a, sm2_o, on1_ap, onD1_ap, true_ap, gNm_ap, gTp_ap, setD_nil, setD_cons, wipe_nil, wipe_cons, max2_ap, rng1_n, rng1_l, rng1_1, Nat.reduceAdd, Nat.reduceSub, Nat.reduceLeDiff, List.length_cons, List.length_nil, List.length_map, List.length_range, List.replicate, List.set_cons_zero, List.set_cons_succ, List.map_cons, List.map_nil, List.cons_append, List.nil_append, Option.map_some, if_true, Bool.false_eq_true, if_false, Bool.not_true, Bool.not_false, o_add, o_sub, o_shr, o_band, o_lt, o_le, o_gt, o_ge, own0, own1, own2, own3, own4, own5, own6, own7, own8, own9, own10, own11, own12, seqD_lst, seqD_tup, seqD_eF, seqD_eG, i2n, isi_eF, isi_eG, isi_eT, gLen_eF, gLen_eG, gLen_lst, gLen_tup, dAll_m, dAny_m, all_tt, dInt_b, isi_int_none, isi_int_bool, isi_int_int, isi_int_str, isi_int_list, isi_int_tuple, isi_bool_none, isi_bool_bool, isi_bool_int, isi_bool_str, isi_bool_list, isi_bool_tuple, isi_str_none, isi_str_bool, isi_str_int, isi_str_str, isi_str_list, isi_str_tuple, isi_list_none, isi_list_bool, isi_list_int, isi_list_str, isi_list_list, isi_list_tuple, isi_tuple_none, isi_tuple_bool, isi_tuple_int, isi_tuple_str, isi_tuple_list, isi_tuple_tuple, isi2_tl_none, isi2_tl_bool, isi2_tl_int, isi2_tl_str, isi2_tl_list, isi2_tl_tuple, zip2, zipD_map, isi_int_dict, isi_bool_dict, isi_str_dict, isi_list_dict, isi_tuple_dict, isi2_tl_dict, dIsN, dNotN, p_setIx, setIx1_ok, setIx2_s, bin1_w, bin1o_some, toDs_nil, toDs_a, toDs_o, ret_nxt, rngD_map, Int.reduceToNat, p_appV, appV_ok', p_forB, forB_ok, sm1_T, List.getElem?_cons_succ, List.getElem?_cons_zero, q_chain, ch1_a, ch2_a, ch3_tt, ch3_ff, ch4_a, lt_TT, par_ap, par1_ok, par2_ok, srcS_e, src1_e, src2_e, comp_e, un1_e, lst1_e, and_e, or_e, q_sm0, sm01_a, sm01_T, smO_some, app_0w, dTup, to_ok, hc none, hj]
    have hw := words_T hu n1 n4 (by omega) (fVar 5) [some (.s ns), some (.d (.int (i : Nat))), some (.c 0), some (.d (eF f)), some (.d (.int (n : Nat))), some (.d (.tuple (us.map eT))), some (.d (.str (tS (f.map sgO)))), none, none, none, none, none] S rfl
    have hft : sem_function_text [.d (eF f)] S = .ok (sD (tS (f.map sgO))) S := e_function_text hf n1 n4 S hS.flat
    have hrf : sem_read_function [.d (.str (tS (f.map sgO)))] S = .ok (.a (.d (eF f))) S := e_read_function hf n1 n4 S hS.flat
    have okf := sameOk_eF 2 (f := f) (by omega)
    have oku : sameOk 4 (.tuple (us.map eT)) := by
      unfold sameOk
      refine ⟨by rw [List.length_map]; omega, sameOks_all fun d hd => ?_⟩
      obtain ⟨t, _, rfl⟩ := List.mem_map.mp hd
      simp [sameOk, eT]
    obtain ⟨r5, S5, e5, l5, h5⟩ := e_law_take hS 8 (by decide) (by decide)
    have e5' : sem__law_take [A.c 0, A.d (PyData.int 8)] S = .ok (iD r5) S5 := e5
    obtain ⟨d5, e6, hd5⟩ := none8 l5 S5
    obtain ⟨r7, S7, e7, l7, h7⟩ := e_law_take h5 7 (by decide) (by decide)
    have e7' : sem__law_take [A.c 0, A.d (PyData.int 7)] S5 = .ok (iD r7) S7 := e7
    obtain ⟨d7, e8, hd7⟩ := bad_n l7 S7
    simp only [p_body, p_skip, p_seq, p_set, p_ret, p_retN, p_retV_s, p_retV_0, p_exp, p_if, p_raise, p_app, p_ext, p_setT, p_for, p_cell', nxt_nx, nxt_rt, nxt_exc, fin_nx, fin_rt, fin_exc, set_ok, set_exc, ret_ok, ret_exc, exp_ok, exp_exc, if_tt, if_ff, if_ok, if_exc, for_ok, for_exc, app_s, app_0, app_0o, ext_s, ext_0, cons_nx, cons_exc, setT_ok, cell_ok, pop_nx, pop_rt, unC_nil, unC_n, unC_d, unC_st, no_nil, no_n, no_a, mask_nil, mask_t, mask_f, dom_nil, dom_s, dom_n, start_0, start_s, setW_nil, setW_cons, ev_nil, ev_n, ev_a, ev_o, ev_own, frzE_nil, frzE_cons, frz1_s, frz1_0o, frz1_0a, frz1_0n, sNm_ap, sTp_ap, q_var0, q_varS, q_c, q_bin, bin1_a, bin1_o, bin1_e, bin2_a, bin2_o, bin2_e, q_un, un1_a, un1_o, q_call, call_n, call_c, call1_a, call1_o, call1_e, q_tup, allD_nil, allD_cons, tupE_ap, q_lst, lst_n, lst_c, lst1_ok, q_comp, comp_ok, q_and, and_tt, and_ff, asB_ok, asB_e, and_ok, and_fold, q_or, or_tt, or_ff, or_ok, or_fold, q_not, not_ok, not_e, q_ife, ife_tt, ife_ff, ife_ok, q_seq, q_rng1, q_rng2, q_enum, q_zip, srcS_a, srcS_o, src1_a, src1_o, src2_a, src2_o, of_some, q_sl, sl_nn, sl_n, sl_s, slo_nn, slo_n, slo_s, slLo_n, slLo_s, slHi_ok, slLo_n', slLo_s', slHi_ok', q_sm, sm1_a, sm2_a, sm2_o, on1_ap, onD1_ap, true_ap, gNm_ap, gTp_ap, setD_nil, setD_cons, wipe_nil, wipe_cons, max2_ap, rng1_n, rng1_l, rng1_1, Nat.reduceAdd, Nat.reduceSub, Nat.reduceLeDiff, List.length_cons, List.length_nil, List.length_map, List.length_range, List.replicate, List.set_cons_zero, List.set_cons_succ, List.map_cons, List.map_nil, List.cons_append, List.nil_append, Option.map_some, if_true, Bool.false_eq_true, if_false, Bool.not_true, Bool.not_false, o_add, o_sub, o_shr, o_band, o_lt, o_le, o_gt, o_ge, own0, own1, own2, own3, own4, own5, own6, own7, own8, own9, own10, own11, own12, seqD_lst, seqD_tup, seqD_eF, seqD_eG, i2n, isi_eF, isi_eG, isi_eT, gLen_eF, gLen_eG, gLen_lst, gLen_tup, dAll_m, dAny_m, all_tt, dInt_b, isi_int_none, isi_int_bool, isi_int_int, isi_int_str, isi_int_list, isi_int_tuple, isi_bool_none, isi_bool_bool, isi_bool_int, isi_bool_str, isi_bool_list, isi_bool_tuple, isi_str_none, isi_str_bool, isi_str_int, isi_str_str, isi_str_list, isi_str_tuple, isi_list_none, isi_list_bool, isi_list_int, isi_list_str, isi_list_list, isi_list_tuple, isi_tuple_none, isi_tuple_bool, isi_tuple_int, isi_tuple_str, isi_tuple_list, isi_tuple_tuple, isi2_tl_none, isi2_tl_bool, isi2_tl_int, isi2_tl_str, isi2_tl_list, isi2_tl_tuple, zip2, zipD_map, isi_int_dict, isi_bool_dict, isi_str_dict, isi_list_dict, isi_tuple_dict, isi2_tl_dict, dIsN, dNotN, p_setIx, setIx1_ok, setIx2_s, bin1_w, bin1o_some, toDs_nil, toDs_a, toDs_o, ret_nxt, rngD_map, Int.reduceToNat, p_appV, appV_ok', p_forB, forB_ok, sm1_T, List.getElem?_cons_succ, List.getElem?_cons_zero, q_chain, ch1_a, ch2_a, ch3_tt, ch3_ff, ch4_a, lt_TT, par_ap, par1_ok, par2_ok, srcS_e, src1_e, src2_e, comp_e, un1_e, lst1_e, and_e, or_e, q_sm0, sm01_a, sm01_T, smO_some, app_0w, hw, hft, eq_str, e_form_text hu n1 n4 (by omega) S, hrf, e_law_same 4 _ S hS.flat okf, e_read_form hu hpw n1 n4 (by omega) S hS.flat, e_law_same 4 _ S hS.flat oku, hS.flat]
    simp only [p_body, p_skip, p_seq, p_set, p_ret, p_retN, p_retV_s, p_retV_0, p_exp, p_if, p_raise, p_app, p_ext, p_setT, p_for, p_cell', nxt_nx, nxt_rt, nxt_exc, fin_nx, fin_rt, fin_exc, set_ok, set_exc, ret_ok, ret_exc, exp_ok, exp_exc, if_tt, if_ff, if_ok, if_exc, for_ok, for_exc, app_s, app_0, app_0o, ext_s, ext_0, cons_nx, cons_exc, setT_ok, cell_ok, pop_nx, pop_rt, unC_nil, unC_n, unC_d, unC_st, no_nil, no_n, no_a, mask_nil, mask_t, mask_f, dom_nil, dom_s, dom_n, start_0, start_s, setW_nil, setW_cons, ev_nil, ev_n, ev_a, ev_o, ev_own, frzE_nil, frzE_cons, frz1_s, frz1_0o, frz1_0a, frz1_0n, sNm_ap, sTp_ap, q_var0, q_varS, q_c, q_bin, bin1_a, bin1_o, bin1_e, bin2_a, bin2_o, bin2_e, q_un, un1_a, un1_o, q_call, call_n, call_c, call1_a, call1_o, call1_e, q_tup, allD_nil, allD_cons, tupE_ap, q_lst, lst_n, lst_c, lst1_ok, q_comp, comp_ok, q_and, and_tt, and_ff, asB_ok, asB_e, and_ok, and_fold, q_or, or_tt, or_ff, or_ok, or_fold, q_not, not_ok, not_e, q_ife, ife_tt, ife_ff, ife_ok, q_seq, q_rng1, q_rng2, q_enum, q_zip, srcS_a, srcS_o, src1_a, src1_o, src2_a, src2_o, of_some, q_sl, sl_nn, sl_n, sl_s, slo_nn, slo_n, slo_s, slLo_n, slLo_s, slHi_ok, slLo_n', slLo_s', slHi_ok', q_sm, sm1_a, sm2_a, sm2_o, on1_ap, onD1_ap, true_ap, gNm_ap, gTp_ap, setD_nil, setD_cons, wipe_nil, wipe_cons, max2_ap, rng1_n, rng1_l, rng1_1, Nat.reduceAdd, Nat.reduceSub, Nat.reduceLeDiff, List.length_cons, List.length_nil, List.length_map, List.length_range, List.replicate, List.set_cons_zero, List.set_cons_succ, List.map_cons, List.map_nil, List.cons_append, List.nil_append, Option.map_some, if_true, Bool.false_eq_true, if_false, Bool.not_true, Bool.not_false, o_add, o_sub, o_shr, o_band, o_lt, o_le, o_gt, o_ge, own0, own1, own2, own3, own4, own5, own6, own7, own8, own9, own10, own11, own12, seqD_lst, seqD_tup, seqD_eF, seqD_eG, i2n, isi_eF, isi_eG, isi_eT, gLen_eF, gLen_eG, gLen_lst, gLen_tup, dAll_m, dAny_m, all_tt, dInt_b, isi_int_none, isi_int_bool, isi_int_int, isi_int_str, isi_int_list, isi_int_tuple, isi_bool_none, isi_bool_bool, isi_bool_int, isi_bool_str, isi_bool_list, isi_bool_tuple, isi_str_none, isi_str_bool, isi_str_int, isi_str_str, isi_str_list, isi_str_tuple, isi_list_none, isi_list_bool, isi_list_int, isi_list_str, isi_list_list, isi_list_tuple, isi_tuple_none, isi_tuple_bool, isi_tuple_int, isi_tuple_str, isi_tuple_list, isi_tuple_tuple, isi2_tl_none, isi2_tl_bool, isi2_tl_int, isi2_tl_str, isi2_tl_list, isi2_tl_tuple, zip2, zipD_map, isi_int_dict, isi_bool_dict, isi_str_dict, isi_list_dict, isi_tuple_dict, isi2_tl_dict, dIsN, dNotN, p_setIx, setIx1_ok, setIx2_s, bin1_w, bin1o_some, toDs_nil, toDs_a, toDs_o, ret_nxt, rngD_map, Int.reduceToNat, p_appV, appV_ok', p_forB, forB_ok, sm1_T, List.getElem?_cons_succ, List.getElem?_cons_zero, q_chain, ch1_a, ch2_a, ch3_tt, ch3_ff, ch4_a, lt_TT, par_ap, par1_ok, par2_ok, srcS_e, src1_e, src2_e, comp_e, un1_e, lst1_e, and_e, or_e, q_sm0, sm01_a, sm01_T, smO_some, app_0w, neg1, e5', e6, e7', e8, q_ref, e_function_text0 hd5 S7 h7.flat, e_read_form0 hd7 S7 h7.flat, rA0, rA3, ne_i1, h7.flat, to_nx]
    exact ⟨h7.drop2, rfl⟩
  · rintro ρ S ⟨rfl, rfl⟩
    have hf0 : sem_form_text [.d (.tuple [])] [] = .ok (.a (.d (.str (Str.ofString "none")))) [] := e_form_text (us := []) (n := 4) (by simp) (by omega) (by omega) (by simp) []
    have hr0 : sem_read_form [.d (.int 4), .d (.str (Str.ofString "none"))] [] = .ok (.a (.d (.tuple []))) [] := e_read_form (us := []) (n := 4) (by simp) List.Pairwise.nil (by omega) (by omega) (by simp) [] rfl
    have h1 : onD dEq (.d (.str (Str.ofString "none"))) (.d (.str (Str.ofString "none"))) [] = .ok (bD true) [] := rfl
    have h2 : onD dEq (.d (.tuple [])) (.d (.tuple [])) [] = .ok (bD true) [] := rfl
    simp only [p_body, p_skip, p_seq, p_set, p_ret, p_retN, p_retV_s, p_retV_0, p_exp, p_if, p_raise, p_app, p_ext, p_setT, p_for, p_cell', nxt_nx, nxt_rt, nxt_exc, fin_nx, fin_rt, fin_exc, set_ok, set_exc, ret_ok, ret_exc, exp_ok, exp_exc, if_tt, if_ff, if_ok, if_exc, for_ok, for_exc, app_s, app_0, app_0o, ext_s, ext_0, cons_nx, cons_exc, setT_ok, cell_ok, pop_nx, pop_rt, unC_nil, unC_n, unC_d, unC_st, no_nil, no_n, no_a, mask_nil, mask_t, mask_f, dom_nil, dom_s, dom_n, start_0, start_s, setW_nil, setW_cons, ev_nil, ev_n, ev_a, ev_o, ev_own, frzE_nil, frzE_cons, frz1_s, frz1_0o, frz1_0a, frz1_0n, sNm_ap, sTp_ap, q_var0, q_varS, q_c, q_bin, bin1_a, bin1_o, bin1_e, bin2_a, bin2_o, bin2_e, q_un, un1_a, un1_o, q_call, call_n, call_c, call1_a, call1_o, call1_e, q_tup, allD_nil, allD_cons, tupE_ap, q_lst, lst_n, lst_c, lst1_ok, q_comp, comp_ok, q_and, and_tt, and_ff, asB_ok, asB_e, and_ok, and_fold, q_or, or_tt, or_ff, or_ok, or_fold, q_not, not_ok, not_e, q_ife, ife_tt, ife_ff, ife_ok, q_seq, q_rng1, q_rng2, q_enum, q_zip, srcS_a, srcS_o, src1_a, src1_o, src2_a, src2_o, of_some, q_sl, sl_nn, sl_n, sl_s, slo_nn, slo_n, slo_s, slLo_n, slLo_s, slHi_ok, slLo_n', slLo_s', slHi_ok', q_sm, sm1_a, sm2_a, sm2_o, on1_ap, onD1_ap, true_ap, gNm_ap, gTp_ap, setD_nil, setD_cons, wipe_nil, wipe_cons, max2_ap, rng1_n, rng1_l, rng1_1, Nat.reduceAdd, Nat.reduceSub, Nat.reduceLeDiff, List.length_cons, List.length_nil, List.length_map, List.length_range, List.replicate, List.set_cons_zero, List.set_cons_succ, List.map_cons, List.map_nil, List.cons_append, List.nil_append, Option.map_some, if_true, Bool.false_eq_true, if_false, Bool.not_true, Bool.not_false, o_add, o_sub, o_shr, o_band, o_lt, o_le, o_gt, o_ge, own0, own1, own2, own3, own4, own5, own6, own7, own8, own9, own10, own11, own12, seqD_lst, seqD_tup, seqD_eF, seqD_eG, i2n, isi_eF, isi_eG, isi_eT, gLen_eF, gLen_eG, gLen_lst, gLen_tup, dAll_m, dAny_m, all_tt, dInt_b, isi_int_none, isi_int_bool, isi_int_int, isi_int_str, isi_int_list, isi_int_tuple, isi_bool_none, isi_bool_bool, isi_bool_int, isi_bool_str, isi_bool_list, isi_bool_tuple, isi_str_none, isi_str_bool, isi_str_int, isi_str_str, isi_str_list, isi_str_tuple, isi_list_none, isi_list_bool, isi_list_int, isi_list_str, isi_list_list, isi_list_tuple, isi_tuple_none, isi_tuple_bool, isi_tuple_int, isi_tuple_str, isi_tuple_list, isi_tuple_tuple, isi2_tl_none, isi2_tl_bool, isi2_tl_int, isi2_tl_str, isi2_tl_list, isi2_tl_tuple, zip2, zipD_map, isi_int_dict, isi_bool_dict, isi_str_dict, isi_list_dict, isi_tuple_dict, isi2_tl_dict, dIsN, dNotN, p_setIx, setIx1_ok, setIx2_s, bin1_w, bin1o_some, toDs_nil, toDs_a, toDs_o, ret_nxt, rngD_map, Int.reduceToNat, p_appV, appV_ok', p_forB, forB_ok, sm1_T, List.getElem?_cons_succ, List.getElem?_cons_zero, q_chain, ch1_a, ch2_a, ch3_tt, ch3_ff, ch4_a, lt_TT, par_ap, par1_ok, par2_ok, srcS_e, src1_e, src2_e, comp_e, un1_e, lst1_e, and_e, or_e, q_sm0, sm01_a, sm01_T, smO_some, app_0w, hf0, hr0, h1, h2]
    rfl
end PD
open PySem PySem.W PyProof.Rows
theorem PySem.Challenge.cw_leastterms_k90_texts_of_functions_and_fo_holds : PySem.Challenge.rw_leastterms_k90_texts_of_functions_and_fo.Holds := by
  w_on; o_law; k_head; (case hw => w_witness2)
  k_fill
  refine LamX.walk_ofTs (l := PySem.Challenge.rw_leastterms_k90_texts_of_functions_and_fo) (n := 63) (k := 8) (x := "_law_script") (CX := fun w => L2.CX PySem.Challenge.rw_leastterms_k90_texts_of_functions_and_fo.prog w) rfl (by decide) rfl ⟨rfl, by decide, by decide⟩ (fun w h Y => PySem.W.km_in_of Y) ?F (fun w H s e s' z => PD.hCX0 w H s e s' z)
  case F =>
    intro w mg fa h Y KX G hmg
    refine' PD.law_main KX G hmg ?a0 ?l0 ?c0 ?k0 ?a1 ?l1 ?c1 ?k1 ?a2 ?l2 ?c2 ?k2 ?a3 ?l3 ?c3 ?k3 ?a4 ?l4 ?c4 ?k4 ?a5 ?l5 ?c5 ?k5 ?a6 ?l6 ?c6 ?k6 ?a7 ?l7 ?c7 ?k7 ?a8 ?l8 ?c8 ?k8 ?a9 ?l9 ?c9 ?k9 ?a10 ?l10 ?c10 ?k10 ?a11 ?l11 ?c11 ?k11 ?a12 ?l12 ?c12 ?k12 ?a13 ?l13 ?c13 ?k13 ?a14 ?l14 ?c14 ?k14 ?a15 ?l15 ?c15 ?k15 ?a16 ?l16 ?c16 ?k16 ?a17 ?l17 ?c17 ?k17 ?a18 ?l18 ?c18 ?k18 ?a19 ?l19 ?c19 ?k19 ?a20 ?l20 ?c20 ?k20 ?z_ValueError ?z_all ?z_bool ?z_int ?z_isinstance ?z_len ?z_list ?z_max ?z_min ?z_range ?z_set ?z_sorted ?z_str ?z_tuple ?z_zip ?a_ANSWERS ?l_ANSWERS ?s_ANSWERS ?a_BETWEEN ?a_MOST ?a_NONE ?a_SIGN ?l_SIGN ?s_SIGN ?a_SIGNS ?a_SIZES ?l_SIZES ?s_SIZES ?xa_NoFunction ?xq_NoFunction ?xk_NoFunction ?xb_NoFunction ?xt_NoFunction ?xa_NoNumber ?xq_NoNumber ?xk_NoNumber ?xb_NoNumber ?xt_NoNumber ?xa_NoText ?xq_NoText ?xk_NoText ?xb_NoText ?xt_NoText ?ar0 ?ar1 ?ar2 ?ar3 ?ar4 ?ar5 ?ar6 ?ar7 ?ar8 ?arT ?xq_ref ?s_ref ?aL ?lL ?cL ?kL ?lcL ?xpL ?nTL ?xhL ?yTL PD.e_law
    (case a0 => k_is)
    (case l0 => k_is)
    (case c0 => k_is)
    (case k0 => k_is)
    (case a1 => k_is)
    (case l1 => k_is)
    (case c1 => k_is)
    (case k1 => k_is)
    (case a2 => k_is)
    (case l2 => k_is)
    (case c2 => k_is)
    (case k2 => k_is)
    (case a3 => k_is)
    (case l3 => k_is)
    (case c3 => k_is)
    (case k3 => k_is)
    (case a4 => k_is)
    (case l4 => k_is)
    (case c4 => k_is)
    (case k4 => k_is)
    (case a5 => k_is)
    (case l5 => k_is)
    (case c5 => k_is)
    (case k5 => k_is)
    (case a6 => k_is)
    (case l6 => k_is)
    (case c6 => k_is)
    (case k6 => k_is)
    (case a7 => k_is)
    (case l7 => k_is)
    (case c7 => k_is)
    (case k7 => k_is)
    (case a8 => k_is)
    (case l8 => k_is)
    (case c8 => k_is)
    (case k8 => k_is)
    (case a9 => k_is)
    (case l9 => k_is)
    (case c9 => k_is)
    (case k9 => k_is)
    (case a10 => k_is)
    (case l10 => k_is)
    (case c10 => k_is)
    (case k10 => k_is)
    (case a11 => k_is)
    (case l11 => k_is)
    (case c11 => k_is)
    (case k11 => k_is)
    (case a12 => k_is)
    (case l12 => k_is)
    (case c12 => k_is)
    (case k12 => k_is)
    (case a13 => k_is)
    (case l13 => k_is)
    (case c13 => k_is)
    (case k13 => k_is)
    (case a14 => k_is)
    (case l14 => k_is)
    (case c14 => k_is)
    (case k14 => k_is)
    (case a15 => k_is)
    (case l15 => k_is)
    (case c15 => k_is)
    (case k15 => k_is)
    (case a16 => k_is)
    (case l16 => k_is)
    (case c16 => k_is)
    (case k16 => k_is)
    (case a17 => k_is)
    (case l17 => k_is)
    (case c17 => k_is)
    (case k17 => k_is)
    (case a18 => k_is)
    (case l18 => k_is)
    (case c18 => k_is)
    (case k18 => k_is)
    (case a19 => k_is)
    (case l19 => k_is)
    (case c19 => k_is)
    (case k19 => k_is)
    (case a20 => k_is)
    (case l20 => k_is)
    (case c20 => k_is)
    (case k20 => k_is)
    (case z_ValueError => k_is)
    (case z_all => k_is)
    (case z_bool => k_is)
    (case z_int => k_is)
    (case z_isinstance => k_is)
    (case z_len => k_is)
    (case z_list => k_is)
    (case z_max => k_is)
    (case z_min => k_is)
    (case z_range => k_is)
    (case z_set => k_is)
    (case z_sorted => k_is)
    (case z_str => k_is)
    (case z_tuple => k_is)
    (case z_zip => k_is)
    (case a_ANSWERS => k_is)
    (case l_ANSWERS => k_is)
    (case s_ANSWERS => first | rfl | decide)
    (case a_BETWEEN => k_is)
    (case a_MOST => k_is)
    (case a_NONE => k_is)
    (case a_SIGN => k_is)
    (case l_SIGN => k_is)
    (case s_SIGN => first | rfl | decide)
    (case a_SIGNS => k_is)
    (case a_SIZES => k_is)
    (case l_SIZES => k_is)
    (case s_SIZES => first | rfl | decide)
    (case xa_NoFunction => k_is)
    (case xq_NoFunction => first | kernel_rfl | decide +kernel)
    (case xk_NoFunction => k_is)
    (case xb_NoFunction => k_is)
    (case xt_NoFunction => k_is)
    (case xa_NoNumber => k_is)
    (case xq_NoNumber => first | kernel_rfl | decide +kernel)
    (case xk_NoNumber => k_is)
    (case xb_NoNumber => k_is)
    (case xt_NoNumber => k_is)
    (case xa_NoText => k_is)
    (case xq_NoText => first | kernel_rfl | decide +kernel)
    (case xk_NoText => k_is)
    (case xb_NoText => k_is)
    (case xt_NoText => k_is)
    (case ar0 => k_is)
    (case ar1 => k_is)
    (case ar2 => k_is)
    (case ar3 => k_is)
    (case ar4 => k_is)
    (case ar5 => k_is)
    (case ar6 => k_is)
    (case ar7 => k_is)
    (case ar8 => k_is)
    (case arT => k_is)
    (case xq_ref => first | kernel_rfl | decide +kernel)
    (case s_ref => first | rfl | decide)
    (case aL => k_is)
    (case lL => k_is)
    (case cL => k_is)
    (case kL => k_is)
    (case lcL => k_is)
    (case xpL => first | rfl | exact Eq.refl _)
    (case nTL => first | kernel_rfl | decide +kernel)
    (case xhL => first | kernel_rfl | decide +kernel)
    (case yTL => exact PySem.W.km_tabs_of Y _ (by decide))
