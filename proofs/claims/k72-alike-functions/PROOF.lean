import PyProof.Rows.All
import Wide.All
import OpenK.AllK
import Wide.FinOn
import HandS.ForMost
import HandS.ForExc
import HandS.Zip
import HandS.Lambda
import KE.KNest
import KE.KeyNested
import HandS.IsInst
import HandS.TupAny
import HandS.TupMul
import HandS.Style
import HandS.Flow
import HandS.Wide
import HandS.Deep
import PyProof.StrOps2
import KE.GoesEnum
import KE.SortData
import HandS.Replace
import HandS.ExcIs
import HandS.EndTab
import HandS.ExcValue
import KE.KNestM
import HandS.StrMore
import HandS.Set
import HandS.SetFor
import HandS.SetKeys
import PyProof.TupleOfStr
import HandS.NoneIn
import HandS.Text
import HandS.Conv
import HandS.Iter
import KE.DataMinMax
import HandS.ReplaceLit
import HandS.ReplaceList
import HandS.Dict
import HandS.ExcOwn
import HandS.SuiteRaise
import HandS.DictTup
import PySem.Challenge.RW_leastterms_k72_alike_functions
set_option Elab.async false
set_option linter.all false
set_option maxRecDepth 100000
set_option maxHeartbeats 0
namespace PD
open PySem PySem.Spec PyProof.Rows L2

abbrev D := PyData

mutual
inductive Rep (K : PySem.W.Frag) (F : Hp) : V → D → Prop
  | non : Rep K F .non .none
  | bl (b : Bool) : Rep K F (.bl b) (.bool b)
  | int (i : Int) : Rep K F (.int i) (.int i)
  | str (x : Str) : Rep K F (.str x) (.str x)
  | lst {a : Addr} {xs : List V} {ds : List D} : F a = some (.lst xs) → RepAll K F xs ds → Rep K F (.ref a) (.list ds)
  | tup {a : Addr} {xs : List V} {ds : List D} : SqT K F a xs → RepAll K F xs ds → Rep K F (.ref a) (.tuple ds)
  | dct {a : Addr} : Rd F a (.dK []) → Rep K F (.ref a) (.dict [])
inductive RepAll (K : PySem.W.Frag) (F : Hp) : List V → List D → Prop
  | nil : RepAll K F [] []
  | cons {v : V} {vs : List V} {d : D} {ds : List D} : Rep K F v d → RepAll K F vs ds → RepAll K F (v :: vs) (d :: ds)
end

theorem Same.seqT {K : PySem.W.Frag} {H H' : Hp} {a : Addr} {xs : List V} (e : Same H H') (h : SqT K H a xs) : SqT K H' a xs := by
  rcases h with (h | ⟨o, h⟩) | h
  · exact .inl (.inl (e _ _ h))
  · exact .inl (.inr ⟨o, e _ _ h⟩)
  · exact .inr h
theorem Same.rd {H H' : Hp} {a : Addr} {u : HO} (e : Same H H') (h : Rd H a u) : Rd H' a u := by
  rcases h with h | ⟨o, h⟩
  · exact .inl (e _ _ h)
  · exact .inr ⟨o, e _ _ h⟩

mutual
theorem Rep.up {K : PySem.W.Frag} {F F' : Hp} (e : Same F F') : ∀ (d : D) (v : V), Rep K F v d → Rep K F' v d
  | _, _, .non => .non
  | _, _, .bl b => .bl b
  | _, _, .int i => .int i
  | _, _, .str x => .str x
  | .list ds, _, .lst h r => .lst (e _ _ h) (RepAll.up e ds _ r)
  | .tuple ds, _, .tup h r => .tup (Same.seqT e h) (RepAll.up e ds _ r)
  | _, _, .dct h => .dct (Same.rd e h)
theorem RepAll.up {K : PySem.W.Frag} {F F' : Hp} (e : Same F F') : ∀ (ds : List D) (vs : List V), RepAll K F vs ds → RepAll K F' vs ds
  | _, _, .nil => .nil
  | d :: ds, _, .cons h t => .cons (Rep.up e d _ h) (RepAll.up e ds _ t)
end
theorem RepAll.len {K : PySem.W.Frag} {F : Hp} : ∀ {vs : List V} {ds : List D}, RepAll K F vs ds → vs.length = ds.length
  | _, _, .nil => rfl
  | _, _, .cons _ t => congrArg (· + 1) (RepAll.len t)
theorem RepAll.get {K : PySem.W.Frag} {F : Hp} : ∀ {vs : List V} {ds : List D} {i : Nat} {d : D}, RepAll K F vs ds → ds[i]? = some d → ∃ v, vs[i]? = some v ∧ Rep K F v d
  | _, _, _, _, .nil, e => by simp at e
  | _, _, 0, _, .cons r _, e => by simp at e; subst e; exact ⟨_, rfl, r⟩
  | _, _, i + 1, d, .cons _ t, e => by
    obtain ⟨v, h1, h2⟩ := RepAll.get (i := i) (d := d) t (by simpa using e)
    exact ⟨v, by simpa using h1, h2⟩
theorem RepAll.app {K : PySem.W.Frag} {F : Hp} : ∀ {vs ws : List V} {ds es : List D}, RepAll K F vs ds → RepAll K F ws es → RepAll K F (vs ++ ws) (ds ++ es)
  | _, _, _, _, .nil, s => s
  | _, _, _, _, .cons r t, s => .cons r (RepAll.app t s)
theorem RepAll.take {K : PySem.W.Frag} {F : Hp} : ∀ {vs : List V} {ds : List D} (n : Nat), RepAll K F vs ds → RepAll K F (vs.take n) (ds.take n)
  | _, _, 0, _ => .nil
  | _, _, _ + 1, .nil => .nil
  | _, _, n + 1, .cons r t => .cons r (RepAll.take n t)
theorem RepAll.drop {K : PySem.W.Frag} {F : Hp} : ∀ {vs : List V} {ds : List D} (n : Nat), RepAll K F vs ds → RepAll K F (vs.drop n) (ds.drop n)
  | _, _, 0, r => r
  | _, _, _ + 1, .nil => .nil
  | _, _, n + 1, .cons _ t => RepAll.drop n t
theorem RepAll.set {K : PySem.W.Frag} {F : Hp} {v : V} {d : D} (r : Rep K F v d) : ∀ {vs : List V} {ds : List D} (i : Nat), RepAll K F vs ds → RepAll K F (vs.set i v) (ds.set i d)
  | _, _, _, .nil => .nil
  | _, _, 0, .cons _ t => .cons r t
  | _, _, i + 1, .cons q t => .cons q (RepAll.set r i t)

inductive Fk where
  | d (x : D) | mem (k : Nat) (B : Int → D) | dk (ks : List Key) (ds : List D) | dt (ks : List (Int × Int))
def prsK (ks : List (Int × Int)) : List (List Key × V) := ks.map fun p => ([.inl p.1, .inl p.2], .bl true)
def prsD (ks : List (Int × Int)) : List D := ks.map fun p => .tuple [.int p.1, .int p.2]
abbrev FK := List (Option Int)
def fkN : Option Int → PySem.NestedKey
  | none => .none
  | some i => .num i
def fkK (k : FK) : PySem.NestedKey := .tup (k.map fkN)
def fkE : Option Int → D
  | none => .none
  | some i => .int i
def fkD (k : FK) : D := .tuple (k.map fkE)
def fksD (ks : List FK) : List D := ks.map fkD
def fnsO (w : World) (a : Addr) (ks : List FK) (as : List Addr) : HO := .ext fun h => (a == sysModules) = false ∧ ks.length ≤ sizeLine ∧ ks.Nodup ∧ ∃ o es ep, h.get? a = some o ∧ o.ExactDict ∧ o.data = .dict es ep ∧ es.toList = (List.zip ks as).map fun x => (⟨(fkK x.1).hash w, .ref x.2, .bool true⟩ : DictEntry)
inductive Tg where
  | exc (C : Addr) | st (x : D) | sf (x : D) | fn (n : Str) | mem (k : Nat) (B : Int → D) | ob (n : Str) (fs : List (Str × Fk)) | obc (k : Nat) (n : Str) (nm : List Str) (pn : Str) (j : Nat) | dkk (ks : List Key) (ds : List D) | dtt (ks : List (Int × Int)) | prc (k : Nat) | dff (ks : List FK) | fnc (k : Nat)
inductive A where
  | d (x : D) | c (k : Nat) | s (ns : List Int) | e (t : Tg)
inductive Ck where
  | mem (B : Int → D) | ins (n : Str) (nm : List Str) (pn : Str) (b : Addr) | prs | fns (w : World)
structure Kp where
  l : List Addr
  T : List (Addr × Str)
  M : Addr → Option Ck := fun _ => none
def MemAt (K : PySem.W.Frag) (F H : Hp) (a : Addr) (B : Int → D) : Prop := ∃ (is : List Int) (vs : List V), H a = some (.dK (List.zip (is.map Sum.inl) vs)) ∧ is.length = vs.length ∧ is.Nodup ∧ (∀ i ∈ is, 0 ≤ i ∧ i < 16777216) ∧ RepAll K F vs (is.map B) ∧ (B (-1) = .bool true → (0 : Int) ∈ is)
theorem MemAt.up {K : PySem.W.Frag} {F H F' H' : Hp} (e : Same F F') {a : Addr} {B : Int → D} (k : H' a = H a) (h : MemAt K F H a B) : MemAt K F' H' a B := by
  obtain ⟨is, vs, h1, h2, h3, h4, h5, h6⟩ := h
  exact ⟨is, vs, k.trans h1, h2, h3, h4, RepAll.up e _ _ h5, h6⟩
def InsAt (K : PySem.W.Frag) (F H : Hp) (a : Addr) (n : Str) (nm : List Str) (pn : Str) (b : Addr) (ds : List D) : Prop := ∃ (C dx : Addr) (vs : List V), PySem.W.nsIn K mainGlobals n = some (some (.ref C)) ∧ H a = some (.ins C dx (List.zip nm vs ++ [(pn, .ref b)])) ∧ nm.length = vs.length ∧ RepAll K F vs ds
theorem InsAt.up {K : PySem.W.Frag} {F H F' H' : Hp} (e : Same F F') {a b : Addr} {n pn : Str} {nm : List Str} {ds : List D} (k : H' a = H a) (h : InsAt K F H a n nm pn b ds) : InsAt K F' H' a n nm pn b ds := by
  obtain ⟨C, dx, vs, h1, h2, h3, h4⟩ := h
  exact ⟨C, dx, vs, h1, k.trans h2, h3, RepAll.up e _ _ h4⟩
def FnsAt (K : PySem.W.Frag) (F H : Hp) (a : Addr) (w : World) (ds : List D) : Prop := ∃ (ks : List FK) (as : List Addr), H a = some (fnsO w a ks as) ∧ as.length = ks.length ∧ RepAll K F (as.map V.ref) ds ∧ ds = fksD ks
theorem FnsAt.up {K : PySem.W.Frag} {F H F' H' : Hp} (e : Same F F') {a : Addr} {w : World} {ds : List D} (k : H' a = H a) (h : FnsAt K F H a w ds) : FnsAt K F' H' a w ds := by
  obtain ⟨ks, as, h1, h2, h3, h4⟩ := h
  exact ⟨ks, as, k.trans h1, h2, RepAll.up e _ _ h3, h4⟩
def Cont (K : PySem.W.Frag) (κ : Kp) (F H : Hp) (a : Addr) (ds : List D) : Prop := (κ.M a = none ∧ ∃ vs, H a = some (.lst vs) ∧ RepAll K F vs ds) ∨ (ds = [] ∧ ∃ B, κ.M a = some (.mem B) ∧ MemAt K F H a B) ∨ (∃ n nm pn b, κ.M a = some (.ins n nm pn b) ∧ InsAt K F H a n nm pn b ds) ∨ (κ.M a = some .prs ∧ ∃ ks, H a = some (.dT (prsK ks)) ∧ ds = prsD ks) ∨ (∃ w, κ.M a = some (.fns w) ∧ FnsAt K F H a w ds)
theorem Cont.up {K : PySem.W.Frag} {κ : Kp} {F H F' H' : Hp} (e : Same F F') {a : Addr} {ds : List D} (k : H' a = H a) : Cont K κ F H a ds → Cont K κ F' H' a ds
  | .inl ⟨h0, vs, h1, h2⟩ => .inl ⟨h0, vs, k.trans h1, RepAll.up e ds vs h2⟩
  | .inr (.inl ⟨h1, B, h0, h2⟩) => .inr (.inl ⟨h1, B, h0, h2.up e k⟩)
  | .inr (.inr (.inl ⟨n, nm, pn, b, h0, h1⟩)) => .inr (.inr (.inl ⟨n, nm, pn, b, h0, h1.up e k⟩))
  | .inr (.inr (.inr (.inl ⟨h0, ks, h1, h2⟩))) => .inr (.inr (.inr (.inl ⟨h0, ks, k.trans h1, h2⟩)))
  | .inr (.inr (.inr (.inr ⟨w, h0, h⟩))) => .inr (.inr (.inr (.inr ⟨w, h0, h.up e k⟩)))
theorem Cont.via {K : PySem.W.Frag} {κ κ' : Kp} {F H : Hp} {a : Addr} {ds : List D} (e : κ'.M a = κ.M a) : Cont K κ F H a ds → Cont K κ' F H a ds
  | .inl ⟨h0, h⟩ => .inl ⟨e.trans h0, h⟩
  | .inr (.inl ⟨h1, B, h0, h2⟩) => .inr (.inl ⟨h1, B, e.trans h0, h2⟩)
  | .inr (.inr (.inl ⟨n, nm, pn, b, h0, h1⟩)) => .inr (.inr (.inl ⟨n, nm, pn, b, e.trans h0, h1⟩))
  | .inr (.inr (.inr (.inl ⟨h0, h⟩))) => .inr (.inr (.inr (.inl ⟨e.trans h0, h⟩)))
  | .inr (.inr (.inr (.inr ⟨w, h0, h⟩))) => .inr (.inr (.inr (.inr ⟨w, e.trans h0, h⟩)))
theorem Cont.lstN {K : PySem.W.Frag} {κ : Kp} {F H : Hp} {a : Addr} {ds : List D} (h : Cont K κ F H a ds) (n : κ.M a = none) : ∃ vs, H a = some (.lst vs) ∧ RepAll K F vs ds := by
  rcases h with ⟨_, h⟩ | ⟨_, B, h, _⟩ | ⟨_, _, _, _, h, _⟩ | ⟨h, _⟩ | ⟨_, h, _⟩
  · exact h
  · rw [n] at h; cases h
  · rw [n] at h; cases h
  · rw [n] at h; cases h
  · rw [n] at h; cases h
theorem Cont.mem {K : PySem.W.Frag} {κ : Kp} {F H : Hp} {a : Addr} {ds : List D} {B : Int → D} (h : Cont K κ F H a ds) (n : κ.M a = some (.mem B)) : MemAt K F H a B := by
  rcases h with ⟨h, _⟩ | ⟨_, B', h, m⟩ | ⟨_, _, _, _, h, _⟩ | ⟨h, _⟩ | ⟨_, h, _⟩
  · rw [n] at h; cases h
  · rw [n] at h; cases h; exact m
  · rw [n] at h; cases h
  · rw [n] at h; cases h
  · rw [n] at h; cases h
theorem Cont.ins {K : PySem.W.Frag} {κ : Kp} {F H : Hp} {a b : Addr} {ds : List D} {n pn : Str} {nm : List Str} (h : Cont K κ F H a ds) (e : κ.M a = some (.ins n nm pn b)) : InsAt K F H a n nm pn b ds := by
  rcases h with ⟨h, _⟩ | ⟨_, B', h, m⟩ | ⟨_, _, _, _, h, m⟩ | ⟨h, _⟩ | ⟨_, h, _⟩
  · rw [e] at h; cases h
  · rw [e] at h; cases h
  · rw [e] at h; cases h; exact m
  · rw [e] at h; cases h
  · rw [e] at h; cases h
theorem Cont.prs {K : PySem.W.Frag} {κ : Kp} {F H : Hp} {a : Addr} {ds : List D} (h : Cont K κ F H a ds) (e : κ.M a = some .prs) : ∃ ks, H a = some (.dT (prsK ks)) ∧ ds = prsD ks := by
  rcases h with ⟨h, _⟩ | ⟨_, B', h, m⟩ | ⟨_, _, _, _, h, m⟩ | ⟨_, h⟩ | ⟨_, h, _⟩
  · rw [e] at h; cases h
  · rw [e] at h; cases h
  · rw [e] at h; cases h
  · exact h
  · rw [e] at h; cases h
theorem Cont.fns {K : PySem.W.Frag} {κ : Kp} {F H : Hp} {a : Addr} {w : World} {ds : List D} (h : Cont K κ F H a ds) (e : κ.M a = some (.fns w)) : FnsAt K F H a w ds := by
  rcases h with ⟨h, _⟩ | ⟨_, B', h, m⟩ | ⟨_, _, _, _, h, m⟩ | ⟨h, _⟩ | ⟨_, h, m⟩
  · rw [e] at h; cases h
  · rw [e] at h; cases h
  · rw [e] at h; cases h
  · rw [e] at h; cases h
  · rw [e] at h; cases h; exact m
theorem Cont.there {K : PySem.W.Frag} {κ : Kp} {F H : Hp} {a : Addr} {ds : List D} (h : Cont K κ F H a ds) : ∃ o, H a = some o ∧ ∀ ps, o ≠ .tbl ps := by
  rcases h with ⟨_, vs, h, _⟩ | ⟨_, B, _, is, vs, h, _⟩ | ⟨n, nm, pn, b, _, C, dx, vs, _, h, _⟩ | ⟨_, ks, h, _⟩ | ⟨_, _, ks, as, h, _⟩
  · exact ⟨_, h, fun ps z => by cases z⟩
  · exact ⟨_, h, fun ps z => by cases z⟩
  · exact ⟨_, h, fun ps z => by cases z⟩
  · exact ⟨_, h, fun ps z => by cases z⟩
  · exact ⟨_, h, fun ps z => by cases z⟩
def ExH (cls : Value) (a : Addr) : HO := .ext fun h => ∃ (oe : Obj) (vs : Array Value), h.get? a = some oe ∧ Zc cls none oe ∧ oe.data = .fields vs
inductive W where
  | a (x : A) | own (ws : List W)
abbrev Cs := List (List D)
def BareT (K : PySem.W.Frag) (F : Hp) (a : Addr) (d : D) : Prop := ∃ (o : Obj) (xs : List V) (ds : List D), d = .tuple ds ∧ F a = some (.frz o (.tup xs)) ∧ o.dict = none ∧ RepAll K F xs ds
theorem BareT.up {K : PySem.W.Frag} {F F' : Hp} (e : Same F F') {a : Addr} {d : D} (h : BareT K F a d) : BareT K F' a d := by
  obtain ⟨o, xs, ds, e1, h, hd, r⟩ := h
  exact ⟨o, xs, ds, e1, e _ _ h, hd, RepAll.up e ds xs r⟩
theorem BareT.rep {K : PySem.W.Frag} {F : Hp} {a : Addr} {d : D} (h : BareT K F a d) : Rep K F (.ref a) d := by
  obtain ⟨o, xs, ds, rfl, h, _, r⟩ := h
  exact .tup (.inl (.inr ⟨o, h⟩)) r
def RepK (K : PySem.W.Frag) (κ : Kp) (F : Hp) (v : V) : Fk → Prop
  | .d x => Rep K F v x
  | .mem k B => ∃ a, v = .ref a ∧ κ.l[k]? = some a ∧ κ.M a = some (.mem B)
  | .dk ks ds => ∃ a o vs, v = .ref a ∧ F a = some (.frz o (.dK (List.zip ks vs))) ∧ ks.length = vs.length ∧ RepAll K F vs ds
  | .dt ks => ∃ a, v = .ref a ∧ F a = some (.dT (prsK ks))
theorem RepK.up {K : PySem.W.Frag} {κ : Kp} {F F' : Hp} (e : Same F F') {v : V} : ∀ {q : Fk}, RepK K κ F v q → RepK K κ F' v q
  | .d x, h => Rep.up e x v h
  | .mem _ _, h => h
  | .dk _ _, ⟨a, o, vs, h1, h2, h3, h4⟩ => ⟨a, o, vs, h1, e _ _ h2, h3, RepAll.up e _ _ h4⟩
  | .dt _, ⟨a, h1, h2⟩ => ⟨a, h1, e _ _ h2⟩
def RepF (K : PySem.W.Frag) (κ : Kp) (F : Hp) (p : Str × V) (q : Str × Fk) : Prop := p.1 = q.1 ∧ RepK K κ F p.2 q.2
theorem RepF.up {K : PySem.W.Frag} {κ : Kp} {F F' : Hp} (e : Same F F') {p : Str × V} {q : Str × Fk} (h : RepF K κ F p q) : RepF K κ F' p q := ⟨h.1, h.2.up e⟩
inductive RepFs (K : PySem.W.Frag) (κ : Kp) (F : Hp) : List (Str × V) → List (Str × Fk) → Prop
  | nil : RepFs K κ F [] []
  | cons {p : Str × V} {ps : List (Str × V)} {q : Str × Fk} {qs : List (Str × Fk)} : RepF K κ F p q → RepFs K κ F ps qs → RepFs K κ F (p :: ps) (q :: qs)
theorem RepFs.up {K : PySem.W.Frag} {κ : Kp} {F F' : Hp} (e : Same F F') : ∀ {ps : List (Str × V)} {qs : List (Str × Fk)}, RepFs K κ F ps qs → RepFs K κ F' ps qs
  | _, _, .nil => .nil
  | _, _, .cons h t => .cons (h.up e) (RepFs.up e t)
def RepT (K : PySem.W.Frag) (κ : Kp) (F : Hp) (v : V) : Tg → Prop
  | .exc C => ∃ a, v = .ref a ∧ F a = some (ExH (.ref C) a)
  | .st x => ∃ a, v = .ref a ∧ BareT K F a x
  | .sf x => ∃ a, v = .ref a ∧ ∃ b xs d ds, x = .tuple (d :: ds) ∧ SqT K F a (.ref b :: xs) ∧ BareT K F b d ∧ RepAll K F xs ds
  | .fn n => ∃ a, v = .ref a ∧ PySem.W.nsIn K mainGlobals n = some (some (.ref a))
  | .mem k B => ∃ a, v = .ref a ∧ κ.l[k]? = some a ∧ κ.M a = some (.mem B)
  | .ob n fs => ∃ a, v = .ref a ∧ ∃ C dx ps, PySem.W.nsIn K mainGlobals n = some (some (.ref C)) ∧ F a = some (.ins C dx ps) ∧ RepFs K κ F ps fs
  | .obc k n nm pn j => ∃ a, v = .ref a ∧ ∃ b, κ.l[k]? = some a ∧ κ.l[j]? = some b ∧ κ.M a = some (.ins n nm pn b) ∧ κ.M b = none
  | .dkk ks ds => ∃ a, v = .ref a ∧ ∃ o vs, F a = some (.frz o (.dK (List.zip ks vs))) ∧ ks.length = vs.length ∧ RepAll K F vs ds
  | .dtt ks => ∃ a, v = .ref a ∧ F a = some (.dT (prsK ks))
  | .prc k => ∃ a, v = .ref a ∧ κ.l[k]? = some a ∧ κ.M a = some .prs
  | .dff ks => ∃ a, v = .ref a ∧ ∃ o w as, F a = some (.frz o (fnsO w a ks as)) ∧ as.length = ks.length ∧ RepAll K F (as.map V.ref) (fksD ks)
  | .fnc k => ∃ a, v = .ref a ∧ ∃ w, κ.l[k]? = some a ∧ κ.M a = some (.fns w)
theorem RepT.up {K : PySem.W.Frag} {κ : Kp} {F F' : Hp} (e : Same F F') {v : V} : ∀ {t : Tg}, RepT K κ F v t → RepT K κ F' v t
  | .exc _, ⟨a, e1, h⟩ => ⟨a, e1, e _ _ h⟩
  | .st _, ⟨a, e1, h⟩ => ⟨a, e1, h.up e⟩
  | .sf _, ⟨a, e1, b, xs, d, ds, e2, h1, hb, r⟩ => ⟨a, e1, b, xs, d, ds, e2, Same.seqT e h1, hb.up e, RepAll.up e ds _ r⟩
  | .fn _, h => h
  | .mem _ _, h => h
  | .ob _ _, ⟨a, e1, C, dx, ps, hc, h, r⟩ => ⟨a, e1, C, dx, ps, hc, e _ _ h, r.up e⟩
  | .obc _ _ _ _ _, h => h
  | .dkk _ _, ⟨a, h1, o, vs, h2, h3, h4⟩ => ⟨a, h1, o, vs, e _ _ h2, h3, RepAll.up e _ _ h4⟩
  | .dtt _, ⟨a, h1, h2⟩ => ⟨a, h1, e _ _ h2⟩
  | .prc _, h => h
  | .dff _, ⟨a, h1, o, w, as, h2, h3, h4⟩ => ⟨a, h1, o, w, as, e _ _ h2, h3, RepAll.up e _ _ h4⟩
  | .fnc _, h => h
theorem RepT.ref {K : PySem.W.Frag} {κ : Kp} {F : Hp} {v : V} : ∀ {t : Tg}, RepT K κ F v t → ∃ a, v = .ref a
  | .exc _, ⟨a, e1, _⟩ => ⟨a, e1⟩
  | .st _, ⟨a, e1, _⟩ => ⟨a, e1⟩
  | .sf _, ⟨a, e1, _⟩ => ⟨a, e1⟩
  | .fn _, ⟨a, e1, _⟩ => ⟨a, e1⟩
  | .mem _ _, ⟨a, e1, _⟩ => ⟨a, e1⟩
  | .ob _ _, ⟨a, e1, _⟩ => ⟨a, e1⟩
  | .obc _ _ _ _ _, ⟨a, e1, _⟩ => ⟨a, e1⟩
  | .dkk _ _, ⟨a, e1, _⟩ => ⟨a, e1⟩
  | .dtt _, ⟨a, e1, _⟩ => ⟨a, e1⟩
  | .prc _, ⟨a, e1, _⟩ => ⟨a, e1⟩
  | .dff _, ⟨a, e1, _⟩ => ⟨a, e1⟩
  | .fnc _, ⟨a, e1, _⟩ => ⟨a, e1⟩
theorem RepT.st {K : PySem.W.Frag} {κ : Kp} {F : Hp} {v : V} {x : D} (h : RepT K κ F v (.st x)) : Rep K F v x := by
  obtain ⟨a, rfl, h⟩ := h
  exact h.rep
theorem RepT.sf {K : PySem.W.Frag} {κ : Kp} {F : Hp} {v : V} {x : D} (h : RepT K κ F v (.sf x)) : Rep K F v x := by
  obtain ⟨a, rfl, b, xs, d, ds, rfl, h, hb, r⟩ := h
  exact .tup h (.cons hb.rep r)
def RepA (K : PySem.W.Frag) (κ : Kp) (F : Hp) (v : V) : A → Prop
  | .d x => Rep K F v x
  | .c k => ∃ a, κ.l[k]? = some a ∧ v = .ref a ∧ κ.M a = none
  | .s ns => ∃ a, v = .ref a ∧ SqL K F a (ns.map V.int)
  | .e t => RepT K κ F v t
theorem RepA.up {K : PySem.W.Frag} {κ : Kp} {F F' : Hp} (e : Same F F') {v : V} : ∀ {x : A}, RepA K κ F v x → RepA K κ F' v x
  | .d x, h => Rep.up e x v h
  | .c _, h => h
  | .s _, ⟨a, e1, h⟩ => ⟨a, e1, e.seq h⟩
  | .e _, h => RepT.up e h
inductive RepAs (K : PySem.W.Frag) (κ : Kp) (F : Hp) : List V → List A → Prop
  | nil : RepAs K κ F [] []
  | cons {v : V} {vs : List V} {x : A} {xs : List A} : RepA K κ F v x → RepAs K κ F vs xs → RepAs K κ F (v :: vs) (x :: xs)
theorem RepAs.up {K : PySem.W.Frag} {κ : Kp} {F F' : Hp} (e : Same F F') : ∀ {vs : List V} {xs : List A}, RepAs K κ F vs xs → RepAs K κ F' vs xs
  | _, _, .nil => .nil
  | _, _, .cons h t => .cons (h.up e) (RepAs.up e t)
theorem RepAs.len {K : PySem.W.Frag} {κ : Kp} {F : Hp} : ∀ {vs : List V} {xs : List A}, RepAs K κ F vs xs → vs.length = xs.length
  | _, _, .nil => rfl
  | _, _, .cons _ t => congrArg (· + 1) (RepAs.len t)

mutual
def RepW (K : PySem.W.Frag) (κ : Kp) (F H : Hp) : W → V → List Addr → Prop
  | .a x, v, L => L = [] ∧ RepA K κ F v x
  | .own ws, v, L => ∃ a vs L', v = .ref a ∧ H a = some (.lst vs) ∧ L = a :: L' ∧ RepWs K κ F H ws vs L'
def RepWs (K : PySem.W.Frag) (κ : Kp) (F H : Hp) : List W → List V → List Addr → Prop
  | [], vs, L => vs = [] ∧ L = []
  | w :: ws, vs, L => ∃ v r L1 L2, vs = v :: r ∧ L = L1 ++ L2 ∧ RepW K κ F H w v L1 ∧ RepWs K κ F H ws r L2
end
mutual
theorem RepW.up {K : PySem.W.Frag} {κ : Kp} {F F' H H' : Hp} (e : Same F F') : ∀ (w : W) (v : V) (L : List Addr), (∀ a ∈ L, ∀ o, H a = some o → H' a = some o) → RepW K κ F H w v L → RepW K κ F' H' w v L
  | .a x, v, L, _, h => ⟨h.1, h.2.up e⟩
  | .own ws, v, L, k, h => by
    obtain ⟨a, vs, L', e1, e2, e3, h⟩ := h
    subst e3
    exact ⟨a, vs, L', e1, k a List.mem_cons_self _ e2, rfl, RepWs.up e ws vs L' (fun b hb => k b (List.mem_cons_of_mem _ hb)) h⟩
theorem RepWs.up {K : PySem.W.Frag} {κ : Kp} {F F' H H' : Hp} (e : Same F F') : ∀ (ws : List W) (vs : List V) (L : List Addr), (∀ a ∈ L, ∀ o, H a = some o → H' a = some o) → RepWs K κ F H ws vs L → RepWs K κ F' H' ws vs L
  | [], _, _, _, h => h
  | w :: ws, _, L, k, h => by
    obtain ⟨v, r, L1, L2, e1, e2, h1, h2⟩ := h
    subst e2
    exact ⟨v, r, L1, L2, e1, rfl, RepW.up e w v L1 (fun b hb => k b (List.mem_append_left _ hb)) h1, RepWs.up e ws r L2 (fun b hb => k b (List.mem_append_right _ hb)) h2⟩
end
theorem RepWs.len {K : PySem.W.Frag} {κ : Kp} {F H : Hp} : ∀ {ws : List W} {vs : List V} {L : List Addr}, RepWs K κ F H ws vs L → vs.length = ws.length
  | [], _, _, h => by rw [h.1]; rfl
  | _ :: _, _, _, h => by
    obtain ⟨v, r, L1, L2, rfl, _, _, h2⟩ := h
    exact congrArg (· + 1) (RepWs.len h2)
theorem RepWs.app {K : PySem.W.Frag} {κ : Kp} {F H : Hp} : ∀ {ws us : List W} {vs rs : List V} {L M : List Addr}, RepWs K κ F H ws vs L → RepWs K κ F H us rs M → RepWs K κ F H (ws ++ us) (vs ++ rs) (L ++ M)
  | [], _, _, _, _, _, h, h' => by
    rw [h.1, h.2]; exact h'
  | w :: ws, us, _, rs, _, M, h, h' => by
    obtain ⟨v, r, L1, L2, rfl, rfl, h1, h2⟩ := h
    exact ⟨v, r ++ rs, L1, L2 ++ M, rfl, by rw [List.append_assoc], h1, RepWs.app h2 h'⟩

mutual
/-- data of a result -/
def W.toD : W → Option D
  | .a (.d x) => some x
  | .a (.c _) => none
  | .a (.s _) => none
  | .a (.e _) => none
  | .own ws => (W.toDs ws).map .list
def W.toDs : List W → Option (List D)
  | [] => some []
  | w :: ws => match w.toD, W.toDs ws with
    | some d, some ds => some (d :: ds)
    | _, _ => none
end
def W.toA : W → Option A
  | .a x => some x
  | .own ws => (W.toDs ws).map fun ds => .d (.list ds)

def FrT (H : Hp) (a : Addr) : Prop := ∀ o, H a = some o → ∃ ps, o = .tbl ps
theorem frT_none {H : Hp} {a : Addr} (h : H a = none) : FrT H a := fun o e => by rw [h] at e; cases e
theorem FrT.no {H : Hp} {a : Addr} {us : List V} (f : FrT H a) (e : H a = some (.lst us)) : False := by
  obtain ⟨ps, z⟩ := f _ e
  cases z
theorem frT_upd {H : Hp} {p a : Addr} {o : HO} (hp : H p = none) (h : ¬ FrT H a) : ¬ FrT (upd H p o) a := fun f => by
  by_cases hb : a = p
  · subst hb; exact h (frT_none hp)
  · exact h fun u e => f u (by rw [upd_ne hb]; exact e)
theorem frT_wr {H : Hp} {p a : Addr} {vs : List V} (h : ¬ FrT H a) : ¬ FrT (upd H p (.lst vs)) a := fun f => by
  by_cases hb : a = p
  · subst hb; exact f.no upd_same
  · exact h fun u e => f u (by rw [upd_ne hb]; exact e)
def NoT (F : Hp) : Prop := ∀ b ps, F b ≠ some (.tbl ps)
structure Nxt (κ : Kp) (F H F' H' : Hp) : Prop where
  ff : Same F F'
  fh : Same F' H'
  kp : ∀ a o, H a = some o → a ∉ κ.l → (∀ ps, o ≠ .tbl ps) → H' a = some o
  dm : ∀ a, ¬ FrT H a → ¬ FrT H' a
  tb : LamX.Tabs κ.T H → LamX.Tabs κ.T H'
  fn : ∀ a, F' a ≠ none → F a ≠ none ∨ FrT H a
  nt : NoT F → NoT F'
theorem Nxt.refl {κ : Kp} {F H : Hp} (h : Same F H) : Nxt κ F H F H := ⟨Same.refl _, h, fun _ _ e _ _ => e, fun _ h => h, fun h => h, fun _ h => .inl h, fun h => h⟩
theorem Nxt.trans {κ : Kp} {F H F1 H1 F2 H2 : Hp} (x : Nxt κ F H F1 H1) (y : Nxt κ F1 H1 F2 H2) : Nxt κ F H F2 H2 :=
  ⟨x.ff.trans y.ff, y.fh, fun a o e n t => y.kp a o (x.kp a o e n t) n t, fun a h => y.dm a (x.dm a h), fun h => y.tb (x.tb h), fun a h => by
    rcases y.fn a h with h | h
    · exact x.fn a h
    · exact .inr (Classical.byContradiction fun z => x.dm a z h), fun h => y.nt (x.nt h)⟩
theorem Nxt.back {κ : Kp} {F H F' H' : Hp} (x : Nxt κ F H F' H') {a : Addr} (h : FrT H' a) : FrT H a := Classical.byContradiction fun z => x.dm a z h



def tabOf (K : PySem.W.Frag) (n : Str) : List (Addr × Str) := match PySem.W.tabIn K n with
  | some (_, P) => [(P, (n ++ ".<locals>.") ++ "<lambda>")]
  | none => []
def ldsK : List Str := ["_law_refusals_right"]
def tabsK (K : PySem.W.Frag) : List (Addr × Str) := ldsK.flatMap (tabOf K)
def TabIn (T : List (Addr × Str)) (P : Addr) (q : Str) : Prop := (P, q) ∈ T ∧ ∀ p ∈ T, p.1 = P → p.2 = q
theorem tabIn_of {T : List (Addr × Str)} {P : Addr} {q : Str} (hm : (P, q) ∈ T) (nd : (T.map (·.1)).Nodup) : TabIn T P q := by
  refine ⟨hm, fun p hp e => ?_⟩
  obtain ⟨i, hi, ei⟩ := List.mem_iff_getElem.mp hm
  obtain ⟨j, hj, ej⟩ := List.mem_iff_getElem.mp hp
  have h1 : (T.map (·.1))[i]'(by simpa using hi) = P := by simp [ei]
  have h2 : (T.map (·.1))[j]'(by simpa using hj) = P := by simp [ej, e]
  have : i = j := by
    rcases Nat.lt_trichotomy i j with h | h | h
    · exact absurd (h1.trans h2.symm) (List.pairwise_iff_getElem.mp nd _ _ _ _ h)
    · exact h
    · exact absurd (h2.trans h1.symm) (List.pairwise_iff_getElem.mp nd _ _ _ _ h)
  subst this
  rw [ei] at ej
  rw [← ej]
structure Cel (K : PySem.W.Frag) (κ : Kp) (F H : Hp) (S : Cs) : Prop where
  len : κ.l.length = S.length
  nd : κ.l.Nodup
  cl : ∀ (k : Nat) (a : Addr) (ds : List D), κ.l[k]? = some a → S[k]? = some ds → Cont K κ F H a ds
  fz : ∀ a ∈ κ.l, F a = none
  tb : κ.T = tabsK K ∧ LamX.Tabs κ.T H
  nt : NoT F
theorem Cel.there {K : PySem.W.Frag} {κ : Kp} {F H : Hp} {S : Cs} (c : Cel K κ F H S) : ∀ a ∈ κ.l, ∃ o, H a = some o ∧ ∀ ps, o ≠ .tbl ps := fun a ha => by
  obtain ⟨k, hk, e⟩ := List.mem_iff_getElem.mp ha
  have hl : k < S.length := by rw [← c.len]; exact hk
  exact (c.cl k a S[k] (by rw [List.getElem?_eq_getElem hk, e]) (List.getElem?_eq_getElem hl)).there
def NoC (o : HO) : Prop := (∀ xs, o ≠ .lst xs) ∧ (∀ m, o ≠ .dK m) ∧ (∀ C dx fs, o ≠ .ins C dx fs) ∧ (∀ m, o ≠ .dT m) ∧ ∀ w a ks as, o ≠ fnsO w a ks as
theorem repl_get {o1 : Obj} {n : Nat} {b : Addr} {ob : Obj} (h : (⟨Array.replicate n o1, {}⟩ : Heap).get? b = some ob) : ob = o1 := by
  unfold Heap.get? at h
  by_cases hb : b < n
  · have e : (Array.replicate n o1)[b]? = some o1 := by simp [Array.getElem?_replicate, hb]
    rw [show (⟨Array.replicate n o1, {}⟩ : Heap).objs[b]? = some o1 from e] at h
    split at h
    · cases h
    · exact (Option.some.inj h).symm
  · have e : (Array.replicate n o1)[b]? = none := by simp [Array.getElem?_replicate, hb]
    rw [show (⟨Array.replicate n o1, {}⟩ : Heap).objs[b]? = none from e] at h
    cases h
theorem repl_at {o1 : Obj} {n : Nat} {b : Addr} (hf : o1.data ≠ .freed) (hb : b < n) : (⟨Array.replicate n o1, {}⟩ : Heap).get? b = some o1 := by
  unfold Heap.get?
  have e : (Array.replicate n o1)[b]? = some o1 := by simp [Array.getElem?_replicate, hb]
  rw [show (⟨Array.replicate n o1, {}⟩ : Heap).objs[b]? = some o1 from e]
  split
  · rename_i h
    cases Option.some.inj h
    exact absurd rfl hf
  · rfl
theorem fns_ne {φ : Heap → Prop} {o1 : Obj} {n : Nat} (hd : ∀ es ep, o1.data ≠ .dict es ep) (hp : φ ⟨Array.replicate n o1, {}⟩) {w : World} {a : Addr} {ks : List FK} {as : List Addr} : HO.ext φ ≠ fnsO w a ks as := fun z => by
  unfold fnsO at z
  injection z with z
  rw [z] at hp
  obtain ⟨_, _, _, o, es, ep, ho, _, h2, _⟩ := hp
  have := repl_get ho
  subst this
  exact hd _ _ h2
theorem codeO_nf {c : Addr} {q : Str} (w : World) (a : Addr) (ks : List FK) (as : List Addr) : LamX.CodeO c q ≠ fnsO w a ks as :=
  fns_ne (o1 := { cls := .none, data := .fields #[.none, .str q 0] }) (n := c + 1) (fun _ _ z => by cases z) ⟨_, _, 0, repl_at (fun z => by cases z) (Nat.lt_succ_self c), rfl, rfl⟩
theorem Cel.outC {K : PySem.W.Frag} {κ : Kp} {F H : Hp} {S : Cs} (c : Cel K κ F H S) {b : Addr} {o : HO} (e : H b = some o) (no : NoC o) : b ∉ κ.l := fun hb => by
  obtain ⟨k, hk, ek⟩ := List.mem_iff_getElem.mp hb
  have hl : k < S.length := by rw [← c.len]; exact hk
  rcases c.cl k b S[k] (by rw [List.getElem?_eq_getElem hk, ek]) (List.getElem?_eq_getElem hl) with ⟨_, vs, h, _⟩ | ⟨_, B, _, is, vs, h, _⟩ | ⟨n, nm, pn, q, _, C, dx, vs, _, h, _⟩ | ⟨_, ks, h, _⟩ | ⟨_, _, ks, as, h, _⟩
  · rw [e] at h; exact no.1 vs (Option.some.inj h)
  · rw [e] at h; exact no.2.1 _ (Option.some.inj h)
  · rw [e] at h; exact no.2.2.1 _ _ _ (Option.some.inj h)
  · rw [e] at h; exact no.2.2.2.1 _ (Option.some.inj h)
  · rw [e] at h; exact no.2.2.2.2 _ _ _ _ (Option.some.inj h)
theorem Cel.notT {K : PySem.W.Frag} {κ : Kp} {F H : Hp} {S : Cs} (c : Cel K κ F H S) {a : Addr} (ha : a ∈ κ.l) : ¬ FrT H a := fun f => by
  obtain ⟨o, h, hn⟩ := c.there a ha
  obtain ⟨ps, e⟩ := f o h
  exact hn ps e

theorem tabs_upd {H : Hp} {p : Addr} {o : HO} (h : H p = none) (T : List (Addr × Str)) (t : LamX.Tabs T H) : LamX.Tabs T (upd H p o) := t.ext fun b u e => by
  rw [upd_ne (ne_of_none e h)]; exact e
theorem Nxt.newF {κ : Kp} {F H : Hp} {p : Addr} {o : HO} (fh : Same F H) (h : H p = none) (ho : ∀ ps, o ≠ .tbl ps := by intro _ z; cases z) : Nxt κ F H (upd F p o) (upd H p o) := by
  have hF : F p = none := fh.free h
  refine ⟨fun b u e => ?_, fun b u e => ?_, fun b u e _ _ => ?_, fun b e => ?_, tabs_upd h _, fun b e => ?_, fun n b ps e => ?_⟩
  · rw [upd_ne (ne_of_none e hF)]; exact e
  · by_cases hb : b = p
    · subst hb; rw [upd_same] at e ⊢; exact e
    · rw [upd_ne hb] at e ⊢; exact fh b u e
  · rw [upd_ne (ne_of_none e h)]; exact e
  · exact frT_upd h e
  · by_cases hb : b = p
    · subst hb; exact .inr (frT_none h)
    · rw [upd_ne hb] at e; exact .inl e
  · by_cases hb : b = p
    · subst hb; rw [upd_same] at e; exact ho ps (Option.some.inj e)
    · rw [upd_ne hb] at e; exact n b ps e
theorem Nxt.newH {κ : Kp} {F H : Hp} {p : Addr} {o : HO} (fh : Same F H) (h : H p = none) : Nxt κ F H F (upd H p o) := by
  refine ⟨Same.refl _, fun b u e => ?_, fun b u e _ _ => ?_, fun b e => ?_, tabs_upd h _, fun b e => .inl e, fun n => n⟩
  · rw [upd_ne (ne_of_none (fh b u e) h)]; exact fh b u e
  · rw [upd_ne (ne_of_none e h)]; exact e
  · exact frT_upd h e
theorem Cel.up {K : PySem.W.Frag} {κ : Kp} {F H F' H' : Hp} {S : Cs} (c : Cel K κ F H S) (n : Nxt κ F H F' H') (hk : ∀ a ∈ κ.l, H' a = H a) : Cel K κ F' H' S := by
  refine ⟨c.len, c.nd, fun k a ds e1 e2 => ?_, fun a ha => ?_, ⟨c.tb.1, n.tb c.tb.2⟩, n.nt c.nt⟩
  · exact (c.cl k a ds e1 e2).up n.ff (hk a (List.mem_of_getElem? e1))
  · cases q : F' a with
    | none => rfl
    | some o =>
      rcases n.fn a (by rw [q]; simp) with h | h
      · exact absurd (c.fz a ha) h
      · exact (c.notT ha h).elim
theorem Cel.newF {K : PySem.W.Frag} {κ : Kp} {F H : Hp} {S : Cs} {p : Addr} {o : HO} (c : Cel K κ F H S) (fh : Same F H) (h : H p = none) (ho : ∀ ps, o ≠ .tbl ps := by intro _ z; cases z) : Cel K κ (upd F p o) (upd H p o) S :=
  c.up (Nxt.newF fh h ho) fun a ha => by
    obtain ⟨o, e, _⟩ := c.there a ha
    rw [upd_ne (ne_of_none e h)]
theorem Cel.newH {K : PySem.W.Frag} {κ : Kp} {F H : Hp} {S : Cs} {p : Addr} {o : HO} (c : Cel K κ F H S) (fh : Same F H) (h : H p = none) : Cel K κ F (upd H p o) S :=
  c.up (Nxt.newH fh h) fun a ha => by
    obtain ⟨o, e, _⟩ := c.there a ha
    rw [upd_ne (ne_of_none e h)]
def mix (F H : Hp) (L : List Addr) : Hp := fun b => if b ∈ L then H b else F b
theorem mix_in {F H : Hp} {L : List Addr} {b : Addr} (h : b ∈ L) : mix F H L b = H b := if_pos h
theorem mix_out {F H : Hp} {L : List Addr} {b : Addr} (h : b ∉ L) : mix F H L b = F b := if_neg h
theorem mix_ff {F H : Hp} {L : List Addr} (fh : Same F H) : Same F (mix F H L) := fun b o e => by
  by_cases hb : b ∈ L
  · rw [mix_in hb]; exact fh b o e
  · rw [mix_out hb]; exact e
theorem mix_fh {F H : Hp} {L : List Addr} (fh : Same F H) : Same (mix F H L) H := fun b o e => by
  by_cases hb : b ∈ L
  · rw [mix_in hb] at e; exact e
  · rw [mix_out hb] at e; exact fh b o e
mutual
theorem RepW.frz {K : PySem.W.Frag} {κ : Kp} {F H F' : Hp} (e : Same F F') : ∀ (w : W) (v : V) (L : List Addr) (d : D), w.toD = some d → (∀ a ∈ L, F' a = H a) → RepW K κ F H w v L → Rep K F' v d
  | .a (.d x), v, L, d, h, _, r => by
    cases (show some x = some d from h)
    exact Rep.up e x v r.2
  | .a (.c _), _, _, d, h, _, _ => by cases (show (none : Option D) = some d from h)
  | .a (.s _), _, _, d, h, _, _ => by cases (show (none : Option D) = some d from h)
  | .a (.e _), _, _, d, h, _, _ => by cases (show (none : Option D) = some d from h)
  | .own ws, v, L, d, h, k, r => by
    obtain ⟨a, vs, L', e1, e2, e3, r⟩ := r
    subst e1 e3
    have h' : (W.toDs ws).map PyData.list = some d := by simpa [W.toD] using h
    cases q : W.toDs ws with
    | none => rw [q] at h'; cases h'
    | some ds =>
      rw [q] at h'
      cases h'
      exact .lst ((k a List.mem_cons_self).trans e2) (RepWs.frz e ws vs L' ds q (fun b hb => k b (List.mem_cons_of_mem _ hb)) r)
theorem RepWs.frz {K : PySem.W.Frag} {κ : Kp} {F H F' : Hp} (e : Same F F') : ∀ (ws : List W) (vs : List V) (L : List Addr) (ds : List D), W.toDs ws = some ds → (∀ a ∈ L, F' a = H a) → RepWs K κ F H ws vs L → RepAll K F' vs ds
  | [], _, _, ds, h, _, r => by
    rw [r.1]
    cases (show some [] = some ds by simpa [W.toDs] using h)
    exact .nil
  | w :: ws, _, _, ds, h, k, r => by
    obtain ⟨v, r', L1, L2, e1, e2, h1, h2⟩ := r
    subst e1 e2
    cases q1 : w.toD with
    | none => simp [W.toDs, q1] at h
    | some d =>
      cases q2 : W.toDs ws with
      | none => simp [W.toDs, q1, q2] at h
      | some ds' =>
        simp [W.toDs, q1, q2] at h
        subst h
        exact .cons (RepW.frz e w v L1 d q1 (fun b hb => k b (List.mem_append_left _ hb)) h1) (RepWs.frz e ws r' L2 ds' q2 (fun b hb => k b (List.mem_append_right _ hb)) h2)
end
mutual
theorem RepW.there {K : PySem.W.Frag} {κ : Kp} {F H : Hp} : ∀ (w : W) (v : V) (L : List Addr), RepW K κ F H w v L → ∀ a ∈ L, ∃ vs, H a = some (.lst vs)
  | .a x, v, L, h => fun a ha => by rw [h.1] at ha; exact absurd ha (by simp)
  | .own ws, v, L, h => by
    obtain ⟨b, us, L', e1, e2, e3, h⟩ := h
    subst e3
    intro a ha
    rcases List.mem_cons.mp ha with rfl | ha
    · exact ⟨us, e2⟩
    · exact RepWs.there ws us L' h a ha
theorem RepWs.there {K : PySem.W.Frag} {κ : Kp} {F H : Hp} : ∀ (ws : List W) (vs : List V) (L : List Addr), RepWs K κ F H ws vs L → ∀ a ∈ L, ∃ vs, H a = some (.lst vs)
  | [], _, L, h => fun a ha => by rw [h.2] at ha; exact absurd ha (by simp)
  | w :: ws, vs, L, h => by
    obtain ⟨v, r, L1, L2, e1, e2, h1, h2⟩ := h
    subst e2
    intro a ha
    rcases List.mem_append.mp ha with ha | ha
    · exact RepW.there w v L1 h1 a ha
    · exact RepWs.there ws r L2 h2 a ha
end
theorem frz_mix {K : PySem.W.Frag} {κ : Kp} {F H F1 H1 : Hp} {S : Cs} {w : W} {v : V} {L : List Addr} {x : A} (n : Nxt κ F H F1 H1) (c : Cel K κ F1 H1 S) (ck : ∀ a ∈ κ.l, ¬ FrT H a) (r : RepW K κ F1 H1 w v L) (nw : ∀ p ∈ L, FrT H p ∧ F1 p = none) (e : w.toA = some x) :
    ∃ F2, Nxt κ F H F2 H1 ∧ Cel K κ F2 H1 S ∧ RepA K κ F2 v x := by
  cases w with
  | a y =>
    cases (show some y = some x from e)
    exact ⟨F1, n, c, r.2⟩
  | own ws =>
    have e' : (W.toDs ws).map (fun ds => A.d (.list ds)) = some x := e
    cases q : W.toDs ws with
    | none => rw [q] at e'; cases e'
    | some ds =>
      rw [q] at e'
      cases e'
      have mixT : NoT F1 → NoT (mix F1 H1 L) := fun h b ps e => by
        by_cases hb : b ∈ L
        · rw [mix_in hb] at e
          obtain ⟨us, e2⟩ := RepW.there (.own ws) v L r b hb
          rw [e2] at e; cases e
        · rw [mix_out hb] at e; exact h b ps e
      have hn : Nxt κ F H (mix F1 H1 L) H1 := ⟨n.ff.trans (mix_ff n.fh), mix_fh n.fh, n.kp, n.dm, n.tb, fun a h => by
        by_cases ha : a ∈ L
        · exact .inr (nw a ha).1
        · rw [mix_out ha] at h; exact n.fn a h, fun h => mixT (n.nt h)⟩
      refine ⟨mix F1 H1 L, hn, ⟨c.len, c.nd, fun k a ds e1 e2 => ?_, fun a ha => ?_, c.tb, mixT c.nt⟩, RepW.frz (mix_ff n.fh) (.own ws) v L (.list ds) (by simp [W.toD, q]) (fun a ha => mix_in ha) r⟩
      · exact (c.cl k a ds e1 e2).up (mix_ff n.fh) rfl
      · by_cases hl : a ∈ L
        · exact absurd (nw a hl).1 (ck a ha)
        · rw [mix_out hl]; exact c.fz a ha
theorem Nxt.own {κ : Kp} {F H F' H' : Hp} (n : Nxt κ F H F' H') {L : List Addr} (t : ∀ a ∈ L, ∃ vs, H a = some (.lst vs)) (f : ∀ a ∈ L, F a = none) (k : ∀ a ∈ L, a ∉ κ.l) : (∀ a ∈ L, ∀ o, H a = some o → H' a = some o) ∧ ∀ a ∈ L, F' a = none := by
  refine ⟨fun a ha o e => ?_, fun a ha => ?_⟩
  · obtain ⟨us, hu⟩ := t a ha
    rw [hu] at e
    cases e
    exact n.kp a _ hu (k a ha) (fun ps z => by cases z)
  · cases q : F' a with
    | none => rfl
    | some o =>
      rcases n.fn a (by rw [q]; simp) with h | h
      · exact absurd (f a ha) h
      · obtain ⟨us, hu⟩ := t a ha
        exact (h.no hu).elim
end PD

namespace PD
open PySem PySem.Spec PyProof.Rows L2

inductive R where
  | ok (w : W) (S : Cs) | exc (n : Str) (S : Cs) | stuck
def R.bnd (r : R) (k : A → Cs → R) : R := match r with
  | .ok w S => match w.toA with
    | some x => k x S
    | none => .stuck
  | .exc n S => .exc n S
  | .stuck => .stuck
abbrev En := List (Option A)
abbrev Fe := En → Cs → R

def RelE (K : PySem.W.Frag) (κ : Kp) (F : Hp) (ρ : En) (σ : L2.St) : Prop := ∀ (i : Nat) (x : A), ρ[i]? = some (some x) → ∃ v, σ[i]? = some (some v) ∧ RepA K κ F v x
structure At (K : PySem.W.Frag) (κ : Kp) (F : Hp) (ρ : En) (S : Cs) (σ : L2.St) (H : Hp) : Prop where
  rel : RelE K κ F ρ σ
  fh : Same F H
  cel : Cel K κ F H S
  ln : ρ.length ≤ σ.length
theorem RelE.up {K : PySem.W.Frag} {κ : Kp} {F F' : Hp} {ρ : En} {σ : L2.St} (r : RelE K κ F ρ σ) (e : Same F F') : RelE K κ F' ρ σ := fun i x h => by
  obtain ⟨v, h1, h2⟩ := r i x h
  exact ⟨v, h1, h2.up e⟩
theorem At.hk {K : PySem.W.Frag} {κ : Kp} {F H : Hp} {ρ : En} {S : Cs} {σ : L2.St} (a : At K κ F ρ S σ H) : ∀ b ∈ κ.l, ¬ FrT H b := fun b hb => by
  exact a.cel.notT hb
def Post (K : PySem.W.Frag) (mg : Str → Option Value) (Z : WX) (κ : Kp) (F H : Hp) (σ : L2.St) (r : R) (Q : VK) : Prop := match r with
  | .ok w S' => ∀ v H' F' L, Nxt κ F H F' H' → Cel K κ F' H' S' → RepW K κ F' H' w v L → L.Nodup → (∀ p ∈ L, FrT H p ∧ F' p = none) → Q v H'
  | .exc n S' => ∀ C H' F', mg n = some (.ref C) → Nxt κ F H F' H' → Cel K κ F' H' S' → Z (.ref C) none σ H'
  | .stuck => False
def tv (K : PySem.W.Frag) (mg : Str → Option Value) (Z : WX) (f : Fe) : TE := fun σ H Q => ∃ κ F ρ S, At K κ F ρ S σ H ∧ Post K mg Z κ F H σ (f ρ S) Q

section
variable {K : PySem.W.Frag} {mg : Str → Option Value} {Z : WX} {κ : Kp} {F H F1 H1 : Hp} {σ : L2.St} {ρ : En} {S : Cs} {Q : VK} {v : V} {x : A}
theorem Post.up {r : R} (h : Post K mg Z κ F H σ r Q) (n : Nxt κ F H F1 H1) : Post K mg Z κ F1 H1 σ r Q := by
  cases r with
  | ok w S' => exact fun v H' F' L a b c d e => h v H' F' L (n.trans a) b c d fun p hp => ⟨n.back (e p hp).1, (e p hp).2⟩
  | exc m S' => exact fun C H' F' g a b => h C H' F' g (n.trans a) b
  | stuck => exact h
theorem Post.mono {r : R} {Q' : VK} (h : Post K mg Z κ F H σ r Q) (k : ∀ v H, Q v H → Q' v H) : Post K mg Z κ F H σ r Q' := by
  cases r with
  | ok w S' => exact fun v H' F' L a b c d e => k _ _ (h v H' F' L a b c d e)
  | exc m S' => exact h
  | stuck => exact h
theorem Post.a (h : Post K mg Z κ F H σ (.ok (.a x) S) Q) (t : At K κ F ρ S σ H) (r : RepA K κ F v x) : Q v H :=
  h v H F [] (.refl t.fh) t.cel ⟨rfl, r⟩ .nil fun _ hp => absurd hp (by simp)
theorem Post.tup {vs : List V} {ds : List D} {p : Addr} (h : Post K mg Z κ F H σ (.ok (.a (.d (.tuple ds))) S) Q) (t : At K κ F ρ S σ H) (r : RepAll K F vs ds) (hp : H p = none) : Q (.ref p) (upd H p (.tup vs)) := by
  have n : Nxt κ F H (upd F p (.tup vs)) (upd H p (.tup vs)) := Nxt.newF t.fh hp
  exact h (.ref p) _ _ [] n (t.cel.newF t.fh hp) ⟨rfl, Rep.tup (.of upd_same) (RepAll.up n.ff _ _ r)⟩ .nil fun _ hp => absurd hp (by simp)
theorem RepAll.ws {F' H' : Hp} (e : Same F F') : ∀ {vs : List V} {ds : List D}, RepAll K F vs ds → RepWs K κ F' H' (ds.map fun d => .a (.d d)) vs []
  | _, _, .nil => ⟨rfl, rfl⟩
  | v :: vs, d :: ds, .cons h t => ⟨v, vs, [], [], rfl, rfl, ⟨rfl, Rep.up e d v h⟩, RepAll.ws e t⟩
def ownD (ds : List D) : W := .own (ds.map fun d => .a (.d d))
theorem Post.lst {vs : List V} {ds : List D} {p : Addr} (h : Post K mg Z κ F H σ (.ok (ownD ds) S) Q) (t : At K κ F ρ S σ H) (r : RepAll K F vs ds) (hp : H p = none) : Q (.ref p) (upd H p (.lst vs)) := by
  have n : Nxt κ F H F (upd H p (.lst vs)) := Nxt.newH t.fh hp
  refine h (.ref p) _ F [p] n (t.cel.newH t.fh hp) ⟨p, vs, [], rfl, upd_same, rfl, RepAll.ws n.ff r⟩ (by simp) fun q hq => ?_
  have e : q = p := by simpa using hq
  subst e
  exact ⟨frT_none hp, t.fh.free hp⟩
theorem At.nxt (t : At K κ F ρ S σ H) {S1 : Cs} (n : Nxt κ F H F1 H1) (c : Cel K κ F1 H1 S1) : At K κ F1 ρ S1 σ H1 := ⟨t.rel.up n.ff, n.fh, c, t.ln⟩

theorem at_tv {f : Fe} (t : At K κ F ρ S σ H) (p : Post K mg Z κ F H σ (f ρ S) Q) : tv K mg Z f σ H Q := ⟨κ, F, ρ, S, t, p⟩
theorem at_bind {fa : Fe} {k : A → Cs → R} (t : At K κ F ρ S σ H) (p : Post K mg Z κ F H σ ((fa ρ S).bnd k) Q) (g : ∀ v H1 F1 S1 x, Nxt κ F H F1 H1 → At K κ F1 ρ S1 σ H1 → RepA K κ F1 v x → Post K mg Z κ F1 H1 σ (k x S1) Q → Q' v H1) :
    tv K mg Z fa σ H Q' := by
  refine ⟨κ, F, ρ, S, t, ?_⟩
  cases q : fa ρ S with
  | stuck => rw [q] at p; exact p
  | exc m S1 => rw [q] at p; exact p
  | ok w S1 =>
    rw [q] at p
    intro v H1 F1 L n c r nd nw
    cases e : w.toA with
    | none => simp only [R.bnd, e] at p; exact p.elim
    | some x =>
      simp only [R.bnd, e] at p
      obtain ⟨F2, n2, c2, r2⟩ := frz_mix n c t.hk r nw e
      exact g v H1 F2 S1 x n2 (t.nxt n2 c2) r2 (p.up n2)

def evs : List Fe → En → Cs → (List A → Cs → R) → R
  | [], _, S, k => k [] S
  | f :: fs, ρ, S, k => (f ρ S).bnd fun x S1 => evs fs ρ S1 fun xs S2 => k (x :: xs) S2
def tvs (K : PySem.W.Frag) (mg : Str → Option Value) (Z : WX) : List Fe → TA
  | [] => tNil
  | f :: fs => tCons (tv K mg Z f) (tvs K mg Z fs)
theorem at_evs : ∀ {fs : List Fe} {F H : Hp} {S : Cs} {k : List A → Cs → R} {Q' : List V → Hp → Prop}, At K κ F ρ S σ H → Post K mg Z κ F H σ (evs fs ρ S k) Q →
    (∀ vs H1 F1 S1 xs, Nxt κ F H F1 H1 → At K κ F1 ρ S1 σ H1 → RepAs K κ F1 vs xs → Post K mg Z κ F1 H1 σ (k xs S1) Q → Q' vs H1) → tvs K mg Z fs σ H Q'
  | [], F, H, S, k, Q', t, p, g => g [] H F S [] (.refl t.fh) t .nil p
  | f :: fs, F, H, S, k, Q', t, p, g => by
    show tCons (tv K mg Z f) (tvs K mg Z fs) σ H Q'
    refine at_bind t p fun v H1 F1 S1 x n1 t1 r1 p1 => ?_
    refine at_evs t1 p1 fun vs H2 F2 S2 xs n2 t2 r2 p2 => ?_
    exact g (v :: vs) H2 F2 S2 (x :: xs) (n1.trans n2) t2 (.cons (r1.up n2.ff) r2) p2
end

abbrev VE (X : Cx) (Z : WX) (e : Expr) (f : Fe) : Prop := PE X e (tv X.K X.mg Z f)
abbrev VA (X : Cx) (Z : WX) (es : List Expr) (fs : List Fe) : Prop := PA X es (tvs X.K X.mg Z fs)
theorem _root_.L2.PE.imp {X : Cx} {e : Expr} {t t' : TE} (h : PE X e t) (i : ∀ σ H Q, t' σ H Q → t σ H Q) : PE X e t' := ⟨fun pins s σ H Q I q => h.run pins s σ H Q I (i σ H Q q)⟩
theorem _root_.L2.PT.imp {X : Cx} {e : Expr} {t t' : TT} (h : PT X e t) (i : ∀ σ H Q, t' σ H Q → t σ H Q) : PT X e t' := ⟨fun pins s σ H Q I q => h.run pins s σ H Q I (i σ H Q q)⟩
theorem _root_.L2.PS.imp {X : Cx} {e : Stmt} {t t' : TS} (h : PS X e t) (i : ∀ D σ H, t' D σ H → t D σ H) : PS X e t' := ⟨fun pins s σ H D I q => h.run pins s σ H D I (i D σ H q)⟩
theorem _root_.L2.PSs.imp {X : Cx} {e : List Stmt} {t t' : TS} (h : PSs X e t) (i : ∀ D σ H, t' D σ H → t D σ H) : PSs X e t' := ⟨fun pins s σ H D I q => h.run pins s σ H D I (i D σ H q)⟩

section
variable {X : Cx} {Z : WX}
theorem va_nil : VA X Z [] [] := pa_nil
theorem va_cons {e : Expr} {es : List Expr} {f : Fe} {fs : List Fe} (h : VE X Z e f) (hs : VA X Z es fs) (he : starEach (e :: es) X.env = (false, eval e X.env) :: starEach es X.env := by rfl) : VA X Z (e :: es) (f :: fs) := pa_cons h hs he

def fVar (i : Nat) : Fe := fun ρ S => match ρ[i]? with
  | some (some x) => .ok (.a x) S
  | _ => .stuck
def fC (d : D) : Fe := fun _ S => .ok (.a (.d d)) S
theorem ve_var (i : Nat) {x : Str} {pos : Pos} (hN : X.N[i]? = some x := by rfl) (hv : Vis X.env.scope x := by first | exact Or.inl rfl | exact Or.inr (Or.inl rfl) | exact Or.inr (Or.inr rfl)) (hd : (x == ("__debug__" : Str)) = false := by decide)
    (hcd : (x == ("__classdict__" : Str)) = false := by decide) : VE X Z (.Name x pos) (fVar i) := (pe_var hN hv hd hcd).imp fun σ H Q h => by
  obtain ⟨κ, F, ρ, S, t, p⟩ := h
  unfold fVar at p
  cases q : ρ[i]? with
  | none => rw [q] at p; exact p.elim
  | some o =>
    cases o with
    | none => rw [q] at p; exact p.elim
    | some y =>
      rw [q] at p
      obtain ⟨v, h1, h2⟩ := t.rel i y q
      exact ⟨v, h1, p.a t h2⟩
theorem ve_c {e : Expr} {v : V} {d : D} (h : PE X e (tC v)) (r : ∀ K F, Rep K F v d) : VE X Z e (fC d) := h.imp fun σ H Q h => by
  obtain ⟨κ, F, ρ, S, t, p⟩ := h
  exact p.a t (show RepA X.K κ F v (.d d) from r X.K F)
theorem ve_int {i : Int} {j : Nat} {pos : Pos} : VE X Z (.Constant (.int i) j pos) (fC (.int i)) := ve_c pe_int fun _ _ => .int i
theorem ve_bl {b : Bool} {j : Nat} {pos : Pos} : VE X Z (.Constant (.bool b) j pos) (fC (.bool b)) := ve_c pe_bl fun _ _ => .bl b
theorem ve_non {j : Nat} {pos : Pos} : VE X Z (.Constant .none j pos) (fC .none) := ve_c pe_non fun _ _ => .non
theorem ve_str {x : Str} {j : Nat} {pos : Pos} : VE X Z (.Constant (.str x) j pos) (fC (.str x)) := ve_c pe_str fun _ _ => .str x

def fBin (g : A → A → Cs → R) (fa fb : Fe) : Fe := fun ρ S => (fa ρ S).bnd fun x S1 => (fb ρ S1).bnd fun y S2 => g x y S2
def OpS (K : PySem.W.Frag) (mg : Str → Option Value) (Z : WX) (r : R2) (g : A → A → Cs → R) : Prop :=
  ∀ κ F ρ S σ H v u x y Q, At K κ F ρ S σ H → RepA K κ F v x → RepA K κ F u y → Post K mg Z κ F H σ (g x y S) Q → r v u H Q
theorem tOp_of {r : R2} {g : A → A → Cs → R} {fa fb : Fe} {K : PySem.W.Frag} {mg : Str → Option Value} (hg : OpS K mg Z r g) {σ : L2.St} {H : Hp} {Q : VK} (h : tv K mg Z (fBin g fa fb) σ H Q) : tOp r (tv K mg Z fa) (tv K mg Z fb) σ H Q := by
  obtain ⟨κ, F, ρ, S, t, p⟩ := h
  refine at_bind t p fun v H1 F1 S1 x n1 t1 r1 p1 => ?_
  refine at_bind t1 p1 fun u H2 F2 S2 y n2 t2 r2 p2 => ?_
  exact hg κ F2 ρ S2 σ H2 v u x y Q t2 (r1.up n2.ff) r2 p2
theorem ve_bin {op : Operator} {r : R2} {g : A → A → Cs → R} {a b : Expr} {fa fb : Fe} {pos : Pos} (ho : OpR X (binaryOp op) r) (hg : OpS X.K X.mg Z r g) (ha : VE X Z a fa) (hb : VE X Z b fb) : VE X Z (.BinOp a op b pos) (fBin g fa fb) :=
  (pe_op ho ha hb).imp fun σ H Q h => tOp_of hg h
theorem ve_cmp {op : CmpOp} {r : R2} {g : A → A → Cs → R} {a b : Expr} {fa fb : Fe} {pos : Pos} (ho : OpR X (compareOp op) r) (hg : OpS X.K X.mg Z r g) (ha : VE X Z a fa) (hb : VE X Z b fb) (hm : behindInMarks op b = false) : VE X Z (.Compare a [op] [b] pos) (fBin g fa fb) :=
  (pe_cmpR ho ha hb hm).imp fun σ H Q h => tOp_of hg h
theorem ve_ix {r : R2} {g : A → A → Cs → R} {a b : Expr} {fa fb : Fe} {pos : Pos} (ho : IxR X r) (hg : OpS X.K X.mg Z r g) (ha : VE X Z a fa) (hb : VE X Z b fb) (hs : PlainIx b) : VE X Z (.Subscript a b pos) (fBin g fa fb) :=
  (pe_ix ho ha hb hs).imp fun σ H Q h => tOp_of hg h
def onD (g : D → D → Option W) : A → A → Cs → R := fun x y S => match x, y with
  | .d x, .d y => match g x y with
    | some w => .ok w S
    | none => .stuck
  | _, _ => .stuck
theorem OpS.onD {K : PySem.W.Frag} {mg : Str → Option Value} {r : R2} {g : D → D → Option W} (h : ∀ κ F ρ S σ H v u x y w Q, At K κ F ρ S σ H → Rep K F v x → Rep K F u y → g x y = some w → Post K mg Z κ F H σ (.ok w S) Q → r v u H Q) : OpS K mg Z r (onD g) := by
  intro κ F ρ S σ H v u x y Q t r1 r2 p
  cases x with
  | c k => exact p.elim
  | s k => exact p.elim
  | e k => exact p.elim
  | d x =>
    cases y with
    | c k => exact p.elim
    | s k => exact p.elim
    | e k => exact p.elim
    | d y =>
      unfold PD.onD at p
      cases q : g x y with
      | none => simp only [q] at p; exact p.elim
      | some w =>
        simp only [q] at p
        exact h κ F ρ S σ H v u x y w Q t r1 r2 q p
def fUn (g : A → Cs → R) (fa : Fe) : Fe := fun ρ S => (fa ρ S).bnd g
def OpS1 (K : PySem.W.Frag) (mg : Str → Option Value) (Z : WX) (r : V → Hp → VK → Prop) (g : A → Cs → R) : Prop :=
  ∀ κ F ρ S σ H v x Q, At K κ F ρ S σ H → RepA K κ F v x → Post K mg Z κ F H σ (g x S) Q → r v H Q
theorem tUn_of {r : V → Hp → VK → Prop} {g : A → Cs → R} {fa : Fe} {K : PySem.W.Frag} {mg : Str → Option Value} (hg : OpS1 K mg Z r g) {σ : L2.St} {H : Hp} {Q : VK} (h : tv K mg Z (fUn g fa) σ H Q) : tv K mg Z fa σ H (fun v H1 => r v H1 Q) := by
  obtain ⟨κ, F, ρ, S, t, p⟩ := h
  refine at_bind t p fun v H1 F1 S1 x n1 t1 r1 p1 => ?_
  exact hg κ F1 ρ S1 σ H1 v x Q t1 r1 p1
def onD1 (g : D → Option W) : A → Cs → R := fun x S => match x with
  | .d x => match g x with
    | some w => .ok w S
    | none => .stuck
  | _ => .stuck
theorem OpS1.onD {K : PySem.W.Frag} {mg : Str → Option Value} {r : V → Hp → VK → Prop} {g : D → Option W} (h : ∀ κ F ρ S σ H v x w Q, At K κ F ρ S σ H → Rep K F v x → g x = some w → Post K mg Z κ F H σ (.ok w S) Q → r v H Q) : OpS1 K mg Z r (onD1 g) := by
  intro κ F ρ S σ H v x Q t r1 p
  cases x with
  | c k => exact p.elim
  | s k => exact p.elim
  | e k => exact p.elim
  | d x =>
    unfold onD1 at p
    cases q : g x with
    | none => simp only [q] at p; exact p.elim
    | some w =>
      simp only [q] at p
      exact h κ F ρ S σ H v x w Q t r1 q p
def fCall (g : List A → Cs → R) (fs : List Fe) : Fe := fun ρ S => evs fs ρ S g
def OpSs (K : PySem.W.Frag) (mg : Str → Option Value) (Z : WX) (r : List V → Hp → VK → Prop) (g : List A → Cs → R) : Prop :=
  ∀ κ F ρ S σ H vs xs Q, At K κ F ρ S σ H → RepAs K κ F vs xs → Post K mg Z κ F H σ (g xs S) Q → r vs H Q
theorem tCB_of {r : List V → Hp → VK → Prop} {g : List A → Cs → R} {fs : List Fe} {K : PySem.W.Frag} {mg : Str → Option Value} (hg : OpSs K mg Z r g) {σ : L2.St} {H : Hp} {Q : VK} (h : tv K mg Z (fCall g fs) σ H Q) : tvs K mg Z fs σ H (fun vs H1 => r vs H1 Q) := by
  obtain ⟨κ, F, ρ, S, t, p⟩ := h
  refine at_evs t p fun vs H1 F1 S1 xs n1 t1 r1 p1 => ?_
  exact hg κ F1 ρ S1 σ H1 vs xs Q t1 r1 p1
theorem ve_callB {id : String} {r : List V → Hp → VK → Prop} {g : List A → Cs → R} {x : Str} {e : Expr} {es : List Expr} {fs : List Fe} {p pos : Pos} (hc : CallR X (.builtin id) r) (hg : OpSs X.K X.mg Z r g) (hx : Gl X x) (hm : X.mg x = none) (hv : bootBuiltins x = some (.builtin id)) (ha : VA X Z (e :: es) fs)
    (hn : x ≠ "__name__" := by decide) (hdb : (x == ("__debug__" : Str)) = false := by decide) (he : starEach (e :: es) X.env = (false, eval e X.env) :: starEach es X.env := by rfl) (hpl : (backTo pos (starEach es X.env)).any (·.1) = false := by rfl) :
    VE X Z (.Call (.Name x p) (e :: es) [] pos) (fCall g fs) := (pe_callB hc hx hm hv ha hn hdb he hpl).imp fun σ H Q h => tCB_of hg h
theorem ve_callTy {T : String} {r : List V → Hp → VK → Prop} {g : List A → Cs → R} {x : Str} {e : Expr} {es : List Expr} {fs : List Fe} {p pos : Pos} (hc : CallR X (.type T) r) (hg : OpSs X.K X.mg Z r g) (hx : Gl X x) (hm : X.mg x = none) (hv : bootBuiltins x = some (.type T)) (ha : VA X Z (e :: es) fs)
    (hn : x ≠ "__name__" := by decide) (hdb : (x == ("__debug__" : Str)) = false := by decide) (he : starEach (e :: es) X.env = (false, eval e X.env) :: starEach es X.env := by rfl) (hpl : (backTo pos (starEach es X.env)).any (·.1) = false := by rfl) :
    VE X Z (.Call (.Name x p) (e :: es) [] pos) (fCall g fs) := (pe_callTy hc hx hm hv ha hn hdb he hpl).imp fun σ H Q h => tCB_of hg h
end

abbrev Sem_ := List A → Cs → R
def spD (K : PySem.W.Frag) (mg : Str → Option Value) (n : Nat) (sem : Sem_) : Sp := fun vs H Q E => vs.length = n ∧ ∃ κ F S xs, Same F H ∧ Cel K κ F H S ∧ RepAs K κ F vs xs ∧ Post K mg (fun cls d _ H' => E cls d H') κ F H [] (sem xs S) Q
theorem Post.zx {K : PySem.W.Frag} {mg : Str → Option Value} {Z Z' : WX} {κ : Kp} {F H : Hp} {σ σ' : L2.St} {r : R} {Q : VK} (h : Post K mg Z κ F H σ r Q) (k : ∀ c d H', Z c d σ H' → Z' c d σ' H') : Post K mg Z' κ F H σ' r Q := by
  cases r with
  | ok w S' => exact h
  | exc m S' => exact fun C H' F' g a b => k _ _ _ (h C H' F' g a b)
  | stuck => exact h
section
variable {X : Cx} {Z : WX} {CX : CXT} {k : Nat} {f : Addr} {fd : FuncData} {ps : List Str} {x : Str} {e : Expr} {es : List Expr} {fs : List Fe} {p pos : Pos} {n : Nat} {sem : Sem_}
theorem ve_call (G : FnOk X.prog X.w X.K X.mg X.base (L2.CX X.prog X.w) k f fd ps (spD X.K X.mg n sem)) (hr : Room k X.A) (tk : Takes X Z) (hx : Gl X x) (hm : X.mg x = some (.ref f)) (hk : PySem.W.keepIn X.K (.ref f) = true) (hb : Binds X.K fd ps []) (ha : VA X Z (e :: es) fs) (hn : fs.length = n := by rfl)
    (hdb : (x == ("__debug__" : Str)) = false := by decide) (he : starEach (e :: es) X.env = (false, eval e X.env) :: starEach es X.env := by rfl) (hpl : (backTo pos (starEach es X.env)).any (·.1) = false := by rfl) :
    VE X Z (.Call (.Name x p) (e :: es) [] pos) (fCall sem fs) := by
  refine (pe_callS G hr hx hm hk hb (fun σ => passAt tk σ) ha hdb he hpl).imp fun σ H Q h => ?_
  obtain ⟨κ, F, ρ, S, t, q⟩ := h
  show tvs X.K X.mg Z fs σ H _
  have hl : ∀ {fs : List Fe} {F H : Hp} {S : Cs} {k : List A → Cs → R} {Q' : List V → Hp → Prop}, At X.K κ F ρ S σ H → Post X.K X.mg Z κ F H σ (evs fs ρ S k) Q →
    (∀ vs H1 F1 S1 xs, Nxt κ F H F1 H1 → At X.K κ F1 ρ S1 σ H1 → RepAs X.K κ F1 vs xs → xs.length = fs.length → Post X.K X.mg Z κ F1 H1 σ (k xs S1) Q → Q' vs H1) → tvs X.K X.mg Z fs σ H Q' := by
    intro fs
    induction fs with
    | nil => exact fun t p g => g [] _ _ _ [] (.refl t.fh) t .nil rfl p
    | cons f fs ih =>
      intro F H S k Q' t p g
      refine at_bind t p fun v H1 F1 S1 x n1 t1 r1 p1 => ?_
      refine ih t1 p1 fun vs H2 F2 S2 xs n2 t2 r2 l2 p2 => ?_
      exact g (v :: vs) H2 F2 S2 (x :: xs) (n1.trans n2) t2 (.cons (r1.up n2.ff) r2) (congrArg (· + 1) l2) p2
  refine hl t q fun vs H1 F1 S1 xs n1 t1 r1 l1 p1 => ?_
  exact ⟨r1.len.trans (l1.trans hn), κ, F1, S1, xs, t1.fh, t1.cel, r1, p1.zx fun c d H' z => z⟩
end
end PD

namespace PD
open PySem PySem.Spec PyProof.Rows L2

abbrev bD (b : Bool) : W := .a (.d (.bool b))
abbrev iD (i : Int) : W := .a (.d (.int i))
abbrev sD (x : Str) : W := .a (.d (.str x))
abbrev nD : W := .a (.d .none)

section
variable {K : PySem.W.Frag} {F H : Hp} {κ : Kp} {mg : Str → Option Value} {Z : WX} {ρ : En} {S : Cs} {σ : L2.St} {Q : VK} {v u : V}
theorem Rep.intv {i : Int} (r : Rep K F v (.int i)) : v = .int i := by cases r; rfl
theorem Rep.strv {i : Str} (r : Rep K F v (.str i)) : v = .str i := by cases r; rfl
theorem Rep.blv {i : Bool} (r : Rep K F v (.bool i)) : v = .bl i := by cases r; rfl
theorem Rep.nonv (r : Rep K F v .none) : v = .non := by cases r; rfl
theorem Rep.tupv {ds : List D} (r : Rep K F v (.tuple ds)) : ∃ a vs, v = .ref a ∧ SqT K F a vs ∧ RepAll K F vs ds := by cases r with | tup h t => exact ⟨_, _, rfl, h, t⟩
theorem Rep.lstv {ds : List D} (r : Rep K F v (.list ds)) : ∃ a vs, v = .ref a ∧ F a = some (.lst vs) ∧ RepAll K F vs ds := by cases r with | lst h t => exact ⟨_, _, rfl, h, t⟩
theorem Post.int {i : Int} (h : Post K mg Z κ F H σ (.ok (iD i) S) Q) (t : At K κ F ρ S σ H) : Q (.int i) H := h.a t (show RepA K κ F (.int i) (.d (.int i)) from Rep.int i)
theorem Post.str {x : Str} (h : Post K mg Z κ F H σ (.ok (sD x) S) Q) (t : At K κ F ρ S σ H) : Q (.str x) H := h.a t (show RepA K κ F (.str x) (.d (.str x)) from Rep.str x)
theorem Post.bl {b : Bool} (h : Post K mg Z κ F H σ (.ok (bD b) S) Q) (t : At K κ F ρ S σ H) : Q (.bl b) H := h.a t (show RepA K κ F (.bl b) (.d (.bool b)) from Rep.bl b)
theorem Post.non (h : Post K mg Z κ F H σ (.ok nD S) Q) (t : At K κ F ρ S σ H) : Q .non H := h.a t (show RepA K κ F .non (.d .none) from Rep.non)
end

def dAdd : D → D → Option W
  | .int i, .int j => some (iD (i + j))
  | .str x, .str y => if x.length + y.length ≤ sizeLine then some (sD (x ++ y)) else none
  | .list xs, .list ys => if xs.length + ys.length ≤ sizeLine then some (ownD (xs ++ ys)) else none
  | .tuple xs, .tuple ys => if xs.length + ys.length ≤ sizeLine then some (.a (.d (.tuple (xs ++ ys)))) else none
  | _, _ => none
section
variable {X : Cx} {Z : WX}
def rAddAll (K : PySem.W.Frag) : R2 := fun x y H Q => (((∃ i j, x = .int i ∧ y = .int j ∧ Q (.int (i + j)) H) ∨ (∃ i j, x = .str i ∧ y = .str j ∧ i.length + j.length ≤ sizeLine ∧ Q (.str (i ++ j)) H)) ∨ rCat x y H Q) ∨ rCatA K x y H Q
theorem opr_add : OpR X (binaryOp .Add) (rAddAll X.K) := ((op_add.or op_add_str).or op_cat).or op_catA
theorem ops_add : OpS X.K X.mg Z (rAddAll X.K) (onD dAdd) := OpS.onD fun κ F ρ S σ H v u x y w Q t r1 r2 e p => by
  cases x <;> cases y <;> (try (exact nomatch (show (none : Option W) = some w from e)))
  · cases e
    rw [r1.intv, r2.intv]
    exact .inl (.inl (.inl ⟨_, _, rfl, rfl, p.int t⟩))
  · simp only [dAdd] at e
    split at e
    · rename_i h
      cases e
      rw [r1.strv, r2.strv]
      exact .inl (.inl (.inr ⟨_, _, rfl, rfl, h, p.str t⟩))
    · cases e
  · simp only [dAdd] at e
    split at e
    · rename_i h
      cases e
      obtain ⟨a, vs, rfl, h1, q1⟩ := r1.lstv
      obtain ⟨b, us, rfl, h2, q2⟩ := r2.lstv
      refine .inl (.inr ⟨a, b, vs, us, rfl, rfl, t.fh _ _ h1, t.fh _ _ h2, by rw [q1.len, q2.len]; exact h, fun l hl => ?_⟩)
      exact p.lst t (q1.app q2) hl
    · cases e
  · simp only [dAdd] at e
    split at e
    · rename_i h
      cases e
      obtain ⟨a, vs, rfl, h1, q1⟩ := r1.tupv
      obtain ⟨b, us, rfl, h2, q2⟩ := r2.tupv
      refine .inr ⟨a, b, vs, us, rfl, rfl, Same.seqT t.fh h1, Same.seqT t.fh h2, by rw [q1.len, q2.len]; exact h, fun z => ?_, fun _ z => ?_, fun _ _ l hl => p.tup t (q1.app q2) hl⟩
      · subst z
        cases q1
        exact p.a t (show Rep X.K F _ _ from .tup h2 q2)
      · subst z
        cases q2
        rw [List.append_nil] at p
        exact p.a t (show Rep X.K F _ _ from .tup h1 q1)
    · cases e
theorem ve_add {a b : Expr} {fa fb : Fe} {pos : Pos} (ha : VE X Z a fa) (hb : VE X Z b fb) : VE X Z (.BinOp a .Add b pos) (fBin (onD dAdd) fa fb) := ve_bin opr_add ops_add ha hb

def dI (C : Int → Int → Bool) (g : Int → Int → Int) : D → D → Option W
  | .int i, .int j => if C i j = true then some (iD (g i j)) else none
  | _, _ => none
theorem ops_int {C : Int → Int → Bool} {g : Int → Int → Int} {C' : Int → Int → Prop} {K : PySem.W.Frag} {mg : Str → Option Value} (h : ∀ i j, C i j = true → C' i j) : OpS K mg Z (rI C' fun i j => .int (g i j)) (onD (dI C g)) := OpS.onD fun κ F ρ S σ H v u x y w Q t r1 r2 e p => by
  cases x <;> cases y <;> (try (exact nomatch (show (none : Option W) = some w from e)))
  simp only [dI] at e
  split at e
  · rename_i hc
    cases e
    rw [r1.intv, r2.intv]
    exact ⟨_, _, rfl, rfl, h _ _ hc, p.int t⟩
  · cases e
theorem ops_int0 {g : Int → Int → Int} {K : PySem.W.Frag} {mg : Str → Option Value} : OpS K mg Z (rI0 fun i j => .int (g i j)) (onD (dI (fun _ _ => true) g)) := OpS.onD fun κ F ρ S σ H v u x y w Q t r1 r2 e p => by
  cases x <;> cases y <;> (try (exact nomatch (show (none : Option W) = some w from e)))
  cases e
  rw [r1.intv, r2.intv]
  exact ⟨_, _, rfl, rfl, p.int t⟩
def dSub := dI (fun _ _ => true) fun i j => i - j
def dMod := dI (fun _ j => decide (0 < j)) fun i j => i % j
def dDiv := dI (fun _ j => decide (0 < j ∧ j < 1073741824)) fun i j => i / j
def dPow := dI (fun i j => decide (0 ≤ j ∧ j ≤ 1000000 ∧ i.natAbs < 2 ^ 64)) fun i j => i ^ j.toNat
def dShl := dI (fun i j => decide (0 ≤ j ∧ j ≤ 1000000 ∧ i.natAbs < 2 ^ 64)) fun i j => i * 2 ^ j.toNat
def dShr := dI (fun _ j => decide (0 ≤ j)) fun i j => i / 2 ^ j.toNat
def dBAnd := dI (fun _ _ => true) fun i j => Builtin.bitAnd i j
def dBOr := dI (fun _ _ => true) fun i j => Builtin.bitOr i j
def dBXor := dI (fun _ _ => true) fun i j => Builtin.bitXor i j
section
variable {a b : Expr} {fa fb : Fe} {pos : Pos}
theorem ve_sub (ha : VE X Z a fa) (hb : VE X Z b fb) : VE X Z (.BinOp a .Sub b pos) (fBin (onD dSub) fa fb) := ve_bin op_sub ops_int0 ha hb
theorem ve_mod (ha : VE X Z a fa) (hb : VE X Z b fb) : VE X Z (.BinOp a .Mod b pos) (fBin (onD dMod) fa fb) := ve_bin op_mod (ops_int fun _ _ h => by have q := of_decide_eq_true h; exact q) ha hb
theorem ve_div (ha : VE X Z a fa) (hb : VE X Z b fb) : VE X Z (.BinOp a .FloorDiv b pos) (fBin (onD dDiv) fa fb) := ve_bin op_fdiv (ops_int fun _ _ h => by have q := of_decide_eq_true h; exact q) ha hb
theorem ve_pow (ha : VE X Z a fa) (hb : VE X Z b fb) : VE X Z (.BinOp a .Pow b pos) (fBin (onD dPow) fa fb) := ve_bin op_pow (ops_int fun _ _ h => by have q := of_decide_eq_true h; exact q) ha hb
theorem ve_shl (ha : VE X Z a fa) (hb : VE X Z b fb) : VE X Z (.BinOp a .LShift b pos) (fBin (onD dShl) fa fb) := ve_bin op_shl (ops_int fun _ _ h => by have q := of_decide_eq_true h; exact q) ha hb
theorem ve_shr (ha : VE X Z a fa) (hb : VE X Z b fb) : VE X Z (.BinOp a .RShift b pos) (fBin (onD dShr) fa fb) := ve_bin op_shr (ops_int fun _ _ h => by have q := of_decide_eq_true h; exact q) ha hb
theorem ve_band (ha : VE X Z a fa) (hb : VE X Z b fb) : VE X Z (.BinOp a .BitAnd b pos) (fBin (onD dBAnd) fa fb) := ve_bin op_and ops_int0 ha hb
theorem ve_bor (ha : VE X Z a fa) (hb : VE X Z b fb) : VE X Z (.BinOp a .BitOr b pos) (fBin (onD dBOr) fa fb) := ve_bin op_or ops_int0 ha hb
theorem ve_bxor (ha : VE X Z a fa) (hb : VE X Z b fb) : VE X Z (.BinOp a .BitXor b pos) (fBin (onD dBXor) fa fb) := ve_bin op_xor ops_int0 ha hb
end
def rMulS : R2 := fun x y H Q => ∃ z n, x = .str z ∧ y = .int n ∧ 0 ≤ n ∧ n ≤ 1000 ∧ z.length ≤ 1000 ∧ Q (.str ⟨(List.replicate n.toNat z.cps.toList).flatten.toArray⟩) H
theorem rep_fold (z : Str) : ∀ (k : Nat) (acc : Array Nat), (List.replicate k z.cps).foldl (· ++ ·) acc = acc ++ (List.replicate k z.cps.toList).flatten.toArray
  | 0, acc => by simp
  | k + 1, acc => by
    rw [List.replicate_succ, List.foldl_cons, rep_fold z k, List.replicate_succ, List.flatten_cons]
    apply Array.toList_inj.mp
    simp
theorem op_mulS : OpR X (binaryOp .Mult) rMulS := by
  intro pins s σ H x y v u Q I rx ry h
  obtain ⟨z, n, rfl, rfl, h0, h1, hz, q⟩ := h
  obtain ⟨t, rfl⟩ := rx
  obtain ⟨t', rfl⟩ := ry
  have hsz : ∀ k : Nat, (List.replicate k z.cps.toList).flatten.length = k * z.length := fun k => by
    rw [PyProof.Rows.lm_len_rep_flat]; rfl
  refine PySem.P.mul_str ?_ (fun h2 _ => ?_) (fun h2 _ => ?_) ?_
  · rw [decide_eq_false (show ¬ n < -(2 ^ 63) by omega), decide_eq_false (show ¬ n ≥ 2 ^ 63 by omega)]
    rfl
  · intro h3
    have h4 : (2 ^ 63 - 1) / 1000 ≤ (2 ^ 63 - 1) / n := by
      rw [Int.le_ediv_iff_mul_le (by omega)]
      have : (2 ^ 63 - 1) / 1000 * n ≤ (2 ^ 63 - 1) / 1000 * 1000 := Int.mul_le_mul_of_nonneg_left h1 (by decide)
      omega
    omega
  · have h3 : z.length * n.toNat ≤ 1000 * 1000 := Nat.mul_le_mul hz (by omega)
    unfold Builtin.Str.tooLong
    first
      | exact decide_eq_false (by rw [sizeLine_eq]; omega)
      | (simp only [decide_eq_false_iff_not, sizeLine_eq]; omega)
  · split
    · rename_i h2
      have e : n = 0 := by omega
      subst e
      have e2 : Str.empty = ⟨(List.replicate (0 : Int).toNat z.cps.toList).flatten.toArray⟩ := by simp [Str.empty]
      rw [e2]
      first
        | exact ⟨.str _, H, I.tok _, ⟨_, rfl⟩, q⟩
        | exact ⟨by simp [Str.length], ⟨.str _, H, I.tok _, ⟨_, rfl⟩, q⟩⟩
    · split
      · rename_i h2 h3
        have e2 : z = ⟨(List.replicate n.toNat z.cps.toList).flatten.toArray⟩ := by
          rcases (Bool.or_eq_true _ _).mp h3 with h4 | h4
          · have e : n = 1 := by simpa using h4
            subst e
            simp
          · have e : z.length = 0 := by simpa using h4
            have e3 : z.cps.toList = [] := List.eq_nil_of_length_eq_zero (by simpa [Str.length] using e)
            apply Str.ext'
            apply Array.toList_inj.mp
            rw [e3]
            simp
        rw [← e2] at q
        exact ⟨.str z, H, I, ⟨_, rfl⟩, q⟩
      · rw [rep_fold z n.toNat #[]]
        have e2 : (#[] : Array Nat) ++ (List.replicate n.toNat z.cps.toList).flatten.toArray = (List.replicate n.toNat z.cps.toList).flatten.toArray := by simp
        rw [e2]
        first
          | exact ⟨.str _, H, I.tok _, ⟨_, rfl⟩, q⟩
          | (refine ⟨?_, ⟨.str _, H, I.tok _, ⟨_, rfl⟩, q⟩⟩
             show (List.replicate n.toNat z.cps.toList).flatten.toArray.size ≤ _
             rw [List.size_toArray, hsz]
             have h3 : n.toNat * z.length ≤ 1000 * 1000 := Nat.mul_le_mul (by omega) hz
             rw [sizeLine_eq]
             omega)
end
end PD

namespace PD
open PySem PySem.Spec PyProof.Rows L2
section
variable {X : Cx} {Z : WX}
def dMul : D → D → Option W
  | .int i, .int j => if (-(2 ^ 64) < i ∧ i < 2 ^ 64) ∨ (-(2 ^ 64) < j ∧ j < 2 ^ 64) then some (iD (i * j)) else none
  | .str z, .int n => if 0 ≤ n ∧ n ≤ 1000 ∧ z.length ≤ 1000 then some (sD ⟨(List.replicate n.toNat z.cps.toList).flatten.toArray⟩) else none
  | .tuple ds, .int n => if ds ≠ [] ∧ 2 ≤ n ∧ n ≤ 1000 ∧ ds.length ≤ 1000 then some (.a (.d (.tuple (List.replicate n.toNat ds).flatten))) else none
  | .list ds, .int n => if 0 ≤ n ∧ n ≤ 1000 ∧ ds.length ≤ 1000 then some (ownD (List.replicate n.toNat ds).flatten) else none
  | _, _ => none
theorem RepAll.rep {K : PySem.W.Frag} {F : Hp} {vs : List V} {ds : List D} (h : RepAll K F vs ds) : ∀ k : Nat, RepAll K F (List.replicate k vs).flatten (List.replicate k ds).flatten
  | 0 => .nil
  | k + 1 => by
    rw [List.replicate_succ, List.flatten_cons, List.replicate_succ, List.flatten_cons]
    exact h.app (RepAll.rep h k)
theorem opr_mul : OpR X (binaryOp .Mult) (fun x y H Q => ((rI CMul (fun i j => .int (i * j)) x y H Q ∨ rMulS x y H Q) ∨ rRepT X.K x y H Q) ∨ rRep x y H Q) := ((op_mul.or op_mulS).or op_repT).or op_rep
theorem ops_mul : OpS X.K X.mg Z (fun x y H Q => ((rI CMul (fun i j => .int (i * j)) x y H Q ∨ rMulS x y H Q) ∨ rRepT X.K x y H Q) ∨ rRep x y H Q) (onD dMul) := OpS.onD fun κ F ρ S σ H v u x y w Q t r1 r2 e p => by
  cases x <;> cases y <;> (try (exact nomatch (show (none : Option W) = some w from e)))
  · simp only [dMul] at e
    split at e
    · rename_i h
      cases e
      rw [r1.intv, r2.intv]
      exact .inl (.inl (.inl ⟨_, _, rfl, rfl, h, p.int t⟩))
    · cases e
  · simp only [dMul] at e
    split at e
    · rename_i h
      cases e
      rw [r1.strv, r2.intv]
      exact .inl (.inl (.inr ⟨_, _, rfl, rfl, h.1, h.2.1, h.2.2, p.str t⟩))
    · cases e
  · simp only [dMul] at e
    split at e
    · rename_i ds0 n0 h
      cases e
      obtain ⟨a, vs, rfl, h1, q1⟩ := r1.lstv
      rw [r2.intv]
      refine .inr ⟨a, _, vs, rfl, rfl, t.fh _ _ h1, by omega, by omega, ?_, fun l hl => p.lst t (q1.rep _) hl⟩
      rw [q1.len, sizeLine_eq]
      have h3 := Nat.mul_le_mul h.2.2 (show (Int.toNat n0) ≤ 1000 from by have := h.2.1; omega)
      omega
    · cases e
  · simp only [dMul] at e
    split at e
    · rename_i h
      cases e
      obtain ⟨a, vs, rfl, h1, q1⟩ := r1.tupv
      rw [r2.intv]
      refine .inl (.inr ⟨a, _, vs, rfl, rfl, Same.seqT t.fh h1, fun z => h.1 ?_, h.2.1, h.2.2.1, by rw [q1.len]; exact h.2.2.2, fun l hl => p.tup t (q1.rep _) hl⟩)
      subst z
      cases q1
      rfl
    · cases e
theorem ve_mul {a b : Expr} {fa fb : Fe} {pos : Pos} (ha : VE X Z a fa) (hb : VE X Z b fb) : VE X Z (.BinOp a .Mult b pos) (fBin (onD dMul) fa fb) := ve_bin opr_mul ops_mul ha hb

def flatD : D → Bool
  | .none | .bool _ | .int _ | .str _ => true
  | _ => false
def eqOk (x y : D) : Bool := (flatD x && flatD y) || (SeqAt.shaped x && SeqAt.shaped y)
def dEq (x y : D) : Option W := if eqOk x y = true then some (bD (PyData.eqv x y)) else none
def dNe (x y : D) : Option W := if eqOk x y = true then some (bD (!PyData.eqv x y)) else none
mutual
theorem Rep.dp {K : PySem.W.Frag} {F H : Hp} (e : Same F H) : ∀ (d : D) (v : V), d.canLay0 = true → Rep K F v d → Dp K H v d
  | .none, _, _, .non => .non
  | .bool _, _, _, .bl b => .bl b
  | .int _, _, _, .int i => .int i
  | .str _, _, _, .str x => .str x
  | .list ds, _, h, .lst q r => .lst (.of (e _ _ q)) (RepAll.dp e ds _ (by simpa [PyData.canLay0] using h) r)
  | .tuple ds, _, h, .tup q r => .tup (Same.seqT e q) (RepAll.dp e ds _ (by simpa [PyData.canLay0] using h) r)
  | .dict _, _, h, _ => by simp [PyData.canLay0] at h
theorem RepAll.dp {K : PySem.W.Frag} {F H : Hp} (e : Same F H) : ∀ (ds : List D) (vs : List V), PyData.canLayAll0 ds = true → RepAll K F vs ds → DpAll K H vs ds
  | _, _, _, .nil => .nil
  | d :: ds, _, h, .cons q r => by
    have h' : d.canLay0 = true ∧ PyData.canLayAll0 ds = true := by simpa [PyData.canLayAll0] using h
    exact .cons (Rep.dp e d _ h'.1 q) (RepAll.dp e ds _ h'.2 r)
end
theorem Rep.flat {K : PySem.W.Frag} {F : Hp} {v : V} : ∀ {d : D}, flatD d = true → Rep K F v d → flatV v = true
  | .none, _, .non => rfl
  | .bool _, _, .bl _ => rfl
  | .int _, _, .int _ => rfl
  | .str _, _, .str _ => rfl
theorem eqv_flat {K : PySem.W.Frag} {F : Hp} {v u : V} : ∀ {x y : D}, flatD x = true → flatD y = true → Rep K F v x → Rep K F u y → eqV v u = PyData.eqv x y
  | .none, y, _, fy, .non, r => by cases r <;> first | rfl | cases fy
  | .bool _, y, _, fy, .bl _, r => by cases r <;> first | rfl | cases fy
  | .int _, y, _, fy, .int _, r => by cases r <;> first | rfl | cases fy
  | .str _, y, _, fy, .str _, r => by cases r <;> first | rfl | cases fy
theorem op_eqF (hu : X.A.units + 64 < cLine) : OpR X (compareOp .Eq) (fun x y H Q => flatV x = true ∧ flatV y = true ∧ Q (.bl (eqV x y)) H) := by
  intro pins s σ H x y v u Q I rx ry h
  obtain ⟨fx, fy, q⟩ := h
  have viaD : ∀ d e, Dp X.K H x d → Dp X.K H y e → SeqAt.shaped d = true → SeqAt.shaped e = true → eqV x y = PyData.eqv d e → wpAny (model X.prog X.w) X.A (compareOp .Eq v u) (EP X pins σ Q) X.xe s := fun d e h1 h2 h3 h4 h5 =>
    op_eqD hu pins s σ H x y v u Q I rx ry ⟨d, e, h1, h2, h3, h4, by rw [← h5]; exact q⟩
  have viaS : scal x y = true → eqV x y = decide (x = y) → wpAny (model X.prog X.w) X.A (compareOp .Eq v u) (EP X pins σ Q) X.xe s := fun h1 h2 =>
    op_eq pins s σ H x y v u Q I rx ry ⟨h1, by rw [← h2]; exact q⟩
  cases x <;> cases y <;> first
    | exact absurd (show false = true from fx) Bool.false_ne_true
    | exact absurd (show false = true from fy) Bool.false_ne_true
    | exact viaS rfl rfl
    | exact viaS rfl dec_int.symm
    | exact viaS rfl dec_bl.symm
    | exact viaS rfl dec_str.symm
    | exact viaS rfl (by simp [eqV])
    | exact viaD _ _ (.bl _) (.int _) rfl rfl rfl
    | exact viaD _ _ (.int _) (.bl _) rfl rfl rfl
theorem op_neF (hu : X.A.units + 64 < cLine) : OpR X (compareOp .NotEq) (fun x y H Q => flatV x = true ∧ flatV y = true ∧ Q (.bl (!eqV x y)) H) := by
  intro pins s σ H x y v u Q I rx ry h
  obtain ⟨fx, fy, q⟩ := h
  have viaD : ∀ d e, Dp X.K H x d → Dp X.K H y e → SeqAt.shaped d = true → SeqAt.shaped e = true → eqV x y = PyData.eqv d e → wpAny (model X.prog X.w) X.A (compareOp .NotEq v u) (EP X pins σ Q) X.xe s := fun d e h1 h2 h3 h4 h5 =>
    op_neD hu pins s σ H x y v u Q I rx ry ⟨d, e, h1, h2, h3, h4, by rw [← h5]; exact q⟩
  have viaS : scal x y = true → eqV x y = decide (x = y) → wpAny (model X.prog X.w) X.A (compareOp .NotEq v u) (EP X pins σ Q) X.xe s := fun h1 h2 =>
    op_ne pins s σ H x y v u Q I rx ry ⟨h1, by rw [← h2]; exact q⟩
  cases x <;> cases y <;> first
    | exact absurd (show false = true from fx) Bool.false_ne_true
    | exact absurd (show false = true from fy) Bool.false_ne_true
    | exact viaS rfl rfl
    | exact viaS rfl dec_int.symm
    | exact viaS rfl dec_bl.symm
    | exact viaS rfl dec_str.symm
    | exact viaS rfl (by simp [eqV])
    | exact viaD _ _ (.bl _) (.int _) rfl rfl rfl
    | exact viaD _ _ (.int _) (.bl _) rfl rfl rfl
def CmpV (X : Cx) (Z : WX) (op : CmpOp) (g : A → A → Cs → R) : Prop := ∃ r : R2, OpR X (compareOp op) r ∧ OpS X.K X.mg Z r g
theorem ve_cv {op : CmpOp} {g : A → A → Cs → R} {a b : Expr} {fa fb : Fe} {pos : Pos} (h : CmpV X Z op g) (ha : VE X Z a fa) (hb : VE X Z b fb) (hm : behindInMarks op b = false := by first | exact nomark _ | rfl) : VE X Z (.Compare a [op] [b] pos) (fBin g fa fb) := by
  obtain ⟨r, h1, h2⟩ := h
  exact ve_cmp h1 h2 ha hb hm
theorem vt_cv {op : CmpOp} {g : A → A → Cs → R} {a b : Expr} {fa fb : Fe} {pos : Pos} (h : CmpV X Z op g) (ha : VE X Z a fa) (hb : VE X Z b fb) (hm : behindInMarks op b = false := by first | exact nomark _ | rfl) : PT X (.Compare a [op] [b] pos) (tB (tv X.K X.mg Z (fBin g fa fb))) := by
  obtain ⟨r, h1, h2⟩ := h
  exact (pt_cmpR h1 ha hb hm).imp fun σ H Q h => tOp_of h2 h
theorem cv_eq {k : Nat} (hr : Room k X.A) : CmpV X Z .Eq (onD dEq) := ⟨_, ((op_eqF hr.units).or (op_eqD hr.units)), (OpS.onD fun κ F ρ S σ H v u x y w Q t r1 r2 e p => by
    unfold dEq at e
    split at e
    · rename_i h
      cases e
      unfold eqOk at h
      by_cases hf : (flatD x && flatD y) = true
      · rw [Bool.and_eq_true] at hf
        refine .inl ⟨Rep.flat hf.1 r1, Rep.flat hf.2 r2, ?_⟩
        rw [eqv_flat hf.1 hf.2 r1 r2]
        exact p.bl t
      · rw [Bool.eq_false_iff.mpr hf, Bool.false_or, Bool.and_eq_true] at h
        exact .inr ⟨x, y, Rep.dp t.fh x v (SeqAt.canLay_of_shaped h.1) r1, Rep.dp t.fh y u (SeqAt.canLay_of_shaped h.2) r2, h.1, h.2, p.bl t⟩
    · cases e)⟩
theorem cv_ne {k : Nat} (hr : Room k X.A) : CmpV X Z .NotEq (onD dNe) := ⟨_, ((op_neF hr.units).or (op_neD hr.units)), (OpS.onD fun κ F ρ S σ H v u x y w Q t r1 r2 e p => by
    unfold dNe at e
    split at e
    · rename_i h
      cases e
      unfold eqOk at h
      by_cases hf : (flatD x && flatD y) = true
      · rw [Bool.and_eq_true] at hf
        refine .inl ⟨Rep.flat hf.1 r1, Rep.flat hf.2 r2, ?_⟩
        rw [eqv_flat hf.1 hf.2 r1 r2]
        exact p.bl t
      · rw [Bool.eq_false_iff.mpr hf, Bool.false_or, Bool.and_eq_true] at h
        exact .inr ⟨x, y, Rep.dp t.fh x v (SeqAt.canLay_of_shaped h.1) r1, Rep.dp t.fh y u (SeqAt.canLay_of_shaped h.2) r2, h.1, h.2, p.bl t⟩
    · cases e)⟩
def dCmp (g : Int → Int → Bool) : D → D → Option W
  | .int i, .int j => some (bD (g i j))
  | _, _ => none
def dLt : D → D → Option W
  | .int i, .int j => some (bD (decide (i < j)))
  | .str x, .str y => some (bD (decide (x.cps.toList < y.cps.toList)))
  | _, _ => none
theorem ops_cmp {g : Int → Int → Bool} {K : PySem.W.Frag} {mg : Str → Option Value} : OpS K mg Z (rI0 fun i j => .bl (g i j)) (onD (dCmp g)) := OpS.onD fun κ F ρ S σ H v u x y w Q t r1 r2 e p => by
  cases x <;> cases y <;> (try (exact nomatch (show (none : Option W) = some w from e)))
  cases e
  rw [r1.intv, r2.intv]
  exact ⟨_, _, rfl, rfl, p.bl t⟩
theorem ops_lt {K : PySem.W.Frag} {mg : Str → Option Value} : OpS K mg Z (fun x y H Q => rI0 (fun i j => .bl (decide (i < j))) x y H Q ∨ ∃ i j, x = .str i ∧ y = .str j ∧ Q (.bl (decide (i.cps.toList < j.cps.toList))) H) (onD dLt) := OpS.onD fun κ F ρ S σ H v u x y w Q t r1 r2 e p => by
  cases x <;> cases y <;> (try (exact nomatch (show (none : Option W) = some w from e)))
  · cases e
    rw [r1.intv, r2.intv]
    exact .inl ⟨_, _, rfl, rfl, p.bl t⟩
  · cases e
    rw [r1.strv, r2.strv]
    exact .inr ⟨_, _, rfl, rfl, p.bl t⟩
abbrev dLe := dCmp fun i j => decide (i ≤ j)
abbrev dGt := dCmp fun i j => decide (j < i)
abbrev dGe := dCmp fun i j => decide (j ≤ i)
section
variable {a b c : Expr} {fa fb fc : Fe} {pos : Pos}
theorem cv_lt : CmpV X Z .Lt (onD dLt) := ⟨_, (op_lt.or op_lt_str), ops_lt⟩
theorem cv_ge : CmpV X Z .GtE (onD dGe) := ⟨_, op_ge, ops_cmp⟩
def fChain (g g' : A → A → Cs → R) (fa fb fc : Fe) : Fe := fun ρ S => (fa ρ S).bnd fun x S1 => (fb ρ S1).bnd fun y S2 => (g x y S2).bnd fun z S3 => match z with
  | .d (.bool true) => (fc ρ S3).bnd fun w S4 => g' y w S4
  | .d (.bool false) => .ok (bD false) S3
  | _ => .stuck
def dIsN : A → A → Cs → R := fun x y S => match y with
  | .d .none => match x with
    | .d .none => .ok (bD true) S
    | _ => .ok (bD false) S
  | _ => .stuck
def dNotN : A → A → Cs → R := fun x y S => match y with
  | .d .none => match x with
    | .d .none => .ok (bD false) S
    | _ => .ok (bD true) S
  | _ => .stuck
theorem isN_of {K : PySem.W.Frag} {κ : Kp} {F : Hp} {v : V} : ∀ {x : A}, RepA K κ F v x → x ≠ .d .none → v ≠ .non
  | .d x, r, h => by
    rintro rfl
    exact h (by cases (show Rep K F .non x from r); rfl)
  | .c k, r, _ => by
    obtain ⟨a, _, e, _⟩ := r
    rw [e]; simp
  | .s k, r, _ => by
    obtain ⟨a, e, _⟩ := r
    rw [e]; simp
  | .e k, r, _ => by
    obtain ⟨a, e⟩ := RepT.ref r
    rw [e]; simp
theorem ops_isN {K : PySem.W.Frag} {mg : Str → Option Value} : OpS K mg Z (fun x y H Q => y = .non ∧ Q (.bl (decide (x = .non))) H) dIsN := fun κ F ρ S σ H v u x y Q t r1 r2 p => by
  unfold dIsN at p
  split at p
  · refine ⟨Rep.nonv r2, ?_⟩
    split at p
    · rw [Rep.nonv r1]
      exact p.bl t
    · rename_i h
      rw [decide_eq_false (isN_of r1 fun z => h z)]
      exact p.bl t
  · exact p.elim
theorem cv_isN : CmpV X Z .Is dIsN := ⟨_, op_isN, ops_isN⟩
def flatAll (ds : List D) : Bool := ds.all flatD
def inD (x : D) (ds : List D) : Bool := ds.any fun y => PyData.eqv y x
def dIn : D → D → Option W
  | .str x, .str y => if x.length = 1 then some (bD (decide (x.cps.toList.headD 0 ∈ y.cps.toList))) else none
  | x, .list ds => if (flatD x && flatAll ds) = true then some (bD (inD x ds)) else if (SeqAt.shaped x && SeqAt.shaped (.list ds)) = true then some (bD (inD x ds)) else none
  | x, .tuple ds => if (flatD x && flatAll ds) = true then some (bD (inD x ds)) else none
  | _, _ => none
def notW : Option W → Option W
  | some (.a (.d (.bool b))) => some (bD (!b))
  | _ => none
def dNotIn (x y : D) : Option W := notW (dIn x y)
theorem RepAll.flat {K : PySem.W.Frag} {F : Hp} : ∀ {vs : List V} {ds : List D}, flatAll ds = true → RepAll K F vs ds → vs.all flatV = true
  | _, _, _, .nil => rfl
  | v :: vs, d :: ds, f, .cons r t => by
    have f' : flatD d = true ∧ flatAll ds = true := by simpa [flatAll] using f
    rw [List.all_cons, Rep.flat f'.1 r, RepAll.flat f'.2 t]
    rfl
theorem inV_flat {K : PySem.W.Frag} {F : Hp} {v : V} {x : D} (fx : flatD x = true) (r : Rep K F v x) : ∀ {vs : List V} {ds : List D}, flatAll ds = true → RepAll K F vs ds → inV v vs = inD x ds
  | _, _, _, .nil => rfl
  | u :: vs, d :: ds, f, .cons q t => by
    have f' : flatD d = true ∧ flatAll ds = true := by simpa [flatAll] using f
    unfold inV inD
    rw [List.any_cons, List.any_cons, eqv_flat f'.1 fx q r]
    have := inV_flat fx r f'.2 t
    unfold inV inD at this
    rw [this]
def rInAll (K : PySem.W.Frag) (neg : Bool) : R2 := fun x y H Q => ((∃ (c : Nat) (z : Str), x = .str ⟨#[c]⟩ ∧ y = .str z ∧ Q (.bl (if neg = true then !decide (c ∈ z.cps.toList) else decide (c ∈ z.cps.toList))) H) ∨ rIn K neg x y H Q) ∨
  (∃ d ds, Dp K H x d ∧ Dp K H y (.list ds) ∧ SeqAt.shaped d = true ∧ SeqAt.shaped (.list ds) = true ∧ Q (.bl (if neg = true then !inD d ds else inD d ds)) H)
theorem one_cp {x : Str} (h : x.length = 1) : x = ⟨#[x.cps.toList.headD 0]⟩ := by
  apply Str.ext'
  apply Array.toList_inj.mp
  have hl : x.cps.toList.length = 1 := by simpa [Str.length] using h
  obtain ⟨c, e⟩ := List.length_eq_one_iff.mp hl
  rw [e]
  rfl
theorem ops_in (neg : Bool) {K : PySem.W.Frag} {mg : Str → Option Value} : OpS K mg Z (rInAll K neg) (onD (if neg = true then dNotIn else dIn)) := OpS.onD fun κ F ρ S σ H v u x y w Q t r1 r2 e p => by
  have key : ∀ b, dIn x y = some (bD b) → (Q (.bl (if neg = true then !b else b)) H) := fun b hb => by
    cases neg with
    | true =>
      have e2 : some (bD (!b)) = some w := by
        have e3 : dNotIn x y = some w := e
        unfold dNotIn at e3
        rw [hb] at e3
        exact e3
      cases e2
      exact p.bl t
    | false =>
      have e3 : dIn x y = some w := e
      rw [hb] at e3
      cases e3
      exact p.bl t
  have bad : dIn x y = none → rInAll K neg v u H Q := fun hb => by
    cases neg with
    | true =>
      have e3 : dNotIn x y = some w := e
      unfold dNotIn at e3
      rw [hb] at e3
      cases e3
    | false =>
      have e3 : dIn x y = some w := e
      rw [hb] at e3
      cases e3
  have onL : ∀ ds, y = .list ds → rInAll K neg v u H Q := fun ds hy => by
    subst hy
    obtain ⟨a, us, rfl, h1, q1⟩ := r2.lstv
    by_cases hf : (flatD x && flatAll ds) = true
    · have hd : dIn x (.list ds) = some (bD (inD x ds)) := by unfold dIn; cases x <;> first | exact if_pos hf | (split <;> simp_all)
      rw [Bool.and_eq_true] at hf
      have q := key _ hd
      rw [← inV_flat hf.1 r1 hf.2 q1] at q
      exact .inl (.inr ⟨a, us, rfl, .inl (.of (t.fh _ _ h1)), Rep.flat hf.1 r1, RepAll.flat hf.2 q1, q⟩)
    · by_cases hs : (SeqAt.shaped x && SeqAt.shaped (.list ds)) = true
      · have hd : dIn x (.list ds) = some (bD (inD x ds)) := by unfold dIn; cases x <;> exact (if_neg hf).trans (if_pos hs)
        rw [Bool.and_eq_true] at hs
        exact .inr ⟨x, ds, Rep.dp t.fh x v (SeqAt.canLay_of_shaped hs.1) r1, Rep.dp t.fh (.list ds) _ (SeqAt.canLay_of_shaped hs.2) r2, hs.1, hs.2, key _ hd⟩
      · exact bad (by unfold dIn; cases x <;> exact (if_neg hf).trans (if_neg hs))
  have onT : ∀ ds, y = .tuple ds → rInAll K neg v u H Q := fun ds hy => by
    subst hy
    obtain ⟨a, us, rfl, h1, q1⟩ := r2.tupv
    by_cases hf : (flatD x && flatAll ds) = true
    · have hd : dIn x (.tuple ds) = some (bD (inD x ds)) := by unfold dIn; cases x <;> exact if_pos hf
      rw [Bool.and_eq_true] at hf
      have q := key _ hd
      rw [← inV_flat hf.1 r1 hf.2 q1] at q
      exact .inl (.inr ⟨a, us, rfl, .inr (Same.seqT t.fh h1), Rep.flat hf.1 r1, RepAll.flat hf.2 q1, q⟩)
    · exact bad (by unfold dIn; cases x <;> exact if_neg hf)
  cases y with
  | list ds => exact onL ds rfl
  | tuple ds => exact onT ds rfl
  | str z =>
    cases x with
    | str x =>
      by_cases h1 : x.length = 1
      · have hd : dIn (.str x) (.str z) = some (bD (decide (x.cps.toList.headD 0 ∈ z.cps.toList))) := if_pos h1
        have q := key _ hd
        refine .inl (.inl ⟨x.cps.toList.headD 0, z, ?_, r2.strv, q⟩)
        rw [r1.strv]
        exact congrArg V.str (one_cp h1)
      · exact bad (if_neg h1)
    | _ => exact bad rfl
  | _ => cases x <;> exact bad rfl
theorem cv_in {k : Nat} (hr : Room k X.A) : CmpV X Z .In (onD dIn) := by
  have hu : X.A.units + 65 < cLine := by have := hr.un; omega
  exact ⟨rInAll X.K false, (op_in_sign.or op_in_seq).or (op_inD hu), ops_in false⟩
theorem cv_notIn {k : Nat} (hr : Room k X.A) : CmpV X Z .NotIn (onD dNotIn) := by
  have hu : X.A.units + 65 < cLine := by have := hr.un; omega
  exact ⟨rInAll X.K true, (op_notIn_sign.or op_notIn_seq).or (op_notInD hu), ops_in true⟩
end
end
end PD

namespace PD
open PySem PySem.Spec PyProof.Rows L2
section
variable {X : Cx} {Z : WX}
abbrev VT (X : Cx) (Z : WX) (e : Expr) (f : Fe) : Prop := PT X e (tB (tv X.K X.mg Z f))
theorem vt_val {e : Expr} {f : Fe} (h : VE X Z e f) (he : ∀ whole, isTrue e X.env whole = (do let v ← whole; standAt e.pos; holding [v] (truthy v)) := by intro _; rfl) : VT X Z e f := pt_val h he
def R.br (r : R) (a b : Cs → R) : R := r.bnd fun x S => match x with
  | .d (.bool true) => a S
  | .d (.bool false) => b S
  | _ => .stuck
theorem R.br_tt {w : W} {S : Cs} {a b : Cs → R} (h : w = bD true) : (R.ok w S).br a b = a S := by subst h; rfl
theorem at_br {K : PySem.W.Frag} {mg : Str → Option Value} {κ : Kp} {F H : Hp} {ρ : En} {S : Cs} {σ : L2.St} {fa : Fe} {ka kb : Cs → R} {Q : VK} {Q' : Bool → Hp → Prop} (t : At K κ F ρ S σ H) (p : Post K mg Z κ F H σ ((fa ρ S).br ka kb) Q)
    (g : ∀ b H1 F1 S1, Nxt κ F H F1 H1 → At K κ F1 ρ S1 σ H1 → Post K mg Z κ F1 H1 σ (if b = true then ka S1 else kb S1) Q → Q' b H1) : tB (tv K mg Z fa) σ H Q' := by
  refine at_bind t p fun v H1 F1 S1 x n1 t1 r1 p1 => ?_
  match x, r1, p1 with
  | .d (.bool true), r, p => exact ⟨true, Rep.blv r, g true H1 F1 S1 n1 t1 (by rw [if_pos rfl]; exact p)⟩
  | .d (.bool false), r, p => exact ⟨false, Rep.blv r, g false H1 F1 S1 n1 t1 (by rw [if_neg Bool.false_ne_true]; exact p)⟩
  | .d .none, _, p => exact p.elim
  | .d (.int _), _, p => exact p.elim
  | .d (.str _), _, p => exact p.elim
  | .d (.list _), _, p => exact p.elim
  | .d (.tuple _), _, p => exact p.elim
  | .d (.dict _), _, p => exact p.elim
  | .c _, _, p => exact p.elim
  | .s _, _, p => exact p.elim
  | .e _, _, p => exact p.elim
def fAnd (fa fb : Fe) : Fe := fun ρ S => (fa ρ S).br (fun S1 => (fb ρ S1).br (fun S2 => .ok (bD true) S2) (fun S2 => .ok (bD false) S2)) (fun S1 => .ok (bD false) S1)
def fOr (fa fb : Fe) : Fe := fun ρ S => (fa ρ S).br (fun S1 => .ok (bD true) S1) (fun S1 => (fb ρ S1).br (fun S2 => .ok (bD true) S2) (fun S2 => .ok (bD false) S2))
def fNot (fa : Fe) : Fe := fun ρ S => (fa ρ S).br (fun S1 => .ok (bD false) S1) (fun S1 => .ok (bD true) S1)
def fIf (fc fa fb : Fe) : Fe := fun ρ S => (fc ρ S).br (fa ρ) (fb ρ)
section
variable {a b c : Expr} {fa fb fc : Fe} {pos : Pos} {rest : List Expr}
theorem ve_one {op : BoolOp} (h : VE X Z a fa) : VE X Z (.BoolOp op [a] pos) fa := pe_one h
theorem br_end {K : PySem.W.Frag} {mg : Str → Option Value} {κ : Kp} {F H : Hp} {ρ : En} {S : Cs} {σ : L2.St} {fa : Fe} {Q : VK} (t : At K κ F ρ S σ H) (p : Post K mg Z κ F H σ ((fa ρ S).br (fun S2 => .ok (bD true) S2) (fun S2 => .ok (bD false) S2)) Q) : tv K mg Z fa σ H Q := by
  obtain ⟨κ', F', ρ', S', t', p'⟩ := (at_br (Q' := fun b H1 => Q (.bl b) H1) t p fun b H1 F1 S1 n1 t1 p1 => by
    cases b with
    | true => exact Post.bl (by rw [if_pos rfl] at p1; exact p1) t1
    | false => exact Post.bl (by rw [if_neg Bool.false_ne_true] at p1; exact p1) t1 : tB (tv K mg Z fa) σ H fun b H1 => Q (.bl b) H1)
  exact ⟨κ', F', ρ', S', t', p'.mono fun v H1 ⟨b, e, q⟩ => by rw [e]; exact q⟩
theorem ve_and (ha : VE X Z a fa) (hb : VE X Z (.BoolOp .And (b :: rest) pos) fb) : VE X Z (.BoolOp .And (a :: b :: rest) pos) (fAnd fa fb) := (pe_and ha hb).imp fun σ H Q h => by
  obtain ⟨κ, F, ρ, S, t, p⟩ := h
  have q : tB (tv X.K X.mg Z fa) σ H fun c H1 => if c = true then tv X.K X.mg Z fb σ H1 Q else Q (.bl false) H1 := at_br t p fun b H1 F1 S1 n1 t1 p1 => by
    cases b with
    | true => exact iteT (br_end t1 (by rw [if_pos rfl] at p1; exact p1))
    | false => exact iteF (Post.bl (by rw [if_neg Bool.false_ne_true] at p1; exact p1) t1)
  exact q
theorem ve_or (ha : VE X Z a fa) (hb : VE X Z (.BoolOp .Or (b :: rest) pos) fb) : VE X Z (.BoolOp .Or (a :: b :: rest) pos) (fOr fa fb) := (pe_or ha hb).imp fun σ H Q h => by
  obtain ⟨κ, F, ρ, S, t, p⟩ := h
  have q : tB (tv X.K X.mg Z fa) σ H fun c H1 => if c = true then Q (.bl true) H1 else tv X.K X.mg Z fb σ H1 Q := at_br t p fun b H1 F1 S1 n1 t1 p1 => by
    cases b with
    | true => exact iteT (Post.bl (by rw [if_pos rfl] at p1; exact p1) t1)
    | false => exact iteF (br_end t1 (by rw [if_neg Bool.false_ne_true] at p1; exact p1))
  exact q
theorem ve_not (ha : VE X Z a fa) : VE X Z (.UnaryOp .Not a pos) (fNot fa) := (pe_not ha).imp fun σ H Q h => by
  obtain ⟨κ, F, ρ, S, t, p⟩ := h
  have q : tB (tv X.K X.mg Z fa) σ H fun c H1 => Q (.bl (!c)) H1 := at_br t p fun b H1 F1 S1 n1 t1 p1 => by
    cases b with
    | true => exact Post.bl (b := false) (by rw [if_pos rfl] at p1; exact p1) t1
    | false => exact Post.bl (b := true) (by rw [if_neg Bool.false_ne_true] at p1; exact p1) t1
  exact q
theorem ve_if (hc : VT X Z c fc) (ha : VE X Z a fa) (hb : VE X Z b fb) : VE X Z (.IfExp c a b pos) (fIf fc fa fb) := (pe_ifExp hc ha hb).imp fun σ H Q h => by
  obtain ⟨κ, F, ρ, S, t, p⟩ := h
  exact at_br t p fun b H1 F1 S1 n1 t1 p1 => by
    cases b with
    | true => exact iteT (at_tv t1 (by rw [if_pos rfl] at p1; exact p1))
    | false => exact iteF (at_tv t1 (by rw [if_neg Bool.false_ne_true] at p1; exact p1))
abbrev VW (X : Cx) (Z : WX) (e : Expr) (f : Fe) : Prop := PW X e (tB (tv X.K X.mg Z f))
theorem br_endT {K : PySem.W.Frag} {mg : Str → Option Value} {κ : Kp} {F H : Hp} {ρ : En} {S : Cs} {σ : L2.St} {fa : Fe} {Q : Bool → Hp → Prop} (t : At K κ F ρ S σ H) (p : Post K mg Z κ F H σ ((fa ρ S).br (fun S2 => .ok (bD true) S2) (fun S2 => .ok (bD false) S2)) fun v H1 => ∃ c, v = .bl c ∧ Q c H1) : tB (tv K mg Z fa) σ H Q := br_end t p
theorem vw_or1 (ha : VT X Z a fa) : VW X Z (.BoolOp .Or [a] pos) fa := pw_or1 ha
theorem _root_.L2.PW.imp {X : Cx} {e : Expr} {t t' : TT} (h : PW X e t) (i : ∀ σ H Q, t' σ H Q → t σ H Q) : PW X e t' := ⟨fun wh pins s σ H Q I q => h.run wh pins s σ H Q I (i σ H Q q)⟩
theorem vw_or (ha : VT X Z a fa) (hb : VW X Z (.BoolOp .Or (b :: rest) pos) fb) : VW X Z (.BoolOp .Or (a :: b :: rest) pos) (fOr fa fb) := (pw_or ha hb).imp fun σ H Q h => by
  obtain ⟨κ, F, ρ, S, t, p⟩ := h
  exact at_br t p fun b H1 F1 S1 n1 t1 p1 => by
    cases b with
    | true =>
      have q : ∃ c, V.bl true = .bl c ∧ Q c H1 := Post.bl (by rw [if_pos rfl] at p1; exact p1) t1
      obtain ⟨c, e, q⟩ := q
      cases e
      exact iteT q
    | false => exact iteF (br_endT t1 (by rw [if_neg Bool.false_ne_true] at p1; exact p1))
theorem vt_not (ha : VT X Z a fa) : VT X Z (.UnaryOp .Not a pos) (fNot fa) := (pt_not ha).imp fun σ H Q h => by
  obtain ⟨κ, F, ρ, S, t, p⟩ := h
  exact at_br t p fun b H1 F1 S1 n1 t1 p1 => by
    cases b with
    | true =>
      have q : ∃ c, V.bl false = .bl c ∧ Q c H1 := Post.bl (by rw [if_pos rfl] at p1; exact p1) t1
      obtain ⟨c, e, q⟩ := q
      cases e
      exact q
    | false =>
      have q : ∃ c, V.bl true = .bl c ∧ Q c H1 := Post.bl (by rw [if_neg Bool.false_ne_true] at p1; exact p1) t1
      obtain ⟨c, e, q⟩ := q
      cases e
      exact q
end
section
variable {K : PySem.W.Frag} {mg : Str → Option Value} {κ : Kp} {ρ : En} {σ : L2.St} {Q : VK}
def evsW : List Fe → En → Cs → (List W → Cs → R) → R
  | [], _, S, k => k [] S
  | f :: fs, ρ, S, k => match f ρ S with
    | .ok w S1 => evsW fs ρ S1 fun ws S2 => k (w :: ws) S2
    | .exc n S1 => .exc n S1
    | .stuck => .stuck
theorem at_evsW {F0 H0 : Hp} : ∀ {fs : List Fe} {F H : Hp} {S : Cs} {k : List W → Cs → R} {Q' : List V → Hp → Prop}, Nxt κ F0 H0 F H → At K κ F ρ S σ H → Post K mg Z κ F0 H0 σ (evsW fs ρ S k) Q →
    (∀ vs H1 F1 S1 ws L, Nxt κ F H F1 H1 → At K κ F1 ρ S1 σ H1 → RepWs K κ F1 H1 ws vs L → L.Nodup → (∀ p ∈ L, FrT H p ∧ F1 p = none) → vs.length = fs.length → Post K mg Z κ F0 H0 σ (k ws S1) Q → Q' vs H1) → tvs K mg Z fs σ H Q'
  | [], F, H, S, k, Q', n0, t, p, g => g [] H F S [] [] (.refl t.fh) t ⟨rfl, rfl⟩ .nil (fun _ h => absurd h (by simp)) rfl p
  | f :: fs, F, H, S, k, Q', n0, t, p, g => by
    show tCons (tv K mg Z f) (tvs K mg Z fs) σ H Q'
    refine ⟨κ, F, ρ, S, t, ?_⟩
    unfold evsW at p
    cases q : f ρ S with
    | stuck => rw [q] at p; exact p
    | exc m S1 =>
      rw [q] at p
      exact fun C H' F' a b c => p C H' F' a (n0.trans b) c
    | ok w S1 =>
      rw [q] at p
      intro v H1 F1 L n c r nd nw
      have t1 := t.nxt n c
      refine at_evsW (n0.trans n) t1 p fun vs H2 F2 S2 ws L2 n2 t2 r2 nd2 nw2 l2 p2 => ?_
      have th := RepW.there w v L r
      obtain ⟨kL, fz⟩ := n2.own th (fun a ha => (nw a ha).2) (fun a ha z => t.hk a z (nw a ha).1)
      refine g (v :: vs) H2 F2 S2 (w :: ws) (L ++ L2) (n.trans n2) t2 ⟨v, vs, L, L2, rfl, rfl, RepW.up n2.ff w v L kL r, r2⟩ (List.nodup_append.mpr ⟨nd, nd2, fun a ha b hb => ?_⟩) (fun a ha => ?_) (congrArg (· + 1) l2) p2
      · rintro rfl
        have h1 := (nw2 a hb).1
        obtain ⟨us, hu⟩ := th a ha
        exact h1.no hu
      · rcases List.mem_append.mp ha with h | h
        · exact ⟨(nw a h).1, fz a h⟩
        · exact ⟨n.back (nw2 a h).1, (nw2 a h).2⟩
end
end
end PD

namespace PD
open PySem PySem.Spec PyProof.Rows L2
def allD : List A → Option (List D)
  | [] => some []
  | .d x :: xs => (allD xs).map (x :: ·)
  | _ :: _ => none
theorem RepAs.all {K : PySem.W.Frag} {κ : Kp} {F : Hp} : ∀ {vs : List V} {xs : List A} {ds : List D}, RepAs K κ F vs xs → allD xs = some ds → RepAll K F vs ds
  | _, _, _, .nil, e => by cases e; exact .nil
  | _, .d x :: xs, ds, .cons r t, e => by
    cases q : allD xs with
    | none => simp [allD, q] at e
    | some es =>
      simp [allD, q] at e
      subst e
      exact .cons r (RepAs.all t q)
  | _, .c _ :: _, _, .cons _ _, e => by cases e
  | _, .s _ :: _, _, .cons _ _, e => by cases e
  | _, .e _ :: _, _, .cons _ _, e => by cases e
section
variable {X : Cx} {Z : WX}
def fTup (fs : List Fe) : Fe := fun ρ S => evs fs ρ S fun xs S1 => match allD xs with
  | some ds => .ok (.a (.d (.tuple ds))) S1
  | none => .stuck
def fLst (fs : List Fe) : Fe := fun ρ S => evsW fs ρ S fun ws S1 => .ok (.own ws) S1
theorem evs_len {K : PySem.W.Frag} {mg : Str → Option Value} {κ : Kp} {ρ : En} {σ : L2.St} {Q : VK} : ∀ {fs : List Fe} {F H : Hp} {S : Cs} {k : List A → Cs → R} {Q' : List V → Hp → Prop}, At K κ F ρ S σ H → Post K mg Z κ F H σ (evs fs ρ S k) Q →
    (∀ vs H1 F1 S1 xs, Nxt κ F H F1 H1 → At K κ F1 ρ S1 σ H1 → RepAs K κ F1 vs xs → vs.length = fs.length → Post K mg Z κ F1 H1 σ (k xs S1) Q → Q' vs H1) → tvs K mg Z fs σ H Q'
  | [], F, H, S, k, Q', t, p, g => g [] H F S [] (.refl t.fh) t .nil rfl p
  | f :: fs, F, H, S, k, Q', t, p, g => by
    show tCons (tv K mg Z f) (tvs K mg Z fs) σ H Q'
    refine at_bind t p fun v H1 F1 S1 x n1 t1 r1 p1 => ?_
    refine evs_len t1 p1 fun vs H2 F2 S2 xs n2 t2 r2 l2 p2 => ?_
    exact g (v :: vs) H2 F2 S2 (x :: xs) (n1.trans n2) t2 (.cons (r1.up n2.ff) r2) (congrArg (· + 1) l2) p2
theorem ve_tup {es : List Expr} {fs : List Fe} {k : Nat} {pos : Pos} (h : VA X Z es fs) (hl : fs.length ≤ 1000 := by decide) : VE X Z (.Tuple es k pos) (fTup fs) := (pe_tup h).imp fun σ H Q q => by
  obtain ⟨κ, F, ρ, S, t, p⟩ := q
  refine evs_len t p fun vs H1 F1 S1 xs n1 t1 r1 l1 p1 => ⟨Nat.le_of_lt (small1000 (l1 ▸ hl)), fun l hn => ?_⟩
  cases e : allD xs with
  | none => simp only [e] at p1; exact p1.elim
  | some ds =>
    simp only [e] at p1
    exact p1.tup t1 (r1.all e) hn
theorem ve_lst {es : List Expr} {fs : List Fe} {pos : Pos} (h : VA X Z es fs) (hl : fs.length ≤ 1000 := by decide) : VE X Z (.List es pos) (fLst fs) := (pe_lst h).imp fun σ H Q q => by
  obtain ⟨κ, F, ρ, S, t, p⟩ := q
  refine at_evsW (.refl t.fh) t p fun vs H1 F1 S1 ws L n1 t1 r1 nd1 nw1 l1 p1 => ⟨Nat.le_of_lt (small1000 (l1 ▸ hl)), fun l hn => ?_⟩
  have n2 : Nxt κ F1 H1 F1 (upd H1 l (.lst vs)) := Nxt.newH t1.fh hn
  refine p1 (.ref l) _ F1 (l :: L) (n1.trans n2) (t1.cel.newH t1.fh hn) ⟨l, vs, L, rfl, upd_same, rfl, RepWs.up n2.ff ws vs L (fun a ha o e => ?_) r1⟩ (List.nodup_cons.mpr ⟨fun ha => ?_, nd1⟩) fun a ha => ?_
  · rw [upd_ne (ne_of_none e hn)]; exact e
  · obtain ⟨us, hu⟩ := RepWs.there ws vs L r1 l ha
    rw [hu] at hn; cases hn
  · rcases List.mem_cons.mp ha with rfl | ha
    · exact ⟨n1.back (frT_none hn), t1.fh.free hn⟩
    · exact nw1 a ha
def dIx : A → A → Cs → R := fun x y S => match x, y with
  | .d (.list ds), .d (.int i) => match atI ds i with
    | some d => .ok (.a (.d d)) S
    | none => .stuck
  | .d (.tuple ds), .d (.int i) => match atI ds i with
    | some d => .ok (.a (.d d)) S
    | none => .stuck
  | .d (.str z), .d (.int i) => if z.length ≤ sizeLine then match atI z.cps.toList i with
    | some c => .ok (sD ⟨#[c]⟩) S
    | none => .stuck else .stuck
  | .s ns, .d (.int i) => match atI ns i with
    | some n => .ok (iD n) S
    | none => .stuck
  | .c k, .d (.int i) => match S[k]? with
    | some ds => match atI ds i with
      | some d => .ok (.a (.d d)) S
      | none => .stuck
    | none => .stuck
  | _, _ => .stuck
theorem RepAll.atI {K : PySem.W.Frag} {F : Hp} {vs : List V} {ds : List D} {i : Int} {d : D} (r : RepAll K F vs ds) (e : L2.atI ds i = some d) : ∃ v, L2.atI vs i = some v ∧ Rep K F v d := by
  unfold L2.atI at e ⊢
  rw [r.len]
  cases q : ixN ds.length i with
  | none => rw [q] at e; cases e
  | some j =>
    rw [q] at e
    exact RepAll.get r (show ds[j]? = some d from e)
theorem atI_map {α β : Type} {f : α → β} {xs : List α} {i : Int} {x : α} (e : L2.atI xs i = some x) : L2.atI (xs.map f) i = some (f x) := by
  unfold L2.atI at e ⊢
  rw [List.length_map]
  cases q : ixN xs.length i with
  | none => rw [q] at e; cases e
  | some j =>
    rw [q] at e
    show (xs.map f)[j]? = some (f x)
    rw [List.getElem?_map, show xs[j]? = some x from e]
    rfl
theorem ops_ix {K : PySem.W.Frag} {mg : Str → Option Value} : OpS K mg Z (rIx K) dIx := fun κ F ρ S σ H v u x y Q t r1 r2 p => by
  unfold dIx at p
  split at p
  · split at p
    · rename_i e
      obtain ⟨a, vs, rfl, h, q⟩ := Rep.lstv r1
      obtain ⟨w, h1, h2⟩ := q.atI e
      rw [Rep.intv r2]
      exact .inl ⟨a, vs, _, w, rfl, rfl, .of (t.fh _ _ h), h1, p.a t h2⟩
    · exact p.elim
  · split at p
    · rename_i e
      obtain ⟨a, vs, rfl, h, q⟩ := Rep.tupv r1
      obtain ⟨w, h1, h2⟩ := q.atI e
      rw [Rep.intv r2]
      exact .inr (.inl ⟨a, vs, _, w, rfl, rfl, Same.seqT t.fh h, h1, p.a t h2⟩)
    · exact p.elim
  · split at p
    · rename_i hz
      split at p
      · rename_i c e
        rw [Rep.strv r1, Rep.intv r2]
        exact .inr (.inr ⟨_, _, c, rfl, rfl, hz, e, p.str t⟩)
      · exact p.elim
    · exact p.elim
  · split at p
    · rename_i e
      obtain ⟨a, rfl, h⟩ := r1
      rw [Rep.intv r2]
      exact .inl ⟨a, _, _, _, rfl, rfl, t.fh.seq h, atI_map e, p.int t⟩
    · exact p.elim
  · split at p
    · rename_i e
      split at p
      · rename_i e2
        obtain ⟨a, ha, rfl, haM⟩ := r1
        obtain ⟨vs, h1, h2⟩ := (t.cel.cl _ a _ ha e).lstN haM
        obtain ⟨w, h3, h4⟩ := h2.atI e2
        rw [Rep.intv r2]
        exact .inl ⟨a, vs, _, w, rfl, rfl, .of h1, h3, p.a t h4⟩
      · exact p.elim
    · exact p.elim
  · exact p.elim
theorem ve_at {a b : Expr} {fa fb : Fe} {pos : Pos} (ha : VE X Z a fa) (hb : VE X Z b fb) (hs : PlainIx b := by intro _ _; rfl) : VE X Z (.Subscript a b pos) (fBin dIx fa fb) := ve_ix ix_seq ops_ix ha hb hs
def cutD (ds : List D) (lo hi : Option Int) : List D := (ds.drop (HT.sIx ds.length 0 lo)).take (HT.sIx ds.length ds.length hi - HT.sIx ds.length 0 lo)
def dSl (lo hi : Option Int) : D → Option W
  | .list ds => some (ownD (cutD ds lo hi))
  | .tuple ds => some (.a (.d (.tuple (cutD ds lo hi))))
  | .str z => if z.length ≤ sizeLine then some (sD (cutS z lo hi)) else none
  | _ => none
theorem RepAll.cut {K : PySem.W.Frag} {F : Hp} {vs : List V} {ds : List D} {lo hi : Option Int} (r : RepAll K F vs ds) : RepAll K F (cutV vs lo hi) (cutD ds lo hi) := by
  unfold cutV cutD
  rw [r.len]
  exact (r.drop _).take _
theorem cutD_whole {ds : List D} {lo hi : Option Int} (h : HT.sIx ds.length 0 lo = 0 ∧ HT.sIx ds.length ds.length hi = ds.length) : cutD ds lo hi = ds := by
  unfold cutD
  rw [h.1, h.2]
  simp
def optI : Option Fe → En → Cs → (Option Int → Cs → R) → R
  | none, _, S, k => k none S
  | some f, ρ, S, k => (f ρ S).bnd fun x S1 => match x with
    | .d (.int i) => k (some i) S1
    | _ => .stuck
def fSl (fa : Fe) (lo hi : Option Fe) : Fe := fun ρ S => (fa ρ S).bnd fun x S1 => optI lo ρ S1 fun l S2 => optI hi ρ S2 fun h S3 => onD1 (dSl l h) x S3
def tvo (K : PySem.W.Frag) (mg : Str → Option Value) (Z : WX) : Option Fe → TO
  | none => tNoPart
  | some f => tPart (tv K mg Z f)
abbrev VO (X : Cx) (Z : WX) (e : Option Expr) (f : Option Fe) : Prop := PO X e (tvo X.K X.mg Z f)
theorem vo_none : VO X Z none none := po_none
theorem vo_some {e : Expr} {f : Fe} (h : VE X Z e f) : VO X Z (some e) (some f) := po_some h
theorem at_opt {K : PySem.W.Frag} {mg : Str → Option Value} {κ : Kp} {F H : Hp} {ρ : En} {S : Cs} {σ : L2.St} {Q : VK} {Q' : Option Int → Hp → Prop} {o : Option Fe} {k : Option Int → Cs → R} (t : At K κ F ρ S σ H) (p : Post K mg Z κ F H σ (optI o ρ S k) Q)
    (g : ∀ i H1 F1 S1, Nxt κ F H F1 H1 → At K κ F1 ρ S1 σ H1 → Post K mg Z κ F1 H1 σ (k i S1) Q → Q' i H1) : tvo K mg Z o σ H Q' := by
  cases o with
  | none => exact g none H F S (.refl t.fh) t p
  | some f =>
    refine at_bind t p fun v H1 F1 S1 x n1 t1 r1 p1 => ?_
    match x, r1, p1 with
    | .d (.int i), r, p => exact ⟨i, Rep.intv r, g (some i) H1 F1 S1 n1 t1 p⟩
    | .d (.bool _), _, p => exact p.elim
    | .d .none, _, p => exact p.elim
    | .d (.str _), _, p => exact p.elim
    | .d (.list _), _, p => exact p.elim
    | .d (.tuple _), _, p => exact p.elim
    | .d (.dict _), _, p => exact p.elim
    | .c _, _, p => exact p.elim
    | .s _, _, p => exact p.elim
    | .e _, _, p => exact p.elim
theorem ve_sl {a : Expr} {lo hi : Option Expr} {fa : Fe} {fl fh : Option Fe} {p2 pos : Pos} (ha : VE X Z a fa) (hl : VO X Z lo fl) (hh : VO X Z hi fh) : VE X Z (.Subscript a (.Slice lo hi none p2) pos) (fSl fa fl fh) :=
  (pe_slice ((sl_list.or sl_tupA).or sl_str) ha hl hh).imp fun σ H Q q => by
    obtain ⟨κ, F, ρ, S, t, p⟩ := q
    refine at_bind t p fun v H1 F1 S1 x n1 t1 r1 p1 => ?_
    refine at_opt t1 p1 fun l H2 F2 S2 n2 t2 p2 => ?_
    refine at_opt t2 p2 fun h H3 F3 S3 n3 t3 p3 => ?_
    have r3 := (r1.up n2.ff).up n3.ff
    cases x with
    | c k => exact p3.elim
    | s k => exact p3.elim
    | e k => exact p3.elim
    | d x =>
      unfold onD1 at p3
      cases x with
      | list ds =>
        obtain ⟨a, vs, rfl, h1, h2⟩ := Rep.lstv r3
        exact .inl (.inl ⟨a, vs, rfl, .of (t3.fh _ _ h1), fun l hn => Post.lst p3 t3 h2.cut hn⟩)
      | tuple ds =>
        obtain ⟨a, vs, rfl, h1, h2⟩ := Rep.tupv r3
        refine .inl (.inr ⟨a, vs, rfl, Same.seqT t3.fh h1, fun z => ?_, fun _ l hn => Post.tup p3 t3 h2.cut hn⟩)
        rw [h2.len] at z
        have p4 := p3
        simp only [dSl, cutD_whole z] at p4
        exact Post.a p4 t3 r3
      | str z =>
        simp only [dSl] at p3
        by_cases hz : z.length ≤ sizeLine
        · rw [if_pos hz] at p3
          rw [Rep.strv r3]
          exact .inr ⟨z, rfl, hz, Post.str p3 t3⟩
        · rw [if_neg hz] at p3
          exact p3.elim
      | _ => exact p3.elim
end
end PD

namespace PD
open PySem PySem.Spec PyProof.Rows L2
section
variable {X : Cx} {Z : WX}
def on1 (g : D → Option W) : List A → Cs → R
  | [.d x], S => match g x with
    | some w => .ok w S
    | none => .stuck
  | _, _ => .stuck
theorem OpSs.on1 {K : PySem.W.Frag} {mg : Str → Option Value} {r : List V → Hp → VK → Prop} {g : D → Option W} (h : ∀ κ F ρ S σ H v x w Q, At K κ F ρ S σ H → Rep K F v x → g x = some w → Post K mg Z κ F H σ (.ok w S) Q → r [v] H Q) : OpSs K mg Z r (on1 g) := by
  intro κ F ρ S σ H vs xs Q t r p
  unfold PD.on1 at p
  split at p
  · cases r with
    | cons r1 rn =>
      cases rn
      split at p
      · rename_i e
        exact h κ F ρ S σ H _ _ _ Q t r1 e p
      · exact p.elim
  · exact p.elim
def gLen : List A → Cs → R
  | [.d (.str x)], S => if x.length ≤ sizeLine then .ok (iD x.length) S else .stuck
  | [.d (.list ds)], S => .ok (iD ds.length) S
  | [.d (.tuple ds)], S => .ok (iD ds.length) S
  | [.s ns], S => .ok (iD ns.length) S
  | _, _ => .stuck
theorem ops_len {K : PySem.W.Frag} {mg : Str → Option Value} : OpSs K mg Z (fun xs H Q => (∃ p ys, xs = [.ref p] ∧ (SqL K H p ys ∨ SqT K H p ys) ∧ Q (.int ys.length) H) ∨ ∃ z, xs = [.str z] ∧ z.length ≤ sizeLine ∧ Q (.int z.length) H) gLen := by
  intro κ F ρ S σ H vs xs Q t r p
  unfold gLen at p
  split at p
  · cases r with
    | cons r1 rn =>
      cases rn
      split at p
      · rename_i hz
        rw [Rep.strv r1]
        exact .inr ⟨_, rfl, hz, p.int t⟩
      · exact p.elim
  · cases r with
    | cons r1 rn =>
      cases rn
      obtain ⟨a, vs, rfl, h1, h2⟩ := Rep.lstv r1
      refine .inl ⟨a, vs, rfl, .inl (.of (t.fh _ _ h1)), ?_⟩
      rw [h2.len]
      exact p.int t
  · cases r with
    | cons r1 rn =>
      cases rn
      obtain ⟨a, vs, rfl, h1, h2⟩ := Rep.tupv r1
      refine .inl ⟨a, vs, rfl, .inr (Same.seqT t.fh h1), ?_⟩
      rw [h2.len]
      exact p.int t
  · cases r with
    | cons r1 rn =>
      cases rn
      obtain ⟨a, rfl, h⟩ := r1
      refine .inl ⟨a, _, rfl, .inl (t.fh.seq h), ?_⟩
      rw [List.length_map]
      exact p.int t
  · exact p.elim
section
variable {e e2 : Expr} {f f2 : Fe} {p p2 pos : Pos} {x : Str}
theorem ve_len (hx : Gl X "len") (hm : X.mg "len" = none) (ha : VE X Z e f) (he : starEach [e] X.env = (false, eval e X.env) :: starEach [] X.env := by rfl) : VE X Z (.Call (.Name "len" p) [e] [] pos) (fCall gLen [f]) :=
  ve_callB (call_len_seq.or call_len_str) ops_len hx hm boot_len (va_cons ha va_nil he) (by decide) (by decide) he
def boolsOf : List D → Option (List Bool)
  | [] => some []
  | .bool b :: ds => (boolsOf ds).map (b :: ·)
  | _ :: _ => none
def strsOf : List D → Option (List Str)
  | [] => some []
  | .str b :: ds => (strsOf ds).map (b :: ·)
  | _ :: _ => none
theorem RepAll.bls {K : PySem.W.Frag} {F : Hp} : ∀ {vs : List V} {ds : List D} {bs : List Bool}, RepAll K F vs ds → boolsOf ds = some bs → vs = bs.map V.bl
  | _, _, _, .nil, e => by cases e; rfl
  | v :: vs, d :: ds, bs, .cons r t, e => by
    cases d with
    | bool b =>
      cases q : boolsOf ds with
      | none => simp [boolsOf, q] at e
      | some cs =>
        simp [boolsOf, q] at e
        subst e
        rw [r.blv, RepAll.bls t q]
        rfl
    | _ => cases e
theorem RepAll.strs {K : PySem.W.Frag} {F : Hp} : ∀ {vs : List V} {ds : List D} {bs : List Str}, RepAll K F vs ds → strsOf ds = some bs → vs = bs.map V.str
  | _, _, _, .nil, e => by cases e; rfl
  | v :: vs, d :: ds, bs, .cons r t, e => by
    cases d with
    | str b =>
      cases q : strsOf ds with
      | none => simp [strsOf, q] at e
      | some cs =>
        simp [strsOf, q] at e
        subst e
        rw [r.strv, RepAll.strs t q]
        rfl
    | _ => cases e
def dAll : D → Option W
  | .list ds => (boolsOf ds).map fun bs => bD (bs.all id)
  | _ => none
def dAny : D → Option W
  | .list ds => (boolsOf ds).map fun bs => bD (bs.any id)
  | _ => none
theorem ve_all (hc : X.calm = true) (hx : Gl X "all") (hm : X.mg "all" = none) (ha : VE X Z e f) (he : starEach [e] X.env = (false, eval e X.env) :: starEach [] X.env := by rfl) : VE X Z (.Call (.Name "all" p) [e] [] pos) (fCall (on1 dAll) [f]) :=
  ve_callB (cr_all hc) (OpSs.on1 fun κ F ρ S σ H v x w Q t r e p => by
    cases x <;> (try (exact nomatch (show (none : Option W) = some w from e)))
    rename_i ds
    have e' : (boolsOf ds).map (fun bs => bD (bs.all id)) = some w := e
    cases q : boolsOf ds with
    | none => rw [q] at e'; cases e'
    | some bs =>
      rw [q] at e'
      cases e'
      obtain ⟨a, vs, rfl, h1, h2⟩ := r.lstv
      exact ⟨a, bs, rfl, .of (by rw [← h2.bls q]; exact t.fh _ _ h1), p.bl t⟩) hx hm (by decide +kernel) (va_cons ha va_nil he) (by decide) (by decide) he
def dInt : D → Option W
  | .int i => some (iD i)
  | .bool b => some (iD (if b then 1 else 0))
  | .str x => if x.length ≤ 640 then (PySem.intText? x).map iD else none
  | _ => none
def dStr : D → Option W
  | .int i => if i.natAbs.log2 < 1920 then some (sD (toString i)) else none
  | _ => none
def dTup : D → Option W
  | .list ds => some (.a (.d (.tuple ds)))
  | .tuple ds => some (.a (.d (.tuple ds)))
  | _ => none
theorem ve_int1 (hx : Gl X "int") (hm : X.mg "int" = none) (ha : VE X Z e f) (he : starEach [e] X.env = (false, eval e X.env) :: starEach [] X.env := by rfl) : VE X Z (.Call (.Name "int" p) [e] [] pos) (fCall (on1 dInt) [f]) :=
  ve_callTy (call_int1.or call_int_str) (OpSs.on1 fun κ F ρ S σ H v x w Q t r e p => by
    cases x <;> (try (exact nomatch (show (none : Option W) = some w from e)))
    · cases e
      rw [r.blv]
      exact .inl (.inr ⟨_, rfl, p.int t⟩)
    · cases e
      rw [r.intv]
      exact .inl (.inl ⟨_, rfl, p.int t⟩)
    · simp only [dInt] at e
      split at e
      · rename_i z hz
        cases q : PySem.intText? z with
        | none => rw [q] at e; cases e
        | some n =>
          rw [q] at e
          cases e
          rw [r.strv]
          exact .inr ⟨z, n, rfl, q, hz, p.int t⟩
      · cases e) hx hm (by decide +kernel) (va_cons ha va_nil he) (by decide) (by decide) he
theorem ve_str1 (hx : Gl X "str") (hm : X.mg "str" = none) (ha : VE X Z e f) (he : starEach [e] X.env = (false, eval e X.env) :: starEach [] X.env := by rfl) : VE X Z (.Call (.Name "str" p) [e] [] pos) (fCall (on1 dStr) [f]) :=
  ve_callTy call_str_int (OpSs.on1 fun κ F ρ S σ H v x w Q t r e p => by
    cases x <;> (try (exact nomatch (show (none : Option W) = some w from e)))
    simp only [dStr] at e
    split at e
    · rename_i hz
      cases e
      rw [r.intv]
      exact ⟨_, rfl, hz, p.str t⟩
    · cases e) hx hm (by decide +kernel) (va_cons ha va_nil he) (by decide) (by decide) he
theorem ve_tuple (hx : Gl X "tuple") (hm : X.mg "tuple" = none) (ha : VE X Z e f) (he : starEach [e] X.env = (false, eval e X.env) :: starEach [] X.env := by rfl) : VE X Z (.Call (.Name "tuple" p) [e] [] pos) (fCall (on1 dTup) [f]) :=
  ve_callTy call_tuple_of (OpSs.on1 fun κ F ρ S σ H v x w Q t r e p => by
    cases x <;> (try (exact nomatch (show (none : Option W) = some w from e)))
    · cases e
      obtain ⟨a, vs, rfl, h1, h2⟩ := r.lstv
      exact ⟨a, vs, rfl, .inl ⟨.of (t.fh _ _ h1), fun l hl => p.tup t h2 hl⟩⟩
    · cases e
      obtain ⟨a, vs, rfl, h1, h2⟩ := r.tupv
      exact ⟨a, vs, rfl, .inr ⟨Same.seqT t.fh h1, p.a t (show Rep X.K F _ _ from .tup h1 h2)⟩⟩) hx hm (by decide +kernel) (va_cons ha va_nil he) (by decide) (by decide) he
def gMax2 (f : Int → Int → Int) : List A → Cs → R
  | [.d (.int i), .d (.int j)], S => .ok (iD (f i j)) S
  | _, _ => .stuck
theorem ops_max2 {f : Int → Int → Int} {K : PySem.W.Frag} {mg : Str → Option Value} : OpSs K mg Z (fun xs H Q => ∃ i j, xs = [.int i, .int j] ∧ Q (.int (f i j)) H) (gMax2 f) := by
  intro κ F ρ S σ H vs xs Q t r p
  unfold gMax2 at p
  split at p
  · cases r with
    | cons r1 rn =>
      cases rn with
      | cons r2 rn =>
        cases rn
        rw [Rep.intv r1, Rep.intv r2]
        exact ⟨_, _, rfl, p.int t⟩
  · exact p.elim
theorem ve_max2 (hc : X.calm = true) (hx : Gl X "max") (hm : X.mg "max" = none) (ha : VE X Z e f) (hb : VE X Z e2 f2) (he : starEach [e, e2] X.env = (false, eval e X.env) :: starEach [e2] X.env := by rfl) (he2 : starEach [e2] X.env = (false, eval e2 X.env) :: starEach [] X.env := by rfl)
    (hpl : (backTo pos (starEach [e2] X.env)).any (·.1) = false := by rfl) : VE X Z (.Call (.Name "max" p) [e, e2] [] pos) (fCall (gMax2 fun i j => if j > i then j else i) [f, f2]) :=
  ve_callB (call_max2 hc) ops_max2 hx hm (by decide +kernel) (va_cons ha (va_cons hb va_nil he2) he) (by decide) (by decide) he hpl
theorem ve_min2 (hc : X.calm = true) (hx : Gl X "min") (hm : X.mg "min" = none) (ha : VE X Z e f) (hb : VE X Z e2 f2) (he : starEach [e, e2] X.env = (false, eval e X.env) :: starEach [e2] X.env := by rfl) (he2 : starEach [e2] X.env = (false, eval e2 X.env) :: starEach [] X.env := by rfl)
    (hpl : (backTo pos (starEach [e2] X.env)).any (·.1) = false := by rfl) : VE X Z (.Call (.Name "min" p) [e, e2] [] pos) (fCall (gMax2 fun i j => if j < i then j else i) [f, f2]) :=
  ve_callB (call_min2 hc) ops_max2 hx hm (by decide +kernel) (va_cons ha (va_cons hb va_nil he2) he) (by decide) (by decide) he hpl
def tyD : D → String
  | .none => "NoneType" | .bool _ => "bool" | .int _ => "int" | .str _ => "str" | .list _ => "list" | .tuple _ => "tuple" | .dict _ => "dict"
def isiD (T : String) (d : D) : Bool := tyD d == T || (T == "int" && tyD d == "bool")
def isTy (T : String) : Bool := T == "int" || T == "bool" || T == "str" || T == "list" || T == "tuple"
theorem kit_all {K : PySem.W.Frag} {d : D} {T : String} (h : isTy T = true) : PySem.W.kitOne K (.type (tyD d)) (.type T) = some (isiD T d) := by
  have key : ∀ a ∈ ["NoneType", "bool", "int", "str", "list", "tuple", "dict"], ∀ b ∈ ["int", "bool", "str", "list", "tuple"], kitB a b = some (a == b || (b == "int" && a == "bool")) := by decide +kernel
  refine kit_ty (key _ ?_ _ ?_)
  · cases d <;> simp [tyD]
  · unfold isTy at h
    simp only [Bool.or_eq_true, beq_iff_eq] at h
    rcases h with (((rfl | rfl) | rfl) | rfl) | rfl <;> simp
theorem Rep.tyx {K : PySem.W.Frag} {F H : Hp} {v : V} (e : Same F H) : ∀ {d : D}, Rep K F v d → TyX K H v (.type (tyD d))
  | .none, .non => .base .non
  | .bool _, .bl b => .base (.bl b)
  | .int _, .int i => .base (.int i)
  | .str _, .str x => .base (.str x)
  | .list _, .lst h _ => .base (.lst (e _ _ h))
  | .tuple _, .tup h _ => by
    rcases h with (h | ⟨o, h⟩) | h
    · exact .base (.tup (e _ _ h))
    · exact .fTuple (e _ _ h)
    · obtain ⟨o, its, n, h1, h2, _⟩ := h
      exact .kTuple h1 h2
  | .dict _, .dct h => by
    rcases h with h | ⟨o, h⟩
    · exact .base (.dK (e _ _ h))
    · exact .fDict (e _ _ h)
def dIsi (T : String) (d : D) : Option W := if isTy T = true then some (bD (isiD T d)) else none
theorem pa2 {a b : Expr} {ta tb : TE} (ha : PE X a ta) (hb : PE X b tb) (he : starEach [a, b] X.env = (false, eval a X.env) :: starEach [b] X.env) (he2 : starEach [b] X.env = (false, eval b X.env) :: starEach [] X.env) : PA X [a, b] (tCons ta (tCons tb tNil)) := pa_cons ha (pa_cons hb pa_nil he2) he
theorem ve_isi {T : String} {pt : Pos} (hx : Gl X "isinstance") (hm : X.mg "isinstance" = none) (ha : VE X Z e f) (hT : Gl X (Str.ofString T)) (hmT : X.mg (Str.ofString T) = none) (hv : bootBuiltins (Str.ofString T) = some (.type T))
    (hnT : (Str.ofString T) ≠ "__name__" := by decide) (hdT : ((Str.ofString T) == ("__debug__" : Str)) = false := by decide)
    (he : starEach [e, .Name (Str.ofString T) pt] X.env = (false, eval e X.env) :: starEach [.Name (Str.ofString T) pt] X.env := by rfl) (he2 : starEach [.Name (Str.ofString T) pt] X.env = (false, eval (.Name (Str.ofString T) pt) X.env) :: starEach [] X.env := by rfl)
    (hpl : (backTo pos (starEach [.Name (Str.ofString T) pt] X.env)).any (·.1) = false := by rfl) :
    VE X Z (.Call (.Name "isinstance" p) [e, .Name (Str.ofString T) pt] [] pos) (fUn (onD1 (dIsi T)) f) :=
  (pe_callB call_isi hx hm (by decide +kernel) (pa2 ha (pe_bltn (v := .ty T) (u := .type T) hT hmT hv rfl hnT hdT) he he2) (by decide) (by decide) he hpl).imp fun σ H Q q => by
    show tv X.K X.mg Z f σ H fun x H1 => rIsi X.K [x, .ty T] H1 Q
    refine tUn_of (r := fun x H1 Q => rIsi X.K [x, .ty T] H1 Q) (OpS1.onD fun κ F ρ S σ H v x w Q t r e p => ?_) q
    unfold dIsi at e
    split at e
    · rename_i h
      cases e
      exact ⟨v, .ty T, _, _, _, rfl, .ty T, r.tyx t.fh, kit_all h, p.bl t⟩
    · cases e
def dIsi2 (T T' : String) (d : D) : Option W := if isTy T = true ∧ isTy T' = true then some (bD (isiD T d || isiD T' d)) else none
theorem ve_isi2 {T T' : String} {pt pt' ptt : Pos} {k : Nat} (hx : Gl X "isinstance") (hm : X.mg "isinstance" = none) (ha : VE X Z e f) (hT : Gl X (Str.ofString T)) (hmT : X.mg (Str.ofString T) = none) (hv : bootBuiltins (Str.ofString T) = some (.type T))
    (hT' : Gl X (Str.ofString T')) (hmT' : X.mg (Str.ofString T') = none) (hv' : bootBuiltins (Str.ofString T') = some (.type T'))
    (hnT : (Str.ofString T) ≠ "__name__" := by decide) (hdT : ((Str.ofString T) == ("__debug__" : Str)) = false := by decide) (hnT' : (Str.ofString T') ≠ "__name__" := by decide) (hdT' : ((Str.ofString T') == ("__debug__" : Str)) = false := by decide)
    (he : starEach [e, .Tuple [.Name (Str.ofString T) pt, .Name (Str.ofString T') pt'] k ptt] X.env = (false, eval e X.env) :: starEach [.Tuple [.Name (Str.ofString T) pt, .Name (Str.ofString T') pt'] k ptt] X.env := by rfl)
    (he2 : starEach [.Tuple [.Name (Str.ofString T) pt, .Name (Str.ofString T') pt'] k ptt] X.env = (false, eval (.Tuple [.Name (Str.ofString T) pt, .Name (Str.ofString T') pt'] k ptt) X.env) :: starEach [] X.env := by rfl)
    (he3 : starEach [.Name (Str.ofString T) pt, .Name (Str.ofString T') pt'] X.env = (false, eval (.Name (Str.ofString T) pt) X.env) :: starEach [.Name (Str.ofString T') pt'] X.env := by rfl) (he4 : starEach [.Name (Str.ofString T') pt'] X.env = (false, eval (.Name (Str.ofString T') pt') X.env) :: starEach [] X.env := by rfl)
    (hpl : (backTo pos (starEach [.Tuple [.Name (Str.ofString T) pt, .Name (Str.ofString T') pt'] k ptt] X.env)).any (·.1) = false := by rfl) :
    VE X Z (.Call (.Name "isinstance" p) [e, .Tuple [.Name (Str.ofString T) pt, .Name (Str.ofString T') pt'] k ptt] [] pos) (fUn (onD1 (dIsi2 T T')) f) :=
  (pe_callB call_isiT hx hm (by decide +kernel) (pa2 ha (pe_tup (pa2 (pe_bltn (v := .ty T) (u := .type T) hT hmT hv rfl hnT hdT) (pe_bltn (v := .ty T') (u := .type T') hT' hmT' hv' rfl hnT' hdT') he3 he4)) he he2) (by decide) (by decide) he hpl).imp fun σ H Q q => by
    refine tUn_of (r := fun x H1 Q => (2 ≤ sizeLine ∧ ∀ p, H1 p = none → rIsiT X.K [x, .ref p] (upd H1 p (.tup [.ty T, .ty T'])) Q)) (OpS1.onD fun κ F ρ S σ H v x w Q t r e p => ?_) q
    unfold dIsi2 at e
    split at e
    · rename_i h
      cases e
      refine ⟨by decide, fun l hl => ?_⟩
      have n : Nxt κ F H (upd F l (.tup [.ty T, .ty T'])) (upd H l (.tup [.ty T, .ty T'])) := Nxt.newF t.fh hl
      have t2 := t.nxt n (t.cel.newF t.fh hl)
      refine ⟨v, l, _, _, [.type T, .type T'], isiD T x || isiD T' x, rfl, upd_same, .cons (.ty T) (.cons (.ty T') .nil), (Rep.up n.ff _ _ r).tyx t2.fh, kitAny_cons (kit_all h.1) (fun z => ?_) (fun z => by rw [z]; rfl), Post.bl (p.up n) t2⟩
      refine kitAny_cons (kit_all h.2) (fun z' => ?_) (fun z' => by rw [z']; simp)
      rw [z, z']
      exact kitAny_nil
    · cases e
end
end
end PD

namespace PySem
open PyProof.Rows
end PySem
namespace PD
open PySem PySem.Spec PyProof.Rows L2
inductive SK where
  | l (a : Addr) | t (a : Addr) | s (x : Str) (tk : Tok)
def SK.it (k : SK) (it : Addr) (i : Nat) (h : Heap) : Prop := match k with
  | .l a => h.IsListIter it a i
  | .t a => h.IsTupleIter it a i
  | .s x tk => h.IsStrIter it (strIterType x) x tk i
def SK.st (K : PySem.W.Frag) (H : Hp) (k : SK) (xs : List V) : Prop := match k with
  | .l a => SqL K H a xs
  | .t a => SqT K H a xs
  | .s x _ => xs = x.cps.toList.map fun c => V.str ⟨#[c]⟩
def SK.fp (k : SK) : List Addr := match k with
  | .l a => [a]
  | .t a => [a]
  | .s _ _ => []
def SK.u (k : SK) : Value := match k with
  | .l a => .ref a
  | .t a => .ref a
  | .s x tk => .str x tk
theorem SK.st_inj {X : Cx} {pins : List (Addr × Obj)} {σ : L2.St} {H : Hp} {s : Shared} (I : Inv X pins σ H s) : ∀ {k : SK} {xs ys : List V}, k.st X.K H xs → k.st X.K H ys → xs = ys
  | .l a, _, _, h1, h2 => I.list_inj h1 h2
  | .t a, _, _, h1, h2 => I.tuple_inj h1 h2
  | .s _ _, _, _, h1, h2 => h1.trans h2.symm
theorem sk_lt {X : Cx} {pins : List (Addr × Obj)} {σ : L2.St} {H : Hp} {s : Shared} (I : Inv X pins σ H s) {xs : List V} : ∀ {k : SK}, k.st X.K H xs → ∀ a ∈ k.fp, a < s.heap.objs.size
  | .l a, h, b, hb => by
    obtain ⟨its, _, ⟨o, n, e, _⟩, _⟩ := I.list h
    have : b = a := by simpa [SK.fp] using hb
    rw [this]; exact Heap.lt_size e
  | .t a, h, b, hb => by
    obtain ⟨its, _, ⟨o, e, _⟩, _⟩ := I.tuple h
    have : b = a := by simpa [SK.fp] using hb
    rw [this]; exact Heap.lt_size e
  | .s _ _, _, b, hb => by simp [SK.fp] at hb
theorem sk_begin {X : Cx} {pins : List (Addr × Obj)} {σ : L2.St} {H : Hp} {s : Shared} (I : Inv X pins σ H s) {xs : List V} : ∀ {k : SK}, k.st X.K H xs → ∃ (o : Obj) (Hh : Heap → Prop), Begins k.u o Hh ∧ Hh s.heap ∧ ∀ it (h' : Heap), h'.get? it = some o → k.it it 0 h'
  | .l a, h => by
    obtain ⟨its, _, p, _⟩ := I.list h
    exact ⟨_, _, begins_list a its.toArray, p.isList, fun it h' e => ⟨_, e, rfl, rfl⟩⟩
  | .t a, h => by
    obtain ⟨its, _, p, _⟩ := I.tuple h
    exact ⟨_, _, begins_tuple a its.toArray, p, fun it h' e => ⟨_, e, rfl, rfl⟩⟩
  | .s x tk, h => ⟨_, _, begins_text x tk, True.intro, fun it h' e => ⟨_, e, rfl, rfl⟩⟩
theorem sk_draw {X : Cx} {pins : List (Addr × Obj)} {σ : L2.St} {H : Hp} {s : Shared} (I : Inv X pins σ H s) {xs : List V} {it : Addr} : ∀ {k : SK}, k.st X.K H xs → (∀ a ∈ k.fp, a ≠ it) →
    ∃ (P : Nat → Value → Prop) (St : Nat → Heap → Prop), (∀ A : Around, A.handled = none → Draws X.prog X.w A it (it :: k.fp) xs.length P St) ∧ (∀ i, k.it it i s.heap → St i s.heap) ∧ (∀ i h', St i h' → k.it it i h') ∧ ∀ i u, P i u → ∃ x, xs[i]? = some x ∧ RelV x u
  | .l a, h, hne => by
    obtain ⟨its, rv, p, _⟩ := I.list h
    have hl : its.toArray.size = xs.length := by rw [List.size_toArray]; exact rv.length.symm
    refine ⟨fun i v => its.toArray[i]? = some v, fun i h => h.IsListIter it a i ∧ h.IsList a its.toArray, fun A hA => by rw [← hl]; exact Draws.list hA it a (hne a (by simp [SK.fp])) its.toArray, fun i hi => ⟨hi, p.isList⟩, fun i h' st => st.1, fun i u hu => ?_⟩
    have hu' : its[i]? = some u := by simpa using hu
    have hi : i < xs.length := by
      rw [rv.length]
      exact (List.getElem?_eq_some_iff.mp hu').1
    obtain ⟨u2, e2, r2⟩ := rv.get (List.getElem?_eq_getElem hi)
    rw [hu'] at e2
    cases e2
    exact ⟨_, List.getElem?_eq_getElem hi, r2⟩
  | .t a, h, hne => by
    obtain ⟨its, rv, p, _⟩ := I.tuple h
    have hl : its.toArray.size = xs.length := by rw [List.size_toArray]; exact rv.length.symm
    refine ⟨fun i v => its.toArray[i]? = some v, fun i h => h.IsTupleIter it a i ∧ h.IsTuple a its.toArray, fun A hA => by rw [← hl]; exact Draws.tuple hA it a (hne a (by simp [SK.fp])) its.toArray, fun i hi => ⟨hi, p⟩, fun i h' st => st.1, fun i u hu => ?_⟩
    have hu' : its[i]? = some u := by simpa using hu
    have hi : i < xs.length := by
      rw [rv.length]
      exact (List.getElem?_eq_some_iff.mp hu').1
    obtain ⟨u2, e2, r2⟩ := rv.get (List.getElem?_eq_getElem hi)
    rw [hu'] at e2
    cases e2
    exact ⟨_, List.getElem?_eq_getElem hi, r2⟩
  | .s x tk, h, hne => by
    have h' : xs = x.cps.toList.map fun c => V.str ⟨#[c]⟩ := h
    have hl : x.cps.size = xs.length := by rw [h']; simp
    refine ⟨_, _, fun A hA => by rw [← hl]; exact Draws.text hA it x tk, fun i hi => hi, fun i h' st => st, fun i u hu => ?_⟩
    obtain ⟨c, t, e, rfl⟩ := hu
    refine ⟨.str ⟨#[c]⟩, ?_, ⟨t, rfl⟩⟩
    rw [h', List.getElem?_map]
    have e2 : x.cps.toList[i]? = some c := by simpa using e
    rw [e2]
    rfl
theorem SK.it_at {k : SK} {it : Addr} {i : Nat} {h h' : Heap} (q : k.it it i h) (e : ∀ o, h.get? it = some o → h'.get? it = some o) : k.it it i h' := by
  cases k with
  | l a => exact Heap.IsListIter.at q e
  | t a => exact Heap.IsTupleIter.at q e
  | s x tk => obtain ⟨o, h1, h2⟩ := q; exact ⟨o, e o h1, h2⟩
theorem SK.it_get {k : SK} {it : Addr} {i : Nat} {h : Heap} (q : k.it it i h) : ∃ o, h.get? it = some o ∧ ∀ v, o.data ≠ .cell v := by
  cases k with
  | l a => obtain ⟨o, h1, h2, h3⟩ := q; exact ⟨o, h1, fun v z => by rw [h3] at z; cases z⟩
  | t a => obtain ⟨o, h1, h2, h3⟩ := q; exact ⟨o, h1, fun v z => by rw [h3] at z; cases z⟩
  | s x tk => obtain ⟨o, h1, h2, h3⟩ := q; exact ⟨o, h1, fun v z => by rw [h3] at z; cases z⟩
def ItZ (K : PySem.W.Frag) (k1 k2 : SK) : It :=
  ⟨fun i H => ∃ (xs ys : List V) (x y : V), k1.st K H xs ∧ k2.st K H ys ∧ xs[i]? = some x ∧ ys[i]? = some y,
    fun i H v H' => ∃ T x y, v = .ref T ∧ H T = none ∧ H' = upd H T (.tup [x, y]) ∧ (∀ xs, k1.st K H xs → xs[i]? = some x) ∧ ∀ ys, k2.st K H ys → ys[i]? = some y,
    fun i H => ∃ xs ys : List V, k1.st K H xs ∧ k2.st K H ys ∧ i = min xs.length ys.length⟩
theorem turn_zipK {P : Program} {w : World} {K : PySem.W.Frag} {elts : List Expr} {kk : Nat} {tpos : Pos} (k1 k2 : SK) (N : Nat) (hf1 : ∀ a ∈ k1.fp, a < N) (hf2 : ∀ a ∈ k2.fp, a < N) :
    Turn P w K (.Tuple elts kk tpos) (ItZ K k1 k2) [N + 4, N + 2, N + 3, N, N + 1] (N + 4) (fun i h => IsZip h (N + 4) (N + 2) (N + 3) .none ∧ IsTupOf2 h (N + 2) (.ref N) (.ref (N + 1)) ∧ (∃ a1 a2, IsTupOf2 h (N + 3) a1 a2) ∧ k1.it N i h ∧ k2.it (N + 1) i h) where
  mem := by simp
  obj := fun i h st b hb => by
    obtain ⟨h1, h2, ⟨a1, a2, h3⟩, h4, h5⟩ := st
    have e' : b = N + 4 ∨ b = N + 2 ∨ b = N + 3 ∨ b = N ∨ b = N + 1 := by simpa using hb
    rcases e' with z | z | z | z | z
    · rw [z]; exact ⟨_, h1, fun v q => nomatch q⟩
    · rw [z]; exact ⟨_, h2, fun v q => nomatch q⟩
    · rw [z]; exact ⟨_, h3, fun v q => nomatch q⟩
    · rw [z]; exact SK.it_get h4
    · rw [z]; exact SK.it_get h5
  keep := fun i h h' st k => by
    obtain ⟨h1, h2, ⟨a1, a2, h3⟩, h4, h5⟩ := st
    exact ⟨k _ (by simp) _ h1, k _ (by simp) _ h2, ⟨a1, a2, k _ (by simp) _ h3⟩, SK.it_at h4 fun o q => k N (by simp) o q, SK.it_at h5 fun o q => k (N + 1) (by simp) o q⟩
  item := by
    intro X hP hw hK hc i pins s σ H E I hfp st hg
    subst hP hw hK
    obtain ⟨h1, h2, h3, h4, h5⟩ := st
    obtain ⟨xs, ys, x, y, q1, q2, hx, hy⟩ := hg
    have hi1 : i < xs.length := (List.getElem?_eq_some_iff.mp hx).1
    have hi2 : i < ys.length := (List.getElem?_eq_some_iff.mp hy).1
    obtain ⟨P1, St1, dr1, toS1, ofS1, val1⟩ := sk_draw (it := N) I q1 fun a ha => Nat.ne_of_lt (hf1 a ha)
    obtain ⟨P2, St2, dr2, toS2, ofS2, val2⟩ := sk_draw (it := N + 1) I q2 fun a ha => Nat.ne_of_lt (Nat.lt_succ_of_lt (hf2 a ha))
    have W := WalksT.zipD2 (prog := X.prog) (w := X.w) (A := X.A) (zip_sep2 hf1 hf2) (dr1 X.A.in1 (I.ok.hd hc)) (dr2 X.A.in1 (I.ok.hd hc))
    refine W.item i s _ _ (by omega) ⟨h1, h2, h3, toS1 i h4, toS2 i h5⟩ fun T vals h' tk hP hT hT2 hm hk => ?_
    refine ⟨_, rfl, W.go elts kk tpos i T { s with heap := h', toks := tk } _ _ hm fun h'' st'' hk' => ?_⟩
    obtain ⟨u, v, hu, hv, rfl⟩ := hP
    obtain ⟨x', e', ru⟩ := val1 i u hu
    obtain ⟨y', e2', rv⟩ := val2 i v hv
    rw [hx] at e'
    cases e'
    rw [hy] at e2'
    cases e2'
    have hnT : T ∉ [N + 4, N + 3, N, N + 1] := W.apart i T h' hm
    obtain ⟨oT, hoT, hcT, nT, hdT⟩ := hT2
    have hT3 : h''.IsTuple T #[u, v] := ⟨oT, hk' T oT hnT hoT, hcT, nT, hdT⟩
    have new : ObjOk X.prog X.w (upd H T (.tup [x, y])) h'' T (.tup [x, y]) := ⟨by show 2 ≤ sizeLine; decide, [u, v], .cons ru (.cons rv .nil), hT3⟩
    have sub : ∀ b ∈ [N + 4, N + 3, N, N + 1], b ∈ [N + 4, N + 2, N + 3, N, N + 1] := fun b hb => by
      have e' : b = N + 4 ∨ b = N + 3 ∨ b = N ∨ b = N + 1 := by simpa using hb
      rcases e' with z | z | z | z <;> rw [z] <;> simp
    have I1 : Inv X pins σ (upd H T (.tup [x, y])) { s with heap := h'', toks := tk } :=
      I.turnedNew (ch := [N + 4, N + 3, N, N + 1]) (fun b ob hb q => hk' b ob hb (hk b ob hb q)) (fun b hb => hfp b (sub b hb)) hT new
    refine ⟨.ref T, _, I1, rfl, ⟨_, x, y, rfl, I.hok.fresh hT, rfl, fun zs hz => by rw [SK.st_inj I hz q1]; exact hx, fun zs hz => by rw [SK.st_inj I hz q2]; exact hy⟩, ⟨st''.1, st''.2.1, st''.2.2.1, ofS1 _ _ st''.2.2.2.1, ofS2 _ _ st''.2.2.2.2⟩, fun b hb => ?_⟩
    have hb' : b < s.heap.objs.size := by
      have e' : b = N + 4 ∨ b = N + 2 ∨ b = N + 3 ∨ b = N ∨ b = N + 1 := by simpa using hb
      rcases e' with z | z | z | z | z
      · rw [z]; exact Heap.lt_size h1
      · rw [z]; exact Heap.lt_size h2
      · rw [z]; obtain ⟨a1, a2, h3⟩ := h3; exact Heap.lt_size h3
      · rw [z]; obtain ⟨o, ho, _⟩ := SK.it_get h4; exact Heap.lt_size ho
      · rw [z]; obtain ⟨o, ho, _⟩ := SK.it_get h5; exact Heap.lt_size ho
    rw [upd_ne (Nat.ne_of_lt (Nat.lt_of_lt_of_le hb' hT))]
    exact (hfp b hb).1
  done := by
    intro X hP hw hK hc i pins s σ H E I hfp st hg
    subst hP hw hK
    obtain ⟨h1, h2, h3, h4, h5⟩ := st
    obtain ⟨xs, ys, q1, q2, hx⟩ := hg
    obtain ⟨P1, St1, dr1, toS1, ofS1, val1⟩ := sk_draw (it := N) I q1 fun a ha => Nat.ne_of_lt (hf1 a ha)
    obtain ⟨P2, St2, dr2, toS2, ofS2, val2⟩ := sk_draw (it := N + 1) I q2 fun a ha => Nat.ne_of_lt (Nat.lt_succ_of_lt (hf2 a ha))
    have W := WalksT.zipD2 (prog := X.prog) (w := X.w) (A := X.A) (zip_sep2 hf1 hf2) (dr1 X.A.in1 (I.ok.hd hc)) (dr2 X.A.in1 (I.ok.hd hc))
    subst hx
    have sub : ∀ b ∈ [N + 4, N + 3, N, N + 1], b ∈ [N + 4, N + 2, N + 3, N, N + 1] := fun b hb => by
      have e' : b = N + 4 ∨ b = N + 3 ∨ b = N ∨ b = N + 1 := by simpa using hb
      rcases e' with z | z | z | z <;> rw [z] <;> simp
    exact W.done s _ _ ⟨h1, h2, h3, toS1 _ h4, toS2 _ h5⟩ fun h' tk hk => ⟨rfl, I.turnedL (ch := [N + 4, N + 3, N, N + 1]) hk fun b hb => hfp b (sub b hb)⟩
  self := fun A i s Q E st h => wpAny_pyIter_zip st.1 h
end PD

namespace PD
open PySem PySem.Spec PyProof.Rows L2
def Yld (K : PySem.W.Frag) (κ : Kp) (F0 : Hp) (J : It) (items : List D) : Prop := ∀ (i : Nat) (F H : Hp), Same F0 F → Same F H →
  (∀ x, items[i]? = some x → J.go i H ∧ ∀ v H', J.yld i H v H' → ∃ F', Nxt κ F H F' H' ∧ (∀ b, H b ≠ none → H' b = H b) ∧ Rep K F' v x) ∧ (i = items.length → J.stop i H)
inductive SR where
  | ok (items : List D) (S : Cs) | exc (n : Str) (S : Cs) | stuck
abbrev Fi := En → Cs → SR
def IP (K : PySem.W.Frag) (mg : Str → Option Value) (Z : WX) (κ : Kp) (F H : Hp) (σ : L2.St) (r : SR) (Rr : It → Hp → Prop) : Prop := match r with
  | .ok items S' => ∀ J H' F', Nxt κ F H F' H' → Cel K κ F' H' S' → items.length ≤ sizeLine → Yld K κ F' J items → Rr J H'
  | .exc n S' => ∀ C H' F', mg n = some (.ref C) → Nxt κ F H F' H' → Cel K κ F' H' S' → Z (.ref C) none σ H'
  | .stuck => False
def tvi (K : PySem.W.Frag) (mg : Str → Option Value) (Z : WX) (src : Fi) : TI := fun σ H Rr => ∃ κ F ρ S, At K κ F ρ S σ H ∧ IP K mg Z κ F H σ (src ρ S) Rr
theorem IP.up {K : PySem.W.Frag} {mg : Str → Option Value} {Z : WX} {κ : Kp} {F H F1 H1 : Hp} {σ : L2.St} {r : SR} {Rr : It → Hp → Prop} (h : IP K mg Z κ F H σ r Rr) (n : Nxt κ F H F1 H1) : IP K mg Z κ F1 H1 σ r Rr := by
  cases r with
  | ok items S' => exact fun J H' F' a => h J H' F' (n.trans a)
  | exc m S' => exact fun C H' F' g a => h C H' F' g (n.trans a)
  | stuck => exact h
def R.bi (r : R) (k : A → Cs → SR) : SR := match r with
  | .ok w S => match w.toA with
    | some x => k x S
    | none => .stuck
  | .exc n S => .exc n S
  | .stuck => .stuck
theorem at_bi {K : PySem.W.Frag} {mg : Str → Option Value} {Z : WX} {κ : Kp} {F H : Hp} {ρ : En} {S : Cs} {σ : L2.St} {fa : Fe} {k : A → Cs → SR} {Rr : It → Hp → Prop} {Q' : VK} (t : At K κ F ρ S σ H) (p : IP K mg Z κ F H σ ((fa ρ S).bi k) Rr)
    (g : ∀ v H1 F1 S1 x, Nxt κ F H F1 H1 → At K κ F1 ρ S1 σ H1 → RepA K κ F1 v x → IP K mg Z κ F1 H1 σ (k x S1) Rr → Q' v H1) : tv K mg Z fa σ H Q' := by
  refine ⟨κ, F, ρ, S, t, ?_⟩
  cases q : fa ρ S with
  | stuck => rw [q] at p; exact p
  | exc m S1 => rw [q] at p; exact p
  | ok w S1 =>
    rw [q] at p
    intro v H1 F1 L n c r nd nw
    cases e : w.toA with
    | none => simp only [R.bi, e] at p; exact p.elim
    | some x =>
      simp only [R.bi, e] at p
      obtain ⟨F2, n2, c2, r2⟩ := frz_mix n c t.hk r nw e
      exact g v H1 F2 S1 x n2 (t.nxt n2 c2) r2 (p.up n2)
abbrev VI (X : Cx) (Z : WX) (tg iter : Expr) (src : Fi) : Prop := PI X tg iter (tvi X.K X.mg Z src)
def seqD : A → Option (List D)
  | .d (.list ds) => some ds
  | .d (.tuple ds) => some ds
  | .d (.str x) => if x.length ≤ sizeLine then some (x.cps.toList.map fun c => .str ⟨#[c]⟩) else none
  | .s ns => some (ns.map .int)
  | _ => none
theorem RepAll.intL {K : PySem.W.Frag} {F : Hp} : ∀ ns : List Int, RepAll K F (ns.map V.int) (ns.map PyData.int)
  | [] => .nil
  | n :: ns => .cons (.int n) (RepAll.intL ns)
theorem RepAll.signs {K : PySem.W.Frag} {F : Hp} : ∀ cs : List Nat, RepAll K F (cs.map fun c => V.str ⟨#[c]⟩) (cs.map fun c => PyData.str ⟨#[c]⟩)
  | [] => .nil
  | n :: ns => .cons (.str _) (RepAll.signs ns)
theorem sk_of {K : PySem.W.Frag} {κ : Kp} {F : Hp} {v : V} {u : Value} {x : A} {ds : List D} (r : RepA K κ F v x) (e : seqD x = some ds) (ru : RelV v u) : ∃ (k : SK) (xs : List V), k.u = u ∧ (∀ H, Same F H → k.st K H xs) ∧ RepAll K F xs ds := by
  unfold seqD at e
  split at e
  · cases e
    obtain ⟨a, vs, rfl, h, q⟩ := Rep.lstv r
    cases ru
    exact ⟨.l a, vs, rfl, fun H hs => .of (hs _ _ h), q⟩
  · cases e
    obtain ⟨a, vs, rfl, h, q⟩ := Rep.tupv r
    cases ru
    exact ⟨.t a, vs, rfl, fun H hs => Same.seqT hs h, q⟩
  · split at e
    · cases e
      rename_i z hz
      rw [Rep.strv r] at ru
      obtain ⟨t, rfl⟩ := ru
      exact ⟨.s z t, _, rfl, fun H hs => rfl, .signs _⟩
    · cases e
  · cases e
    obtain ⟨a, rfl, h⟩ := r
    cases ru
    exact ⟨.l a, _, rfl, fun H hs => hs.seq h, .intL _⟩
  · cases e
theorem seq_size {X : Cx} {pins : List (Addr × Obj)} {σ : L2.St} {H F : Hp} {s : Shared} {κ : Kp} {v : V} {x : A} {ds : List D} (I : Inv X pins σ H s) (fh : Same F H) (r : RepA X.K κ F v x) (e : seqD x = some ds) : ds.length ≤ sizeLine := by
  unfold seqD at e
  split at e
  · cases e
    obtain ⟨a, vs, rfl, h, q⟩ := Rep.lstv r
    obtain ⟨_, _, _, z⟩ := I.list (.of (fh _ _ h))
    rw [← q.len]; exact z
  · cases e
    obtain ⟨a, vs, rfl, h, q⟩ := Rep.tupv r
    obtain ⟨_, _, _, z⟩ := I.tuple (Same.seqT fh h)
    rw [← q.len]; exact z
  · split at e
    · rename_i z hz
      cases e
      rw [List.length_map]
      simpa [Str.length] using hz
    · cases e
  · cases e
    obtain ⟨a, rfl, h⟩ := r
    obtain ⟨_, _, _, z⟩ := I.list (fh.seq h)
    rw [List.length_map] at z ⊢
    exact z
  · cases e
def SR.of (o : Option (List D)) (S : Cs) : SR := match o with
  | some ds => .ok ds S
  | none => .stuck
def iSeq (f : Fe) : Fi := fun ρ S => (f ρ S).bi fun x S1 => SR.of (seqD x) S1
section
variable {X : Cx} {Z : WX}
theorem Yld.same {K : PySem.W.Frag} {κ : Kp} {F0 : Hp} {J : It} {xs : List V} {ds : List D} (r : RepAll K F0 xs ds) (hg : ∀ i H x, Same F0 H → xs[i]? = some x → J.go i H) (hy : ∀ i H v H', Same F0 H → J.yld i H v H' → H' = H ∧ xs[i]? = some v) (hs : ∀ H, Same F0 H → J.stop xs.length H) : Yld K κ F0 J ds := fun i F H h1 h2 => by
  refine ⟨fun x hx => ?_, fun hi => ?_⟩
  · obtain ⟨v, e, _⟩ := r.get hx
    refine ⟨hg i H v (h1.trans h2) e, fun v' H' y => ?_⟩
    obtain ⟨rfl, e'⟩ := hy i H v' H' (h1.trans h2) y
    rw [e] at e'
    cases e'
    obtain ⟨v2, e2, r2⟩ := r.get hx
    rw [e] at e2
    cases e2
    exact ⟨F, .refl h2, fun _ _ => rfl, Rep.up h1 _ _ r2⟩
  · rw [hi, ← r.len]
    exact hs H (h1.trans h2)
theorem vi_seq {tg e : Expr} {f : Fe} (h : VE X Z e f) : VI X Z tg e (iSeq f) := by
  refine ⟨fun pins s σ H Rr I q => ?_⟩
  obtain ⟨κ, F, ρ, S, t, p⟩ := q
  have key : tv X.K X.mg Z f σ H (fun v H1 => ∃ F1 S1 x ds, At X.K κ F1 ρ S1 σ H1 ∧ RepA X.K κ F1 v x ∧ seqD x = some ds ∧ ∀ J, ds.length ≤ sizeLine → Yld X.K κ F1 J ds → Rr J H1) := at_bi t p fun v H1 F1 S1 x n1 t1 r1 p1 => by
    cases e3 : seqD x with
    | none => rw [e3] at p1; exact p1.elim
    | some ds =>
      rw [e3] at p1
      exact ⟨F1, S1, x, ds, t1, r1, e3, fun J c d => p1 J H1 F1 (.refl t1.fh) t1.cel c d⟩
  refine thn (h.run pins s σ H _ I key) fun u s1 ⟨v, H1, I1, r1, F1, S1, x, ds, t1, ra, e1, q1⟩ => ?_
  have hz := seq_size I1 t1.fh ra e1
  obtain ⟨k, xs, rfl, hst, hr⟩ := sk_of ra e1 r1
  have fin := fun J => q1 J hz
  have old : ∀ b, b ∈ [s1.heap.objs.size] → FpOk X pins H1 b := fun b hb => by
    have e : b = s1.heap.objs.size := by simpa using hb
    subst e
    exact I1.fpOk (Nat.le_refl _) (I1.hok.fresh (Nat.le_refl _))
  cases k with
  | l a =>
    have hq : SqL X.K H1 a xs := hst H1 t1.fh
    obtain ⟨its, rv, p, _⟩ := I1.list hq
    refine wpAny_pyIter_list p.isList ?_
    refine ⟨s1.heap.objs.size, [s1.heap.objs.size], _, _, H1, rfl, I1.kept (t' := s1.toks) fun b o e => Heap.get?_push_of_some _ e, turn_list a _, ⟨_, Heap.get?_push_size _ rfl, rfl, rfl⟩, old, fin _ (Yld.same hr (fun i H x hs e => ⟨xs, x, hst H hs, e⟩) (fun i H v H' hs y => ⟨y.1, y.2 xs (hst H hs)⟩) fun H hs => ⟨xs, hst H hs, Nat.le_refl _⟩)⟩
  | t a =>
    have hq : SqT X.K H1 a xs := hst H1 t1.fh
    obtain ⟨its, rv, p, _⟩ := I1.tuple hq
    refine wpAny_pyIter_tuple (show s1.heap.IsTuple a its.toArray from p) ?_
    refine ⟨s1.heap.objs.size, [s1.heap.objs.size], _, _, H1, rfl, I1.kept (t' := s1.toks) fun b o e => Heap.get?_push_of_some _ e, turn_tuple a _, ⟨_, Heap.get?_push_size _ rfl, rfl, rfl⟩, old, fin _ (Yld.same hr (fun i H x hs e => ⟨xs, x, hst H hs, e⟩) (fun i H v H' hs y => ⟨y.1, y.2 xs (hst H hs)⟩) fun H hs => ⟨xs, hst H hs, Nat.le_refl _⟩)⟩
  | s z t =>
    have hq : xs = z.cps.toList.map fun c => V.str ⟨#[c]⟩ := hst H1 t1.fh
    have hl : z.cps.size = xs.length := by rw [hq]; simp
    have y : Yld X.K κ F1 (Its z) ds := Yld.same hr (fun i H x hs e => by
        show i < z.cps.size
        rw [hl]
        exact (List.getElem?_eq_some_iff.mp e).1) (fun i H v H' hs y => by
        obtain ⟨e1, c, e2, e3⟩ := y
        refine ⟨e1, ?_⟩
        rw [hq, List.getElem?_map, e3]
        have e4 : z.cps.toList[i]? = some c := by simpa using e2
        rw [e4]
        rfl) fun H hs => by
        show z.cps.size ≤ xs.length
        omega
    cases ha : z.cps.all (· < 128)
    · exact wpAny_pyIter_wide ha (pi_one (tk := s1.toks) I1 _ (turn_str _ z t "str_iterator" (.inr rfl)) ⟨_, Heap.get?_push_size _ rfl, rfl, rfl⟩ (fin _ y))
    · exact wpAny_pyIter_ascii ha (pi_one (tk := s1.toks) I1 _ (turn_str _ z t "str_ascii_iterator" (.inl rfl)) ⟨_, Heap.get?_push_size _ rfl, rfl, rfl⟩ (fin _ y))
def rngD (lo : Int) (n : Nat) : List D := (List.range n).map fun (i : Nat) => .int (lo + (i : Int))
def rng1 : A → Option (List D)
  | .d (.int n) => if n ≤ 1000000 ∧ -1000000 ≤ n then some (rngD 0 n.toNat) else none
  | _ => none
def iRng1 (f : Fe) : Fi := fun ρ S => (f ρ S).bi fun x S1 => SR.of (rng1 x) S1
def rng2 : A → A → Option (List D)
  | .d (.int m), .d (.int n) => if n ≤ 1000000 ∧ -1000000 ≤ n ∧ m ≤ 1000000 ∧ -1000000 ≤ m then some (rngD m (n - m).toNat) else none
  | _, _ => none
def iRng2 (f g : Fe) : Fi := fun ρ S => (f ρ S).bi fun x S1 => (g ρ S1).bi fun y S2 => SR.of (rng2 x y) S2
theorem Yld.rng {K : PySem.W.Frag} {κ : Kp} {F0 : Hp} {lo : Int} {n : Nat} : Yld K κ F0 (Itr lo n) (rngD lo n) := fun i F H h1 h2 => by
  unfold rngD
  refine ⟨fun x hx => ?_, fun hi => ?_⟩
  · rw [List.getElem?_map] at hx
    cases q : (List.range n)[i]? with
    | none => rw [q] at hx; cases hx
    | some j =>
      rw [q] at hx
      cases hx
      obtain ⟨hi, e⟩ := List.getElem?_eq_some_iff.mp q
      rw [List.getElem_range] at e
      subst e
      rw [List.length_range] at hi
      refine ⟨hi, fun v' H' y => ?_⟩
      obtain ⟨rfl, rfl⟩ := y
      exact ⟨F, .refl h2, fun _ _ => rfl, .int _⟩
  · rw [hi, List.length_map, List.length_range]
    exact Nat.le_refl n
theorem rng_len {lo : Int} {n : Nat} (h : n ≤ 2000000) : (rngD lo n).length ≤ sizeLine := by
  unfold rngD
  rw [List.length_map, List.length_range, sizeLine_eq]
  omega
theorem vi_rng1 {tg a : Expr} {f : Fe} {p pos : Pos} (hg : Gl X "range") (hm : X.mg "range" = none) (ha : VE X Z a f) (he : starEach [a] X.env = (false, eval a X.env) :: starEach [] X.env := by rfl) : VI X Z tg (.Call (.Name "range" p) [a] [] pos) (iRng1 f) := by
  have hp := pi_range1 (tg := tg) (p := p) (pos := pos) hg hm (va_cons ha va_nil he) he
  refine ⟨fun pins s σ H Rr I q => hp.run pins s σ H Rr I ?_⟩
  obtain ⟨κ, F, ρ, S, t, p⟩ := q
  refine at_bi t p fun v H1 F1 S1 x n1 t1 r1 p1 => ?_
  cases e : rng1 x with
  | none => rw [e] at p1; exact p1.elim
  | some ds =>
    rw [e] at p1
    unfold rng1 at e
    split at e
    · split at e
      · rename_i n h
        cases e
        rw [Rep.intv r1]
        exact ⟨n, rfl, by omega, by omega, p1 _ H1 F1 (.refl t1.fh) t1.cel (rng_len (by omega)) Yld.rng⟩
      · cases e
    · cases e
def enumD (ds : List D) : List D := ds.zipIdx.map fun p => .tuple [.int (p.2 : Nat), p.1]
def iEnum (f : Fe) : Fi := fun ρ S => (f ρ S).bi fun x S1 => SR.of ((seqD x).map enumD) S1
def zipD (ds es : List D) : List D := (ds.zip es).map fun p => .tuple [p.1, p.2]
theorem zipD_get {ds es : List D} {i : Nat} {x : D} (h : (zipD ds es)[i]? = some x) : ∃ d e, ds[i]? = some d ∧ es[i]? = some e ∧ x = .tuple [d, e] := by
  unfold zipD at h
  rw [List.getElem?_map] at h
  cases q : (ds.zip es)[i]? with
  | none => rw [q] at h; cases h
  | some p =>
    rw [q] at h
    cases h
    rw [List.getElem?_zip_eq_some] at q
    exact ⟨p.1, p.2, q.1, q.2, rfl⟩
theorem zipD_len {ds es : List D} : (zipD ds es).length = min ds.length es.length := by simp [zipD]
def zip2 (a b : Option (List D)) : Option (List D) := match a, b with
  | some ds, some es => some (zipD ds es)
  | _, _ => none
def iZip (f g : Fe) : Fi := fun ρ S => (f ρ S).bi fun x S1 => (g ρ S1).bi fun y S2 => SR.of (zip2 (seqD x) (seqD y)) S2
theorem vi_zip {e e2 : Expr} {elts : List Expr} {kk : Nat} {f g : Fe} {p pos tpos : Pos} (hg : Gl X "zip") (hm : X.mg "zip" = none) (ha : VE X Z e f) (hb : VE X Z e2 g) (he : starEach [e, e2] X.env = (false, eval e X.env) :: starEach [e2] X.env := by rfl) (he2 : starEach [e2] X.env = (false, eval e2 X.env) :: starEach [] X.env := by rfl)
    (hpl : (backTo pos (starEach [e2] X.env)).any (·.1) = false := by rfl) : VI X Z (.Tuple elts kk tpos) (.Call (.Name "zip" p) [e, e2] [] pos) (iZip f g) := by
  refine ⟨fun pins s σ H Rr I q => ?_⟩
  obtain ⟨κ, F, ρ, S, t, p⟩ := q
  have key : tvs X.K X.mg Z [f, g] σ H (fun vs H1 => ∃ v u F1 S1 x y ds es, vs = [v, u] ∧ At X.K κ F1 ρ S1 σ H1 ∧ RepA X.K κ F1 v x ∧ RepA X.K κ F1 u y ∧ seqD x = some ds ∧ seqD y = some es ∧ ∀ J, (zipD ds es).length ≤ sizeLine → Yld X.K κ F1 J (zipD ds es) → Rr J H1) := at_bi t p fun v H1 F1 S1 x n1 t1 r1 p1 => by
    refine at_bi t1 p1 fun u H2 F2 S2 y n2 t2 r2 p2 => ?_
    cases e3 : seqD x with
    | none => rw [e3] at p2; exact p2.elim
    | some ds =>
      cases e4 : seqD y with
      | none => rw [e3, e4] at p2; exact p2.elim
      | some es =>
        rw [e3, e4] at p2
        exact ⟨v, u, F2, S2, x, y, ds, es, rfl, t2, r1.up n2.ff, r2, e3, e4, fun J c d => p2 J H2 F2 (.refl t2.fh) t2.cel c d⟩
  refine Call_ (ld_blt I hg hm PyProof.Rows.boot_zip (PyProof.Rows.callWith_type1 (thn ((va_cons ha (va_cons hb va_nil he2) he).run pos pins s σ H _ I key) fun us s1 ⟨vs, H1, I1, r1, q1⟩ => ?_) he hpl))
  obtain ⟨v, u, F1, S1, x, y, ds, es, rfl, t1, ra, rb, e1, e2', q1⟩ := q1
  cases r1 with
  | cons r rr =>
    cases rr with
    | cons r' rr =>
      cases rr
      have hz := seq_size I1 t1.fh ra e1
      obtain ⟨k1, xs, rfl, hst1, hr1⟩ := sk_of ra e1 r
      obtain ⟨k2, ys, rfl, hst2, hr2⟩ := sk_of rb e2' r'
      have hq1 := hst1 H1 t1.fh
      have hq2 := hst2 H1 t1.fh
      obtain ⟨o1, Hh1, B1, hh1, h01⟩ := sk_begin I1 hq1
      obtain ⟨o2, Hh2, B2, hh2, h02⟩ := sk_begin I1 hq2
      refine zip_begins2 B1 B2 hh1 hh2 fun h' hzz hTI hTO h1 h2 hsz hk => wpAny_pyIter_zip hzz ?_
      have I2 : Inv X pins σ H1 { s1 with heap := h' } := I1.kept (t' := s1.toks) hk
      refine ⟨s1.heap.objs.size + 4, [s1.heap.objs.size + 4, s1.heap.objs.size + 2, s1.heap.objs.size + 3, s1.heap.objs.size, s1.heap.objs.size + 1], _, _, H1, rfl, I2, turn_zipK k1 k2 s1.heap.objs.size (sk_lt I1 hq1) (sk_lt I1 hq2), ⟨hzz, hTI, ⟨_, _, hTO⟩, h01 _ _ h1, h02 _ _ h2⟩, fun c hcm => ?_,
        q1 _ (by rw [zipD_len]; omega) fun i F H h1 h2 => ⟨fun z hz' => ?_, fun hi => ?_⟩⟩
      · have e' : c = s1.heap.objs.size + 4 ∨ c = s1.heap.objs.size + 2 ∨ c = s1.heap.objs.size + 3 ∨ c = s1.heap.objs.size ∨ c = s1.heap.objs.size + 1 := by simpa using hcm
        have hle : s1.heap.objs.size ≤ c := by
          rcases e' with z | z | z | z | z
          · rw [z]; exact Nat.le_add_right _ _
          · rw [z]; exact Nat.le_add_right _ _
          · rw [z]; exact Nat.le_add_right _ _
          · rw [z]; exact Nat.le_refl _
          · rw [z]; exact Nat.le_add_right _ _
        exact I1.fpOk hle (I1.hok.fresh hle)
      · obtain ⟨d, d2, hd, hd2, rfl⟩ := zipD_get hz'
        obtain ⟨w, hw, rw1⟩ := hr1.get hd
        obtain ⟨w2, hw2, rw2⟩ := hr2.get hd2
        refine ⟨⟨xs, ys, w, w2, hst1 H (h1.trans h2), hst2 H (h1.trans h2), hw, hw2⟩, fun v' H' y => ?_⟩
        obtain ⟨T, w', w2', rfl, hT, rfl, hy, hy2⟩ := y
        have e3 := hy xs (hst1 H (h1.trans h2))
        rw [hw] at e3
        cases e3
        have e4 := hy2 ys (hst2 H (h1.trans h2))
        rw [hw2] at e4
        cases e4
        have n := Nxt.newF (κ := κ) (o := .tup [w, w2]) h2 hT
        exact ⟨_, n, fun b hb => upd_ne (fun z => hb (by rw [z]; exact hT)), .tup (.of upd_same) (.cons (Rep.up (h1.trans n.ff) _ _ rw1) (.cons (Rep.up (h1.trans n.ff) _ _ rw2) .nil))⟩
      · rw [zipD_len] at hi
        exact ⟨xs, ys, hst1 H (h1.trans h2), hst2 H (h1.trans h2), by rw [hi, hr1.len, hr2.len]⟩
end
end PD

namespace PD
open PySem PySem.Spec PyProof.Rows L2
abbrev Gt := D → En → Option En
def tgt (K : PySem.W.Frag) (sl : List Nat) (g : Gt) : TG := fun v σ H Q => ∃ κ F ρ S x ρ', At K κ F ρ S σ H ∧ Rep K F v x ∧ g x ρ = some ρ' ∧ ∀ σ', At K κ F ρ' S σ' H → (∀ j, j ∉ sl → σ'[j]? = σ[j]?) → σ'.length = σ.length → Q σ' H
abbrev VG (X : Cx) (tg : Expr) (sl : List Nat) (g : Gt) : Prop := PG X tg (tgt X.K sl g)
theorem _root_.L2.PG.imp {X : Cx} {e : Expr} {t t' : TG} (h : PG X e t) (i : ∀ v σ H Q, t' v σ H Q → t v σ H Q) : PG X e t' := ⟨fun pins s σ H v u Q I r q => h.run pins s σ H v u Q I r (i v σ H Q q)⟩
def gNm (i : Nat) : Gt := fun x ρ => some (ρ.set i (some (.d x)))
theorem At.set {K : PySem.W.Frag} {κ : Kp} {F H : Hp} {ρ : En} {S : Cs} {σ : L2.St} {v : V} {x : A} (t : At K κ F ρ S σ H) (i : Nat) (r : RepA K κ F v x) : At K κ F (ρ.set i (some x)) S (σ.set i (some v)) H := by
  refine ⟨fun j y h => ?_, t.fh, t.cel, by rw [List.length_set, List.length_set]; exact t.ln⟩
  by_cases hj : i = j
  · subst hj
    by_cases hi : i < ρ.length
    · rw [List.getElem?_set_self hi] at h
      cases h
      exact ⟨v, List.getElem?_set_self (Nat.lt_of_lt_of_le hi t.ln), r⟩
    · rw [List.getElem?_eq_none (by rw [List.length_set]; omega)] at h
      cases h
  · rw [List.getElem?_set_ne hj] at h
    obtain ⟨w, h1, h2⟩ := t.rel j y h
    exact ⟨w, by rw [List.getElem?_set_ne hj]; exact h1, h2⟩
section
variable {X : Cx} {Z : WX}
theorem vg_name (i : Nat) {x : Str} {pos : Pos} (hN : X.N.Nodup) (hi : X.N[i]? = some x := by rfl) (hx : Loc X.env.scope x := by first | exact Or.inl rfl | exact Or.inr rfl) (hf : X.fn x = true ∨ X.env.scope.names.lookup x = some .local := by first | exact .inl rfl | exact .inr rfl | assumption) : VG X (.Name x pos) [i] (gNm i) :=
  (pg_name hN hi hx hf).imp fun v σ H Q h => by
    obtain ⟨κ, F, ρ, S, x, ρ', t, r, e, g⟩ := h
    cases e
    exact g _ (t.set i (show RepA X.K κ F v (.d x) from r)) (fun j hj => List.getElem?_set_ne (fun z => hj (by simp [z]))) (by simp)
def gNs : List Nat → TGs
  | [] => gNil
  | i :: is => gCons (gName i) (gNs is)
def setD : List Nat → List D → En → En
  | i :: is, d :: ds, ρ => setD is ds (ρ.set i (some (.d d)))
  | _, _, ρ => ρ
def gTp (is : List Nat) : Gt := fun x ρ => match x with
  | .tuple ds => if ds.length = is.length then some (setD is ds ρ) else none
  | _ => none
theorem gNs_of {K : PySem.W.Frag} {κ : Kp} {F H : Hp} {S : Cs} : ∀ {is : List Nat} {vs : List V} {ds : List D} {ρ : En} {σ : L2.St} {Q : L2.St → Hp → Prop}, At K κ F ρ S σ H → RepAll K F vs ds → ds.length = is.length →
    (∀ σ', At K κ F (setD is ds ρ) S σ' H → (∀ j, j ∉ is → σ'[j]? = σ[j]?) → σ'.length = σ.length → Q σ' H) → gNs is vs σ H Q
  | [], _, _, ρ, σ, Q, t, .nil, _, g => ⟨rfl, g σ t (fun _ _ => rfl) rfl⟩
  | i :: is, _, _, ρ, σ, Q, t, .cons (v := v) (vs := vs) (d := d) (ds := ds) r rs, e, g => by
    refine ⟨v, vs, rfl, ?_⟩
    refine gNs_of (t.set i (show RepA K κ F v (.d d) from r)) rs (by simpa using e) fun σ' t' h1 h2 => ?_
    refine g σ' t' (fun j hj => ?_) (by rw [h2, List.length_set])
    rw [h1 j (fun z => hj (List.mem_cons_of_mem _ z)), List.getElem?_set_ne (fun z => hj (by simp [z]))]
  | [], _, _, _, _, _, _, .cons _ _, e, _ => by simp at e
  | _ :: _, _, _, _, _, _, _, .nil, e, _ => by simp at e
theorem vg_tup {es : List Expr} {k : Nat} {is : List Nat} {pos : Pos} (hc : X.calm = true) (h : PGs X es (gNs is)) (hn : (assignEach es X.env).length = is.length := by rfl) (hst : (assignEach es X.env).findIdx? (·.1) = none := by rfl) : VG X (.Tuple es k pos) is (gTp is) :=
  (pg_tup (n := is.length) hc h hn hst).imp fun v σ H Q q => by
    obtain ⟨κ, F, ρ, S, x, ρ', t, r, e, g⟩ := q
    cases x with
    | tuple ds =>
      unfold gTp at e
      simp only at e
      split at e
      · rename_i hl
        cases e
        obtain ⟨a, vs, rfl, h1, h2⟩ := Rep.tupv r
        exact ⟨a, vs, rfl, Same.seqT t.fh h1, h2.len.trans hl, gNs_of t h2 hl g⟩
      · cases e
    | _ => cases e
theorem gns_nil : PGs X [] (gNs []) := pgs_nil
theorem gns_cons (i : Nat) {is : List Nat} {x : Str} {p : Pos} {es : List Expr} (hN : X.N.Nodup) (hs : PGs X es (gNs is)) (he : (assignEach (.Name x p :: es) X.env).map (·.2) = assign (.Name x p) X.env :: (assignEach es X.env).map (·.2) := by rfl) (hi : X.N[i]? = some x := by rfl) (hx : Loc X.env.scope x := by first | exact Or.inl rfl | exact Or.inr rfl)
    (hf : X.fn x = true ∨ X.env.scope.names.lookup x = some .local := by first | exact .inl rfl | exact .inr rfl | assumption) : PGs X (.Name x p :: es) (gNs (i :: is)) := pgs_cons (pg_name hN hi hx hf) hs he
def wipeE (ρ : En) : List Nat → En
  | [] => ρ
  | v :: vs => (wipeE ρ vs).set v none
theorem wipeE_some {ρ : En} {i : Nat} {x : A} : ∀ {vs : List Nat}, (wipeE ρ vs)[i]? = some (some x) → ρ[i]? = some (some x) ∧ i ∉ vs
  | [], h => ⟨h, by simp⟩
  | v :: vs, h => by
    unfold wipeE at h
    by_cases hi : v = i
    · subst hi
      by_cases hv : v < (wipeE ρ vs).length
      · rw [List.getElem?_set_self hv] at h; cases h
      · rw [List.getElem?_eq_none (by simpa using hv)] at h; cases h
    · rw [List.getElem?_set_ne hi] at h
      obtain ⟨h1, h2⟩ := wipeE_some h
      exact ⟨h1, by simp only [List.mem_cons, not_or]; exact ⟨fun e => hi e.symm, h2⟩⟩
theorem wipeE_len (ρ : En) : ∀ vs : List Nat, (wipeE ρ vs).length = ρ.length
  | [] => rfl
  | v :: vs => by unfold wipeE; rw [List.length_set, wipeE_len ρ vs]
theorem wipe_at {σ : L2.St} {i : Nat} : ∀ {vs : List Nat}, i ∈ vs → (wipe σ vs)[i]? = if i < σ.length then some none else none
  | [], h => by simp at h
  | v :: vs, h => by
    unfold wipe
    by_cases hi : v = i
    · subst hi
      rw [List.getElem?_set]
      simp [wipe_length]
    · rw [List.getElem?_set_ne hi]
      exact wipe_at ((List.mem_cons.mp h).resolve_left fun e => hi e.symm)
theorem wipe_eq {σ σ' : L2.St} {vs sl : List Nat} (h : ∀ j, j ∉ sl → σ'[j]? = (wipe σ vs)[j]?) (hs : ∀ i ∈ sl, i ∈ vs) (hl : σ'.length = (wipe σ vs).length) : wipe σ' vs = wipe σ vs := by
  apply List.ext_getElem?
  intro j
  have hl' : σ'.length = σ.length := hl.trans (wipe_length σ vs)
  by_cases hj : j ∈ vs
  · rw [wipe_at hj, wipe_at hj, hl']
  · rw [wipe_out hj]
    exact h j fun z => hj (hs j z)
theorem At.wipe {K : PySem.W.Frag} {κ : Kp} {F H : Hp} {ρ : En} {S : Cs} {σ : L2.St} (t : At K κ F ρ S σ H) (vs : List Nat) : At K κ F (wipeE ρ vs) S (L2.wipe σ vs) H := by
  refine ⟨fun i x h => ?_, t.fh, t.cel, by rw [wipeE_len, wipe_length]; exact t.ln⟩
  obtain ⟨h1, h2⟩ := wipeE_some h
  obtain ⟨v, h3, h4⟩ := t.rel i x h1
  exact ⟨v, by rw [wipe_out h2]; exact h3, h4⟩
def compL (g : Gt) (fc fe : Fe) (ρ : En) : List D → Cs → List W → R
  | [], S, acc => .ok (.own acc) S
  | x :: xs, S, acc => match g x ρ with
    | none => .stuck
    | some ρ1 => match fc ρ1 S with
      | .ok (.a (.d (.bool true))) S1 => match fe ρ1 S1 with
        | .ok w S2 => compL g fc fe ρ xs S2 (acc ++ [w])
        | _ => .stuck
      | .ok (.a (.d (.bool false))) S1 => compL g fc fe ρ xs S1 acc
      | _ => .stuck
def fComp (vs : List Nat) (src : Fi) (g : Gt) (fc fe : Fe) : Fe := fun ρ S => match src ρ S with
  | .ok items S1 => compL g fc fe (wipeE ρ vs) items S1 []
  | .exc n S1 => .exc n S1
  | .stuck => .stuck
def fTrue : Fe := fun _ S => .ok (bD true) S
abbrev Z0 : WX := fun _ _ _ _ => False
abbrev VTs (X : Cx) (Z : WX) (ifs : List Expr) (f : Fe) : Prop := PTs X ifs (tB (tv X.K X.mg Z f))
theorem vts_nil : VTs X Z [] fTrue := ⟨fun pins s σ H Q I h => pts_nil.run pins s σ H Q I (by
  obtain ⟨κ, F, ρ, S, t, p⟩ := h
  have q : ∃ c, V.bl true = .bl c ∧ Q c H := Post.bl p t
  obtain ⟨c, e, q⟩ := q
  cases e
  exact q)⟩
theorem vts_one {c : Expr} {f : Fe} (h : VT X Z c f) : VTs X Z [c] f := pts_one h
theorem tabs_wr {H : Hp} {p : Addr} {o : HO} {vs : List V} (hd : H p = some (.lst vs)) (T : List (Addr × Str)) (h : LamX.Tabs T H) : LamX.Tabs T (upd H p o) := by
  intro q hq
  obtain ⟨ps, h5, h6, h7⟩ := h q hq
  refine ⟨ps, by rw [upd_ne (fun z => by rw [z, hd] at h5; cases h5)]; exact h5, h6, fun pp cv hcv => ?_⟩
  obtain ⟨c0, e1, e2⟩ := h7 pp cv hcv
  exact ⟨c0, e1, by rw [upd_ne (fun z => by rw [z, hd] at e2; cases e2)]; exact e2⟩
theorem Nxt.wr {κ : Kp} {F1 H1 F H : Hp} {p : Addr} {vs vs' : List V} (n : Nxt κ F1 H1 F H) (h0 : FrT H1 p) (fd : F p = none) (hd : H p = some (.lst vs)) : Nxt κ F1 H1 F (upd H p (.lst vs')) := by
  refine ⟨n.ff, fun b u e => ?_, fun b u e a z => ?_, fun b e => ?_, fun h => ?_, n.fn, n.nt⟩
  · rw [upd_ne (fun z => by rw [z, fd] at e; cases e)]; exact n.fh b u e
  · rw [upd_ne (fun zz => by
      rw [zz] at e
      obtain ⟨ps, q⟩ := h0 _ e
      exact z ps q)]
    exact n.kp b u e a z
  · exact frT_wr (n.dm b e)
  · intro q hq
    obtain ⟨ps, h5, h6, h7⟩ := n.tb h q hq
    refine ⟨ps, by rw [upd_ne (fun z => by rw [z, hd] at h5; cases h5)]; exact h5, h6, fun pp cv hcv => ?_⟩
    obtain ⟨c0, e1, e2⟩ := h7 pp cv hcv
    exact ⟨c0, e1, by rw [upd_ne (fun z => by rw [z, hd] at e2; cases e2)]; exact e2⟩
theorem Cel.wr {K : PySem.W.Frag} {κ : Kp} {F H : Hp} {S : Cs} {p : Addr} {o : HO} {vs : List V} (c : Cel K κ F H S) (hk : p ∉ κ.l) (hd : H p = some (.lst vs)) : Cel K κ F (upd H p o) S := by
  refine ⟨c.len, c.nd, fun k a ds e1 e2 => ?_, c.fz, ⟨c.tb.1, tabs_wr hd _ c.tb.2⟩, c.nt⟩
  exact (c.cl k a ds e1 e2).up (Same.refl _) (upd_ne (show a ≠ p from fun z => hk (by rw [← z]; exact List.mem_of_getElem? e1)))
theorem Nxt.own1 {κ : Kp} {F H F' H' : Hp} {p : Addr} {vs : List V} (n : Nxt κ F H F' H') (hd : H p = some (.lst vs)) (fd : F p = none) (hk : p ∉ κ.l) : H' p = some (.lst vs) ∧ F' p = none := by
  obtain ⟨h1, h2⟩ := n.own (L := [p]) (fun a ha => ⟨vs, by rw [List.mem_singleton.mp ha]; exact hd⟩) (fun a ha => by rw [List.mem_singleton.mp ha]; exact fd) (fun a ha => by rw [List.mem_singleton.mp ha]; exact hk)
  exact ⟨h1 p (by simp) _ hd, h2 p (by simp)⟩
structure CInv (K : PySem.W.Frag) (κ : Kp) (F1 H1 : Hp) (Dd : Addr) (i : Nat) (F H : Hp) (S : Cs) (acc : List W) (vs : List V) (L : List Addr) : Prop where
  n : Nxt κ F1 H1 F H
  c : Cel K κ F H S
  d : H Dd = some (.lst vs)
  fd : F Dd = none
  r : RepWs K κ F H acc vs L
  nd : (Dd :: L).Nodup
  nw : ∀ p ∈ L, FrT H1 p ∧ F p = none
  ln : vs.length ≤ i
theorem lc_of {src : Fi} {sl ow : List Nat} {g : Gt} {fc fe : Fe} {K : PySem.W.Frag} {mg : Str → Option Value} {Z : WX} (hsl : ∀ i ∈ sl, i ∈ ow) {σ : L2.St} {H : Hp} {Q : VK} (q : tv K mg Z (fComp ow src g fc fe) σ H Q) : tLc (tvi K mg Z src) (tgt K sl g) (tB (tv K mg Z0 fc)) (tv K mg Z0 fe) ow σ H Q := by
  obtain ⟨κ, F, ρ, S, t, p⟩ := q
  refine ⟨κ, F, ρ, S, t, ?_⟩
  unfold fComp at p
  cases q : src ρ S with
  | stuck => rw [q] at p; exact p
  | exc m S1 => rw [q] at p; exact p
  | ok items S1 =>
    rw [q] at p
    simp only at p
    intro J H1 F1 n1 c1 len y Dd hD
    have dk : Dd ∉ κ.l := fun z => by
      obtain ⟨vs, e, _⟩ := c1.there Dd z
      rw [hD] at e; cases e
    refine ⟨fun i m H' => m = items.length - i ∧ i ≤ items.length ∧ ∃ F' S' acc vs L, CInv K κ F1 H1 Dd i F' H' S' acc vs L ∧ Post K mg Z κ F H σ (compL g fc fe (wipeE ρ ow) (items.drop i) S' acc) Q,
      ⟨items.length, by simp, Nat.zero_le _, F1, S1, [], [], [], ⟨Nxt.newH n1.fh hD, c1.newH n1.fh hD, upd_same, n1.fh.free hD, ⟨rfl, rfl⟩, by simp, fun _ h => absurd h (by simp), Nat.le_refl _⟩, p⟩, ?_⟩
    rintro i m H' ⟨rfl, hi, F', S', acc, vs, L, ci, p'⟩
    by_cases hlt : i < items.length
    · obtain ⟨yg, yy⟩ := (y i F' H' ci.n.ff ci.n.fh).1 items[i] (List.getElem?_eq_getElem hlt)
      refine .inr ⟨yg, fun H' => i + 1 ≤ items.length ∧ ∃ F' S' acc vs L, CInv K κ F1 H1 Dd (i + 1) F' H' S' acc vs L ∧ Post K mg Z κ F H σ (compL g fc fe (wipeE ρ ow) (items.drop (i + 1)) S' acc) Q, fun H' h => ⟨items.length - (i + 1), by omega, rfl, h⟩, fun v H2 y2 => ?_⟩
      obtain ⟨F2, n2, k2, r2⟩ := yy v H2 y2
      have dr : items.drop i = items[i] :: items.drop (i + 1) := List.drop_eq_getElem_cons hlt
      rw [dr] at p'
      unfold compL at p'
      cases eg : g items[i] (wipeE ρ ow) with
      | none => rw [eg] at p'; exact p'.elim
      | some ρ1 =>
        rw [eg] at p'
        simp only at p'
        have c2 : Cel K κ F2 H2 S' := ci.c.up n2 fun a ha => by
          obtain ⟨vs, e, _⟩ := ci.c.there a ha
          exact k2 a (by rw [e]; simp)
        have tw : At K κ F2 (wipeE ρ ow) S' (wipe σ ow) H2 := (t.nxt (n1.trans (ci.n.trans n2)) c2).wipe _
        refine ⟨κ, F2, _, S', items[i], ρ1, tw, r2, eg, fun σ2 t2 h1 h2 => ⟨wipe_eq h1 hsl h2, ?_⟩⟩
        refine ⟨κ, F2, ρ1, S', t2, ?_⟩
        -- what stands across a step from (F2, H2)
        have dD2 : H2 Dd = some (.lst vs) := by rw [k2 Dd (by rw [ci.d]; simp)]; exact ci.d
        have own2 : ∀ {Fa Ha : Hp}, Nxt κ F2 H2 Fa Ha → Ha Dd = some (.lst vs) ∧ Fa Dd = none ∧ RepWs K κ Fa Ha acc vs L ∧ (∀ p ∈ L, FrT H1 p ∧ Fa p = none) := fun {Fa Ha} na => by
          have nn := n2.trans na
          have th := RepWs.there acc vs L ci.r
          have lk : ∀ a ∈ L, a ∉ κ.l := fun a ha z => by
            exact c1.notT z (ci.nw a ha).1
          obtain ⟨k1, k3⟩ := nn.own th (fun a ha => (ci.nw a ha).2) lk
          obtain ⟨k4, k5⟩ := nn.own1 ci.d ci.fd dk
          exact ⟨k4, k5, RepWs.up nn.ff acc vs L k1 ci.r, fun p hp => ⟨(ci.nw p hp).1, k3 p hp⟩⟩
        cases ec : fc ρ1 S' with
        | stuck => rw [ec] at p'; exact p'.elim
        | exc m S2 => rw [ec] at p'; exact p'.elim
        | ok w S2 =>
          rw [ec] at p'
          intro vb H3 F3 L3 n3 c3 r3 nd3 nw3
          match w, r3, p', ec with
          | .a (.d (.bool false)), r3, p', _ =>
            have eb : vb = .bl false := Rep.blv r3.2
            refine ⟨false, eb, iteF ⟨hlt, F3, S2, acc, vs, L, ?_, p'⟩⟩
            obtain ⟨o1, o2, o3, o4⟩ := own2 n3
            exact ⟨ci.n.trans (n2.trans n3), c3, o1, o2, o3, ci.nd, o4, Nat.le_succ_of_le ci.ln⟩
          | .a (.d (.bool true)), r3, p', _ =>
            have eb : vb = .bl true := Rep.blv r3.2
            refine ⟨true, eb, iteT ?_⟩
            have t3 := t2.nxt n3 c3
            refine ⟨κ, F3, ρ1, S2, t3, ?_⟩
            cases ee : fe ρ1 S2 with
            | stuck => simp only [ee] at p'; exact p'.elim
            | exc m S3 => simp only [ee] at p'; exact p'.elim
            | ok w2 S3 =>
              simp only [ee] at p'
              intro ve H4 F4 L4 n4 c4 r4 nd4 nw4
              obtain ⟨o1, o2, o3, o4⟩ := own2 (n3.trans n4)
              refine ⟨vs, o1, Nat.lt_of_le_of_lt ci.ln (Nat.lt_of_lt_of_le hlt len), hlt, F4, S3, acc ++ [w2], vs ++ [ve], L ++ L4, ?_, p'⟩
              have d4 : ∀ a ∈ L4, a ≠ Dd := fun a ha z => by
                have := (nw4 a ha).1
                rw [z] at this
                exact this.no (own2 n3).1
              have dL : ∀ a ∈ L, a ≠ Dd := fun a ha z => (List.nodup_cons.mp ci.nd).1 (z ▸ ha)
              have th4 := RepW.there w2 ve L4 r4
              have thL := RepWs.there acc vs L (own2 n3).2.2.1
              have nn := ci.n.trans (n2.trans (n3.trans n4))
              have n5 : Nxt κ F1 H1 F4 (upd H4 Dd (.lst (vs ++ [ve]))) := nn.wr (frT_none hD) o2 o1
              refine ⟨n5, c4.wr dk o1, upd_same, o2, ?_, ?_, fun a ha => ?_, ?_⟩
              · refine RepWs.app (RepWs.up (Same.refl _) acc vs L (fun a ha o e => by rw [upd_ne (dL a ha)]; exact e) o3) ⟨ve, [], L4, [], rfl, by simp, RepW.up (Same.refl _) w2 ve L4 (fun a ha o e => by rw [upd_ne (d4 a ha)]; exact e) r4, rfl, rfl⟩
              · refine List.nodup_cons.mpr ⟨fun z => ?_, List.nodup_append.mpr ⟨(List.nodup_cons.mp ci.nd).2, nd4, fun a ha b hb => ?_⟩⟩
                · rcases List.mem_append.mp z with z | z
                  · exact dL Dd z rfl
                  · exact d4 Dd z rfl
                · rintro rfl
                  obtain ⟨us, hu⟩ := thL a ha
                  have := (nw4 a hb).1
                  exact this.no hu
              · rcases List.mem_append.mp ha with z | z
                · exact o4 a z
                · exact ⟨(ci.n.trans (n2.trans n3)).back (nw4 a z).1, (nw4 a z).2⟩
              · rw [List.length_append]
                have := ci.ln
                show vs.length + 1 ≤ i + 1
                omega
          | .own _, _, p', _ => exact p'.elim
          | .a (.c _), _, p', _ => exact p'.elim
          | .a (.s _), _, p', _ => exact p'.elim
          | .a (.e _), _, p', _ => exact p'.elim
          | .a (.d .none), _, p', _ => exact p'.elim
          | .a (.d (.int _)), _, p', _ => exact p'.elim
          | .a (.d (.str _)), _, p', _ => exact p'.elim
          | .a (.d (.list _)), _, p', _ => exact p'.elim
          | .a (.d (.tuple _)), _, p', _ => exact p'.elim
          | .a (.d (.dict _)), _, p', _ => exact p'.elim
    · have e : i = items.length := by omega
      subst e
      refine .inl ⟨(y _ F' H' ci.n.ff ci.n.fh).2 rfl, ?_⟩
      rw [List.drop_length] at p'
      have nn := n1.trans ci.n
      exact p' (.ref Dd) H' F' (Dd :: L) nn ci.c ⟨Dd, vs, L, rfl, ci.d, rfl, ci.r⟩ ci.nd fun a ha => by
        rcases List.mem_cons.mp ha with rfl | ha
        · exact ⟨n1.back (frT_none hD), ci.fd⟩
        · exact ⟨n1.back (ci.nw a ha).1, (ci.nw a ha).2⟩
theorem ve_comp {elt tg iter : Expr} {ifs : List Expr} {scope : Scope} {own : List (Str × Nat)} {pos : Pos} {src : Fi} {sl : List Nat} {g : Gt} {fc fe : Fe} (hc : X.calm = true) (hN : X.N.Nodup) (hi : VI X Z tg iter src) (ok : BlkOk X.N X.env.scope scope own)
    (hg : ∀ (s : Shared) (H : Hp) (C : Addr) (cl : List (Str × Addr)) (fp : List Addr), VG (X.blk s H scope (compEnvC scope cl C X.env) fp) tg sl g) (ht : ∀ (s : Shared) (H : Hp) (C : Addr) (cl : List (Str × Addr)) (fp : List Addr), VTs (X.blk s H scope (compEnvC scope cl C X.env) fp) Z0 ifs fc)
    (he : ∀ (s : Shared) (H : Hp) (C : Addr) (cl : List (Str × Addr)) (fp : List Addr), VE (X.blk s H scope (compEnvC scope cl C X.env) fp) Z0 elt fe) (hsl : ∀ i ∈ sl, i ∈ own.map (·.2) := by decide) (hs : ∀ x, foldedSetIterable iter X.env x = pure x := by intro _; rfl) :
    VE X Z (.ListComp elt [⟨tg, iter, ifs, 0⟩] scope pos) (fComp (own.map (·.2)) src g fc fe) := (pe_lc (g := tgt X.K sl g) (tt := tB (tv X.K X.mg Z0 fc)) (te := tv X.K X.mg Z0 fe) hc hN hi ok hg ht he hs).imp fun σ H Q q => lc_of hsl q
end
end PD

namespace PD
open PySem PySem.Spec PyProof.Rows L2
abbrev Ev := List (Option W)
inductive Fl where
  | nx (ρ : Ev) (S : Cs) | rt (w : W) (S : Cs) | exc (n : Str) (S : Cs) | stuck
abbrev Fs := Ev → Cs → Fl
structure Slots (K : PySem.W.Frag) (κ : Kp) (H0 F H : Hp) (ρ : Ev) (σ : L2.St) (fp : Nat → List Addr) : Prop where
  rep : ∀ (i : Nat) (w : W), ρ[i]? = some (some w) → ∃ v, σ[i]? = some (some v) ∧ RepW K κ F H w v (fp i)
  non : ∀ (i : Nat), (∀ w : W, ρ[i]? ≠ some (some w)) → fp i = []
  nd : ∀ i : Nat, (fp i).Nodup
  dis : ∀ i j : Nat, i ≠ j → ∀ a ∈ fp i, a ∉ fp j
  nw : ∀ i : Nat, ∀ a ∈ fp i, FrT H0 a ∧ F a = none
structure Ats (K : PySem.W.Frag) (κ : Kp) (F0 H0 F : Hp) (ρ : Ev) (S : Cs) (σ : L2.St) (H : Hp) : Prop where
  n : Nxt κ F0 H0 F H
  c : Cel K κ F H S
  ck : ∀ a ∈ κ.l, ¬ FrT H0 a
  ln : ρ.length ≤ σ.length
  sl : ∃ fp, Slots K κ H0 F H ρ σ fp
def ev1 : Option W → Option A
  | some (.a x) => some x
  | _ => none
def ev (ρ : Ev) : En := ρ.map ev1
def frz1 (i : Nat) (ρ : Ev) : Ev := match ρ[i]? with
  | some (some (.own ws)) => match W.toA (.own ws) with
    | some x => ρ.set i (some (.a x))
    | none => ρ
  | _ => ρ
def frzE : List Nat → Ev → Ev
  | [], ρ => ρ
  | i :: is, ρ => frzE is (frz1 i ρ)
section
variable {K : PySem.W.Frag} {mg : Str → Option Value} {Z : WX} {κ : Kp} {F0 H0 F H F1 H1 : Hp} {ρ : Ev} {S S1 : Cs} {σ : L2.St}
theorem Ats.at_ (t : Ats K κ F0 H0 F ρ S σ H) : At K κ F (ev ρ) S σ H := by
  obtain ⟨fp, sl⟩ := t.sl
  refine ⟨fun i x h => ?_, t.n.fh, t.c, by unfold ev; rw [List.length_map]; exact t.ln⟩
  unfold ev at h
  rw [List.getElem?_map] at h
  cases q : ρ[i]? with
  | none => rw [q] at h; cases h
  | some o =>
    rw [q] at h
    match o, q, h with
    | some (.a y), q, h =>
      cases h
      obtain ⟨v, h1, h2⟩ := sl.rep i _ q
      exact ⟨v, h1, h2.2⟩
    | some (.own ws), q, h => cases h
    | none, q, h => cases h
theorem Ats.nok (t : Ats K κ F0 H0 F ρ S σ H) {fp : Nat → List Addr} (sl : Slots K κ H0 F H ρ σ fp) (i : Nat) : ∀ a ∈ fp i, a ∉ κ.l := fun a ha z => t.ck a z (sl.nw i a ha).1
theorem Slots.there {fp : Nat → List Addr} (sl : Slots K κ H0 F H ρ σ fp) (i : Nat) : ∀ a ∈ fp i, ∃ vs, H a = some (.lst vs) := fun a ha => by
  by_cases h : ∃ w, ρ[i]? = some (some w)
  · obtain ⟨w, h⟩ := h
    obtain ⟨v, _, r⟩ := sl.rep i w h
    exact RepW.there w v _ r a ha
  · rw [sl.non i fun w e => h ⟨w, e⟩] at ha
    exact absurd ha (by simp)
theorem Ats.nxt (t : Ats K κ F0 H0 F ρ S σ H) (n : Nxt κ F H F1 H1) (c : Cel K κ F1 H1 S1) : Ats K κ F0 H0 F1 ρ S1 σ H1 := by
  obtain ⟨fp, sl⟩ := t.sl
  refine ⟨t.n.trans n, c, t.ck, t.ln, fp, fun i w h => ?_, sl.non, sl.nd, sl.dis, fun i a ha => ?_⟩
  · obtain ⟨v, h1, h2⟩ := sl.rep i w h
    obtain ⟨k1, _⟩ := n.own (sl.there i) (fun a ha => (sl.nw i a ha).2) (t.nok sl i)
    exact ⟨v, h1, RepW.up n.ff w v _ k1 h2⟩
  · obtain ⟨_, k2⟩ := n.own (sl.there i) (fun a ha => (sl.nw i a ha).2) (t.nok sl i)
    exact ⟨(sl.nw i a ha).1, k2 a ha⟩
theorem Ats.set {w : W} {v : V} {L : List Addr} (t : Ats K κ F0 H0 F ρ S σ H) (i : Nat) (r : RepW K κ F H w v L) (nd : L.Nodup) (nw : ∀ a ∈ L, FrT H0 a ∧ F a = none) (ap : ∀ fp, Slots K κ H0 F H ρ σ fp → ∀ j, j ≠ i → ∀ a ∈ fp j, a ∉ L) : Ats K κ F0 H0 F (ρ.set i (some w)) S (σ.set i (some v)) H := by
  obtain ⟨fp, sl⟩ := t.sl
  refine ⟨t.n, t.c, t.ck, by rw [List.length_set, List.length_set]; exact t.ln, fun j => if j = i then (if i < ρ.length then L else []) else fp j, fun j w' h => ?_, fun j h => ?_, fun j => ?_, fun j k hjk a ha => ?_, fun j a ha => ?_⟩
  · by_cases hj : j = i
    · subst hj
      by_cases hi : j < ρ.length
      · rw [List.getElem?_set_self hi] at h
        cases h
        refine ⟨v, List.getElem?_set_self (Nat.lt_of_lt_of_le hi t.ln), ?_⟩
        show RepW K κ F H _ v (if j = j then (if j < ρ.length then L else []) else fp j)
        rw [if_pos rfl, if_pos hi]
        exact r
      · rw [List.getElem?_eq_none (by rw [List.length_set]; omega)] at h
        cases h
    · rw [List.getElem?_set_ne (Ne.symm hj)] at h
      obtain ⟨v', h1, h2⟩ := sl.rep j w' h
      refine ⟨v', by rw [List.getElem?_set_ne (Ne.symm hj)]; exact h1, ?_⟩
      show RepW K κ F H _ v' (if j = i then (if i < ρ.length then L else []) else fp j)
      rw [if_neg hj]
      exact h2
  · show (if j = i then (if i < ρ.length then L else []) else fp j) = []
    by_cases hj : j = i
    · subst hj
      rw [if_pos rfl]
      by_cases hi : j < ρ.length
      · exact absurd (List.getElem?_set_self hi) (h w)
      · rw [if_neg hi]
    · rw [if_neg hj]
      exact sl.non j fun w' e => h w' (by rw [List.getElem?_set_ne (Ne.symm hj)]; exact e)
  · show (if j = i then (if i < ρ.length then L else []) else fp j).Nodup
    split
    · split
      · exact nd
      · exact .nil
    · exact sl.nd j
  · show a ∉ (if k = i then (if i < ρ.length then L else []) else fp k)
    have ha : a ∈ (if j = i then (if i < ρ.length then L else []) else fp j) := ha
    by_cases hj : j = i
    · rw [if_pos hj] at ha
      split at ha
      · rw [if_neg (fun z => hjk (hj.trans z.symm))]
        exact fun z => ap fp sl k (fun e => hjk (hj.trans e.symm)) a z ha
      · exact absurd ha (by simp)
    · rw [if_neg hj] at ha
      split
      · split
        · exact ap fp sl j hj a ha
        · simp
      · exact sl.dis j k hjk a ha
  · have ha : a ∈ (if j = i then (if i < ρ.length then L else []) else fp j) := ha
    split at ha
    · split at ha
      · exact nw a ha
      · exact absurd ha (by simp)
    · exact sl.nw j a ha
theorem Ats.setA {x : A} {v : V} (t : Ats K κ F0 H0 F ρ S σ H) (i : Nat) (r : RepA K κ F v x) : Ats K κ F0 H0 F (ρ.set i (some (.a x))) S (σ.set i (some v)) H :=
  t.set i (L := []) ⟨rfl, r⟩ .nil (fun a ha => absurd ha (by simp)) fun _ _ _ _ _ _ => by simp
theorem Ats.setN {w : W} {v : V} {L : List Addr} (t : Ats K κ F0 H0 F ρ S σ H) (i : Nat) (n : Nxt κ F H F1 H1) (c : Cel K κ F1 H1 S1) (r : RepW K κ F1 H1 w v L) (nd : L.Nodup) (nw : ∀ a ∈ L, FrT H a ∧ F1 a = none) : Ats K κ F0 H0 F1 (ρ.set i (some w)) S1 (σ.set i (some v)) H1 := by
  have t1 := t.nxt n c
  obtain ⟨fp, sl⟩ := t.sl
  refine ⟨t1.n, t1.c, t1.ck, by rw [List.length_set, List.length_set]; exact t.ln, ?_⟩
  have t2 : ∀ fp, Slots K κ H0 F H ρ σ fp → ∀ j, ∀ a ∈ fp j, a ∉ L := fun fp sl j a ha z => by
    obtain ⟨us, e⟩ := sl.there j a ha
    exact (nw a z).1.no e
  -- the same footprints behind the step
  have sl1 : Slots K κ H0 F1 H1 ρ σ fp := by
    refine ⟨fun i w h => ?_, sl.non, sl.nd, sl.dis, fun i a ha => ?_⟩
    · obtain ⟨v, h1, h2⟩ := sl.rep i w h
      obtain ⟨k1, _⟩ := n.own (sl.there i) (fun a ha => (sl.nw i a ha).2) (t.nok sl i)
      exact ⟨v, h1, RepW.up n.ff w v _ k1 h2⟩
    · obtain ⟨_, k2⟩ := n.own (sl.there i) (fun a ha => (sl.nw i a ha).2) (t.nok sl i)
      exact ⟨(sl.nw i a ha).1, k2 a ha⟩
  have nw0 : ∀ a ∈ L, FrT H0 a ∧ F1 a = none := fun a ha => ⟨t.n.back (nw a ha).1, (nw a ha).2⟩
  have ap := t2 fp sl
  refine ⟨fun j => if j = i then (if i < ρ.length then L else []) else fp j, fun j w' h => ?_, fun j h => ?_, fun j => ?_, fun j k hjk a ha => ?_, fun j a ha => ?_⟩
  · by_cases hj : j = i
    · subst hj
      by_cases hi : j < ρ.length
      · rw [List.getElem?_set_self hi] at h
        cases h
        refine ⟨v, List.getElem?_set_self (Nat.lt_of_lt_of_le hi t.ln), ?_⟩
        show RepW K κ F1 H1 _ v (if j = j then (if j < ρ.length then L else []) else fp j)
        rw [if_pos rfl, if_pos hi]
        exact r
      · rw [List.getElem?_eq_none (by rw [List.length_set]; omega)] at h
        cases h
    · rw [List.getElem?_set_ne (Ne.symm hj)] at h
      obtain ⟨v', h1, h2⟩ := sl1.rep j w' h
      refine ⟨v', by rw [List.getElem?_set_ne (Ne.symm hj)]; exact h1, ?_⟩
      show RepW K κ F1 H1 _ v' (if j = i then (if i < ρ.length then L else []) else fp j)
      rw [if_neg hj]
      exact h2
  · show (if j = i then (if i < ρ.length then L else []) else fp j) = []
    by_cases hj : j = i
    · subst hj
      rw [if_pos rfl]
      by_cases hi : j < ρ.length
      · exact absurd (List.getElem?_set_self hi) (h w)
      · rw [if_neg hi]
    · rw [if_neg hj]
      exact sl.non j fun w' e => h w' (by rw [List.getElem?_set_ne (Ne.symm hj)]; exact e)
  · show (if j = i then (if i < ρ.length then L else []) else fp j).Nodup
    split
    · split
      · exact nd
      · exact .nil
    · exact sl.nd j
  · show a ∉ (if k = i then (if i < ρ.length then L else []) else fp k)
    have ha : a ∈ (if j = i then (if i < ρ.length then L else []) else fp j) := ha
    by_cases hj : j = i
    · rw [if_pos hj] at ha
      split at ha
      · rw [if_neg (fun z => hjk (hj.trans z.symm))]
        exact fun z => ap k a z ha
      · exact absurd ha (by simp)
    · rw [if_neg hj] at ha
      split
      · split
        · exact ap j a ha
        · simp
      · exact sl.dis j k hjk a ha
  · have ha : a ∈ (if j = i then (if i < ρ.length then L else []) else fp j) := ha
    split at ha
    · split at ha
      · exact nw0 a ha
      · exact absurd ha (by simp)
    · exact sl1.nw j a ha
theorem Ats.frz1 (t : Ats K κ F0 H0 F ρ S σ H) (i : Nat) : ∃ F1, Same F F1 ∧ Ats K κ F0 H0 F1 (frz1 i ρ) S σ H := by
  unfold PD.frz1
  split
  · rename_i ws q
    split
    · rename_i x e
      obtain ⟨fp, sl⟩ := t.sl
      obtain ⟨v, h1, h2⟩ := sl.rep i _ q
      have e' : (W.toDs ws).map (fun ds => A.d (.list ds)) = some x := e
      cases e2 : W.toDs ws with
      | none => rw [e2] at e'; cases e'
      | some ds =>
        rw [e2] at e'
        cases e'
        have ff : Same F (mix F H (fp i)) := mix_ff t.n.fh
        have lk := t.nok sl i
        have r2 : Rep K (mix F H (fp i)) v (.list ds) := RepW.frz ff (.own ws) v (fp i) (.list ds) (by simp [W.toD, e2]) (fun a ha => mix_in ha) h2
        have hi : i < ρ.length := (List.getElem?_eq_some_iff.mp q).1
        have mixT : NoT F → NoT (mix F H (fp i)) := fun h b ps e => by
          by_cases hb : b ∈ fp i
          · rw [mix_in hb] at e
            obtain ⟨us, e2⟩ := sl.there i b hb
            rw [e2] at e; cases e
          · rw [mix_out hb] at e; exact h b ps e
        refine ⟨mix F H (fp i), ff, ⟨t.n.ff.trans ff, mix_fh t.n.fh, t.n.kp, t.n.dm, t.n.tb, fun a h => ?_, fun h => mixT (t.n.nt h)⟩, ⟨t.c.len, t.c.nd, fun k a ds e1 e2 => ?_, fun a ha => ?_, t.c.tb, mixT t.c.nt⟩, t.ck, by rw [List.length_set]; exact t.ln, fun j => if j = i then [] else fp j, fun j w h => ?_, fun j h => ?_, fun j => ?_, fun j k hjk a ha => ?_, fun j a ha => ?_⟩
        · by_cases ha : a ∈ fp i
          · exact .inr (sl.nw i a ha).1
          · rw [mix_out ha] at h; exact t.n.fn a h
        · exact (t.c.cl k a ds e1 e2).up ff rfl
        · rw [mix_out (fun z => lk a z ha)]
          exact t.c.fz a ha
        · by_cases hj : j = i
          · subst hj
            rw [List.getElem?_set_self hi] at h
            cases h
            exact ⟨v, h1, by show _ = _ ∧ _; exact ⟨if_pos rfl, r2⟩⟩
          · rw [List.getElem?_set_ne (Ne.symm hj)] at h
            obtain ⟨v', h3, h4⟩ := sl.rep j w h
            refine ⟨v', h3, ?_⟩
            show RepW K κ _ H w v' (if j = i then [] else fp j)
            rw [if_neg hj]
            exact RepW.up ff w v' _ (fun a _ o e => e) h4
        · show (if j = i then [] else fp j) = []
          by_cases hj : j = i
          · rw [if_pos hj]
          · rw [if_neg hj]
            exact sl.non j fun w' e => h w' (by rw [List.getElem?_set_ne (Ne.symm hj)]; exact e)
        · show (if j = i then [] else fp j).Nodup
          split
          · exact .nil
          · exact sl.nd j
        · show a ∉ (if k = i then [] else fp k)
          have ha : a ∈ (if j = i then [] else fp j) := ha
          split at ha
          · exact absurd ha (by simp)
          · split
            · simp
            · exact sl.dis j k hjk a ha
        · have ha : a ∈ (if j = i then [] else fp j) := ha
          by_cases hj : j = i
          · rw [if_pos hj] at ha; exact absurd ha (by simp)
          · rw [if_neg hj] at ha
            exact ⟨(sl.nw j a ha).1, by rw [mix_out (sl.dis j i hj a ha)]; exact (sl.nw j a ha).2⟩
    · exact ⟨F, Same.refl _, t⟩
  · exact ⟨F, Same.refl _, t⟩
theorem Ats.frzE : ∀ {is : List Nat} {ρ : Ev} {F : Hp}, Ats K κ F0 H0 F ρ S σ H → ∃ F1, Same F F1 ∧ Ats K κ F0 H0 F1 (PD.frzE is ρ) S σ H
  | [], ρ, F, t => ⟨F, Same.refl _, t⟩
  | i :: is, ρ, F, t => by
    obtain ⟨F1, s1, t1⟩ := t.frz1 i
    obtain ⟨F2, s2, t2⟩ := Ats.frzE (is := is) t1
    exact ⟨F2, s1.trans s2, t2⟩
end
end PD

namespace PD
open PySem PySem.Spec PyProof.Rows L2
def flatC (ds : List D) : Bool := !ds.isEmpty && flatAll ds
def flatCs (S : Cs) : Bool := S.all flatC
def W.flat : W → Bool
  | .a (.d x) => flatD x
  | _ => false
def PostS (K : PySem.W.Frag) (mg : Str → Option Value) (Z : WX) (κ : Kp) (F0 H0 F : Hp) (r : Fl) (Dn : Ends) : Prop := match r with
  | .nx ρ S => ∀ σ' H' F', Same F F' → Ats K κ F0 H0 F' ρ S σ' H' → Dn.nx σ' H'
  | .rt w S => ∀ v H' F' L, Nxt κ F0 H0 F' H' → Cel K κ F' H' S → RepW K κ F' H' w v L → L.Nodup → (∀ p ∈ L, FrT H0 p ∧ F' p = none) → Dn.rt v H'
  | .exc n S => ∀ C σ' H' F', mg n = some (.ref C) → Nxt κ F0 H0 F' H' → Cel K κ F' H' S → Z (.ref C) none σ' H'
  | .stuck => False
def ts (K : PySem.W.Frag) (mg : Str → Option Value) (Z : WX) (g : Fs) : TS := fun Dn σ H => ∃ κ F0 H0 F ρ S, Ats K κ F0 H0 F ρ S σ H ∧ PostS K mg Z κ F0 H0 F (g ρ S) Dn
theorem PostS.upF {K : PySem.W.Frag} {mg : Str → Option Value} {Z : WX} {κ : Kp} {F0 H0 F F1 : Hp} {r : Fl} {Dn : Ends} (p : PostS K mg Z κ F0 H0 F r Dn) (s : Same F F1) : PostS K mg Z κ F0 H0 F1 r Dn := by
  cases r with
  | nx ρ S => exact fun σ' H' F' a b => p σ' H' F' (s.trans a) b
  | rt w S => exact p
  | exc n S => exact p
  | stuck => exact p
abbrev VS (X : Cx) (Z : WX) (st : Stmt) (g : Fs) : Prop := PS X st (ts X.K X.mg Z g)
abbrev VSs (X : Cx) (Z : WX) (st : List Stmt) (g : Fs) : Prop := PSs X st (ts X.K X.mg Z g)
theorem RepAll.flatF {K : PySem.W.Frag} {F F' : Hp} : ∀ {vs : List V} {ds : List D}, flatAll ds = true → RepAll K F vs ds → RepAll K F' vs ds
  | _, _, _, .nil => .nil
  | v :: vs, d :: ds, f, .cons r t => by
    have f' : flatD d = true ∧ flatAll ds = true := by simpa [flatAll] using f
    refine .cons ?_ (RepAll.flatF f'.2 t)
    cases r with
    | non => exact .non
    | bl b => exact .bl b
    | int b => exact .int b
    | str b => exact .str b
    | lst _ _ => exact absurd f'.1 (by simp [flatD])
    | tup _ _ => exact absurd f'.1 (by simp [flatD])
    | dct _ => exact absurd f'.1 (by simp [flatD])
theorem Rep.flatF {K : PySem.W.Frag} {F F' : Hp} {v : V} {d : D} (f : flatD d = true) (r : Rep K F v d) : Rep K F' v d := by
  cases r with
  | non => exact .non
  | bl b => exact .bl b
  | int b => exact .int b
  | str b => exact .str b
  | lst _ _ => exact absurd f (by simp [flatD])
  | tup _ _ => exact absurd f (by simp [flatD])
  | dct _ => exact absurd f (by simp [flatD])
section
variable {K : PySem.W.Frag} {mg : Str → Option Value} {Z : WX} {κ : Kp} {F0 H0 F H F1 H1 Fs : Hp} {ρ : Ev} {S S1 : Cs} {σ : L2.St}
theorem Ats.borrow (t : Ats K κ F0 H0 F ρ S σ H) (s : Same F Fs) (n : Nxt κ Fs H F1 H1) (c : Cel K κ F1 H1 S1) (fl : flatCs S1 = true) : Ats K κ F0 H0 F ρ S1 σ H1 := by
  obtain ⟨fp, sl⟩ := t.sl
  have nn : Nxt κ F H F H1 := ⟨Same.refl _, (s.trans n.ff).trans n.fh, n.kp, n.dm, n.tb, fun a h => .inl h, fun h => h⟩
  have c2 : Cel K κ F H1 S1 := ⟨c.len, c.nd, fun k a ds e1 e2 => by
    have fc := List.all_eq_true.mp fl ds (List.mem_of_getElem? e2)
    unfold flatC at fc
    rw [Bool.and_eq_true] at fc
    rcases c.cl k a ds e1 e2 with ⟨h0, vs, h1, h2⟩ | ⟨h0, _⟩ | ⟨m, nm, pn, b, h0, C, dx, vs, h1, h2, h3, h4⟩ | h0 | ⟨w, h0, ks, as, h1, h2, h3, h4⟩
    · exact .inl ⟨h0, vs, h1, RepAll.flatF fc.2 h2⟩
    · rw [h0] at fc; cases fc.1
    · exact .inr (.inr (.inl ⟨m, nm, pn, b, h0, C, dx, vs, h1, h2, h3, RepAll.flatF fc.2 h4⟩))
    · exact .inr (.inr (.inr (.inl h0)))
    · exact .inr (.inr (.inr (.inr ⟨w, h0, ks, as, h1, h2, RepAll.flatF fc.2 h3, h4⟩))), t.c.fz, c.tb, t.c.nt⟩
  exact t.nxt nn c2
theorem PostS.exc {n : Str} {S' : Cs} {Dn : Ends} {Q : VK} (p : PostS K mg Z κ F0 H0 F1 (.exc n S') Dn) (t : Nxt κ F0 H0 F H) : Post K mg Z κ F H σ (.exc n S') Q := fun C H' F' g a b => p C σ H' F' g (t.trans a) b
end
section
variable {X : Cx} {Z : WX} {e c : Expr} {f fc : Fe} {pos : Pos} {st : Stmt} {rest a b : List Stmt} {g g1 g2 : Fs}
def sSkip : Fs := fun ρ S => .nx ρ S
def sSeq (g1 g2 : Fs) : Fs := fun ρ S => match g1 ρ S with
  | .nx ρ1 S1 => g2 ρ1 S1
  | r => r
theorem vss_nil : VSs X Z [] sSkip := pss_nil.imp fun Dn σ H h => by
  obtain ⟨κ, F0, H0, F, ρ, S, t, p⟩ := h
  exact p σ H F (Same.refl _) t
theorem vss_cons (h1 : VS X Z st g1) (h2 : VSs X Z rest g2) : VSs X Z (st :: rest) (sSeq g1 g2) := (pss_cons h1 h2).imp fun Dn σ H h => by
  obtain ⟨κ, F0, H0, F, ρ, S, t, p⟩ := h
  refine ⟨κ, F0, H0, F, ρ, S, t, ?_⟩
  unfold sSeq at p
  cases q : g1 ρ S with
  | nx ρ1 S1 =>
    rw [q] at p
    exact fun σ' H' F' s' t' => ⟨κ, F0, H0, F', ρ1, S1, t', p.upF s'⟩
  | rt w S1 => rw [q] at p; exact p
  | exc n S1 => rw [q] at p; exact p
  | stuck => rw [q] at p; exact p
theorem vss_one (h : VS X Z st g) : VSs X Z [st] g := pss_one h
def sSet (i : Nat) (is : List Nat) (f : Fe) : Fs := fun ρ S => match f (ev (frzE is ρ)) S with
  | .ok w S1 => .nx ((frzE is ρ).set i (some w)) S1
  | .exc n S1 => .exc n S1
  | .stuck => .stuck
theorem set_of {K : PySem.W.Frag} {mg : Str → Option Value} {i : Nat} {is : List Nat} {Dn : Ends} {σ : L2.St} {H : Hp} (h : ts K mg Z (sSet i is f) Dn σ H) : tAsg (tv K mg Z f) (gName i) Dn σ H := by
  obtain ⟨κ, F0, H0, F, ρ, S, t, p⟩ := h
  obtain ⟨F1, s1, t1⟩ := t.frzE (is := is)
  show tv K mg Z f σ H fun x H1 => Dn.nx (σ.set i (some x)) H1
  refine ⟨κ, F1, _, S, t1.at_, ?_⟩
  unfold sSet at p
  cases q : f (ev (frzE is ρ)) S with
  | stuck => rw [q] at p; exact p
  | exc n S1 => rw [q] at p; exact PostS.exc p t1.n
  | ok w S1 =>
    rw [q] at p
    exact fun v H' F' L n c r nd nw => p _ _ F' (s1.trans n.ff) (t1.setN i n c r nd nw)
theorem vs_set (i : Nat) (is : List Nat) {x : Str} {pos' : Pos} (hN : X.N.Nodup) (he : VE X Z e f) (hi : X.N[i]? = some x := by rfl) (hx : Loc X.env.scope x := by first | exact Or.inl rfl | exact Or.inr rfl) (hs : swapsWith e (some (.Name x pos')) pos.line X.env = pure false := by rfl)
    (hf : X.fn x = true ∨ X.env.scope.names.lookup x = some .local := by first | exact .inl rfl | exact .inr rfl | assumption) : VS X Z (.Assign [.Name x pos'] e pos) (sSet i is f) := (ps_set hN hi hx he hs hf).imp fun Dn σ H h => set_of h
def sRet (is : List Nat) (f : Fe) : Fs := fun ρ S => match f (ev (frzE is ρ)) S with
  | .ok w S1 => .rt w S1
  | .exc n S1 => .exc n S1
  | .stuck => .stuck
theorem vs_ret (is : List Nat) (he : VE X Z e f) : VS X Z (.Return (some e) pos) (sRet is f) := (ps_ret he).imp fun Dn σ H h => by
  obtain ⟨κ, F0, H0, F, ρ, S, t, p⟩ := h
  obtain ⟨F1, s1, t1⟩ := t.frzE (is := is)
  show tv X.K X.mg Z f σ H Dn.rt
  refine ⟨κ, F1, _, S, t1.at_, ?_⟩
  unfold sRet at p
  cases q : f (ev (frzE is ρ)) S with
  | stuck => rw [q] at p; exact p
  | exc n S1 => rw [q] at p; exact PostS.exc p t1.n
  | ok w S1 =>
    rw [q] at p
    exact fun v H' F' L n c r nd nw => p v H' F' L (t1.n.trans n) c r nd fun a ha => ⟨t1.n.back (nw a ha).1, (nw a ha).2⟩
def sRetV (i : Nat) : Fs := fun ρ S => match ρ[i]? with
  | some (some w) => .rt w S
  | _ => .stuck
theorem vs_retV (i : Nat) {x : Str} {pos' : Pos} (hN : X.N[i]? = some x := by rfl) (hv : Vis X.env.scope x := by first | exact Or.inl rfl | exact Or.inr (Or.inl rfl) | exact Or.inr (Or.inr rfl)) (hd : (x == ("__debug__" : Str)) = false := by decide)
    (hcd : (x == ("__classdict__" : Str)) = false := by decide) : VS X Z (.Return (some (.Name x pos')) pos) (sRetV i) := (ps_ret (pe_var hN hv hd hcd)).imp fun Dn σ H h => by
  obtain ⟨κ, F0, H0, F, ρ, S, t, p⟩ := h
  unfold sRetV at p
  split at p
  · rename_i w q
    obtain ⟨fp, sl⟩ := t.sl
    obtain ⟨v, h1, h2⟩ := sl.rep i w q
    exact ⟨v, h1, p v H F (fp i) t.n t.c h2 (sl.nd i) fun a ha => sl.nw i a ha⟩
  · exact p.elim
def sRetN : Fs := fun ρ S => .rt nD S
def sExp (is : List Nat) (f : Fe) : Fs := fun ρ S => match f (ev (frzE is ρ)) S with
  | .ok w S1 => if flatCs S1 = true then .nx ρ S1 else .stuck
  | .exc n S1 => .exc n S1
  | .stuck => .stuck
theorem vs_exp (is : List Nat) (he : VE X Z e f) (hs : swapsWith e none pos.line X.env = pure false := by rfl) : VS X Z (.Expr e pos) (sExp is f) := (ps_expr he hs).imp fun Dn σ H h => by
  obtain ⟨κ, F0, H0, F, ρ, S, t, p⟩ := h
  obtain ⟨F1, s1, t1⟩ := t.frzE (is := is)
  refine ⟨κ, F1, _, S, t1.at_, ?_⟩
  unfold sExp at p
  cases q : f (ev (frzE is ρ)) S with
  | stuck => rw [q] at p; exact p
  | exc n S1 => rw [q] at p; exact PostS.exc p t1.n
  | ok w S1 =>
    rw [q] at p
    simp only at p
    split at p
    · rename_i hf
      exact fun v H' F' L n c r nd nw => p σ H' F (Same.refl _) (t.borrow s1 n c hf)
    · exact p.elim
def sIf (is : List Nat) (fc : Fe) (g1 g2 : Fs) : Fs := fun ρ S => match fc (ev (frzE is ρ)) S with
  | .ok (.a (.d (.bool b))) S1 => if flatCs S1 = true then (if b = true then g1 ρ S1 else g2 ρ S1) else .stuck
  | .exc n S1 => .exc n S1
  | _ => .stuck
theorem if_of {K : PySem.W.Frag} {mg : Str → Option Value} {is : List Nat} {Dn : Ends} {σ : L2.St} {H : Hp} {κ : Kp} {F0 H0 F : Hp} {ρ : Ev} {S : Cs} {k : Bool → Cs → Fl} (t : Ats K κ F0 H0 F ρ S σ H)
    (p : PostS K mg Z κ F0 H0 F (match fc (ev (frzE is ρ)) S with
      | .ok (.a (.d (.bool b))) S1 => if flatCs S1 = true then k b S1 else .stuck
      | .exc n S1 => .exc n S1
      | _ => .stuck) Dn) {Q : Bool → Hp → Prop} (g : ∀ b H' S1, Ats K κ F0 H0 F ρ S1 σ H' → PostS K mg Z κ F0 H0 F (k b S1) Dn → Q b H') : tB (tv K mg Z fc) σ H Q := by
  obtain ⟨F1, s1, t1⟩ := t.frzE (is := is)
  refine ⟨κ, F1, _, S, t1.at_, ?_⟩
  cases q : fc (ev (frzE is ρ)) S with
  | stuck => rw [q] at p; exact p
  | exc n S1 => rw [q] at p; exact PostS.exc p t1.n
  | ok w S1 =>
    rw [q] at p
    match w, p with
    | .a (.d (.bool b)), p =>
      simp only at p
      split at p
      · rename_i hf
        exact fun v H' F' L n c r nd nw => ⟨b, Rep.blv r.2, g b H' S1 (t.borrow s1 n c hf) p⟩
      · exact p.elim
    | .a (.d .none), p => exact p.elim
    | .a (.d (.int _)), p => exact p.elim
    | .a (.d (.str _)), p => exact p.elim
    | .a (.d (.list _)), p => exact p.elim
    | .a (.d (.tuple _)), p => exact p.elim
    | .a (.d (.dict _)), p => exact p.elim
    | .a (.c _), p => exact p.elim
    | .a (.s _), p => exact p.elim
    | .a (.e _), p => exact p.elim
    | .own _, p => exact p.elim
theorem vs_if (is : List Nat) (hc : VT X Z c fc) (ha : VSs X Z a g1) (hb : VSs X Z b g2) : VS X Z (.If c a b pos) (sIf is fc g1 g2) := (ps_if hc ha hb).imp fun Dn σ H h => by
  obtain ⟨κ, F0, H0, F, ρ, S, t, p⟩ := h
  refine if_of (k := fun b S1 => if b = true then g1 ρ S1 else g2 ρ S1) t p fun b H' S1 t' p' => ?_
  cases b with
  | true => exact iteT ⟨κ, F0, H0, F, ρ, S1, t', by rw [if_pos rfl] at p'; exact p'⟩
  | false => exact iteF ⟨κ, F0, H0, F, ρ, S1, t', by rw [if_neg Bool.false_ne_true] at p'; exact p'⟩
def sRaise (n : Str) : Fs := fun ρ S => .exc n S
theorem vs_raise {x m : Str} {j : Nat} {p1 p2 p3 pos : Pos} {C : Addr} {bmB : List Value} {B newId initId : String} (hc : X.calm = true) (tk : Takes X Z) (Fb : ExcBaseFacts B newId initId bmB) (q : PySem.W.excIn X.K C bmB newId = true) (gC : X.mg x = some (.ref C)) (kC : PySem.W.keepIn X.K (.ref C) = true) (r : Raises X (.ref C)) (hg : Gl X x)
    (hdb : (x == ("__debug__" : Str)) = false := by decide) : VS X Z (.Raise (some (.Call (.Name x p1) [.Constant (.str m) j p2] [] p3)) none pos) (sRaise x) := (ps_raise hc tk (pmk_own Fb q gC kC r hg hdb)).imp fun Dn σ H h => by
  obtain ⟨κ, F0, H0, F, ρ, S, t, p⟩ := h
  exact p C σ H F gC t.n t.c
end
section
variable {X : Cx} {Z : WX} {e c : Expr} {f fc : Fe} {pos : Pos} {a b : List Stmt} {g1 g2 : Fs}
def sIf0 (is : List Nat) (fc : Fe) (g1 g2 : Fs) : Fs := fun ρ S => match fc (ev (frzE is ρ)) S with
  | .ok (.a (.d (.bool b))) S1 => if b = true then g1 (frzE is ρ) S1 else g2 (frzE is ρ) S1
  | .exc n S1 => .exc n S1
  | _ => .stuck
theorem vs_if0 (is : List Nat) (hc : VT X Z c fc) (ha : VSs X Z a g1) (hb : VSs X Z b g2) : VS X Z (.If c a b pos) (sIf0 is fc g1 g2) := (ps_if hc ha hb).imp fun Dn σ H h => by
  obtain ⟨κ, F0, H0, F, ρ, S, t, p⟩ := h
  obtain ⟨F1, s1, t1⟩ := t.frzE (is := is)
  refine ⟨κ, F1, _, S, t1.at_, ?_⟩
  unfold sIf0 at p
  cases q : fc (ev (frzE is ρ)) S with
  | stuck => rw [q] at p; exact p
  | exc n S1 => rw [q] at p; exact PostS.exc p t1.n
  | ok w S1 =>
    rw [q] at p
    match w, p with
    | .a (.d (.bool b)), p =>
      intro v H' F' L n c r nd nw
      refine ⟨b, Rep.blv r.2, ?_⟩
      have t2 := t1.nxt n c
      cases b with
      | true => exact iteT ⟨κ, F0, H0, F', _, S1, t2, (show PostS X.K X.mg Z κ F0 H0 F (g1 (frzE is ρ) S1) Dn from p).upF (s1.trans n.ff)⟩
      | false => exact iteF ⟨κ, F0, H0, F', _, S1, t2, (show PostS X.K X.mg Z κ F0 H0 F (g2 (frzE is ρ) S1) Dn from p).upF (s1.trans n.ff)⟩
    | .a (.d .none), p => exact p.elim
    | .a (.d (.int _)), p => exact p.elim
    | .a (.d (.str _)), p => exact p.elim
    | .a (.d (.list _)), p => exact p.elim
    | .a (.d (.tuple _)), p => exact p.elim
    | .a (.d (.dict _)), p => exact p.elim
    | .a (.c _), p => exact p.elim
    | .a (.s _), p => exact p.elim
    | .a (.e _), p => exact p.elim
    | .own _, p => exact p.elim
end
end PD

namespace PD
open PySem PySem.Spec PyProof.Rows L2
section
variable {K : PySem.W.Frag} {mg : Str → Option Value} {Z : WX} {κ : Kp} {F0 H0 F H F1 H1 Fs : Hp} {ρ : Ev} {S S1 : Cs} {σ : L2.St}
theorem Ats.wr {fp : Nat → List Addr} {i : Nat} {ws ws' : List W} {a : Addr} {vs vs' : List V} {L' : List Addr} (t : Ats K κ F0 H0 F ρ S σ H) (sl : Slots K κ H0 F H ρ σ fp) (hi : ρ[i]? = some (some (.own ws))) (hσ : σ[i]? = some (some (.ref a))) (hd : H a = some (.lst vs)) (fa : a ∈ fp i)
    (r : RepWs K κ F (upd H a (.lst vs')) ws' vs' L') (nd : (a :: L').Nodup) (nw : ∀ b ∈ L', FrT H0 b ∧ F b = none) (ap : ∀ j, j ≠ i → ∀ b ∈ fp j, b ∉ L') : Ats K κ F0 H0 F (ρ.set i (some (.own ws'))) S σ (upd H a (.lst vs')) := by
  have h0 := sl.nw i a fa
  have hl : i < ρ.length := (List.getElem?_eq_some_iff.mp hi).1
  refine ⟨t.n.wr h0.1 h0.2 hd, t.c.wr (t.nok sl i a fa) hd, t.ck, by rw [List.length_set]; exact t.ln, fun j => if j = i then a :: L' else fp j, fun j w h => ?_, fun j h => ?_, fun j => ?_, fun j k hjk b hb => ?_, fun j b hb => ?_⟩
  · by_cases hj : j = i
    · subst hj
      rw [List.getElem?_set_self hl] at h
      cases h
      refine ⟨.ref a, hσ, ?_⟩
      show RepW K κ F _ _ _ (if j = j then a :: L' else fp j)
      rw [if_pos rfl]
      exact ⟨a, vs', L', rfl, upd_same, rfl, r⟩
    · rw [List.getElem?_set_ne (Ne.symm hj)] at h
      obtain ⟨v, h1, h2⟩ := sl.rep j w h
      refine ⟨v, h1, ?_⟩
      show RepW K κ F _ w v (if j = i then a :: L' else fp j)
      rw [if_neg hj]
      exact RepW.up (Same.refl _) w v _ (fun b hb o e => by rw [upd_ne (show b ≠ a from fun z => sl.dis j i hj b hb (z ▸ fa))]; exact e) h2
  · show (if j = i then a :: L' else fp j) = []
    by_cases hj : j = i
    · subst hj
      exact absurd (List.getElem?_set_self hl) (h _)
    · rw [if_neg hj]
      exact sl.non j fun w' e => h w' (by rw [List.getElem?_set_ne (Ne.symm hj)]; exact e)
  · show (if j = i then a :: L' else fp j).Nodup
    split
    · exact nd
    · exact sl.nd j
  · show b ∉ (if k = i then a :: L' else fp k)
    have hb' : b ∈ (if j = i then a :: L' else fp j) := hb
    clear hb
    by_cases hj : j = i
    · rw [if_pos hj] at hb'
      rw [if_neg (fun z => hjk (hj.trans z.symm))]
      intro z
      rcases List.mem_cons.mp hb' with e | hb'
      · exact sl.dis k i (fun e => hjk (hj.trans e.symm)) b z (by rw [e]; exact fa)
      · exact ap k (fun e => hjk (hj.trans e.symm)) b z hb'
    · rw [if_neg hj] at hb'
      split
      · intro z
        rcases List.mem_cons.mp z with e | z
        · exact sl.dis j i hj b hb' (by rw [e]; exact fa)
        · exact ap j hj b hb' z
      · exact sl.dis j k hjk b hb'
  · have hb : b ∈ (if j = i then a :: L' else fp j) := hb
    split at hb
    · rcases List.mem_cons.mp hb with rfl | hb
      · exact h0
      · exact nw b hb
    · exact sl.nw j b hb
theorem Ats.step {fp : Nat → List Addr} (t : Ats K κ F0 H0 F ρ S σ H) (sl : Slots K κ H0 F H ρ σ fp) (n : Nxt κ F H F1 H1) : Slots K κ H0 F1 H1 ρ σ fp := by
  refine ⟨fun i w h => ?_, sl.non, sl.nd, sl.dis, fun i a ha => ?_⟩
  · obtain ⟨v, h1, h2⟩ := sl.rep i w h
    obtain ⟨k1, _⟩ := n.own (sl.there i) (fun a ha => (sl.nw i a ha).2) (t.nok sl i)
    exact ⟨v, h1, RepW.up n.ff w v _ k1 h2⟩
  · obtain ⟨_, k2⟩ := n.own (sl.there i) (fun a ha => (sl.nw i a ha).2) (t.nok sl i)
    exact ⟨(sl.nw i a ha).1, k2 a ha⟩
end
section
variable {X : Cx} {Z : WX} {e c o : Expr} {f fc fi : Fe} {pos apos cpos : Pos} {st : Stmt} {rest a b body : List Stmt} {g g1 g2 : Fs}
def sApp (i : Nat) (is : List Nat) (f : Fe) : Fs := fun ρ S => match (frzE is ρ)[i]? with
  | some (some (.own ws)) => match f (ev (frzE is ρ)) S with
    | .ok w S1 => if ws.length < 1000000 then .nx ((frzE is ρ).set i (some (.own (ws ++ [w])))) S1 else .stuck
    | .exc n S1 => .exc n S1
    | .stuck => .stuck
  | _ => .stuck
theorem vs_app (i : Nat) (is : List Nat) {x : Str} {px : Pos} (he : VE X Z e f) (hN : X.N[i]? = some x := by rfl) (hv : Vis X.env.scope x := by first | exact Or.inl rfl | exact Or.inr (Or.inl rfl) | exact Or.inr (Or.inr rfl)) (hd : (x == ("__debug__" : Str)) = false := by decide)
    (hcd : (x == ("__classdict__" : Str)) = false := by decide) (hbase : attributeBase (.Name x px) "append" X.env (eval (.Name x px) X.env) = eval (.Name x px) X.env := by rfl)
    (hfew : ((backTo cpos (starEach [e] X.env)).all (fun x => !x.1) && (backToKw cpos (keywordEach [] X.env)).all (fun x => x.1.isSome) && decide ([e].length + ([] : List Keyword).length + (if ([] : List Keyword).isEmpty then 0 else 1) < 30)) = true := by rfl)
    (hline : (apos.endLine == cpos.line) = true := by rfl) (hs : starEach [e] X.env = (false, eval e X.env) :: starEach [] X.env := by rfl) (hplain : (backTo cpos (starEach [] X.env)).any (·.1) = false := by rfl) (hsw : swapsWith (.Call (.Attribute (.Name x px) "append" apos) [e] [] cpos) none pos.line X.env = pure false := by rfl) :
    VS X Z (.Expr (.Call (.Attribute (.Name x px) "append" apos) [e] [] cpos) pos) (sApp i is f) :=
  (ps_expr (pe_bm PySem.F.plainAttrs_list PySem.F.slot_list_append PySem.F.type_list_append mt_append (pe_var hN hv hd hcd) (va_cons he va_nil hs) hbase hfew hline hs hplain) hsw).imp fun Dn σ H h => by
    obtain ⟨κ, F0, H0, F, ρ, S, t, p⟩ := h
    obtain ⟨F1, s1, t1⟩ := t.frzE (is := is)
    unfold sApp at p
    cases q : (frzE is ρ)[i]? with
    | none => rw [q] at p; exact p.elim
    | some ow =>
      rw [q] at p
      match ow, p, q with
      | some (.own ws), p, q =>
        obtain ⟨fp, sl⟩ := t1.sl
        obtain ⟨v, hσ, hr⟩ := sl.rep i _ q
        obtain ⟨a, vs, L, rfl, hd, hL, rr⟩ := hr
        have fa : a ∈ fp i := by rw [hL]; exact List.mem_cons_self
        refine ⟨.ref a, hσ, Or.inl ⟨rfl, vs, .of hd⟩, ?_⟩
        show tv X.K X.mg Z f σ H fun y H2 => rAppend (.ref a) [y] H2 fun _ H3 => Dn.nx σ H3
        refine ⟨κ, F1, _, S, t1.at_, ?_⟩
        simp only at p
        cases qe : f (ev (frzE is ρ)) S with
        | stuck => rw [qe] at p; exact p
        | exc n S1 => rw [qe] at p; exact PostS.exc p t1.n
        | ok w S1 =>
          rw [qe] at p
          simp only at p
          split at p
          · rename_i hlen
            intro y H2 F2 L2 n c r nd nw
            have t2 := t1.nxt n c
            have sl2 := t1.step sl n
            obtain ⟨hd2, fd2⟩ := n.own1 hd (sl.nw i a fa).2 (t1.nok sl i a fa)
            have hr2 := (sl2.rep i _ q)
            obtain ⟨v2, e2, a2, vs2, L2', e3, e4, e5, rr2⟩ := hr2
            rw [hσ] at e2
            cases e2
            cases e3
            rw [hd2] at e4
            cases e4
            rw [hL] at e5
            cases e5
            have th2 := RepWs.there ws vs L rr2
            have aL : a ∉ L := by have := sl.nd i; rw [hL] at this; exact (List.nodup_cons.mp this).1
            have ndL : L.Nodup := by have := sl.nd i; rw [hL] at this; exact (List.nodup_cons.mp this).2
            have thn := RepW.there w y L2 r
            have aL2 : a ∉ L2 := fun z => (nw a z).1.no hd
            have apart : ∀ j, ∀ b ∈ fp j, b ∉ L2 := fun j b hb z => by
              obtain ⟨us, e⟩ := sl.there j b hb
              exact (nw b z).1.no e
            refine ⟨a, vs, y, rfl, rfl, hd2, ?_, p σ _ F2 (s1.trans n.ff) (t2.wr sl2 q hσ hd2 fa (L' := L ++ L2) ?_ ?_ ?_ ?_)⟩
            · rw [RepWs.len rr2, sizeLine_eq]; omega
            · exact RepWs.app (RepWs.up (Same.refl _) ws vs L (fun b hb o e => by rw [upd_ne (show b ≠ a from fun z => aL (z ▸ hb))]; exact e) rr2) ⟨y, [], L2, [], rfl, by simp, RepW.up (Same.refl _) w y L2 (fun b hb o e => by rw [upd_ne (show b ≠ a from fun z => aL2 (z ▸ hb))]; exact e) r, rfl, rfl⟩
            · refine List.nodup_cons.mpr ⟨fun z => ?_, List.nodup_append.mpr ⟨ndL, nd, fun x hx z hz => ?_⟩⟩
              · rcases List.mem_append.mp z with z | z
                · exact aL z
                · exact aL2 z
              · rintro rfl
                exact apart i x (by rw [hL]; exact List.mem_cons_of_mem _ hx) hz
            · intro x hx
              rcases List.mem_append.mp hx with hx | hx
              · exact sl2.nw i x (by rw [hL]; exact List.mem_cons_of_mem _ hx)
              · exact ⟨t1.n.back (nw x hx).1, (nw x hx).2⟩
            · intro j hj x hx z
              rcases List.mem_append.mp z with z | z
              · exact sl.dis j i hj x hx (by rw [hL]; exact List.mem_cons_of_mem _ z)
              · exact apart j x hx z
          · exact p.elim
      | some (.a _), p, _ => exact p.elim
      | none, p, _ => exact p.elim
def sExt (i : Nat) (is : List Nat) (f : Fe) : Fs := fun ρ S => match (frzE is ρ)[i]? with
  | some (some (.own ws)) => match f (ev (frzE is ρ)) S with
    | .ok (.own us) S1 => if ws.length + us.length < 1000000 then .nx ((frzE is ρ).set i (some (.own (ws ++ us)))) S1 else .stuck
    | .exc n S1 => .exc n S1
    | _ => .stuck
  | _ => .stuck
theorem vs_ext (i : Nat) (is : List Nat) {x : Str} {px : Pos} (he : VE X Z e f) (hN : X.N[i]? = some x := by rfl) (hv : Vis X.env.scope x := by first | exact Or.inl rfl | exact Or.inr (Or.inl rfl) | exact Or.inr (Or.inr rfl)) (hd : (x == ("__debug__" : Str)) = false := by decide)
    (hcd : (x == ("__classdict__" : Str)) = false := by decide) (hbase : attributeBase (.Name x px) "extend" X.env (eval (.Name x px) X.env) = eval (.Name x px) X.env := by rfl)
    (hfew : ((backTo cpos (starEach [e] X.env)).all (fun x => !x.1) && (backToKw cpos (keywordEach [] X.env)).all (fun x => x.1.isSome) && decide ([e].length + ([] : List Keyword).length + (if ([] : List Keyword).isEmpty then 0 else 1) < 30)) = true := by rfl)
    (hline : (apos.endLine == cpos.line) = true := by rfl) (hs : starEach [e] X.env = (false, eval e X.env) :: starEach [] X.env := by rfl) (hplain : (backTo cpos (starEach [] X.env)).any (·.1) = false := by rfl) (hsw : swapsWith (.Call (.Attribute (.Name x px) "extend" apos) [e] [] cpos) none pos.line X.env = pure false := by rfl) :
    VS X Z (.Expr (.Call (.Attribute (.Name x px) "extend" apos) [e] [] cpos) pos) (sExt i is f) :=
  (ps_expr (pe_bm PySem.F.plainAttrs_list PySem.F.slot_list_extend PySem.F.type_list_extend mt_extend (pe_var hN hv hd hcd) (va_cons he va_nil hs) hbase hfew hline hs hplain) hsw).imp fun Dn σ H h => by
    obtain ⟨κ, F0, H0, F, ρ, S, t, p⟩ := h
    obtain ⟨F1, s1, t1⟩ := t.frzE (is := is)
    unfold sExt at p
    cases q : (frzE is ρ)[i]? with
    | none => rw [q] at p; exact p.elim
    | some ow =>
      rw [q] at p
      match ow, p, q with
      | some (.own ws), p, q =>
        obtain ⟨fp, sl⟩ := t1.sl
        obtain ⟨v, hσ, hr⟩ := sl.rep i _ q
        obtain ⟨a, vs, L, rfl, hd, hL, rr⟩ := hr
        have fa : a ∈ fp i := by rw [hL]; exact List.mem_cons_self
        refine ⟨.ref a, hσ, Or.inl ⟨rfl, vs, .of hd⟩, ?_⟩
        show tv X.K X.mg Z f σ H fun y H2 => rExtend (.ref a) [y] H2 fun _ H3 => Dn.nx σ H3
        refine ⟨κ, F1, _, S, t1.at_, ?_⟩
        simp only at p
        cases qe : f (ev (frzE is ρ)) S with
        | stuck => rw [qe] at p; exact p
        | exc n S1 => rw [qe] at p; exact PostS.exc p t1.n
        | ok w S1 =>
          rw [qe] at p
          match w, p with
          | .own us, p =>
            simp only at p
            split at p
            · rename_i hlen
              intro y H2 F2 L2 n c r nd nw
              obtain ⟨b, zs, L3, rfl, hb, hL2, r3⟩ := r
              subst hL2
              have t2 := t1.nxt n c
              have sl2 := t1.step sl n
              obtain ⟨hd2, fd2⟩ := n.own1 hd (sl.nw i a fa).2 (t1.nok sl i a fa)
              have hr2 := (sl2.rep i _ q)
              obtain ⟨v2, e2, a2, vs2, L2', e3, e4, e5, rr2⟩ := hr2
              rw [hσ] at e2
              cases e2
              cases e3
              rw [hd2] at e4
              cases e4
              rw [hL] at e5
              cases e5
              have aL : a ∉ L := by have := sl.nd i; rw [hL] at this; exact (List.nodup_cons.mp this).1
              have ndL : L.Nodup := by have := sl.nd i; rw [hL] at this; exact (List.nodup_cons.mp this).2
              have aL2 : a ∉ L3 := fun z => (nw a (List.mem_cons_of_mem _ z)).1.no hd
              have apart : ∀ j, ∀ b ∈ fp j, b ∉ L3 := fun j b hb z => by
                obtain ⟨us, e⟩ := sl.there j b hb
                exact (nw b (List.mem_cons_of_mem _ z)).1.no e
              refine ⟨a, b, vs, zs, rfl, rfl, hd2, hb, ?_, p σ _ F2 (s1.trans n.ff) (t2.wr sl2 q hσ hd2 fa (L' := L ++ L3) ?_ ?_ ?_ ?_)⟩
              · rw [RepWs.len rr2, RepWs.len r3, sizeLine_eq]; omega
              · exact RepWs.app (RepWs.up (Same.refl _) ws vs L (fun b hb o e => by rw [upd_ne (show b ≠ a from fun z => aL (z ▸ hb))]; exact e) rr2) (RepWs.up (Same.refl _) us zs L3 (fun b hb o e => by rw [upd_ne (show b ≠ a from fun z => aL2 (z ▸ hb))]; exact e) r3)
              · refine List.nodup_cons.mpr ⟨fun z => ?_, List.nodup_append.mpr ⟨ndL, (List.nodup_cons.mp nd).2, fun x hx z hz => ?_⟩⟩
                · rcases List.mem_append.mp z with z | z
                  · exact aL z
                  · exact aL2 z
                · rintro rfl
                  exact apart i x (by rw [hL]; exact List.mem_cons_of_mem _ hx) hz
              · intro x hx
                rcases List.mem_append.mp hx with hx | hx
                · exact sl2.nw i x (by rw [hL]; exact List.mem_cons_of_mem _ hx)
                · exact ⟨t1.n.back (nw x (List.mem_cons_of_mem _ hx)).1, (nw x (List.mem_cons_of_mem _ hx)).2⟩
              · intro j hj x hx z
                rcases List.mem_append.mp z with z | z
                · exact sl.dis j i hj x hx (by rw [hL]; exact List.mem_cons_of_mem _ z)
                · exact apart j x hx z
            · exact p.elim
          | .a _, p => exact p.elim
      | some (.a _), p, _ => exact p.elim
      | none, p, _ => exact p.elim
abbrev Gs := D → Ev → Option Ev
def tgs (K : PySem.W.Frag) (g : Gs) : TG := fun v σ H Q => ∃ κ F0 H0 F ρ S x ρ', Ats K κ F0 H0 F ρ S σ H ∧ Rep K F v x ∧ g x ρ = some ρ' ∧ ∀ σ', Ats K κ F0 H0 F ρ' S σ' H → Q σ' H
abbrev VGS (X : Cx) (tg : Expr) (g : Gs) : Prop := PG X tg (tgs X.K g)
def sNm (i : Nat) : Gs := fun x ρ => some (ρ.set i (some (.a (.d x))))
theorem vgs_name (i : Nat) {x : Str} {pos : Pos} (hN : X.N.Nodup) (hi : X.N[i]? = some x := by rfl) (hx : Loc X.env.scope x := by first | exact Or.inl rfl | exact Or.inr rfl) (hf : X.fn x = true ∨ X.env.scope.names.lookup x = some .local := by first | exact .inl rfl | exact .inr rfl | assumption) : VGS X (.Name x pos) (sNm i) :=
  (pg_name hN hi hx hf).imp fun v σ H Q h => by
    obtain ⟨κ, F0, H0, F, ρ, S, x, ρ', t, r, e, g⟩ := h
    cases e
    exact g _ (t.setA i (show RepA X.K κ F v (.d x) from r))
def setW : List Nat → List D → Ev → Ev
  | i :: is, d :: ds, ρ => setW is ds (ρ.set i (some (.a (.d d))))
  | _, _, ρ => ρ
def sTp (is : List Nat) : Gs := fun x ρ => match x with
  | .tuple ds => if ds.length = is.length then some (setW is ds ρ) else none
  | _ => none
theorem gNs_ofS {K : PySem.W.Frag} {κ : Kp} {F0 H0 F H : Hp} {S : Cs} : ∀ {is : List Nat} {vs : List V} {ds : List D} {ρ : Ev} {σ : L2.St} {Q : L2.St → Hp → Prop}, Ats K κ F0 H0 F ρ S σ H → RepAll K F vs ds → ds.length = is.length →
    (∀ σ', Ats K κ F0 H0 F (setW is ds ρ) S σ' H → Q σ' H) → gNs is vs σ H Q
  | [], _, _, ρ, σ, Q, t, .nil, _, g => ⟨rfl, g σ t⟩
  | i :: is, _, _, ρ, σ, Q, t, .cons (v := v) (vs := vs) (d := d) (ds := ds) r rs, e, g => ⟨v, vs, rfl, gNs_ofS (t.setA i (show RepA K κ F v (.d d) from r)) rs (by simpa using e) g⟩
  | [], _, _, _, _, _, _, .cons _ _, e, _ => by simp at e
  | _ :: _, _, _, _, _, _, _, .nil, e, _ => by simp at e
def mask (dm : List Bool) (ρ : Ev) : Ev := List.zipWith (fun b o => if b = true then o else none) dm ρ
theorem mask_at {dm : List Bool} {ρ : Ev} {i : Nat} {w : W} (h : (mask dm ρ)[i]? = some (some w)) : ρ[i]? = some (some w) := by
  unfold mask at h
  rw [List.getElem?_zipWith] at h
  cases q1 : dm[i]? with
  | none => rw [q1] at h; simp at h
  | some b =>
    cases q2 : ρ[i]? with
    | none => rw [q1, q2] at h; simp at h
    | some o =>
      rw [q1, q2] at h
      cases b with
      | true => simpa using h
      | false => simp at h
theorem Ats.mask {K : PySem.W.Frag} {κ : Kp} {F0 H0 F H : Hp} {ρ : Ev} {S : Cs} {σ : L2.St} (t : Ats K κ F0 H0 F ρ S σ H) (dm : List Bool) : Ats K κ F0 H0 F (PD.mask dm ρ) S σ H := by
  obtain ⟨fp, sl⟩ := t.sl
  classical
  refine ⟨t.n, t.c, t.ck, ?_, fun i => if ∃ w, (PD.mask dm ρ)[i]? = some (some w) then fp i else [], fun i w h => ?_, fun i h => ?_, fun i => ?_, fun i j hij a ha => ?_, fun i a ha => ?_⟩
  · have h1 : (PD.mask dm ρ).length ≤ ρ.length := by unfold PD.mask; rw [List.length_zipWith]; omega
    exact Nat.le_trans h1 t.ln
  · obtain ⟨v, h1, h2⟩ := sl.rep i w (mask_at h)
    refine ⟨v, h1, ?_⟩
    show RepW K κ F H w v (if ∃ w, (PD.mask dm ρ)[i]? = some (some w) then fp i else [])
    rw [if_pos ⟨w, h⟩]
    exact h2
  · show (if ∃ w, (PD.mask dm ρ)[i]? = some (some w) then fp i else []) = []
    rw [if_neg (fun ⟨w, z⟩ => h w z)]
  · show (if ∃ w, (PD.mask dm ρ)[i]? = some (some w) then fp i else []).Nodup
    split
    · exact sl.nd i
    · exact .nil
  · have ha : a ∈ (if ∃ w, (PD.mask dm ρ)[i]? = some (some w) then fp i else []) := ha
    show a ∉ (if ∃ w, (PD.mask dm ρ)[j]? = some (some w) then fp j else [])
    split at ha
    · split
      · exact sl.dis i j hij a ha
      · simp
    · exact absurd ha (by simp)
  · have ha : a ∈ (if ∃ w, (PD.mask dm ρ)[i]? = some (some w) then fp i else []) := ha
    split at ha
    · exact sl.nw i a ha
    · exact absurd ha (by simp)
def dom (ρ : Ev) : List Bool := ρ.map Option.isSome
def forL (g : Gs) (body : Fs) (dm : List Bool) : List D → Ev → Cs → Fl
  | [], ρ, S => .nx ρ S
  | x :: xs, ρ, S => match g x ρ with
    | none => .stuck
    | some ρ1 => match body ρ1 S with
      | .nx ρ2 S2 => forL g body dm xs (mask dm ρ2) S2
      | r => r
def sFor (is : List Nat) (src : Fi) (g : Gs) (body : Fs) : Fs := fun ρ S => match src (ev (frzE is ρ)) S with
  | .ok items S1 => forL g body (dom (frzE is ρ)) items (frzE is ρ) S1
  | .exc n S1 => .exc n S1
  | .stuck => .stuck
theorem vs_for (is : List Nat) {tg iter : Expr} {src : Fi} {gt : Gs} (hp : PassesOwn (model X.prog X.w) X.A X.env X.xe) (hc : X.calm = true) (hi : VI X Z tg iter src) (hg : VGS X tg gt) (hb : VSs X Z body g) (hs : ∀ x, foldedSetIterable iter X.env x = pure x := by intro _; rfl) :
    VS X Z (.For tg iter body [] pos) (sFor is src gt g) := (ps_for hp hc hi hg hb hs).imp fun Dn σ H h => by
  obtain ⟨κ, F0, H0, F, ρ, S, t, p⟩ := h
  obtain ⟨F1, s1, t1⟩ := t.frzE (is := is)
  refine ⟨κ, F1, _, S, t1.at_, ?_⟩
  unfold sFor at p
  cases q : src (ev (frzE is ρ)) S with
  | stuck => rw [q] at p; exact p
  | exc m S1 =>
    rw [q] at p
    exact fun C H' F' g a b => p C σ H' F' g (t1.n.trans a) b
  | ok items S1 =>
    rw [q] at p
    simp only at p
    intro J H1 F2 n2 c2 len y
    have t2 := t1.nxt n2 c2
    refine ⟨fun i m σ' H' => m = items.length - i ∧ i ≤ items.length ∧ ∃ F' ρ' S', Same F2 F' ∧ Same F F' ∧ Ats X.K κ F0 H0 F' ρ' S' σ' H' ∧ PostS X.K X.mg Z κ F0 H0 F (forL gt g (dom (frzE is ρ)) (items.drop i) ρ' S') Dn,
      ⟨items.length, by simp, Nat.zero_le _, F2, _, S1, Same.refl _, s1.trans n2.ff, t2, p⟩, ?_⟩
    rintro i m σ' H' ⟨rfl, hi, F', ρ', S', s2, sF, t', p'⟩
    by_cases hlt : i < items.length
    · obtain ⟨yg, yy⟩ := (y i F' H' s2 t'.n.fh).1 items[i] (List.getElem?_eq_getElem hlt)
      refine .inr ⟨yg, fun σ' H' => i + 1 ≤ items.length ∧ ∃ F' ρ' S', Same F2 F' ∧ Same F F' ∧ Ats X.K κ F0 H0 F' ρ' S' σ' H' ∧ PostS X.K X.mg Z κ F0 H0 F (forL gt g (dom (frzE is ρ)) (items.drop (i + 1)) ρ' S') Dn, fun σ' H' h => ⟨items.length - (i + 1), by omega, rfl, h⟩, fun v H3 y3 => ?_⟩
      obtain ⟨F3, n3, k3, r3⟩ := yy v H3 y3
      have dr : items.drop i = items[i] :: items.drop (i + 1) := List.drop_eq_getElem_cons hlt
      rw [dr] at p'
      unfold forL at p'
      cases eg : gt items[i] ρ' with
      | none => rw [eg] at p'; exact p'.elim
      | some ρ1 =>
        rw [eg] at p'
        simp only at p'
        have c3 : Cel X.K κ F3 H3 S' := t'.c.up n3 fun a ha => by
          obtain ⟨vs, e, _⟩ := t'.c.there a ha
          exact k3 a (by rw [e]; simp)
        refine ⟨κ, F0, H0, F3, ρ', S', items[i], ρ1, t'.nxt n3 c3, r3, eg, fun σ4 t4 => ?_⟩
        refine ⟨κ, F0, H0, F3, ρ1, S', t4, ?_⟩
        cases eb : g ρ1 S' with
        | nx ρ2 S2 =>
          rw [eb] at p'
          exact fun σ5 H5 F5 s5 t5 => ⟨hlt, F5, _, S2, (s2.trans n3.ff).trans s5, (sF.trans n3.ff).trans s5, t5.mask _, p'⟩
        | rt w S2 => rw [eb] at p'; exact p'
        | exc n S2 => rw [eb] at p'; exact p'
        | stuck => rw [eb] at p'; exact p'
    · have e : i = items.length := by omega
      subst e
      refine .inl ⟨(y _ F' H' s2 t'.n.fh).2 rfl, ?_⟩
      rw [List.drop_length] at p'
      exact p' σ' H' F' sF t'
def whileL (is : List Nat) (fc : Fe) (body : Fs) (dm : List Bool) : Nat → Ev → Cs → Fl
  | 0, _, _ => .stuck
  | n + 1, ρ, S => match fc (ev (frzE is ρ)) S with
    | .ok (.a (.d (.bool b))) S1 => if flatCs S1 = true then (if b = true then (match body ρ S1 with
      | .nx ρ2 S2 => whileL is fc body dm n (mask dm ρ2) S2
      | r => r) else .nx ρ S1) else .stuck
    | .exc n S1 => .exc n S1
    | _ => .stuck
def sWhile (fuel : Nat) (is : List Nat) (fc : Fe) (body : Fs) : Fs := fun ρ S => whileL is fc body (dom ρ) fuel ρ S
theorem vs_while (fuel : Nat) (is : List Nat) (hp : PassesOwn (model X.prog X.w) X.A X.env X.xe) (hc : VT X Z c fc) (hb : VSs X Z body g) : VS X Z (.While c body [] pos) (sWhile fuel is fc g) := (ps_while hp hc hb).imp fun Dn σ H h => by
  obtain ⟨κ, F0, H0, F, ρ, S, t, p⟩ := h
  refine ⟨fun m σ' H' => ∃ F' ρ' S', Ats X.K κ F0 H0 F' ρ' S' σ' H' ∧ PostS X.K X.mg Z κ F0 H0 F' (whileL is fc g (dom ρ) m ρ' S') Dn, ⟨fuel, F, ρ, S, t, p⟩, ?_⟩
  rintro m σ' H' ⟨F', ρ', S', t', p'⟩
  cases m with
  | zero => exact p'.elim
  | succ m =>
    unfold whileL at p'
    refine if_of (k := fun b S1 => if b = true then (match g ρ' S1 with
      | .nx ρ2 S2 => whileL is fc g (dom ρ) m (PD.mask (dom ρ) ρ2) S2
      | r => r) else .nx ρ' S1) t' p' fun b H2 S1 t2 p2 => ?_
    cases b with
    | false =>
      rw [if_neg Bool.false_ne_true] at p2
      exact iteF (p2 σ' H2 F' (Same.refl _) t2)
    | true =>
      rw [if_pos rfl] at p2
      refine iteT ⟨fun σ' H' => ∃ F' ρ' S', Ats X.K κ F0 H0 F' ρ' S' σ' H' ∧ PostS X.K X.mg Z κ F0 H0 F' (whileL is fc g (dom ρ) m ρ' S') Dn, fun σ' H' h => ⟨m, Nat.lt_succ_self _, h⟩, ⟨κ, F0, H0, F', ρ', S1, t2, ?_⟩⟩
      cases eb : g ρ' S1 with
      | nx ρ2 S2 =>
        rw [eb] at p2
        exact fun σ5 H5 F5 s5 t5 => ⟨F5, _, S2, t5.mask _, p2.upF s5⟩
      | rt w S2 => rw [eb] at p2; exact p2
      | exc n S2 => rw [eb] at p2; exact p2
      | stuck => rw [eb] at p2; exact p2
def startE (n : Nat) (xs : List A) : Ev := xs.map (fun x => some (.a x)) ++ List.replicate (n - xs.length) none
def bodySem (n : Nat) (g : Fs) : Sem_ := fun xs S => match g (startE n xs) S with
  | .nx _ S1 => .ok nD S1
  | .rt w S1 => .ok w S1
  | .exc m S1 => .exc m S1
  | .stuck => .stuck
theorem startE_get {n : Nat} {xs : List A} {i : Nat} {w : W} (h : (startE n xs)[i]? = some (some w)) : ∃ x, xs[i]? = some x ∧ w = .a x := by
  unfold startE at h
  by_cases hi : i < xs.length
  · rw [List.getElem?_append_left (by simpa using hi), List.getElem?_map] at h
    cases q : xs[i]? with
    | none => rw [q] at h; cases h
    | some x => rw [q] at h; cases h; exact ⟨x, rfl, rfl⟩
  · rw [List.getElem?_append_right (by simpa using hi), List.getElem?_replicate] at h
    split at h <;> cases h
theorem RepAs.get {K : PySem.W.Frag} {κ : Kp} {F : Hp} : ∀ {vs : List V} {xs : List A} {i : Nat} {x : A}, RepAs K κ F vs xs → xs[i]? = some x → ∃ v, vs[i]? = some v ∧ RepA K κ F v x
  | _, _, _, _, .nil, e => by simp at e
  | _, _, 0, _, .cons r _, e => by simp at e; subst e; exact ⟨_, rfl, r⟩
  | _, _, i + 1, x, .cons _ t, e => by
    obtain ⟨v, h1, h2⟩ := RepAs.get (i := i) (x := x) t (by simpa using e)
    exact ⟨v, by simpa using h1, h2⟩
theorem body_ok {K : PySem.W.Frag} {mg : Str → Option Value} {N : List Str} {m : Nat} {vs : List V} {H : Hp} {Q : VK} {E : XK} (hm : m ≤ N.length) (h : spD K mg m (bodySem N.length g) vs H Q E) : ts K mg (fun cls d _ H' => E cls d H') g { nx := fun _ H' => Q .non H', rt := Q } (L2.start N vs) H := by
  obtain ⟨hl, κ, F, S, xs, fh, c, r, p⟩ := h
  have hx : xs.length = vs.length := r.len.symm
  refine ⟨κ, F, H, F, startE N.length xs, S, ⟨.refl fh, c, fun a ha => ?_, ?_, fun _ => [], fun i w h => ?_, fun _ _ => rfl, fun _ => .nil, fun _ _ _ _ ha => absurd ha (by simp), fun _ _ ha => absurd ha (by simp)⟩, ?_⟩
  · exact c.notT ha
  · unfold startE L2.start
    simp only [List.length_append, List.length_map, List.length_replicate]
    omega
  · obtain ⟨x, h1, rfl⟩ := startE_get h
    obtain ⟨v, h2, h3⟩ := r.get h1
    refine ⟨v, ?_, rfl, h3⟩
    unfold L2.start
    have hi : i < vs.length := (List.getElem?_eq_some_iff.mp h2).1
    rw [List.getElem?_append_left (by simpa using hi), List.getElem?_map, h2]
    rfl
  · unfold bodySem at p
    cases q : g (startE N.length xs) S with
    | nx ρ1 S1 =>
      rw [q] at p
      intro σ' H' F' _ t
      exact p .non H' F' [] t.n t.c ⟨rfl, .non⟩ .nil fun _ ha => absurd ha (by simp)
    | rt w S1 => rw [q] at p; exact p
    | exc n S1 => rw [q] at p; exact fun C σ' H' F' a b c => p C H' F' a b c
    | stuck => rw [q] at p; exact p
theorem def_ok {P : Program} {w : World} {K : PySem.W.Frag} {mg : Str → Option Value} {base : Heap} {x qual : Str} {st : Stmt} {f : Addr} {fd : FuncData} {N ps : List Str} {k : Nat} (Fn : Fun K x qual st f fd) (Sc : FnScope N ps (defScope st)) (hm : ps.length ≤ N.length)
    (hb : ∀ (cdv : Value) (A : Around) (outer : List Env) (s : Shared) (H : Hp) (E : XK), Room k (A.deeper (envOfC qual (defScope st) s.heap.objs.size f cdv)) →
      PSs (cxOf (L2.CX P w) P w K mg base N qual (defScope st) f cdv A outer s H E) (defBody st) (ts K mg (fun cls d _ H' => E cls d H') g)) : FnOk P w K mg base (L2.CX P w) (k + 1) f fd ps (spD K mg ps.length (bodySem N.length g)) :=
  Fn.okX Sc (fun vs H Q E h => h.1) fun cdv A outer s H vs Q E hr h => ⟨_, hb cdv A outer s H E hr, body_ok hm h⟩
end
end PD

namespace PD
open PySem PySem.Spec PyProof.Rows L2
structure OkAt (P : Program) (w : World) (K : PySem.W.Frag) (mg : Str → Option Value) (base : Heap) (k : Nat) (x : Str) (ps : List Str) (sem : Sem_) : Prop where
  ex : ∃ f fd, mg x = some (.ref f) ∧ PySem.W.keepIn K (.ref f) = true ∧ Binds K fd ps [] ∧ FnOk P w K mg base (L2.CX P w) k f fd ps (spD K mg ps.length sem)
structure DefAt (K : PySem.W.Frag) (mg : Str → Option Value) (x : Str) (st : Stmt) (ps : List Str) : Prop where
  ex : ∃ f fd, mg x = some (.ref f) ∧ Binds K fd ps [] ∧ Fun K x x st f fd
theorem ok_of {P : Program} {w : World} {K : PySem.W.Frag} {mg : Str → Option Value} {base : Heap} {x : Str} {st : Stmt} {N ps : List Str} {k : Nat} {g : Fs} (Dx : DefAt K mg x st ps) (Sc : FnScope N ps (defScope st)) (hm : ps.length ≤ N.length)
    (hb : ∀ (f : Addr) (cdv : Value) (A : Around) (outer : List Env) (s : Shared) (H : Hp) (E : XK), Room k (A.deeper (envOfC x (defScope st) s.heap.objs.size f cdv)) →
      VSs (cxOf (L2.CX P w) P w K mg base N x (defScope st) f cdv A outer s H E) (fun cls d _ H' => E cls d H') (defBody st) g) : OkAt P w K mg base (k + 1) x ps (bodySem N.length g) := by
  obtain ⟨f, fd, e1, e2, e3⟩ := Dx.ex
  exact ⟨f, fd, e1, e3.kp, e2, def_ok e3 Sc hm fun cdv A outer s H E hr => hb f cdv A outer s H E hr⟩
theorem OkAt.never {P : Program} {w : World} {K : PySem.W.Frag} {mg : Str → Option Value} {base : Heap} {x : Str} {st : Stmt} {ps : List Str} {k : Nat} (Dx : DefAt K mg x st ps) : OkAt P w K mg base k x ps (fun _ _ => .stuck) := by
  obtain ⟨f, fd, e1, e2, e3⟩ := Dx.ex
  refine ⟨f, fd, e1, e3.kp, e2, ⟨fun vs H Q E h => h.1, fun A outer s H args us vs Q E hr e0 hb r h => ?_⟩⟩
  obtain ⟨_, κ, F, S, xs, _, _, _, p⟩ := h
  exact p.elim
theorem OkAt.mono {P : Program} {w : World} {K : PySem.W.Frag} {mg : Str → Option Value} {base : Heap} {x : Str} {ps : List Str} {sem : Sem_} {j k : Nat} (G : OkAt P w K mg base j x ps sem) (h : j ≤ k) : OkAt P w K mg base k x ps sem := by
  obtain ⟨f, fd, e1, e2, e3, e4⟩ := G.ex
  exact ⟨f, fd, e1, e2, e3, e4.mono h⟩
section
variable {X : Cx} {Z : WX} {e c a b o : Expr} {es : List Expr} {f fa fb : Fe} {fs : List Fe} {p pos apos : Pos} {g : Fs}
theorem ve_callO {k j : Nat} {x : Str} {ps : List Str} {sem : Sem_} (hr : Room k X.A) (tk : Takes X Z) (G : OkAt X.prog X.w X.K X.mg X.base j x ps sem) (ha : VA X Z (e :: es) fs) (hj : j ≤ k := by first | omega | (simp only [Nat.add_eq]; omega)) (hx : Gl X x := by rfl) (hn : fs.length = ps.length := by rfl)
    (hdb : (x == ("__debug__" : Str)) = false := by decide) (he : starEach (e :: es) X.env = (false, eval e X.env) :: starEach es X.env := by rfl) (hpl : (backTo pos (starEach es X.env)).any (·.1) = false := by rfl) :
    VE X Z (.Call (.Name x p) (e :: es) [] pos) (fCall sem fs) := by
  obtain ⟨f, fd, e1, e2, e3, e4⟩ := G.ex
  exact ve_call e4 (hr.mono hj) tk hx e1 e2 e3 ha hn hdb he hpl
structure KInt (K : PySem.W.Frag) (mg : Str → Option Value) (x : Str) (kvs : List (Int × Int)) : Prop where
  ex : ∃ (d : Addr) (es : Array DictEntry) (n : Nat), mg x = some (.ref d) ∧ K.lookup d = some ⟨.type "dict", none, .dict es n, #[]⟩ ∧ (d == sysModules) = false ∧ (∀ e ∈ es, ∃ k t, e.key = .int k t ∧ e.hash = hashInt k) ∧ ∀ k, match kvs.lookup k with
    | some v => ∃ t, findBy Value.isInt es k = some (.int v t)
    | none => findBy Value.isInt es k = none
theorem KInt.map {K : PySem.W.Frag} {P : Program} {w : World} {h : Heap} {d : Addr} {es : Array DictEntry} {n : Nat} (X : K.In h) (l : K.lookup d = some ⟨.type "dict", none, .dict es n, #[]⟩) (hk : ∀ e ∈ es, ∃ k t, e.key = .int k t ∧ e.hash = hashInt k) : h.MapOf (PySem.intKind P w) d (fun k => findBy Value.isInt es k) :=
  ⟨_, es, n, X _ _ l, ⟨rfl, rfl, rfl⟩, rfl, fun e he => by
    obtain ⟨k, t, e1, e2⟩ := hk e he
    exact ⟨k, by rw [e1]; exact PySem.intKind_is P w k t, e2⟩, fun _ => rfl⟩
def dInKI (kvs : List (Int × Int)) : D → Option W
  | .int i => some (bD (kvs.lookup i).isSome)
  | _ => none
def dAtKI (kvs : List (Int × Int)) : D → Option W
  | .int i => (kvs.lookup i).map iD
  | _ => none
theorem inKI_core {x : Str} {kvs : List (Int × Int)} (M : KInt X.K X.mg x kvs) : ∃ (d : Addr) (r : R2), X.mg x = some (.ref d) ∧ OpR X (compareOp .In) r ∧ ∀ (fa : Fe) (σ : L2.St) (H : Hp) (Q : VK), tv X.K X.mg Z (fUn (onD1 (dInKI kvs)) fa) σ H Q → tOp r (tv X.K X.mg Z fa) (tC (.ref d)) σ H Q := by
  obtain ⟨d, es, n, e1, e2, e3, e4, e5⟩ := M.ex
  have ho : OpR X (compareOp .In) (fun y z H Q => ∃ i, y = .int i ∧ z = .ref d ∧ Q (.bl (kvs.lookup i).isSome) H) := by
    intro pins s σ H y z v u Q I ry rz h
    obtain ⟨i, rfl, rfl, q⟩ := h
    obtain ⟨t, rfl⟩ := ry
    cases rz
    refine wpAny_in_of (PySem.intKind_is X.prog X.w i t) e3 (KInt.map I.kIn e2 e4) ?_
    have e6 := e5 i
    have e7 : (findBy Value.isInt es i).isSome = (kvs.lookup i).isSome := by
      cases q2 : kvs.lookup i with
      | none => rw [q2] at e6; rw [e6]; rfl
      | some v => rw [q2] at e6; obtain ⟨t, e6⟩ := e6; rw [e6]; rfl
    show EP X pins σ Q (.bool (findBy Value.isInt es i).isSome) _
    rw [e7]
    exact ⟨.bl _, H, I.tok _, rfl, q⟩
  refine ⟨d, _, e1, ho, fun fa σ H Q h => ?_⟩
  refine tUn_of (r := fun y H Q => ∃ i, y = .int i ∧ V.ref d = .ref d ∧ Q (.bl (kvs.lookup i).isSome) H) (OpS1.onD fun κ F ρ S σ H v x w Q t r e p => ?_) h
  cases x with
  | int i =>
    cases e
    rw [Rep.intv r]
    exact ⟨i, rfl, rfl, p.bl t⟩
  | _ => cases e
theorem ve_inKI {x : Str} {kvs : List (Int × Int)} (M : KInt X.K X.mg x kvs) (ha : VE X Z a fa) (hg : Gl X x := by rfl) (hd : (x == ("__debug__" : Str)) = false := by decide) (hm : behindInMarks .In (.Name x p) = false := by rfl) : VE X Z (.Compare a [.In] [.Name x p] pos) (fUn (onD1 (dInKI kvs)) fa) := by
  obtain ⟨d, r, e1, ho, hh⟩ := inKI_core (Z := Z) M
  exact (pe_cmpR ho ha (pe_glob (v := .ref d) hg e1 rfl hd) hm).imp fun σ H Q h => hh fa σ H Q h
theorem ve_atKI {x : Str} {kvs : List (Int × Int)} (M : KInt X.K X.mg x kvs) (ha : VE X Z a fa) (hg : Gl X x := by rfl) (hd : (x == ("__debug__" : Str)) = false := by decide) (hs : PlainIx a := by intro _ _; rfl) : VE X Z (.Subscript (.Name x p) a pos) (fUn (onD1 (dAtKI kvs)) fa) := by
  obtain ⟨d, es, n, e1, e2, e3, e4, e5⟩ := M.ex
  have hi : IxR X (fun z y H Q => ∃ i v, y = .int i ∧ z = .ref d ∧ kvs.lookup i = some v ∧ Q (.int v) H) := by
    intro value slice pins s σ H z y v u Q I rz ry h hs
    obtain ⟨i, w, rfl, rfl, l, q⟩ := h
    obtain ⟨t, rfl⟩ := ry
    obtain rfl : v = Value.ref d := rz
    have e6 := e5 i
    rw [l] at e6
    obtain ⟨t', e6⟩ := e6
    have hm := KInt.map (P := X.prog) (w := X.w) I.kIn e2 e4
    exact tail_any hm.typeIs slot_dict_getitem.lookup (wpAny_getItem_of (PySem.intKind_is X.prog X.w i t) hm e6 ⟨.int w, H, I.tok _, ⟨t', rfl⟩, q⟩) hs
  refine (pe_ix hi (pe_glob (v := .ref d) hg e1 rfl hd) ha hs).imp fun σ H Q h => ?_
  refine tUn_of (r := fun y H Q => ∃ i v, y = .int i ∧ V.ref d = .ref d ∧ kvs.lookup i = some v ∧ Q (.int v) H) (OpS1.onD fun κ F ρ S σ H v x w Q t r e p => ?_) h
  cases x with
  | int i =>
    simp only [dAtKI] at e
    cases q : kvs.lookup i with
    | none => rw [q] at e; cases e
    | some z =>
      rw [q] at e
      cases e
      rw [Rep.intv r]
      exact ⟨i, z, rfl, rfl, q, p.int t⟩
  | _ => cases e
def tKV (kvs : List (Int × Int)) : List (TE × TE) := kvs.map fun kv => (tC (.int kv.1), tC (.int kv.2))
theorem pps_int {k v : Int} {j1 j2 : Nat} {p1 p2 : Pos} {kvs : List (Int × Int)} {ks : List (Option Expr)} {vs : List Expr} (h : PPs X pos ks vs (tKV kvs)) : PPs X pos (some (.Constant (.int k) j1 p1) :: ks) (.Constant (.int v) j2 p2 :: vs) (tKV ((k, v) :: kvs)) := pps_cons pe_int pe_int h
theorem tPairs_int {σ : L2.St} {H : Hp} : ∀ {kvs : List (Int × Int)} {Q : List (V × V) → Hp → Prop}, Q (kvs.map fun kv => (.int kv.1, .int kv.2)) H → tPairs (tKV kvs) σ H Q
  | [], Q, h => h
  | kv :: kvs, Q, h => tPairs_int (kvs := kvs) h
theorem ve_disp {keys : List (Option Expr)} {values : List Expr} {kvs : List (Int × Int)} {k : Nat} {p2 : Pos} (hr : Room k X.A) (h : PPs X p2 keys values (tKV kvs)) (ha : VE X Z a fa) (hall : keys.all (·.isSome) = true := by rfl) (hl : keys.length = values.length := by rfl) (h0 : keys ≠ [] := by simp) (h15 : keys.length ≤ 15 := by decide) (k15 : kvs.length ≤ 15 := by decide)
    (hv : ∀ i, valV (mergeK [] (kvs.map fun kv => (Sum.inl kv.1, V.int kv.2))) (.inl i) = (kvs.lookup i).map V.int) (hs : NoSl a := by intro _ _; rfl) : VE X Z (.Subscript (.Dict keys values p2) a pos) (fUn (onD1 (dAtKI kvs)) fa) := by
  refine (pe_dget (hu_of hr) (pe_disp h hall hl h0 h15) ha hs).imp fun σ H Q q => ?_
  intro p hp
  refine tPairs_int ⟨upd_same, kvs.map fun kv => (Sum.inl kv.1, V.int kv.2), ?_, by rw [List.length_map]; exact k15, ?_⟩
  · rw [List.map_map]; rfl
  obtain ⟨κ, F, ρ, S, t, po⟩ := q
  generalize hM : mergeK [] (kvs.map fun kv => (Sum.inl kv.1, V.int kv.2)) = M at *
  have e : upd (upd H p (.dK [])) p (.dK M) = upd H p (.dK M) := by
    funext b
    by_cases hb : b = p
    · subst hb; rw [upd_same, upd_same]
    · rw [upd_ne hb, upd_ne hb, upd_ne hb]
  rw [e]
  have n0 : Nxt κ F H F (upd H p (.dK M)) := Nxt.newH t.fh hp
  have c0 := t.cel.newH (o := .dK M) t.fh hp
  have pk : p ∉ κ.l := fun z => by
    obtain ⟨vs, e, _⟩ := t.cel.there p z
    rw [hp] at e; cases e
  unfold fUn at po
  refine at_bind (t.nxt n0 c0) (po.up n0) fun v H1 F1 S1 x n1 t1 r1 p1 => ?_
  have hd := n1.kp p (.dK M) upd_same pk (fun ps z => by cases z)
  cases x with
  | d x =>
    cases x with
    | int i =>
      unfold onD1 dAtKI at p1
      simp only at p1
      cases ql : kvs.lookup i with
      | none => simp only [ql, Option.map_none] at p1; exact p1.elim
      | some z =>
        simp only [ql, Option.map_some] at p1
        rw [Rep.intv r1]
        refine ⟨p, .int z, rfl, .inl ⟨M, .inl i, .inl hd, rfl, ?_⟩, p1.int t1⟩
        rw [hv i, ql]; rfl
    | _ => exact p1.elim
  | _ => exact p1.elim
def fSm (g : Str → D → Option W) (fa fb : Fe) : Fe := fun ρ S => (fa ρ S).bnd fun x S1 => match x with
  | .d (.str z) => (fb ρ S1).bnd fun y S2 => match y with
    | .d d => match g z d with
      | some w => .ok w S2
      | none => .stuck
    | _ => .stuck
  | _ => .stuck
def fSm0 (g : Str → Option W) (fa : Fe) : Fe := fun ρ S => (fa ρ S).bnd fun x S1 => match x with
  | .d (.str z) => match g z with
    | some w => .ok w S1
    | none => .stuck
  | _ => .stuck
theorem sm_of {r : V → List V → Hp → VK → Prop} {g : Str → D → Option W} {K : PySem.W.Frag} {mg : Str → Option Value} (hg : ∀ κ F ρ S σ H z u d w Q, At K κ F ρ S σ H → Rep K F u d → g z d = some w → Post K mg Z κ F H σ (.ok w S) Q → r (.str z) [u] H Q)
    {σ : L2.St} {H : Hp} {Q : VK} (h : tv K mg Z (fSm g fa fb) σ H Q) : tM1 r (tv K mg Z fa) (tv K mg Z fb) σ H Q := by
  obtain ⟨κ, F, ρ, S, t, p⟩ := h
  refine at_bind t p fun v H1 F1 S1 x n1 t1 r1 p1 => ?_
  cases x with
  | d x =>
    cases x with
    | str z =>
      obtain rfl := Rep.strv r1
      refine ⟨⟨z, rfl⟩, at_bind t1 p1 fun u H2 F2 S2 y n2 t2 r2 p2 => ?_⟩
      cases y with
      | d d =>
        simp only at p2
        cases q : g z d with
        | none => rw [q] at p2; exact p2.elim
        | some w => rw [q] at p2; exact hg κ F2 ρ S2 σ H2 z u d w Q t2 r2 q p2
      | _ => exact p2.elim
    | _ => exact p1.elim
  | _ => exact p1.elim
def dJoin (a : Str) : D → Option W
  | .list ds => match strsOf ds with
    | some ys => if (ys.map (·.length)).sum + ys.length * a.length ≤ 16777216 then some (sD (Txt.join a ys)) else none
    | none => none
  | .tuple ds => match strsOf ds with
    | some ys => if (ys.map (·.length)).sum + ys.length * a.length ≤ 16777216 then some (sD (Txt.join a ys)) else none
    | none => none
  | _ => none
theorem ve_join (ho : VE X Z o fa) (he : VE X Z e fb) (hs : starEach [e] X.env = [(false, eval e X.env)] := by rfl) (hbase : attributeBase o "join" X.env (eval o X.env) = eval o X.env := by rfl) (hline : (apos.endLine == pos.line) = true := by rfl) : VE X Z (.Call (.Attribute o "join" apos) [e] [] pos) (fSm dJoin fa fb) :=
  (pe_join ho he hs hbase hline).imp fun σ H Q h => sm_of (fun κ F ρ S σ H z u d w Q t r e p => by
    unfold dJoin at e
    split at e
    · split at e
      · rename_i ys q
        split at e
        · rename_i hl
          cases e
          obtain ⟨a, vs, rfl, h1, h2⟩ := Rep.lstv r
          rw [RepAll.strs h2 q] at h1
          exact ⟨z, a, ys, rfl, rfl, .inl (.of (t.fh _ _ h1)), hl, p.str t⟩
        · cases e
      · cases e
    · split at e
      · rename_i ys q
        split at e
        · rename_i hl
          cases e
          obtain ⟨a, vs, rfl, h1, h2⟩ := Rep.tupv r
          rw [RepAll.strs h2 q] at h1
          exact ⟨z, a, ys, rfl, rfl, .inr (Same.seqT t.fh h1), hl, p.str t⟩
        · cases e
      · cases e
    · cases e) h
end
end PD

namespace PD
open PySem PySem.Spec PyProof.Rows L2
section
variable {K : PySem.W.Frag} {mg : Str → Option Value} {Z : WX} {κ : Kp} {F0 H0 F H F1 H1 : Hp} {ρ : Ev} {S S1 : Cs} {σ : L2.St}
theorem Ats.wrG {fp : Nat → List Addr} {i : Nat} {w' : W} {v : V} {b : Addr} {vs vs' : List V} {L' : List Addr} (t : Ats K κ F0 H0 F ρ S σ H) (sl : Slots K κ H0 F H ρ σ fp) (hl : i < ρ.length) (hσ : σ[i]? = some (some v)) (hd : H b = some (.lst vs)) (fb : b ∈ fp i)
    (r : RepW K κ F (upd H b (.lst vs')) w' v L') (nd : L'.Nodup) (nw : ∀ c ∈ L', FrT H0 c ∧ F c = none) (ap : ∀ j, j ≠ i → ∀ c ∈ fp j, c ∉ L') : Ats K κ F0 H0 F (ρ.set i (some w')) S σ (upd H b (.lst vs')) := by
  have h0 := sl.nw i b fb
  refine ⟨t.n.wr h0.1 h0.2 hd, t.c.wr (t.nok sl i b fb) hd, t.ck, by rw [List.length_set]; exact t.ln, fun j => if j = i then L' else fp j, fun j w h => ?_, fun j h => ?_, fun j => ?_, fun j k hjk c hc => ?_, fun j c hc => ?_⟩
  · by_cases hj : j = i
    · subst hj
      rw [List.getElem?_set_self hl] at h
      cases h
      refine ⟨v, hσ, ?_⟩
      show RepW K κ F _ _ _ (if j = j then L' else fp j)
      rw [if_pos rfl]
      exact r
    · rw [List.getElem?_set_ne (Ne.symm hj)] at h
      obtain ⟨u, h1, h2⟩ := sl.rep j w h
      refine ⟨u, h1, ?_⟩
      show RepW K κ F _ w u (if j = i then L' else fp j)
      rw [if_neg hj]
      exact RepW.up (Same.refl _) w u _ (fun c hc o e => by rw [upd_ne (show c ≠ b from fun z => sl.dis j i hj c hc (z ▸ fb))]; exact e) h2
  · show (if j = i then L' else fp j) = []
    by_cases hj : j = i
    · subst hj
      exact absurd (List.getElem?_set_self hl) (h _)
    · rw [if_neg hj]
      exact sl.non j fun w' e => h w' (by rw [List.getElem?_set_ne (Ne.symm hj)]; exact e)
  · show (if j = i then L' else fp j).Nodup
    split
    · exact nd
    · exact sl.nd j
  · show c ∉ (if k = i then L' else fp k)
    have hc' : c ∈ (if j = i then L' else fp j) := hc
    clear hc
    by_cases hj : j = i
    · rw [if_pos hj] at hc'
      rw [if_neg (fun z => hjk (hj.trans z.symm))]
      exact fun z => ap k (fun e => hjk (hj.trans e.symm)) c z hc'
    · rw [if_neg hj] at hc'
      split
      · exact ap j hj c hc'
      · exact sl.dis j k hjk c hc'
  · have hc : c ∈ (if j = i then L' else fp j) := hc
    split at hc
    · exact nw c hc
    · exact sl.nw j c hc
theorem RepWs.get : ∀ {ws : List W} {vs : List V} {L : List Addr} {j : Nat} {w : W}, RepWs K κ F H ws vs L → ws[j]? = some w → ∃ v L1 L2 L3, vs[j]? = some v ∧ L = L1 ++ (L2 ++ L3) ∧ RepW K κ F H w v L2 ∧
    ∀ (F' H' : Hp) (w' : W) (v' : V) (L2' : List Addr), Same F F' → (∀ a ∈ L1 ++ L3, ∀ o, H a = some o → H' a = some o) → RepW K κ F' H' w' v' L2' → RepWs K κ F' H' (ws.set j w') (vs.set j v') (L1 ++ (L2' ++ L3))
  | [], _, _, _, _, _, e => by simp at e
  | w0 :: ws, _, _, 0, w, h, e => by
    obtain ⟨v, r, La, Lb, rfl, rfl, h1, h2⟩ := h
    simp at e
    subst e
    refine ⟨v, [], La, Lb, rfl, rfl, h1, fun F' H' w' v' L2' s k r' => ?_⟩
    exact ⟨v', r, L2', Lb, rfl, rfl, r', RepWs.up s ws r Lb (fun a ha => k a (by simpa using ha)) h2⟩
  | w0 :: ws, _, _, j + 1, w, h, e => by
    obtain ⟨v, r, La, Lb, rfl, rfl, h1, h2⟩ := h
    obtain ⟨v1, L1, L2, L3, e1, rfl, e3, e4⟩ := RepWs.get (j := j) (w := w) h2 (by simpa using e)
    refine ⟨v1, La ++ L1, L2, L3, by simpa using e1, by simp, e3, fun F' H' w' v' L2' s k r' => ?_⟩
    refine ⟨v, r.set j v', La, L1 ++ (L2' ++ L3), rfl, by simp, RepW.up s w0 v La (fun a ha => k a (by simp [ha])) h1, e4 F' H' w' v' L2' s (fun a ha => k a ?_) r'⟩
    rcases List.mem_append.mp ha with z | z <;> simp [z]
theorem nodup_at {α : Type} : ∀ {l : List α} {i j : Nat} {a : α}, l.Nodup → l[i]? = some a → l[j]? = some a → i = j
  | [], _, _, _, _, e, _ => by simp at e
  | x :: l, 0, 0, _, _, _, _ => rfl
  | x :: l, 0, j + 1, a, n, e1, e2 => by
    simp at e1 e2
    subst e1
    exact absurd (List.mem_of_getElem? e2) (List.nodup_cons.mp n).1
  | x :: l, i + 1, 0, a, n, e1, e2 => by
    simp at e1 e2
    subst e2
    exact absurd (List.mem_of_getElem? e1) (List.nodup_cons.mp n).1
  | x :: l, i + 1, j + 1, a, n, e1, e2 => congrArg (· + 1) (nodup_at (List.nodup_cons.mp n).2 (by simpa using e1) (by simpa using e2))
theorem Ats.cell {k j : Nat} {a : Addr} {ds : List D} {vs : List V} {v : V} {d : D} (t : Ats K κ F0 H0 F ρ S σ H) (hk : κ.l[k]? = some a) (hs : S[k]? = some ds) (hd : H a = some (.lst vs)) (hM : κ.M a = none) (rr : RepAll K F vs ds) (r : Rep K F v d) : Ats K κ F0 H0 F ρ (S.set k (ds.set j d)) σ (upd H a (.lst (vs.set j v))) := by
  obtain ⟨fp, sl⟩ := t.sl
  have ak : a ∈ κ.l := List.mem_of_getElem? hk
  have fa : F a = none := t.c.fz a ak
  have ne : ∀ i, ∀ b ∈ fp i, b ≠ a := fun i b hb z => t.nok sl i b hb (z ▸ ak)
  refine ⟨⟨t.n.ff, fun b o e => ?_, fun b o e nb nt => ?_, fun b e => ?_, fun h => tabs_wr hd _ (t.n.tb h), t.n.fn, t.n.nt⟩, ⟨by rw [List.length_set]; exact t.c.len, t.c.nd, fun i b es e1 e2 => ?_, t.c.fz, ⟨t.c.tb.1, tabs_wr hd _ t.c.tb.2⟩, t.c.nt⟩, t.ck, t.ln, fp, fun i w h => ?_, sl.non, sl.nd, sl.dis, sl.nw⟩
  · rw [upd_ne (show b ≠ a from fun z => by rw [z, fa] at e; cases e)]; exact t.n.fh b o e
  · rw [upd_ne (show b ≠ a from fun z => nb (z ▸ ak))]; exact t.n.kp b o e nb nt
  · exact frT_wr (t.n.dm b e)
  · by_cases hi : i = k
    · subst hi
      rw [hk] at e1
      cases e1
      rw [List.getElem?_set_self (List.getElem?_eq_some_iff.mp hs).1] at e2
      cases e2
      exact .inl ⟨hM, _, upd_same, RepAll.set r j rr⟩
    · rw [List.getElem?_set_ne (Ne.symm hi)] at e2
      have hb : b ≠ a := fun z => hi (by
        subst z
        exact nodup_at t.c.nd e1 hk)
      exact (t.c.cl i b es e1 e2).up (Same.refl _) (upd_ne hb)
  · obtain ⟨u, h1, h2⟩ := sl.rep i w h
    exact ⟨u, h1, RepW.up (Same.refl _) w u _ (fun b hb o e => by rw [upd_ne (ne i b hb)]; exact e) h2⟩
end
section
variable {X : Cx} {Z : WX} {e c o ix a b : Expr} {f fc fi fa fb : Fe} {pos apos cpos p : Pos} {g : Fs}
def sSetT (ks is : List Nat) (f : Fe) : Fs := fun ρ S => match f (ev (frzE is ρ)) S with
  | .ok (.a (.d (.tuple ds))) S1 => if ds.length = ks.length then .nx (setW ks ds (frzE is ρ)) S1 else .stuck
  | .exc n S1 => .exc n S1
  | _ => .stuck
theorem vs_setT (is : List Nat) {ks : List Nat} {es : List Expr} {k : Nat} (hg : PGs X es (gNs ks)) (he : VE X Z e f) (hc : X.calm = true := by rfl) (hn : (assignEach es X.env).length = ks.length := by rfl) (hst : (assignEach es X.env).findIdx? (·.1) = none := by rfl)
    (hs : swapsWithSole [.Tuple es k p] e pos.line X.env = pure false := by rfl) (hw : swappedStores [.Tuple es k p] e X.env = pure none := by rfl) (h1 : (assignEach [.Tuple es k p] X.env).map (·.2) = [assign (.Tuple es k p) X.env] := by rfl) : VS X Z (.Assign [.Tuple es k p] e pos) (sSetT ks is f) :=
  (ps_asg he (pg_tup (n := ks.length) hc hg hn hst) hs hw h1).imp fun Dn σ H h => by
    obtain ⟨κ, F0, H0, F, ρ, S, t, p⟩ := h
    obtain ⟨F1, s1, t1⟩ := t.frzE (is := is)
    refine ⟨κ, F1, _, S, t1.at_, ?_⟩
    unfold sSetT at p
    cases q : f (ev (frzE is ρ)) S with
    | stuck => rw [q] at p; exact p
    | exc n S1 => rw [q] at p; exact PostS.exc p t1.n
    | ok w S1 =>
      rw [q] at p
      match w, p with
      | .a (.d (.tuple ds)), p =>
        simp only at p
        split at p
        · rename_i hl
          intro v H' F' L n c r nd nw
          obtain ⟨a, vs, rfl, h1, h2⟩ := Rep.tupv r.2
          exact ⟨a, vs, rfl, Same.seqT n.fh h1, h2.len.trans hl, gNs_ofS (t1.nxt n c) h2 hl fun σ' t' => p σ' H' F' (s1.trans n.ff) t'⟩
        · exact p.elim
      | .a (.d .none), p => exact p.elim
      | .a (.d (.bool _)), p => exact p.elim
      | .a (.d (.int _)), p => exact p.elim
      | .a (.d (.str _)), p => exact p.elim
      | .a (.d (.list _)), p => exact p.elim
      | .a (.d (.dict _)), p => exact p.elim
      | .a (.c _), p => exact p.elim
      | .a (.s _), p => exact p.elim
      | .a (.e _), p => exact p.elim
      | .own _, p => exact p.elim
def sPar (i j : Nat) (is : List Nat) (f1 f2 : Fe) : Fs := fun ρ S => match f1 (ev (frzE is ρ)) S with
  | .ok w S1 => match f2 (ev (frzE is ρ)) S1 with
    | .ok u S2 => .nx (((frzE is ρ).set i (some w)).set j (some u)) S2
    | .exc n S2 => .exc n S2
    | .stuck => .stuck
  | .exc n S1 => .exc n S1
  | .stuck => .stuck
def sSetIx (k : Nat) (is : List Nat) (f g : Fe) : Fs := fun ρ S => match f (ev (frzE is ρ)) S with
  | .ok (.a (.d d)) S1 => match g (ev (frzE is ρ)) S1 with
    | .ok (.a (.d (.int i))) S2 => match (frzE is ρ)[k]? with
      | some (some (.a (.c c))) => match S2[c]? with
        | some ds => match ixN ds.length i with
          | some j => .nx (frzE is ρ) (S2.set c (ds.set j d))
          | none => .stuck
        | none => .stuck
      | some (some (.own ws)) => match ixN ws.length i with
        | some j => .nx ((frzE is ρ).set k (some (.own (ws.set j (.a (.d d)))))) S2
        | none => .stuck
      | _ => .stuck
    | _ => .stuck
  | .exc n S1 => .exc n S1
  | _ => .stuck
theorem vs_setIx (k : Nat) (is : List Nat) {x : Str} {px : Pos} (he : VE X Z e f) (hi : VE X Z ix fi) (hN : X.N[k]? = some x := by rfl) (hv : Vis X.env.scope x := by first | exact Or.inl rfl | exact Or.inr (Or.inl rfl) | exact Or.inr (Or.inr rfl)) (hdb : (x == ("__debug__" : Str)) = false := by decide)
    (hcd : (x == ("__classdict__" : Str)) = false := by decide) (hs : swapsWithSole [.Subscript (.Name x px) ix p] e pos.line X.env = pure false := by rfl) (hw : swappedStores [.Subscript (.Name x px) ix p] e X.env = pure none := by rfl) (h1 : (assignEach [.Subscript (.Name x px) ix p] X.env).map (·.2) = [assign (.Subscript (.Name x px) ix p) X.env] := by rfl)
    (ha : ∀ v, assign (.Subscript (.Name x px) ix p) X.env v = (do
      let ov ← holding [v] (eval (.Name x px) X.env)
      let iv ← holding [v, ov] (eval ix X.env)
      standAt p
      holding [v, ov, iv] (setItem ov iv v)
      release [v, ov, iv] []) := by intro _; rfl) : VS X Z (.Assign [.Subscript (.Name x px) ix p] e pos) (sSetIx k is f fi) :=
  (ps_asg he (pg_sub (pe_var (i := k) hN hv hdb hcd) hi set_list ha) hs hw h1).imp fun Dn σ H h => by
    obtain ⟨κ, F0, H0, F, ρ, S, t, p⟩ := h
    obtain ⟨F1, s1, t1⟩ := t.frzE (is := is)
    refine ⟨κ, F1, _, S, t1.at_, ?_⟩
    unfold sSetIx at p
    cases q : f (ev (frzE is ρ)) S with
    | stuck => rw [q] at p; exact p
    | exc n S1 => rw [q] at p; exact PostS.exc p t1.n
    | ok w S1 =>
      rw [q] at p
      match w, p with
      | .a (.d d), p =>
        simp only at p
        intro v H2 F2 L n c r nd nw
        have t2 := t1.nxt n c
        have r2 := r.2
        -- what the slot holds
        cases qi : fi (ev (frzE is ρ)) S1 with
        | stuck => rw [qi] at p; exact p.elim
        | exc m S2 =>
          rw [qi] at p
          exact p.elim
        | ok w2 S2 =>
          rw [qi] at p
          match w2, p with
          | .a (.d (.int i)), p =>
            simp only at p
            have fin : ∀ (o : V), σ[k]? = some (some o) → (∀ (H3 F3 : Hp) (S' : Cs), Ats X.K κ F0 H0 F3 (frzE is ρ) S2 σ H3 → Rep X.K F3 v d → Same F F3 → rSetL o (.int i) v H3 fun H4 => Dn.nx σ H4) → ∃ o', σ[k]? = some (some o') ∧ tv X.K X.mg Z fi σ H2 (fun y H3 => rSetL o' y v H3 fun H4 => Dn.nx σ H4) := fun o ho hh => by
              refine ⟨o, ho, κ, F2, _, S1, t2.at_, ?_⟩
              rw [qi]
              intro y H3 F3 L3 n3 c3 r3 nd3 nw3
              rw [Rep.intv r3.2]
              exact hh H3 F3 S2 (t2.nxt n3 c3) (Rep.up n3.ff _ _ r2) ((s1.trans n.ff).trans n3.ff)
            cases qk : (frzE is ρ)[k]? with
            | none => rw [qk] at p; exact p.elim
            | some ow =>
              rw [qk] at p
              match ow, p, qk with
              | some (.a (.c c')), p, qk =>
                simp only at p
                cases qs : S2[c']? with
                | none => rw [qs] at p; exact p.elim
                | some ds =>
                  rw [qs] at p
                  simp only at p
                  cases qj : ixN ds.length i with
                  | none => rw [qj] at p; exact p.elim
                  | some j =>
                    rw [qj] at p
                    obtain ⟨fp, sl⟩ := t1.sl
                    obtain ⟨o, ho, hr⟩ := sl.rep k _ qk
                    obtain ⟨a, ha, rfl, hM⟩ := hr.2
                    refine fin _ ho fun H3 F3 S' t3 r3 s3 => ?_
                    obtain ⟨vs, h1, h2⟩ := (t3.c.cl c' a ds ha qs).lstN hM
                    exact ⟨a, vs, i, j, rfl, rfl, h1, by rw [h2.len]; exact qj, p σ _ F3 s3 (t3.cell ha qs h1 hM h2 r3)⟩
              | some (.own ws), p, qk =>
                simp only at p
                cases qj : ixN ws.length i with
                | none => rw [qj] at p; exact p.elim
                | some j =>
                  rw [qj] at p
                  obtain ⟨fp, sl⟩ := t1.sl
                  obtain ⟨o, ho, hr⟩ := sl.rep k _ qk
                  obtain ⟨a, vs, L', rfl, hd, hL, rr⟩ := hr
                  refine fin _ ho fun H3 F3 S' t3 r3 s3 => ?_
                  obtain ⟨fp3, sl3⟩ := t3.sl
                  obtain ⟨o3, ho3, hr3⟩ := sl3.rep k _ qk
                  obtain ⟨a3, vs3, L3, e3, hd3, hL3, rr3⟩ := hr3
                  rw [ho] at ho3
                  cases ho3
                  cases e3
                  have hj : j < ws.length := by
                    have := (ixN_seq qj).2.1
                    exact this
                  obtain ⟨v1, L1, Lj, L2, e1, e2, e3, e4⟩ := RepWs.get (j := j) rr3 (List.getElem?_eq_getElem hj)
                  have fa : a ∈ fp3 k := by rw [hL3]; exact List.mem_cons_self
                  have nd3 : (a :: L3).Nodup := by have := sl3.nd k; rw [hL3] at this; exact this
                  have sub : ∀ b ∈ L1 ++ ([] ++ L2), b ∈ L3 := fun b hb => by
                    rw [e2]
                    rcases List.mem_append.mp hb with z | z <;> simp at z ⊢ <;> simp [z]
                  refine ⟨a, vs3, i, j, rfl, rfl, hd3, by rw [RepWs.len rr3]; exact qj, p σ _ F3 s3 (t3.wrG sl3 (List.getElem?_eq_some_iff.mp qk).1 ho hd3 fa (L' := a :: (L1 ++ ([] ++ L2))) ?_ ?_ ?_ ?_)⟩
                  · refine ⟨a, vs3.set j v, L1 ++ ([] ++ L2), rfl, upd_same, rfl, e4 F3 _ _ _ [] (Same.refl _) (fun b hb o ho => ?_) ⟨rfl, r3⟩⟩
                    have : b ≠ a := fun z => (List.nodup_cons.mp nd3).1 (z ▸ sub b (by simpa using hb))
                    rw [upd_ne this]; exact ho
                  · refine List.nodup_cons.mpr ⟨fun z => (List.nodup_cons.mp nd3).1 (sub a z), ?_⟩
                    have q := (List.nodup_cons.mp nd3).2
                    rw [e2] at q
                    simp only [List.nodup_append] at q ⊢
                    obtain ⟨q1, ⟨q2, q3, q4⟩, q5⟩ := q
                    exact ⟨q1, ⟨.nil, q3, by simp⟩, fun x hx y hy => q5 x hx y (by simpa using Or.inr hy)⟩
                  · intro b hb
                    rcases List.mem_cons.mp hb with z | z
                    · rw [z]; exact sl3.nw k a fa
                    · exact sl3.nw k b (by rw [hL3]; exact List.mem_cons_of_mem _ (sub b z))
                  · intro m hm b hb z
                    rcases List.mem_cons.mp z with z | z
                    · exact sl3.dis m k hm b hb (by rw [z]; exact fa)
                    · exact sl3.dis m k hm b hb (by rw [hL3]; exact List.mem_cons_of_mem _ (sub b z))
              | some (.a (.d _)), p, _ => exact p.elim
              | some (.a (.s _)), p, _ => exact p.elim
              | some (.a (.e _)), p, _ => exact p.elim
              | none, p, _ => exact p.elim
          | .a (.d .none), p => exact p.elim
          | .a (.d (.bool _)), p => exact p.elim
          | .a (.d (.str _)), p => exact p.elim
          | .a (.d (.list _)), p => exact p.elim
          | .a (.d (.tuple _)), p => exact p.elim
          | .a (.d (.dict _)), p => exact p.elim
          | .a (.c _), p => exact p.elim
          | .a (.s _), p => exact p.elim
          | .a (.e _), p => exact p.elim
          | .own _, p => exact p.elim
      | .a (.c _), p => exact p.elim
      | .a (.s _), p => exact p.elim
      | .a (.e _), p => exact p.elim
      | .own _, p => exact p.elim
end
end PD

namespace PD
open PySem PySem.Spec PyProof.Rows L2
section
variable {X : Cx} {Z : WX} {e c o ix a b : Expr} {f fc fi fa fb : Fe} {pos apos cpos p : Pos} {g : Fs}
end
end PD

namespace PD
open PySem PySem.Spec PyProof.Rows L2
def flatWs : List W → Option (List D)
  | [] => some []
  | .a (.d x) :: ws => (flatWs ws).map (x :: ·)
  | _ :: _ => none
theorem flatWs_rep {K : PySem.W.Frag} {κ : Kp} {F H : Hp} : ∀ {ws : List W} {vs : List V} {L : List Addr} {ds : List D}, flatWs ws = some ds → RepWs K κ F H ws vs L → L = [] ∧ RepAll K F vs ds
  | [], _, _, ds, e, r => by
    cases e
    rw [r.1]
    exact ⟨r.2, .nil⟩
  | .a (.d x) :: ws, _, _, ds, e, r => by
    obtain ⟨v, r', L1, L2, rfl, rfl, h1, h2⟩ := r
    cases q : flatWs ws with
    | none => simp [flatWs, q] at e
    | some es =>
      simp [flatWs, q] at e
      subst e
      obtain ⟨e1, e2⟩ := flatWs_rep q h2
      exact ⟨by rw [h1.1, e1]; rfl, .cons h1.2 e2⟩
  | .a (.c _) :: ws, _, _, ds, e, r => by cases e
  | .a (.s _) :: ws, _, _, ds, e, r => by cases e
  | .a (.e _) :: ws, _, _, ds, e, r => by cases e
  | .own _ :: ws, _, _, ds, e, r => by cases e
def keepK (n : Nat) : Fk → Bool
  | .mem k _ => decide (k < n)
  | _ => true
def keepF (n : Nat) (q : Str × Fk) : Bool := keepK n q.2
def keepT (n : Nat) : Tg → Bool
  | .mem k _ => decide (k < n)
  | .prc k => decide (k < n)
  | .fnc k => decide (k < n)
  | .ob _ fs => fs.all (keepF n)
  | .obc k _ _ _ j => decide (k < n) && decide (j < n)
  | _ => true
mutual
/-- no cell from the n-th on -/
def W.keepC (n : Nat) : W → Bool
  | .a (.c k) => decide (k < n)
  | .a (.e t) => keepT n t
  | .a _ => true
  | .own ws => W.keepCs n ws
def W.keepCs (n : Nat) : List W → Bool
  | [] => true
  | w :: ws => w.keepC n && W.keepCs n ws
end
open Classical in
noncomputable def Kp.moreM (κ : Kp) (a : Addr) (m : Option Ck) : Kp := ⟨κ.l ++ [a], κ.T, fun b => if b = a then m else κ.M b⟩
noncomputable abbrev Kp.more (κ : Kp) (a : Addr) : Kp := κ.moreM a none
theorem moreM_new {κ : Kp} {a : Addr} {m : Option Ck} : (κ.moreM a m).M a = m := if_pos rfl
theorem moreM_old {κ : Kp} {a b : Addr} {m : Option Ck} (h : a ∉ κ.l) (hb : b ∈ κ.l) : (κ.moreM a m).M b = κ.M b := if_neg fun z : b = a => h (z ▸ hb)
theorem at_more {l : List Addr} {a b : Addr} {k : Nat} (h : l[k]? = some b) : (l ++ [a])[k]? = some b := by
  rw [List.getElem?_append_left (List.getElem?_eq_some_iff.mp h).1]; exact h
theorem at_less {l : List Addr} {a b : Addr} {k : Nat} (hk : k < l.length) (h : (l ++ [a])[k]? = some b) : l[k]? = some b := by
  rw [List.getElem?_append_left hk] at h; exact h
theorem RepK.more {K : PySem.W.Frag} {κ : Kp} {F : Hp} {a : Addr} {m : Option Ck} (hn : a ∉ κ.l) {v : V} : ∀ {q : Fk}, RepK K κ F v q → RepK K (κ.moreM a m) F v q
  | .d _, h => h
  | .mem _ _, ⟨b, e1, e2, e3⟩ => ⟨b, e1, at_more e2, (moreM_old hn (List.mem_of_getElem? e2)).trans e3⟩
  | .dk _ _, h => h
  | .dt _, h => h
theorem RepF.more {K : PySem.W.Frag} {κ : Kp} {F : Hp} {a : Addr} {m : Option Ck} (hn : a ∉ κ.l) {p : Str × V} {q : Str × Fk} (h : RepF K κ F p q) : RepF K (κ.moreM a m) F p q := ⟨h.1, h.2.more hn⟩
theorem RepFs.more {K : PySem.W.Frag} {κ : Kp} {F : Hp} {a : Addr} {m : Option Ck} (hn : a ∉ κ.l) : ∀ {ps : List (Str × V)} {qs : List (Str × Fk)}, RepFs K κ F ps qs → RepFs K (κ.moreM a m) F ps qs
  | _, _, .nil => .nil
  | _, _, .cons h t => .cons (h.more hn) (RepFs.more hn t)
theorem RepT.more {K : PySem.W.Frag} {κ : Kp} {F : Hp} {v : V} {a : Addr} {m : Option Ck} (hn : a ∉ κ.l) : ∀ {t : Tg}, RepT K κ F v t → RepT K (κ.moreM a m) F v t
  | .exc _, h => h
  | .st _, h => h
  | .sf _, h => h
  | .fn _, h => h
  | .mem _ _, ⟨b, e1, e2, e3⟩ => ⟨b, e1, at_more e2, (moreM_old hn (List.mem_of_getElem? e2)).trans e3⟩
  | .ob _ _, ⟨b, e1, C, dx, ps, hc, h, r⟩ => ⟨b, e1, C, dx, ps, hc, h, r.more hn⟩
  | .dkk _ _, h => h
  | .dtt _, h => h
  | .prc _, ⟨b, e1, e2, e3⟩ => ⟨b, e1, at_more e2, (moreM_old hn (List.mem_of_getElem? e2)).trans e3⟩
  | .dff _, h => h
  | .fnc _, ⟨b, e1, w, e2, e3⟩ => ⟨b, e1, w, at_more e2, (moreM_old hn (List.mem_of_getElem? e2)).trans e3⟩
  | .obc _ _ _ _ _, ⟨b, e1, c, e2, e3, e4, e5⟩ => ⟨b, e1, c, at_more e2, at_more e3, (moreM_old hn (List.mem_of_getElem? e2)).trans e4, (moreM_old hn (List.mem_of_getElem? e3)).trans e5⟩
theorem RepK.less {K : PySem.W.Frag} {κ : Kp} {F : Hp} {a : Addr} {m : Option Ck} (hn : a ∉ κ.l) {v : V} : ∀ {q : Fk}, keepK κ.l.length q = true → RepK K (κ.moreM a m) F v q → RepK K κ F v q
  | .d _, _, h => h
  | .mem _ _, hk, ⟨b, e1, e2, e3⟩ => ⟨b, e1, at_less (of_decide_eq_true hk) e2, (moreM_old hn (List.mem_of_getElem? (at_less (of_decide_eq_true hk) e2))).symm.trans e3⟩
  | .dk _ _, _, h => h
  | .dt _, _, h => h
theorem RepF.less {K : PySem.W.Frag} {κ : Kp} {F : Hp} {a : Addr} {m : Option Ck} (hn : a ∉ κ.l) {p : Str × V} {q : Str × Fk} (hk : keepF κ.l.length q = true) (h : RepF K (κ.moreM a m) F p q) : RepF K κ F p q := ⟨h.1, h.2.less hn hk⟩
theorem RepFs.less {K : PySem.W.Frag} {κ : Kp} {F : Hp} {a : Addr} {m : Option Ck} (hn : a ∉ κ.l) : ∀ {ps : List (Str × V)} {qs : List (Str × Fk)}, qs.all (keepF κ.l.length) = true → RepFs K (κ.moreM a m) F ps qs → RepFs K κ F ps qs
  | _, _, _, .nil => .nil
  | _, _, hk, .cons h t => by
    rw [List.all_cons, Bool.and_eq_true] at hk
    exact .cons (h.less hn hk.1) (RepFs.less hn hk.2 t)
theorem RepT.less {K : PySem.W.Frag} {κ : Kp} {F : Hp} {v : V} {a : Addr} {m : Option Ck} (hn : a ∉ κ.l) : ∀ {t : Tg}, keepT κ.l.length t = true → RepT K (κ.moreM a m) F v t → RepT K κ F v t
  | .exc _, _, h => h
  | .st _, _, h => h
  | .sf _, _, h => h
  | .fn _, _, h => h
  | .mem _ _, hk, ⟨b, e1, e2, e3⟩ => ⟨b, e1, at_less (of_decide_eq_true hk) e2, (moreM_old hn (List.mem_of_getElem? (at_less (of_decide_eq_true hk) e2))).symm.trans e3⟩
  | .ob _ _, hk, ⟨b, e1, C, dx, ps, hc, h, r⟩ => ⟨b, e1, C, dx, ps, hc, h, RepFs.less hn hk r⟩
  | .dkk _ _, _, h => h
  | .dtt _, _, h => h
  | .prc _, hk, ⟨b, e1, e2, e3⟩ => ⟨b, e1, at_less (of_decide_eq_true hk) e2, (moreM_old hn (List.mem_of_getElem? (at_less (of_decide_eq_true hk) e2))).symm.trans e3⟩
  | .dff _, _, h => h
  | .fnc _, hk, ⟨b, e1, w, e2, e3⟩ => ⟨b, e1, w, at_less (of_decide_eq_true hk) e2, (moreM_old hn (List.mem_of_getElem? (at_less (of_decide_eq_true hk) e2))).symm.trans e3⟩
  | .obc _ _ _ _ _, hk, ⟨b, e1, c, e2, e3, e4, e5⟩ => by
    unfold keepT at hk
    rw [Bool.and_eq_true, decide_eq_true_eq, decide_eq_true_eq] at hk
    exact ⟨b, e1, c, at_less hk.1 e2, at_less hk.2 e3, (moreM_old hn (List.mem_of_getElem? (at_less hk.1 e2))).symm.trans e4, (moreM_old hn (List.mem_of_getElem? (at_less hk.2 e3))).symm.trans e5⟩
theorem RepA.more {K : PySem.W.Frag} {κ : Kp} {F : Hp} {v : V} {a : Addr} {m : Option Ck} (hn : a ∉ κ.l) : ∀ {x : A}, RepA K κ F v x → RepA K (κ.moreM a m) F v x
  | .d _, h => h
  | .c k, ⟨b, e1, e2, e3⟩ => ⟨b, by
      show (κ.l ++ [a])[k]? = some b
      rw [List.getElem?_append_left (List.getElem?_eq_some_iff.mp e1).1]; exact e1, e2, (moreM_old hn (List.mem_of_getElem? e1)).trans e3⟩
  | .s _, h => h
  | .e _, h => RepT.more hn h
theorem RepA.less {K : PySem.W.Frag} {κ : Kp} {F : Hp} {v : V} {a : Addr} {m : Option Ck} (hn : a ∉ κ.l) : ∀ {x : A}, W.keepC κ.l.length (.a x) = true → RepA K (κ.moreM a m) F v x → RepA K κ F v x
  | .d _, _, h => h
  | .c k, hk, ⟨b, e1, e2, e3⟩ => by
    have hk : k < κ.l.length := by simpa [W.keepC] using hk
    have e1 : κ.l[k]? = some b := at_less hk e1
    exact ⟨b, e1, e2, (moreM_old hn (List.mem_of_getElem? e1)).symm.trans e3⟩
  | .s _, _, h => h
  | .e _, hk, h => RepT.less hn (by simpa [W.keepC] using hk) h
mutual
theorem RepW.less {K : PySem.W.Frag} {κ : Kp} {F H : Hp} {a : Addr} {m : Option Ck} (hn : a ∉ κ.l) : ∀ (w : W) (v : V) (L : List Addr), w.keepC κ.l.length = true → RepW K (κ.moreM a m) F H w v L → RepW K κ F H w v L
  | .a x, v, L, hk, h => ⟨h.1, RepA.less hn hk h.2⟩
  | .own ws, v, L, hk, h => by
    obtain ⟨b, vs, L', e1, e2, e3, h⟩ := h
    exact ⟨b, vs, L', e1, e2, e3, RepWs.less hn ws vs L' (by simpa [W.keepC] using hk) h⟩
theorem RepWs.less {K : PySem.W.Frag} {κ : Kp} {F H : Hp} {a : Addr} {m : Option Ck} (hn : a ∉ κ.l) : ∀ (ws : List W) (vs : List V) (L : List Addr), W.keepCs κ.l.length ws = true → RepWs K (κ.moreM a m) F H ws vs L → RepWs K κ F H ws vs L
  | [], _, _, _, h => h
  | w :: ws, _, _, hk, h => by
    obtain ⟨v, r, L1, L2, e1, e2, h1, h2⟩ := h
    have hk : w.keepC κ.l.length = true ∧ W.keepCs κ.l.length ws = true := by simpa [W.keepCs] using hk
    exact ⟨v, r, L1, L2, e1, e2, RepW.less hn w v L1 hk.1 h1, RepWs.less hn ws r L2 hk.2 h2⟩
end
section
variable {K : PySem.W.Frag} {mg : Str → Option Value} {Z : WX} {κ : Kp} {F0 H0 F H F1 H1 : Hp} {S S1 : Cs} {σ : L2.St} {a : Addr}
theorem Nxt.less (x : Nxt κ F0 H0 F H) (h0 : FrT H0 a) {m : Option Ck} (y : Nxt (κ.moreM a m) F H F1 H1) : Nxt κ F0 H0 F1 H1 := by
  refine ⟨x.ff.trans y.ff, y.fh, fun b o e n t => y.kp b o (x.kp b o e n t) (fun z => ?_) t, fun b h => y.dm b (x.dm b h), fun h => y.tb (x.tb h), fun b h => ?_, fun h => y.nt (x.nt h)⟩
  · rcases List.mem_append.mp (show b ∈ κ.l ++ [a] from z) with z | z
    · exact n z
    · rw [List.mem_singleton.mp z] at e
      obtain ⟨ps, q⟩ := h0 _ e
      exact t ps q
  · rcases y.fn b h with h | h
    · exact x.fn b h
    · exact .inr (Classical.byContradiction fun z => x.dm b z h)
theorem Cel.new {m : Option Ck} (c : Cel K (κ.moreM a m) F H S) : a ∉ κ.l := fun z => (List.nodup_append.mp (show (κ.l ++ [a]).Nodup from c.nd)).2.2 a z a (by simp) rfl
theorem Cel.less {m : Option Ck} (c : Cel K (κ.moreM a m) F H S) : Cel K κ F H S.dropLast := by
  have hl : κ.l.length + 1 = S.length := by rw [← c.len]; simp [Kp.moreM]
  refine ⟨by rw [List.length_dropLast]; omega, ?_, fun k b ds e1 e2 => ?_, fun b hb => c.fz b (List.mem_append_left _ hb), c.tb, c.nt⟩
  · have := c.nd
    exact (List.nodup_append.mp (show (κ.l ++ [a]).Nodup from this)).1
  · have hk : k < κ.l.length := (List.getElem?_eq_some_iff.mp e1).1
    have hM : (κ.moreM a m).M b = κ.M b := moreM_old c.new (List.mem_of_getElem? e1)
    refine Cont.via hM.symm (c.cl k b ds ?_ ?_)
    · show (κ.l ++ [a])[k]? = some b
      rw [List.getElem?_append_left hk]; exact e1
    · rw [List.getElem?_dropLast] at e2
      split at e2
      · exact e2
      · cases e2
theorem Cel.moreM {m : Option Ck} {ds : List D} (c : Cel K κ F H S) (hk : a ∉ κ.l) (hf : F a = none) (hc : Cont K (κ.moreM a m) F H a ds) : Cel K (κ.moreM a m) F H (S ++ [ds]) := by
  refine ⟨by simp [Kp.moreM, c.len], ?_, fun k b es e1 e2 => ?_, fun b hb => ?_, c.tb, c.nt⟩
  · show (κ.l ++ [a]).Nodup
    exact List.nodup_append.mpr ⟨c.nd, by simp, fun x hx y hy z => hk (by rw [List.mem_singleton.mp hy] at z; exact z ▸ hx)⟩
  · have e1 : (κ.l ++ [a])[k]? = some b := e1
    by_cases h : k < κ.l.length
    · rw [List.getElem?_append_left h] at e1
      rw [List.getElem?_append_left (by rw [← c.len]; exact h)] at e2
      exact Cont.via (moreM_old hk (List.mem_of_getElem? e1)) (c.cl k b es e1 e2)
    · have h2 : k = κ.l.length := by
        have := (List.getElem?_eq_some_iff.mp e1).1
        simp at this
        omega
      subst h2
      rw [List.getElem?_append_right (Nat.le_refl _), Nat.sub_self] at e1
      rw [c.len, List.getElem?_append_right (Nat.le_refl _), Nat.sub_self] at e2
      cases e1; cases e2
      exact hc
  · rcases List.mem_append.mp (show b ∈ κ.l ++ [a] from hb) with z | z
    · exact c.fz b z
    · rw [List.mem_singleton.mp z]; exact hf
theorem Cel.more {vs : List V} {ds : List D} (c : Cel K κ F H S) (ha : H a = some (.lst vs)) (hk : a ∉ κ.l) (hf : F a = none) (r : RepAll K F vs ds) : Cel K (κ.more a) F H (S ++ [ds]) := c.moreM hk hf (.inl ⟨moreM_new, vs, ha, r⟩)
end
def okOwn : Option W → Bool
  | some (.own _) => false
  | _ => true
def noOwn (ρ : Ev) : Bool := ρ.all okOwn
def unC1 (n : Nat) : Option W → Option W
  | some w => if w.keepC n = true then some w else none
  | none => none
def unC (n : Nat) (ρ : Ev) : Ev := ρ.map (unC1 n)
theorem unC_at {n : Nat} {ρ : Ev} {i : Nat} {w : W} (h : (unC n ρ)[i]? = some (some w)) : ρ[i]? = some (some w) ∧ w.keepC n = true := by
  unfold unC at h
  rw [List.getElem?_map] at h
  cases q : ρ[i]? with
  | none => rw [q] at h; cases h
  | some o =>
    rw [q] at h
    cases o with
    | none => cases h
    | some u =>
      have h : unC1 n (some u) = some w := by simpa using h
      unfold unC1 at h
      simp only at h
      split at h
      · cases h; exact ⟨rfl, ‹_›⟩
      · cases h
theorem Ats.less {K : PySem.W.Frag} {κ : Kp} {F0 H0 Fa Ha F H : Hp} {ρ : Ev} {S : Cs} {σ : L2.St} {a : Addr} (x : Nxt κ F0 H0 Fa Ha) (h0 : FrT H0 a) (hc : ∀ b ∈ κ.l, ¬ FrT H0 b) (t : Ats K (κ.more a) Fa Ha F ρ S σ H) : Ats K κ F0 H0 F (unC κ.l.length ρ) S.dropLast σ H := by
  obtain ⟨fp, sl⟩ := t.sl
  classical
  refine ⟨x.less h0 t.n, t.c.less, hc, by unfold unC; rw [List.length_map]; exact t.ln, fun i => if ∃ w, (unC κ.l.length ρ)[i]? = some (some w) then fp i else [], fun i w h => ?_, fun i h => ?_, fun i => ?_, fun i j hij b hb => ?_, fun i b hb => ?_⟩
  · obtain ⟨h1, h2⟩ := unC_at h
    obtain ⟨v, h3, h4⟩ := sl.rep i w h1
    refine ⟨v, h3, ?_⟩
    show RepW K κ F H w v (if ∃ w, (unC κ.l.length ρ)[i]? = some (some w) then fp i else [])
    rw [if_pos ⟨w, h⟩]
    exact RepW.less t.c.new w v _ h2 h4
  · show (if ∃ w, (unC κ.l.length ρ)[i]? = some (some w) then fp i else []) = []
    rw [if_neg (fun ⟨w, z⟩ => h w z)]
  · show (if ∃ w, (unC κ.l.length ρ)[i]? = some (some w) then fp i else []).Nodup
    split
    · exact sl.nd i
    · exact .nil
  · have hb : b ∈ (if ∃ w, (unC κ.l.length ρ)[i]? = some (some w) then fp i else []) := hb
    show b ∉ (if ∃ w, (unC κ.l.length ρ)[j]? = some (some w) then fp j else [])
    split at hb
    · split
      · exact sl.dis i j hij b hb
      · simp
    · exact absurd hb (by simp)
  · have hb : b ∈ (if ∃ w, (unC κ.l.length ρ)[i]? = some (some w) then fp i else []) := hb
    split at hb
    · exact ⟨x.back (sl.nw i b hb).1, (sl.nw i b hb).2⟩
    · exact absurd hb (by simp)
theorem Ats.more {K : PySem.W.Frag} {κ : Kp} {F0 H0 F H F1 H1 : Hp} {ρ : Ev} {S S1 : Cs} {σ : L2.St} {a : Addr} {vs : List V} {ds : List D} {i : Nat} (t : Ats K κ F0 H0 F ρ S σ H) (no : noOwn ρ = true) (n : Nxt κ F H F1 H1) (c : Cel K κ F1 H1 S1) (ha : H1 a = some (.lst vs)) (h0 : FrT H a) (hf : F1 a = none) (r : RepAll K F1 vs ds) :
    Ats K (κ.more a) F1 H1 F1 (ρ.set i (some (.a (.c S1.length)))) (S1 ++ [ds]) (σ.set i (some (.ref a))) H1 := by
  have ak : a ∉ κ.l := fun z => by
    exact t.c.notT z h0
  have c' := c.more ha ak hf r
  obtain ⟨fp, sl⟩ := t.sl
  refine ⟨.refl n.fh, c', fun b hb => ?_, by rw [List.length_set, List.length_set]; exact t.ln, fun _ => [], fun j w h => ?_, fun _ _ => rfl, fun _ => .nil, fun _ _ _ _ hb => absurd hb (by simp), fun _ _ hb => absurd hb (by simp)⟩
  · exact c'.notT hb
  · by_cases hj : j = i
    · subst hj
      by_cases hl : j < ρ.length
      · rw [List.getElem?_set_self hl] at h
        cases h
        refine ⟨.ref a, List.getElem?_set_self (Nat.lt_of_lt_of_le hl t.ln), rfl, a, ?_, rfl, moreM_new⟩
        show (κ.l ++ [a])[S1.length]? = some a
        rw [← c.len, List.getElem?_append_right (Nat.le_refl _), Nat.sub_self]
        rfl
      · rw [List.getElem?_eq_none (by rw [List.length_set]; omega)] at h
        cases h
    · rw [List.getElem?_set_ne (Ne.symm hj)] at h
      obtain ⟨v, h1, h2⟩ := sl.rep j w h
      have hm : okOwn (some w) = true := by
        unfold noOwn at no
        exact List.all_eq_true.mp no _ (List.mem_of_getElem? h)
      cases w with
      | own ws => cases hm
      | a x => exact ⟨v, by rw [List.getElem?_set_ne (Ne.symm hj)]; exact h1, rfl, RepA.more ak (RepA.up n.ff h2.2)⟩
section
variable {X : Cx} {Z : WX} {e c o ix a b : Expr} {f fc fi fa fb : Fe} {pos apos cpos p : Pos} {g : Fs} {rest : List Stmt}
def sCell (i : Nat) (f : Fe) (g : Fs) : Fs := fun ρ S => if noOwn ρ = true then (match f (ev ρ) S with
  | .ok (.own ws) S1 => match flatWs ws with
    | some ds => match g (ρ.set i (some (.a (.c S1.length)))) (S1 ++ [ds]) with
      | .nx ρ2 S2 => .nx (unC S1.length ρ2) S2.dropLast
      | .rt (.a (.d d)) S2 => .rt (.a (.d d)) S2.dropLast
      | .exc n S2 => .exc n S2.dropLast
      | _ => .stuck
    | none => .stuck
  | .exc n S1 => .exc n S1
  | _ => .stuck) else .stuck
theorem vss_cell (i : Nat) {x : Str} {pos' : Pos} (hN : X.N.Nodup) (he : VE X Z e f) (hr : VSs X Z rest g) (hi : X.N[i]? = some x := by rfl) (hx : Loc X.env.scope x := by first | exact Or.inl rfl | exact Or.inr rfl) (hs : swapsWith e (some (.Name x pos')) pos.line X.env = pure false := by rfl)
    (hf : X.fn x = true ∨ X.env.scope.names.lookup x = some .local := by first | exact .inl rfl | exact .inr rfl | assumption) : VSs X Z (.Assign [.Name x pos'] e pos :: rest) (sCell i f g) := (pss_cons (ps_set hN hi hx he hs hf) hr).imp fun Dn σ H h => by
  obtain ⟨κ, F0, H0, F, ρ, S, t, p⟩ := h
  unfold sCell at p
  split at p
  · rename_i no
    show tv X.K X.mg Z f σ H fun v H1 => ts X.K X.mg Z g Dn (σ.set i (some v)) H1
    refine ⟨κ, F, _, S, t.at_, ?_⟩
    cases q : f (ev ρ) S with
    | stuck => rw [q] at p; exact p.elim
    | exc n S1 => rw [q] at p; exact PostS.exc p t.n
    | ok w S1 =>
      rw [q] at p
      match w, p with
      | .a _, p => exact p.elim
      | .own ws, p =>
        simp only at p
        cases qf : flatWs ws with
        | none => rw [qf] at p; exact p.elim
        | some ds =>
          rw [qf] at p
          simp only at p
          intro v H1 F1 L n c r nd nw
          obtain ⟨a, vs, L', rfl, ha, rfl, rr⟩ := r
          obtain ⟨rfl, ra⟩ := flatWs_rep qf rr
          have h0 := (nw a List.mem_cons_self).1
          have hf := (nw a List.mem_cons_self).2
          have t1 := t.more (i := i) no n c ha h0 hf ra
          have x1 := t.n.trans n
          have hh : FrT H0 a := t.n.back h0
          have hl := c.len
          refine ⟨κ.more a, F1, H1, F1, _, _, t1, ?_⟩
          cases qg : g (ρ.set i (some (.a (.c S1.length)))) (S1 ++ [ds]) with
          | stuck => rw [qg] at p; exact p.elim
          | nx ρ2 S2 =>
            rw [qg] at p
            intro σ' H' F' s' t'
            have := t'.less x1 hh t.ck
            rw [hl] at this
            exact p σ' H' F' (n.ff.trans s') this
          | exc m S2 =>
            rw [qg] at p
            exact fun C σ' H' F' g n' c' => p C σ' H' F' g (x1.less hh n') c'.less
          | rt w S2 =>
            rw [qg] at p
            match w, p with
            | .a (.d d), p => exact fun v H' F' L n' c' r' nd' nw' => p v H' F' [] (x1.less hh n') c'.less ⟨rfl, r'.2⟩ .nil fun _ hb => absurd hb (by simp)
            | .a (.c _), p => exact p.elim
            | .a (.s _), p => exact p.elim
            | .a (.e _), p => exact p.elim
            | .own _, p => exact p.elim
  · exact p.elim
theorem Post.less {K : PySem.W.Frag} {mg : Str → Option Value} {κ : Kp} {F H F1 H1 : Hp} {σ : L2.St} {a : Addr} {Q : VK} {n : Nat} {r : R} (hl : κ.l.length = n) (x : Nxt κ F H F1 H1) (h0 : FrT H a) (p : Post K mg Z κ F H σ (match r with
      | .ok w S2 => if w.keepC n = true then .ok w S2.dropLast else .stuck
      | .exc n S2 => .exc n S2.dropLast
      | .stuck => .stuck) Q) : Post K mg Z (κ.more a) F1 H1 σ r Q := by
  cases r with
  | stuck => exact p
  | exc m S2 => exact fun C H' F' g n' c' => p C H' F' g (x.less h0 n') c'.less
  | ok w S2 =>
    simp only at p
    split at p
    · rename_i hk
      subst hl
      exact fun v H' F' L n' c' r' nd' nw' => p v H' F' L (x.less h0 n') c'.less (RepW.less c'.new w v L hk r') nd' fun b hb => ⟨x.back (nw' b hb).1, (nw' b hb).2⟩
    · exact p.elim
end
end PD

namespace PD
open PySem PySem.Spec PyProof.Rows L2
structure ExcAt (K : PySem.W.Frag) (mg : Str → Option Value) (x : Str) : Prop where
  ex : ∃ C : Addr, mg x = some (.ref C) ∧ PySem.W.excIn K C [.type "ValueError", .type "Exception", .type "BaseException", .type "object"] "ValueError.__new__" = true ∧ PySem.W.keepIn K (.ref C) = true ∧ PySem.W.subIn K (.ref C) (.type "BaseException") = some true ∧ PySem.W.typeIn K (.ref C) = some (.type "type")
theorem vs_raiseO {X : Cx} {Z : WX} {x m : Str} {j : Nat} {p1 p2 p3 pos : Pos} (tk : Takes X Z) (E : ExcAt X.K X.mg x) (hc : X.calm = true := by rfl) (hg : Gl X x := by rfl) (hdb : (x == ("__debug__" : Str)) = false := by decide) : VS X Z (.Raise (some (.Call (.Name x p1) [.Constant (.str m) j p2] [] p3)) none pos) (sRaise x) := by
  obtain ⟨C, e1, e2, e3, e4, e5⟩ := E.ex
  exact vs_raise hc tk PySem.F.excBase_ValueError e2 e1 e3 (raises_own e4 e5) hg hdb
theorem exc_at {K : PySem.W.Frag} {h : Heap} {mg : Str → Option Value} (X : K.In h) (G : h.Ns mainGlobals mg) {x : Str} {C : Addr} (a : PySem.W.nsIn K mainGlobals x = some (some (.ref C))) (q : PySem.W.excIn K C [.type "ValueError", .type "Exception", .type "BaseException", .type "object"] "ValueError.__new__" = true)
    (k : PySem.W.keepIn K (.ref C) = true) (b : PySem.W.subIn K (.ref C) (.type "BaseException") = some true) (t : PySem.W.typeIn K (.ref C) = some (.type "type")) : ExcAt K mg x := ⟨C, PySem.W.mg_of X G a, q, k, b, t⟩
theorem def_at {K : PySem.W.Frag} {h : Heap} {mg : Str → Option Value} (X : K.In h) (G : h.Ns mainGlobals mg) {x : Str} {st : Stmt} {ps : List Str} {f : Addr} {oc : Value} {od an : Option Addr} {osl : Array (Option Value)} {kV doc pm cdv ct : Value}
    (a : PySem.W.nsIn K mainGlobals x = some (some (.ref f))) (l : K.lookup f = some ⟨oc, od, .func (PySem.W.fnOf x x (defArgs st) (defBody st) (defScope st) .none kV doc pm an cdv ct), osl⟩) (c : PySem.W.codeIn K cdv x = true) (k : PySem.W.keepIn K (.ref f) = true)
    (hb : ∀ (kV doc pm : Value) (an : Option Addr) (cdv ct : Value) (us : List Value), us.length = ps.length → bindArgs (PySem.W.fnOf x x (defArgs st) (defBody st) (defScope st) .none kV doc pm an cdv ct) ⟨us, []⟩ = pure (ps.zip us)) : DefAt K mg x st ps :=
  have F := fun_mk (x := x) (qual := x) (st := st) l c k
  ⟨f, _, PySem.W.mg_of X G a, F.binds hb, F⟩
theorem sizes_at {K : PySem.W.Frag} {h : Heap} {mg : Str → Option Value} (X : K.In h) (G : h.Ns mainGlobals mg) {x : Str} {d : Addr} {n : Nat} {t1 t2 t3 t4 u1 u2 u3 u4 : Tok} (a : PySem.W.nsIn K mainGlobals x = some (some (.ref d)))
    (l : K.lookup d = some ⟨.type "dict", none, .dict #[⟨2, .int 2 t1, .int 1 u1⟩, ⟨4, .int 4 t2, .int 2 u2⟩, ⟨8, .int 8 t3, .int 3 u3⟩, ⟨16, .int 16 t4, .int 4 u4⟩] n, #[]⟩) (s : (d == sysModules) = false) : KInt K mg x [(2, 1), (4, 2), (8, 3), (16, 4)] := by
  refine ⟨d, _, n, PySem.W.mg_of X G a, l, s, fun e he => ?_, fun k => ?_⟩
  · simp at he
    rcases he with rfl | rfl | rfl | rfl
    · exact ⟨2, t1, rfl, by show (2 : Int) = hashInt 2; decide⟩
    · exact ⟨4, t2, rfl, by show (4 : Int) = hashInt 4; decide⟩
    · exact ⟨8, t3, rfl, by show (8 : Int) = hashInt 8; decide⟩
    · exact ⟨16, t4, rfl, by show (16 : Int) = hashInt 16; decide⟩
  · by_cases h2 : k = 2
    · subst h2; exact ⟨u1, rfl⟩
    · by_cases h4 : k = 4
      · subst h4; exact ⟨u2, rfl⟩
      · by_cases h8 : k = 8
        · subst h8; exact ⟨u3, rfl⟩
        · by_cases h16 : k = 16
          · subst h16; exact ⟨u4, rfl⟩
          · have e1 : List.lookup k [((2 : Int), (1 : Int)), (4, 2), (8, 3), (16, 4)] = none := by
              have b2 : (k == 2) = false := beq_false_of_ne h2
              have b4 : (k == 4) = false := beq_false_of_ne h4
              have b8 : (k == 8) = false := beq_false_of_ne h8
              have b16 : (k == 16) = false := beq_false_of_ne h16
              simp only [List.lookup, b2, b4, b8, b16]
            rw [e1]
            have h2' : ¬ 2 = k := fun z => h2 z.symm
            have h4' : ¬ 4 = k := fun z => h4 z.symm
            have h8' : ¬ 8 = k := fun z => h8 z.symm
            have h16' : ¬ 16 = k := fun z => h16 z.symm
            simp [findBy, Value.isInt, h2', h4', h8', h16']
theorem kv_sizes : ∀ i, valV (mergeK [] (([(2, 1), (4, 2), (8, 3), (16, 4)] : List (Int × Int)).map fun kv => (Sum.inl kv.1, V.int kv.2))) (.inl i) = (([(2, 1), (4, 2), (8, 3), (16, 4)] : List (Int × Int)).lookup i).map V.int := by
  intro i
  have e : mergeK [] (([(2, 1), (4, 2), (8, 3), (16, 4)] : List (Int × Int)).map fun kv => (Sum.inl kv.1, V.int kv.2)) = ([(2, 1), (4, 2), (8, 3), (16, 4)] : List (Int × Int)).map fun kv => (Sum.inl kv.1, V.int kv.2) := by decide
  rw [e]
  by_cases h2 : i = 2
  · subst h2; rfl
  · by_cases h4 : i = 4
    · subst h4; rfl
    · by_cases h8 : i = 8
      · subst h8; rfl
      · by_cases h16 : i = 16
        · subst h16; rfl
        · have b2 : (i == 2) = false := beq_false_of_ne h2
          have b4 : (i == 4) = false := beq_false_of_ne h4
          have b8 : (i == 8) = false := beq_false_of_ne h8
          have b16 : (i == 16) = false := beq_false_of_ne h16
          have c2 : ¬ (2 : Int) = i := fun z => h2 z.symm
          have c4 : ¬ (4 : Int) = i := fun z => h4 z.symm
          have c8 : ¬ (8 : Int) = i := fun z => h8 z.symm
          have c16 : ¬ (16 : Int) = i := fun z => h16 z.symm
          simp [List.lookup, b2, b4, b8, b16, valV, c2, c4, c8, c16]
theorem law_at {l : PySem.W.OpenLaw} {w : World} {K : PySem.W.Frag} {mg : Str → Option Value} {fa : Addr} {h : Heap} {k n : Nat} {x : Str} {fd : FuncData} {sem : Sem_} {cs : List (Addr × Addr)} (hK : (tabsK K).map (·.1) = cs.map (·.2)) (hT : ∀ p ∈ cs, h.get? p.2 = some { cls := .none, data := .fields #[] }) (nT : ∀ p ∈ cs, K.lookup p.2 = none) (C : ∀ p ∈ cs, PySem.W.CodeHd h p.1 p.2)
    (hb : ∀ (s : Shared) (u : Value), BindsTo s fd ⟨[u], []⟩ [(x, u)]) (hF : ∀ base : Heap, K.In base → base.Ns mainGlobals mg → (∀ p ∈ cs, LamX.TabB base mg p.1 p.2) → FnOk l.prog w K mg base (L2.CX l.prog w) k fa fd [x] (spD K mg 1 sem))
    (hlaw : ∀ ns : List Int, ns.length ≤ n → (∀ z ∈ ns, Builtin.Int.intBits z ≤ 1048576) → ∃ S, sem [.s ns] [] = .ok (bD true) S) : LamX.LawAtS l w K (L2.CX l.prog w) k n x mg fa h := by
  refine ⟨fd, cs, spD K mg 1 sem, hT, nT, C, hb, fun H a ns hl hbits hH hS => ?_, fun base h1 h2 h3 => hF base h1 h2 h3⟩
  obtain ⟨S, e⟩ := hlaw ns hl hbits
  refine ⟨rfl, ⟨[], tabsK K, fun _ => none⟩, fun b => match H b with | some (.tbl _) => none | o => o, [], [.s ns], fun b o q => ?_, ⟨rfl, .nil, fun k a ds e1 _ => by simp at e1, fun a ha => by simp at ha, ⟨rfl, fun p hp => ?_⟩, fun b ps q => ?_⟩, .cons ⟨a, rfl, ?_⟩ .nil, ?_⟩
  · have q : (match H b with | some (.tbl _) => none | o => o) = some o := q
    split at q
    · cases q
    · exact q
  · have hp : p ∈ tabsK K := hp
    have hm : p.1 ∈ cs.map (·.2) := by rw [← hK]; exact List.mem_map.mpr ⟨p, hp, rfl⟩
    obtain ⟨q, hq, e⟩ := List.mem_map.mp hm
    rw [← e]
    exact LamX.TabS.nil (hH q hq)
  · have q : (match H b with | some (.tbl _) => none | o => o) = some (.tbl ps) := q
    split at q
    · cases q
    · rename_i hn
      exact hn ps q
  · rcases hS with (hS | ⟨o, hS⟩) | hS
    · exact .inl (.inl (by show (match H a with | some (.tbl _) => none | o => o) = _; rw [hS]))
    · exact .inl (.inr ⟨o, by show (match H a with | some (.tbl _) => none | o => o) = _; rw [hS]⟩)
    · exact .inr hS
  · rw [e]
    exact fun v H' F' L n c r nd nw => Rep.blv r.2
theorem hCX0 {l : PySem.W.OpenLaw} (w : World) (H : Hp) (s : Shared) (e : Value) (s' : Shared) (z : L2.CX l.prog w [] H s (fun _ _ _ => False) e s') : False := by
  obtain ⟨_, _, _, _, _, _, _, _, _, _, _, _, z⟩ := z
  exact z
end PD

namespace PD
open PySem PySem.Spec PyProof.Rows L2
section
variable {X : Cx} {pins : List (Addr × Obj)} {σ : L2.St} {H : Hp} {s : Shared} {a : Addr}
theorem exH_ok {P : Program} {w : World} {h : Heap} {cls : Value} {oe : Obj} {vs : Array Value} (e : h.get? a = some oe) (z : Zc cls none oe) (d : oe.data = .fields vs) : ObjOk P w H h a (ExH cls a) :=
  ⟨⟨oe, vs, e, z, d⟩, ⟨oe, e⟩, fun _ _ ⟨o, v, q, r⟩ k => ⟨o, v, k o q, r⟩⟩
theorem Inv_track {o : HO} (I : Inv X pins σ H s) (n : H a = none) (hs : X.s_0.heap.get? a = none) (ho : ObjOk X.prog X.w (upd H a o) s.heap a o) (nL : a ≠ X.env.locals) (nC : ∀ x c, X.env.cells.lookup x = some c → c ≠ a) (nP : ∀ p ∈ X.pn ++ pins, p.1 ≠ a) : Inv X pins σ (upd H a o) s := by
  refine ⟨I.ok, I.os, I.bare, ⟨fun b u e m hb hx => I.base.keep b u e m hb hx, fun b u e m hb hx => I.base.slot b u e m hb hx, fun b u e m hx => ?_, I.base.there, fun b xs e => ?_, fun b u v e => ?_, fun b ps e => ?_⟩, I.loc, I.cell, ?_, fun x c e => ?_, fun p hp => ?_, HOk.laidN I.hok (fun b u e => e) n ho, I.len⟩
  · rw [upd_ne (fun z => by rw [z, hs] at e; cases e)]
    exact I.base.free b u e m hx
  · have := I.base.tups b xs e
    rw [upd_ne (ne_of_none this n)]; exact this
  · have := I.base.frzs b u v e
    rw [upd_ne (ne_of_none this n)]; exact this
  · obtain ⟨more, this⟩ := I.base.tbls b ps e
    exact ⟨more, by rw [upd_ne (ne_of_none this n)]; exact this⟩
  · rw [upd_ne (Ne.symm nL)]; exact I.free
  · rw [upd_ne (nC x c e)]; exact I.freeC x c e
  · obtain ⟨h1, h2, h3, h4, h5⟩ := I.pin p hp
    exact ⟨h1, by rw [upd_ne (nP p hp)]; exact h2, h3, h4, h5⟩
end
def wKeep (K : PySem.W.Frag) (c : Value) (i : Nat) (ts : Addr → Value → TS) (D : Ends) : WX := fun cls d σ H =>
  PySem.W.exmOne K cls c = some true ∧ d = none ∧ ∀ a, H a = none → ts a cls { nx := fun σ1 H1 => D.nx (σ1.set i none) (upd H1 a (ExH cls a)), rt := fun _ _ => False, bk := fun _ _ => False, ct := fun _ _ => False } (σ.set i (some (.ref a))) H
section
variable {X : Cx} {x n : Str} {c : Value} {i : Nat} {body suite : List Stmt} {st0 : Stmt} {np pos pos2 : Pos} {tb : WX → TS} {ts : Addr → Value → TS}
theorem ps_try_keep (hstk : X.stack = X.env :: X.outer) (hfra : X.env.frame = some X.env.locals) (hex : X.ex = []) (hnd : X.N.Nodup) (hix : X.N[i]? = some n) (hkind : X.env.kindOf n = some .local) (hnm : Names X x c)
    (hbody : ∀ (W : WX) (pn : List (Addr × Obj)) (xe : Value → Shared → Prop), Takes (X.tr pn xe) W → PSs (X.tr pn xe) body (tb W))
    (hsuite : ∀ (a : Addr) (oe : Obj) (cls : Value) (pn : List (Addr × Obj)), Zc cls none oe → (∃ vs, oe.data = .fields vs) → PSs (X.suite a ((a, oe) :: pn)) (st0 :: suite) (ts a cls)) :
    PS X (.Try body [.ExceptHandler (some (.Name x np)) (some n) (st0 :: suite) pos2] [] [] pos) (fun D σ H => tb (fun cls d σ1 H1 => σ1.length = X.N.length → wKeep X.K c i ts D cls d σ1 H1) D σ H) := by
  refine ⟨fun pinz st σ H Dn Iv hq => ?_⟩
  have okk := Iv.ok
  have frames := okk.frames
  rw [hstk] at frames
  refine wpAny_Try_except ?_
  have run := (hbody (fun cls d σ1 H1 => σ1.length = X.N.length → wKeep X.K c i ts Dn cls d σ1 H1) (X.pn ++ pinz) (fun ev sa => wpAny (model X.prog X.w) X.A (noteFrame ev X.env) (fun _ sb => wpAny (model X.prog X.w) X.A (setFlight ev none)
    (fun _ sc => wpAny (model X.prog X.w) X.A (handleBy ev X.env [.ExceptHandler (some (.Name x np)) (some n) (st0 :: suite) pos2]) (SP X pinz Dn) X.xe sc) X.xe sb) X.xe sa) (fun uv sz air => ?_)).run [] st σ H Dn (Iv.toTry _) hq
  · refine wpAny_mono run (fun fl sz res => ?_) (fun ev sz he => he)
    cases fl with
    | next => obtain ⟨σz, Hz, Jz, q⟩ := res; exact wpAny_execs_nil ⟨σz, Hz, Jz.ofTry okk, q⟩
    | brk => obtain ⟨σz, Hz, Jz, q⟩ := res; exact ⟨σz, Hz, Jz.ofTry okk, q⟩
    | cont => obtain ⟨σz, Hz, Jz, q⟩ := res; exact ⟨σz, Hz, Jz.ofTry okk, q⟩
    | ret uv => obtain ⟨vz, σz, Hz, Jz, rz, q⟩ := res; exact ⟨vz, σz, Hz, Jz.ofTry okk, rz, q⟩
  obtain ⟨a, Bh, sIn, pinq, σq, Hq, cls, d, rfl, Jq, nb, ups, sk, na, eos, ag, wish⟩ := air
  obtain ⟨exm, rfl, go⟩ := wish Jq.len
  have J0 : Inv X pinz σq Hq sIn := Jq.ofTry okk
  rw [show (X.tr (X.pn ++ pinz) _).stack = X.env :: X.outer from hstk] at sk
  refine Sky.land Zc.steady frames hfra sk fun ha fla upa => ?_
  have Ja : Inv X pinz σq Hq { sz with heap := ha } := J0.landed nb fla.1 (ups.trans upa) eos ag
  obtain ⟨oa, va, ga, za, da⟩ := fla.there
  -- where the error's object is not
  have offFrames : a ∉ frs (X.env :: X.outer) := fun hm => by
    obtain ⟨_, o1, e1, hnf⟩ := fla.2.2.1.mem hm
    rw [ga] at e1
    cases e1
    exact hnf _ da
  have offLoc : a ≠ X.env.locals := fun z => offFrames (List.mem_filterMap.mpr ⟨X.env, List.mem_cons_self, by rw [hfra, z]⟩)
  have offFs : a ∉ X.fs := fun hm => by
    obtain ⟨ee, hee, q⟩ := List.mem_filterMap.mp hm
    exact offFrames (List.mem_filterMap.mpr ⟨ee, List.mem_cons_of_mem _ hee, q⟩)
  have newB : Bh.get? a = none := fla.2.1
  have newI : ∀ o, sIn.heap.get? a ≠ some o := fun o e => by
    have := nb a o e (by rw [show (X.tr (X.pn ++ pinz) _).stack = X.env :: X.outer from hstk]; exact offFrames)
    rw [newB] at this
    cases this
  have new0 : X.s_0.heap.get? a = none := by
    cases q : X.s_0.heap.get? a with
    | none => rfl
    | some o =>
      obtain ⟨o2, e2⟩ := J0.base.there a o q (by rw [hex]; simp)
      exact absurd e2 (newI o2)
  have Sa := Ja.suite ga da na offLoc offFs
  refine wpAny_handleBy_cons (codeAny_handlers_test ?_) (by intro q; cases q)
  have LT : PySem.W.Looks (model X.prog X.w) ha (typeOf (.ref a)) cls := fun A Qz Ez sy k q => wpAny_typeOf_ref (k _ _ ga) (by rw [za.1]; exact q)
  have LM := PySem.W.exm_one (M := model X.prog X.w) Ja.kIn LT exm
  have named : ∀ {Qz Ez : Value → Shared → Prop}, Qz c { sz with heap := ha } → wpAny (model X.prog X.w) (X.A.mark (some (.ref a))) (eval (.Name x np) X.env) Qz Ez { sz with heap := ha } := fun {Qz Ez} q => by
    obtain ⟨hg, hdb, hm | ⟨hm, hv, hnn⟩⟩ := hnm
    · exact ld_glob (X := X.suite a ((a, oa) :: (X.pn ++ pinz))) Sa hg hm q hdb
    · exact ld_blt (X := X.suite a ((a, oa) :: (X.pn ++ pinz))) Sa hg hm hv q hnn hdb
  refine named (LM.here (codeAny_handlers_suite_as ?_))
  refine HandSPX.lands_againZ fla fun hb flb upb => ?_
  have Jb : Inv X pinz σq Hq { sz with heap := hb } := J0.landed nb flb.1 ((ups.trans upa).trans upb) eos ag
  obtain ⟨ob, vb, gb, zb, db⟩ := flb.there
  have Sb := Jb.suite gb db na offLoc offFs
  refine store_ok (X := X.suite a ((a, ob) :: (X.pn ++ pinz))) (v := .ref a) Sb hnd hix (.inl hkind) rfl (fun s5 S5 => ?_) (.inr hkind)
  refine wpAny_mono ((hsuite a ob cls (X.pn ++ pinz) zb ⟨_, db⟩).run [] s5 _ Hq _ S5 (go a na)) (fun fl s6 res => ?_) (fun _ _ z => False.elim z)
  cases fl with
  | brk => obtain ⟨_, _, _, q⟩ := res; exact q.elim
  | cont => obtain ⟨_, _, _, q⟩ := res; exact q.elim
  | ret uv => obtain ⟨_, _, _, _, _, q⟩ := res; exact q.elim
  | next =>
    obtain ⟨σ6, H6, S6, q6⟩ := res
    obtain ⟨p1, p2, _, _, _⟩ := S6.pin (a, ob) (List.mem_append.mpr (.inl List.mem_cons_self))
    have J6 := S6.unsuite okk
    have T6 : Inv X pinz σ6 (upd H6 a (ExH cls a)) s6 := by
      refine Inv_track J6 p2 new0 (exH_ok p1 zb db) offLoc (fun y cc e z => ?_) fun p hp z => ?_
      · obtain ⟨w, o, ho, hd⟩ := J6.cell y cc e
        rw [z, p1] at ho
        cases ho
        rw [db] at hd
        cases hd
      · obtain ⟨e, _⟩ := J0.pin p hp
        rw [z] at e
        exact newI _ e
    exact gone_ok T6 hnd hix hkind fun s7 J7 => ⟨_, _, J7, q6⟩
end
def rIsX (K : PySem.W.Frag) : List V → Hp → VK → Prop := fun xs H Q => ∃ (x y : V) (cv : Value) (b : Bool), xs = [x, y] ∧ (∀ u, RelV y u → u = cv) ∧ Q (.bl b) H ∧
  ((∃ (a D : Addr), x = .ref a ∧ H a = some (ExH (.ref D) a) ∧ ExcC K D ∧ PySem.W.kitOne K (.ref D) cv = some b) ∨ (x = .non ∧ PySem.W.kitOne K (.type "NoneType") cv = some b))
theorem call_isX {X : Cx} : CallR X (.builtin "isinstance") (rIsX X.K) := by
  intro pins s σ H xs us Q I r h
  obtain ⟨x, y, cv, b, rfl, hy, q, h⟩ := h
  cases r with
  | cons rx rr =>
    cases rr with
    | cons ry rr =>
      cases rr
      have ec := hy _ ry
      subst ec
      rcases h with ⟨a, D, rfl, ha, C, e⟩ | ⟨rfl, e⟩
      · cases rx
        obtain ⟨⟨oe, vs, g1, g2, g3⟩, _, _⟩ := I.hok a _ ha
        have J : PySem.W.InstAt s.heap a oe D none := by
          obtain ⟨k1, k2, k3, k4⟩ := oe
          obtain ⟨z1, z2⟩ := g2
          dsimp only at z1 z2 g3
          subst z1 z2 g3
          exact ⟨g1, rfl, rfl, trivial⟩
        exact PySem.W.kia_one (PySem.W.handS_kitx_exc C.hg C.hk C.hs C.hd C.ha C.hn C.ht C.hm) I.kIn J e (fun z => nomatch z) fun tk => ⟨.bl b, H, I.kept (t' := tk) fun _ _ z => z, rfl, q⟩
      · cases rx
        exact PySem.W.kia_one PySem.W.kitx_none I.kIn True.intro e (fun z => nomatch z) fun tk => ⟨.bl b, H, I.kept (t' := tk) fun _ _ z => z, rfl, q⟩
def gIsX (K : PySem.W.Frag) (Ds : List Addr) (cv : Value) : A → Cs → R := fun x S => match x with
  | .e (.exc D) => if D ∈ Ds then (match PySem.W.kitOne K (.ref D) cv with
    | some b => .ok (bD b) S
    | none => .stuck) else .stuck
  | .d .none => match PySem.W.kitOne K (.type "NoneType") cv with
    | some b => .ok (bD b) S
    | none => .stuck
  | _ => .stuck
section
variable {X : Cx} {Z : WX} {e : Expr} {f : Fe} {p pos pt : Pos}
theorem isX_of {Ds : List Addr} {cv : Value} {y : V} (hD : ∀ D ∈ Ds, ExcC X.K D) (hy : ∀ u, RelV y u → u = cv) {σ : L2.St} {H : Hp} {Q : VK} (q : tv X.K X.mg Z (fUn (gIsX X.K Ds cv) f) σ H Q) : tv X.K X.mg Z f σ H fun x H1 => rIsX X.K [x, y] H1 Q := by
  refine tUn_of (r := fun x H1 Q => rIsX X.K [x, y] H1 Q) (fun κ F ρ S σ H v x Q t r p => ?_) q
  unfold gIsX at p
  split at p
  · split at p
    · rename_i D hd
      split at p
      · rename_i b hb
        obtain ⟨a, rfl, ha⟩ := r
        exact ⟨.ref a, y, cv, b, rfl, hy, p.bl t, .inl ⟨a, D, rfl, t.fh _ _ ha, hD D hd, hb⟩⟩
      · exact p.elim
    · exact p.elim
  · split at p
    · rename_i b hb
      rw [Rep.nonv r]
      exact ⟨.non, y, cv, b, rfl, hy, p.bl t, .inr ⟨rfl, hb⟩⟩
    · exact p.elim
  · exact p.elim
theorem ve_isC {Ds : List Addr} {x : Str} {C : Addr} (hD : ∀ D ∈ Ds, ExcC X.K D) (hm : X.mg "isinstance" = none) (hC : X.mg x = some (.ref C)) (ha : VE X Z e f) (hx : Gl X "isinstance" := by rfl) (hg : Gl X x := by rfl) (hd : (x == ("__debug__" : Str)) = false := by decide)
    (he : starEach [e, .Name x pt] X.env = (false, eval e X.env) :: starEach [.Name x pt] X.env := by rfl) (he2 : starEach [.Name x pt] X.env = (false, eval (.Name x pt) X.env) :: starEach [] X.env := by rfl) (hpl : (backTo pos (starEach [.Name x pt] X.env)).any (·.1) = false := by rfl) :
    VE X Z (.Call (.Name "isinstance" p) [e, .Name x pt] [] pos) (fUn (gIsX X.K Ds (.ref C)) f) :=
  (pe_callB call_isX hx hm (by decide +kernel) (pa2 ha (pe_glob (v := .ref C) hg hC rfl hd) he he2) (by decide) (by decide) he hpl).imp fun σ H Q q => isX_of (y := .ref C) hD (fun u r => r) q
theorem ve_isV {Ds : List Addr} {T : String} (hD : ∀ D ∈ Ds, ExcC X.K D) (hm : X.mg "isinstance" = none) (hmT : X.mg (Str.ofString T) = none) (ha : VE X Z e f) (hv : bootBuiltins (Str.ofString T) = some (.type T) := by decide +kernel) (hx : Gl X "isinstance" := by rfl) (hg : Gl X (Str.ofString T) := by rfl)
    (hnT : (Str.ofString T) ≠ "__name__" := by decide) (hd : ((Str.ofString T) == ("__debug__" : Str)) = false := by decide)
    (he : starEach [e, .Name (Str.ofString T) pt] X.env = (false, eval e X.env) :: starEach [.Name (Str.ofString T) pt] X.env := by rfl) (he2 : starEach [.Name (Str.ofString T) pt] X.env = (false, eval (.Name (Str.ofString T) pt) X.env) :: starEach [] X.env := by rfl) (hpl : (backTo pos (starEach [.Name (Str.ofString T) pt] X.env)).any (·.1) = false := by rfl) :
    VE X Z (.Call (.Name "isinstance" p) [e, .Name (Str.ofString T) pt] [] pos) (fUn (gIsX X.K Ds (.type T)) f) :=
  (pe_callB call_isX hx hm (by decide +kernel) (pa2 ha (pe_bltn (v := .ty T) (u := .type T) hg hmT hv rfl hnT hd) he he2) (by decide) (by decide) he hpl).imp fun σ H Q q => isX_of (y := .ty T) hD (fun u r => r) q
end
def excCB (K : PySem.W.Frag) (D : Addr) : Bool :=
  decide (PySem.W.findIn K (.ref D) "__getattribute__" = some (some (.builtin "BaseException.__getattribute__"))) && decide (PySem.W.findIn K (.ref D) "__getattr__" = some none) && decide (PySem.W.subIn K (.ref D) (.type "BaseException") = some true) && decide (PySem.W.hasDictIn K D = true)
    && decide (PySem.W.findIn K (.ref D) "__class__" = some (some (.builtin "object.__class__"))) && decide (PySem.W.specialIn K (.builtin "object.__class__") "__get__" = some (some (.builtin "getset_descriptor.__get__"))) && decide (PySem.W.takesIn K (.builtin "object.__class__") = some true) && decide (PySem.W.mroIn K D (.type "object") = some true)
theorem excC_of {K : PySem.W.Frag} {D : Addr} (h : excCB K D = true) : ExcC K D := by
  unfold excCB at h
  simp only [Bool.and_eq_true, decide_eq_true_eq] at h
  obtain ⟨⟨⟨⟨⟨⟨⟨h1, h2⟩, h3⟩, h4⟩, h5⟩, h6⟩, h7⟩, h8⟩ := h
  exact ⟨h1, h2, h3, h4, h5, h6, h7, h8⟩
def refOk (K : PySem.W.Frag) (Cs : List Addr) (T : Addr) : Bool :=
  Cs.all (fun C => excCB K C && decide (PySem.W.exmOne K (.ref C) (.ref T) = some true) && decide (PySem.W.kitOne K (.ref C) (.type "ValueError") = some true) && decide (PySem.W.kitOne K (.type "NoneType") (.ref C) = some false) && Cs.all fun D => decide (PySem.W.kitOne K (.ref C) (.ref D) = some (decide (C = D))))
    && decide (PySem.W.kitOne K (.type "NoneType") (.type "ValueError") = some false)
end PD

namespace PD
open PySem PySem.Spec PyProof.Rows L2
def refR (ords : List Str) (r : R) : R := match r with
  | .ok _ S1 => .ok nD S1
  | .exc n S1 => match ords.findIdx? (fun m => m == n) with
    | some k => .ok (ownD [.int (k : Nat)]) S1
    | none => .stuck
  | .stuck => .stuck
def fRef (ords : List Str) (f : Fe) : Fe := fun ρ S => refR ords (f ρ S)
def TTR (K : PySem.W.Frag) (mg : Str → Option Value) (ords : List Str) : (XK → Hp → VK → Prop) → Hp → VK → Prop := fun tl H Q => ∃ κ F S r, Same F H ∧ Cel K κ F H S ∧
  (∀ (E' : XK) (Q' : VK), Post K mg (fun cls d _ H' => E' cls d H') κ F H [] r Q' → tl E' H Q') ∧ Post K mg (fun _ _ _ _ => False) κ F H [] (refR ords r) Q
end PD

namespace PD
open PySem PySem.Spec PyProof.Rows L2
def one (n i : Nat) (w : W) : Ev := (List.replicate n none).set i (some w)
theorem Ats.one {K : PySem.W.Frag} {κ : Kp} {F H : Hp} {S : Cs} {σ : L2.St} {n i : Nat} {x : A} {v : V} (fh : Same F H) (c : Cel K κ F H S) (hn : n ≤ σ.length) (hv : σ[i]? = some (some v)) (r : RepA K κ F v x) : Ats K κ F H F (PD.one n i (.a x)) S σ H := by
  refine ⟨.refl fh, c, fun b hb => ?_, by unfold PD.one; rw [List.length_set, List.length_replicate]; exact hn, fun _ => [], fun j w h => ?_, fun _ _ => rfl, fun _ => .nil, fun _ _ _ _ hb => absurd hb (by simp), fun _ _ hb => absurd hb (by simp)⟩
  · exact c.notT hb
  · unfold PD.one at h
    by_cases hj : j = i
    · subst hj
      by_cases hl : j < n
      · rw [List.getElem?_set_self (by rw [List.length_replicate]; exact hl)] at h
        cases h
        exact ⟨v, hv, rfl, r⟩
      · rw [List.getElem?_eq_none (by rw [List.length_set, List.length_replicate]; omega)] at h
        cases h
    · rw [List.getElem?_set_ne (Ne.symm hj), List.getElem?_replicate] at h
      split at h <;> cases h
theorem ref_gives {X : Cx} {Ng ords : List Str} {x a er e T q : Str} {sg : Scope} {g CT : Addr} {cdg : Value} {j : Nat} {p1 p2 p3 p4 p5 p6 p7 p8 p9 p10 p11 p12 : Pos} {rest : List Stmt} {gr : Fs} {ie ix : Nat} (hnd : Ng.Nodup) (hNe : Ng[ie]? = some er) (hNx : Ng[ix]? = some e) (hne : ie ≠ ix) (h0e : ie ≠ 0) (h0x : ix ≠ 0)
    (hle : sg.names.lookup er = some .local) (hlx : sg.names.lookup e = some .local) (hgT : sg.names.lookup T = some .globalImplicit) (hmT : X.mg T = some (.ref CT)) (hdT : (T == ("__debug__" : Str)) = false) (hdx : (e == ("__debug__" : Str)) = false) (hcx : (e == ("__classdict__" : Str)) = false)
    (hkind : sg.kind = .function)
    (hords : ∀ n ∈ ords, ∃ C : Addr, X.mg n = some (.ref C) ∧ PySem.W.exmOne X.K (.ref C) (.ref CT) = some true)
    (hrest : ∀ (s : Shared) (H : Hp), VSs (cxOf C8.CX0 X.prog X.w X.K X.mg X.base Ng x sg g cdg X.A X.stack s H C8.E0).nox (fun _ _ _ _ => False) rest gr)
    (hnone : ∀ S, gr (PD.one Ng.length ie (.a (.d .none))) S = .rt (.a (.d .none)) S)
    (herr : ∀ S n k C, ords.findIdx? (fun m => m == n) = some k → X.mg n = some (.ref C) → gr (PD.one Ng.length ie (.a (.e (.exc C)))) S = .rt (ownD [.int (k : Nat)]) S) :
    LamX.GivesTo X Ng x sg g cdg (.Assign [.Name er p1] (.Constant .none j p2) p3 :: .Try [.Expr (.Call (.Name a p4) [] [] p5) p6] [.ExceptHandler (some (.Name T p7)) (some e) [.Assign [.Name er p8] (.Name e p9) p10] p11] [] [] p12 :: rest) a q (TTR X.K X.mg ords) := by
  intro f c' s H Q tl act hco hTT
  obtain ⟨κ, F, S, r, fh, c, give, po⟩ := hTT
  have hNl : ie < Ng.length := (List.getElem?_eq_some_iff.mp hNe).1
  have hNlx : ix < Ng.length := (List.getElem?_eq_some_iff.mp hNx).1
  refine ⟨_, pss_cons (ps_set (i := ie) hnd hNe (.inl hle) pe_non) (pss_cons (ps_try_keep (X := (cxOf C8.CX0 X.prog X.w X.K X.mg X.base Ng x sg g cdg X.A X.stack s H C8.E0).nox) (i := ix) (c := .ref CT)
      (tb := fun W D σ H => ∃ Ech : XK, (∀ cls d σ' H', Ech cls d H' → W cls d σ' H') ∧ σ[0]? = some (some (.ref f)) ∧ H c' = some (LamX.CodeO c' q) ∧ tl Ech H (fun _ H' => D.nx σ H')) (ts := fun _ _ => tAsg (tVar ix) (gName ie))
      rfl rfl rfl hnd hNx hlx ⟨hgT, hdT, .inl hmT⟩ (fun W pn xe tk => ?_) (fun a1 oe cls pn _ _ => pss_one (ps_set (i := ie) hnd hNe (.inl hle) (pe_var hNx (.inl hlx) hdx hcx)))) (hrest s H)), ?_⟩
  · refine ⟨fun pins s2 σ H2 D I h => ?_⟩
    obtain ⟨Ech, hW, h1, h2, h3⟩ := h
    have hp := act W pn xe Ech p4 p5 tk hW
    exact (pss_one (ps_expr (pos := p6) hp)).run pins s2 σ H2 D I ⟨h1, h2, h3⟩
  · -- from None on
    have len0 : (L2.start Ng [V.ref f]).length = Ng.length := by unfold L2.start; simp; omega
    have hz : ((L2.start Ng [V.ref f]).set ie (some .non))[0]? = some (some (.ref f)) := by
      rw [List.getElem?_set_ne h0e]; unfold L2.start; simp
    refine ⟨fun cls d H' => ∃ C S1 F' n, cls = .ref C ∧ d = none ∧ r = .exc n S1 ∧ X.mg n = some (.ref C) ∧ Nxt κ F H F' H' ∧ Cel X.K κ F' H' S1, ?_, hz, hco, ?_⟩
    · rintro cls d σ' H' ⟨C, S1, F', n, rfl, rfl, rfl, hm, nx, c1⟩ hl
      have hl : σ'.length = Ng.length := hl
      unfold refR at po
      simp only at po
      · split at po
        · rename_i k hk
          obtain ⟨hi, hn, _⟩ := List.findIdx?_eq_some_iff_getElem.mp hk
          have en : ords[k] = n := by simpa using hn
          have mem : n ∈ ords := by rw [← en]; exact List.getElem_mem hi
          obtain ⟨C2, m2, x2⟩ := hords n mem
          rw [hm] at m2
          cases m2
          refine ⟨x2, rfl, fun a1 ha1 => ?_⟩
          refine ⟨.ref a1, List.getElem?_set_self (by rw [hl]; exact hNlx), ?_⟩
          have nw1 : Nxt κ F' H' (upd F' a1 (ExH (.ref C) a1)) (upd H' a1 (ExH (.ref C) a1)) := Nxt.newF nx.fh ha1 (by intro ps z; unfold ExH at z; cases z)
          have cw : Cel X.K κ (upd F' a1 (ExH (.ref C) a1)) (upd H' a1 (ExH (.ref C) a1)) S1 := c1.newF nx.fh ha1 (by intro ps z; unfold ExH at z; cases z)
          refine ⟨κ, _, _, _, _, S1, Ats.one (n := Ng.length) (i := ie) (x := .e (.exc C)) (v := .ref a1) nw1.fh cw (by simp only [List.length_set, hl]; exact Nat.le_refl _) ?_ ⟨a1, rfl, upd_same⟩, ?_⟩
          · rw [List.getElem?_set_ne (Ne.symm hne), List.getElem?_set_self (by rw [List.length_set, hl]; exact hNl)]
          · rw [herr S1 n k C hk hm]
            have n2 := nx.trans nw1
            exact fun v3 H3 F3 L3 n3 c3 r3 nd3 nw3 => po v3 H3 F3 L3 (n2.trans n3) c3 r3 nd3 fun b hb => ⟨n2.back (nw3 b hb).1, (nw3 b hb).2⟩
        · exact po.elim
    · refine give _ _ ?_
      cases r with
      | stuck => exact po.elim
      | exc n S1 => exact fun C H' F' hm nx c1 => ⟨C, S1, F', n, rfl, rfl, rfl, hm, nx, c1⟩
      | ok w S1 =>
        intro v H' F' L nx c1 _ _ _
        unfold refR at po
        simp only at po
        · refine ⟨κ, F', H', F', _, S1, Ats.one (n := Ng.length) (i := ie) (x := .d .none) (v := .non) nx.fh c1 (by rw [List.length_set, len0]; exact Nat.le_refl _) (List.getElem?_set_self (by rw [len0]; exact hNl)) Rep.non, ?_⟩
          rw [hnone S1]
          exact fun v3 H3 F3 L3 n3 c3 r3 nd3 nw3 => po v3 H3 F3 L3 (nx.trans n3) c3 r3 nd3 fun b hb => ⟨nx.back (nw3 b hb).1, (nw3 b hb).2⟩
end PD

namespace PD
open PySem PySem.Spec PyProof.Rows L2
theorem ownD_toA (ds : List D) : (ownD ds).toA = some (.d (.list ds)) := by
  have h : ∀ ds : List D, W.toDs (ds.map fun d => .a (.d d)) = some ds := by
    intro ds
    induction ds with
    | nil => rfl
    | cons d ds ih => simp [W.toDs, W.toD, ih]
  simp [ownD, W.toA, h]
theorem bnd_a (x : A) (S : Cs) (k : A → Cs → R) : (R.ok (.a x) S).bnd k = k x S := rfl
theorem bnd_own (ds : List D) (S : Cs) (k : A → Cs → R) : (R.ok (ownD ds) S).bnd k = k (.d (.list ds)) S := by
  simp [R.bnd, ownD_toA]
theorem bi_a (x : A) (S : Cs) (k : A → Cs → SR) : (R.ok (.a x) S).bi k = k x S := rfl
theorem bi_own (ds : List D) (S : Cs) (k : A → Cs → SR) : (R.ok (ownD ds) S).bi k = k (.d (.list ds)) S := by
  simp [R.bi, ownD_toA]
theorem compL_fm {α : Type} {g : Gt} {fc fe : Fe} {ρ : En} {S : Cs} (en : α → D) (c : α → Bool) (w : α → D) : ∀ (xs : List α) (acc : List D), (∀ x ∈ xs, ∃ ρ1, g (en x) ρ = some ρ1 ∧ fc ρ1 S = .ok (bD (c x)) S ∧ (c x = true → fe ρ1 S = .ok (.a (.d (w x))) S)) →
    compL g fc fe ρ (xs.map en) S (acc.map fun d => .a (.d d)) = .ok (ownD (acc ++ (xs.filter c).map w)) S
  | [], acc, _ => by simp [compL, ownD]
  | x :: xs, acc, h => by
    obtain ⟨ρ1, h1, h2, h3⟩ := h x List.mem_cons_self
    rw [List.map_cons]
    unfold compL
    rw [h1]
    simp only [h2]
    cases hc : c x with
    | false =>
      simp only [hc]
      rw [compL_fm en c w xs acc fun y hy => h y (List.mem_cons_of_mem _ hy)]
      simp [hc]
    | true =>
      simp only [h3 hc]
      have e : (acc.map fun d => W.a (.d d)) ++ [W.a (.d (w x))] = (acc ++ [w x]).map fun d => W.a (.d d) := by simp
      rw [e, compL_fm en c w xs (acc ++ [w x]) fun y hy => h y (List.mem_cons_of_mem _ hy)]
      simp [hc]
theorem compL_f {α : Type} {g : Gt} {fc fe : Fe} {ρ : En} {S : Cs} (en : α → D) (c : α → Bool) (w : α → D) (xs : List α) (h : ∀ x ∈ xs, ∃ ρ1, g (en x) ρ = some ρ1 ∧ fc ρ1 S = .ok (bD (c x)) S ∧ (c x = true → fe ρ1 S = .ok (.a (.d (w x))) S)) :
    compL g fc fe ρ (xs.map en) S [] = .ok (ownD ((xs.filter c).map w)) S := by
  have := compL_fm (g := g) (fc := fc) (fe := fe) (ρ := ρ) (S := S) en c w xs [] h
  simpa using this
theorem compL_m {α : Type} {g : Gt} {fe : Fe} {ρ : En} {S : Cs} (en : α → D) (w : α → D) (xs : List α) (h : ∀ x ∈ xs, ∃ ρ1, g (en x) ρ = some ρ1 ∧ fe ρ1 S = .ok (.a (.d (w x))) S) :
    compL g fTrue fe ρ (xs.map en) S [] = .ok (ownD (xs.map w)) S := by
  rw [compL_f en (fun _ => true) w xs fun x hx => by
    obtain ⟨ρ1, h1, h2⟩ := h x hx
    exact ⟨ρ1, h1, rfl, fun _ => h2⟩]
  rw [List.filter_eq_self.mpr (by simp)]
theorem rngD_map (n : Nat) : rngD 0 n = (List.range n).map fun (i : Nat) => PyData.int (i : Int) := by
  unfold rngD
  simp
def tS (cs : List Nat) : Str := ⟨cs.toArray⟩
theorem tS_len (cs : List Nat) : (tS cs).length = cs.length := by simp [tS, Str.length]
theorem tS_cps (cs : List Nat) : (tS cs).cps.toList = cs := by simp [tS]
theorem tS_inj {cs ds : List Nat} : tS cs = tS ds ↔ cs = ds := by
  constructor
  · intro h
    have := congrArg (fun z : Str => z.cps.toList) h
    simpa [tS] using this
  · rintro rfl; rfl
theorem tS_app (cs ds : List Nat) : tS cs ++ tS ds = tS (cs ++ ds) := by
  show (⟨cs.toArray ++ ds.toArray⟩ : Str) = tS (cs ++ ds)
  simp [tS]
theorem strsOf_map {α : Type} (f : α → Str) : ∀ xs : List α, strsOf (xs.map fun x => PyData.str (f x)) = some (xs.map f)
  | [] => rfl
  | x :: xs => by simp [strsOf, strsOf_map f xs]
theorem boolsOf_map {α : Type} (f : α → Bool) : ∀ xs : List α, boolsOf (xs.map fun x => PyData.bool (f x)) = some (xs.map f)
  | [] => rfl
  | x :: xs => by simp [boolsOf, boolsOf_map f xs]
theorem join0 : ∀ cs : List Nat, Txt.join (Str.ofString "") (cs.map fun c => tS [c]) = tS cs := by
  have e : Str.ofString "" = tS [] := by decide
  have h : ∀ (cs acc : List Nat), (cs.map fun c => tS [c]).foldl (fun acc p => acc ++ (tS []).cps ++ p.cps) acc.toArray = (acc ++ cs).toArray := by
    intro cs
    induction cs with
    | nil => intro acc; simp
    | cons c cs ih =>
      intro acc
      rw [List.map_cons, List.foldl_cons]
      have : acc.toArray ++ (tS []).cps ++ (tS [c]).cps = (acc ++ [c]).toArray := by simp [tS]
      rw [this, ih]
      simp
  intro cs
  rw [e]
  unfold Txt.join Builtin.Str.glued
  cases cs with
  | nil => rfl
  | cons c cs =>
    have h2 := h cs [c]
    simp only [List.map_cons, List.drop_succ_cons, List.drop_zero, List.headD_cons]
    have e2 : (tS [c]).cps = [c].toArray := rfl
    rw [e2, h2]
    rfl
theorem dJoin0 {α : Type} (f : α → Nat) (xs : List α) (h : xs.length ≤ 1000) : dJoin (Str.ofString "") (.list (xs.map fun x => PyData.str (tS [f x]))) = some (sD (tS (xs.map f))) := by
  have e : (xs.map fun x => tS [f x]) = (xs.map f).map fun c => tS [c] := by simp
  unfold dJoin
  simp only [strsOf_map fun x => tS [f x]]
  have h0 : (Str.ofString "").length = 0 := by decide
  have hs : ∀ l : List α, ((l.map fun x => tS [f x]).map (·.length)).sum = l.length := by
    intro l
    induction l with
    | nil => rfl
    | cons x l ih => simp only [List.map_cons, List.sum_cons, ih, tS_len, List.length_cons, List.length_nil]; omega
  rw [h0, hs, List.length_map]
  rw [if_pos (by omega), e, join0]
theorem seqD_lst (ds : List D) : seqD (.d (.list ds)) = some ds := rfl
theorem seqD_tup (ds : List D) : seqD (.d (.tuple ds)) = some ds := rfl
theorem zipD_map {α β : Type} (f : α → D) (g : β → D) : ∀ (xs : List α) (ys : List β), zipD (xs.map f) (ys.map g) = (xs.zip ys).map fun p => .tuple [f p.1, g p.2] := by
  intro xs ys
  unfold zipD
  rw [List.zip_map, List.map_map]
  rfl
def sg (b : Bool) : Nat := if b = true then 49 else 48
def sgO : Option Bool → Nat
  | none => 45
  | some b => sg b
def aO : Option Bool → D
  | none => .none
  | some b => .int (if b = true then 1 else 0)
abbrev Tm := List (Option Bool)
abbrev Fn := List (Option Bool)
def eT (t : Tm) : D := .str (tS (t.map sgO))
def eF (f : Fn) : D := .tuple (f.map aO)
theorem sgO_inj {a b : Option Bool} : sgO a = sgO b ↔ a = b := by
  cases a with
  | none => cases b with
    | none => simp
    | some b => cases b <;> decide
  | some a => cases b with
    | none => cases a <;> decide
    | some b => cases a <;> cases b <;> decide
theorem map_sgO_inj : ∀ {s t : Tm}, s.map sgO = t.map sgO ↔ s = t := by
  intro s t
  constructor
  · induction s generalizing t with
    | nil => cases t with
      | nil => intro _; rfl
      | cons y t => intro h; simp at h
    | cons x s ih => cases t with
      | nil => intro h; simp at h
      | cons y t =>
        intro h
        rw [List.map_cons, List.map_cons, List.cons.injEq] at h
        rw [sgO_inj.mp h.1, ih h.2]
  · rintro rfl; rfl
theorem frz1_own {i : Nat} {ρ : Ev} {ds : List D} (h : ρ[i]? = some (some (ownD ds))) : frz1 i ρ = ρ.set i (some (.a (.d (.list ds)))) := by
  unfold frz1
  rw [h]
  show (match (ownD ds).toA with | some x => ρ.set i (some (.a x)) | none => ρ) = _
  rw [ownD_toA]
theorem frz1_a {i : Nat} {ρ : Ev} {x : A} (h : ρ[i]? = some (some (.a x))) : frz1 i ρ = ρ := by
  unfold frz1
  rw [h]
theorem frz1_no {i : Nat} {ρ : Ev} (h : ρ[i]? = some none) : frz1 i ρ = ρ := by
  unfold frz1
  rw [h]
theorem ev1_own (ws : List W) : ev1 (some (.own ws)) = none := rfl
theorem ev1_ownD (ds : List D) : ev1 (some (ownD ds)) = none := rfl
theorem ev1_a (x : A) : ev1 (some (.a x)) = some x := rfl
theorem ev1_no : ev1 none = none := rfl
theorem evs_nil (ρ : En) (S : Cs) (k : List A → Cs → R) : evs [] ρ S k = k [] S := rfl
theorem evs_cons (f : Fe) (fs : List Fe) (ρ : En) (S : Cs) (k : List A → Cs → R) : evs (f :: fs) ρ S k = (f ρ S).bnd fun x S1 => evs fs ρ S1 fun xs S2 => k (x :: xs) S2 := rfl
theorem i2n (n : Nat) : ((n : Int)).toNat = n := Int.toNat_natCast n
section
variable (i j : Int) (S : Cs)
theorem o_add : onD dAdd (.d (.int i)) (.d (.int j)) S = .ok (iD (i + j)) S := rfl
theorem o_sub : onD dSub (.d (.int i)) (.d (.int j)) S = .ok (iD (i - j)) S := rfl
theorem o_band : onD dBAnd (.d (.int i)) (.d (.int j)) S = .ok (iD (Builtin.bitAnd i j)) S := rfl
theorem o_mod (h : 0 < j) : onD dMod (.d (.int i)) (.d (.int j)) S = .ok (iD (i % j)) S := by
  simp [onD, dMod, dI, h]
theorem o_div (h : 0 < j ∧ j < 1073741824) : onD dDiv (.d (.int i)) (.d (.int j)) S = .ok (iD (i / j)) S := by
  simp [onD, dDiv, dI, h]
theorem o_pow (h : 0 ≤ j ∧ j ≤ 1000000 ∧ i.natAbs < 2 ^ 64) : onD dPow (.d (.int i)) (.d (.int j)) S = .ok (iD (i ^ j.toNat)) S := by
  show (match dI (fun i j => decide (0 ≤ j ∧ j ≤ 1000000 ∧ i.natAbs < 2 ^ 64)) (fun i j => i ^ j.toNat) (.int i) (.int j) with | some w => R.ok w S | none => .stuck) = _
  unfold dI
  simp only [decide_eq_true h, if_true]
theorem o_shl (n : Nat) (h : n ≤ 60) : onD dShl (.d (.int 1)) (.d (.int n)) S = .ok (iD ((2 ^ n : Nat) : Int)) S := by
  show (match dI (fun i j => decide (0 ≤ j ∧ j ≤ 1000000 ∧ i.natAbs < 2 ^ 64)) (fun i j => i * 2 ^ j.toNat) (.int 1) (.int n) with | some w => R.ok w S | none => .stuck) = _
  unfold dI
  have e : decide (0 ≤ (n : Int) ∧ (n : Int) ≤ 1000000 ∧ (1 : Int).natAbs < 2 ^ 64) = true := by
    apply decide_eq_true
    refine ⟨by omega, by omega, by decide⟩
  simp only [e, if_true, Int.toNat_natCast, Int.one_mul]
  norm_cast
theorem o_shr (n k : Nat) : onD dShr (.d (.int n)) (.d (.int k)) S = .ok (iD ((n / 2 ^ k : Nat) : Int)) S := by
  simp [onD, dShr, dI]
theorem o_mul (h : (-(2 ^ 64) < i ∧ i < 2 ^ 64) ∨ (-(2 ^ 64) < j ∧ j < 2 ^ 64)) : onD dMul (.d (.int i)) (.d (.int j)) S = .ok (iD (i * j)) S := by
  show (match dMul (.int i) (.int j) with | some w => R.ok w S | none => .stuck) = _
  unfold dMul
  simp only [h, if_true]
theorem o_add_txt (a b : List Nat) (h : a.length + b.length ≤ 1000) : onD dAdd (.d (.str (tS a))) (.d (.str (tS b))) S = .ok (sD (tS (a ++ b))) S := by
  show (match dAdd (.str (tS a)) (.str (tS b)) with | some w => R.ok w S | none => .stuck) = _
  unfold dAdd
  simp only [tS_len, tS_app]
  rw [if_pos (by rw [sizeLine_eq]; omega)]
theorem o_lt : onD dLt (.d (.int i)) (.d (.int j)) S = .ok (bD (decide (i < j))) S := rfl
theorem o_le : onD dLe (.d (.int i)) (.d (.int j)) S = .ok (bD (decide (i ≤ j))) S := rfl
theorem o_gt : onD dGt (.d (.int i)) (.d (.int j)) S = .ok (bD (decide (j < i))) S := rfl
theorem o_ge : onD dGe (.d (.int i)) (.d (.int j)) S = .ok (bD (decide (j ≤ i))) S := rfl
theorem o_eq {x y : D} (h : eqOk x y = true) : onD dEq (.d x) (.d y) S = .ok (bD (PyData.eqv x y)) S := by
  show (match dEq x y with | some w => R.ok w S | none => .stuck) = _
  unfold dEq
  rw [if_pos h]
theorem o_ne {x y : D} (h : eqOk x y = true) : onD dNe (.d x) (.d y) S = .ok (bD (!PyData.eqv x y)) S := by
  show (match dNe x y with | some w => R.ok w S | none => .stuck) = _
  unfold dNe
  rw [if_pos h]
theorem eqOk_flat {x y : D} (h1 : flatD x = true) (h2 : flatD y = true) : eqOk x y = true := by simp [eqOk, h1, h2]
theorem eqOk_sh {x y : D} (h1 : SeqAt.shaped x = true) (h2 : SeqAt.shaped y = true) : eqOk x y = true := by simp [eqOk, h1, h2]
theorem o_in_tup {x : D} {ds : List D} (h1 : flatD x = true) (h2 : flatAll ds = true) : onD dIn (.d x) (.d (.tuple ds)) S = .ok (bD (inD x ds)) S := by
  cases x <;> first | (simp [flatD] at h1; done) | (show (match dIn _ (.tuple ds) with | some w => R.ok w S | none => .stuck) = _; unfold dIn; simp only [h1, h2, Bool.and_self, if_true])
end
mutual
def plainD : D → Bool
  | .none => true
  | .bool _ => false
  | .int _ => true
  | .str _ => true
  | .list ds => plainAll ds
  | .tuple ds => plainAll ds
  | .dict _ => false
def plainAll : List D → Bool
  | [] => true
  | d :: ds => plainD d && plainAll ds
end
mutual
theorem eqv_plain : ∀ (x y : D), plainD x = true → plainD y = true → (PyData.eqv x y = true ↔ x = y)
  | .none, y, _, h => by cases y <;> simp [PyData.eqv, plainD] at h ⊢
  | .int i, y, _, h => by cases y <;> simp [PyData.eqv, plainD] at h ⊢
  | .str i, y, _, h => by cases y <;> simp [PyData.eqv, plainD] at h ⊢
  | .bool _, _, h, _ => by simp [plainD] at h
  | .dict _, _, h, _ => by simp [plainD] at h
  | .list xs, y, h1, h2 => by
    cases y with
    | list ys =>
      rw [PyData.eqv, eqvAll_plain xs ys (by simpa [plainD] using h1) (by simpa [plainD] using h2)]
      simp
    | _ => simp [PyData.eqv, plainD] at h2 ⊢
  | .tuple xs, y, h1, h2 => by
    cases y with
    | tuple ys =>
      rw [PyData.eqv, eqvAll_plain xs ys (by simpa [plainD] using h1) (by simpa [plainD] using h2)]
      simp
    | _ => simp [PyData.eqv, plainD] at h2 ⊢
theorem eqvAll_plain : ∀ (xs ys : List D), plainAll xs = true → plainAll ys = true → (PyData.eqvAll xs ys = true ↔ xs = ys)
  | [], [], _, _ => by simp [PyData.eqvAll]
  | [], _ :: _, _, _ => by simp [PyData.eqvAll]
  | _ :: _, [], _, _ => by simp [PyData.eqvAll]
  | x :: xs, y :: ys, h1, h2 => by
    have h1 : plainD x = true ∧ plainAll xs = true := by simpa [plainAll] using h1
    have h2 : plainD y = true ∧ plainAll ys = true := by simpa [plainAll] using h2
    rw [PyData.eqvAll, Bool.and_eq_true, eqv_plain x y h1.1 h2.1, eqvAll_plain xs ys h1.2 h2.2]
    simp
end
theorem plainAll_map {α : Type} {f : α → D} : ∀ {xs : List α}, (∀ x ∈ xs, plainD (f x) = true) → plainAll (xs.map f) = true
  | [], _ => rfl
  | x :: xs, h => by
    rw [List.map_cons]
    unfold plainAll
    rw [h x List.mem_cons_self, plainAll_map fun y hy => h y (List.mem_cons_of_mem _ hy)]
    rfl
def okD (n : Nat) (d : D) : Prop := d.canLay0 = true ∧ d.depth ≤ n
theorem okD.sh {n : Nat} {d : D} (h : okD n d) (hn : n ≤ 64 := by decide) : SeqAt.shaped d = true := by
  have : d.depth ≤ 64 := Nat.le_trans h.2 hn
  simp [SeqAt.shaped, h.1, this]
theorem canLayAll_map {α : Type} {f : α → D} : ∀ {xs : List α}, (∀ x ∈ xs, (f x).canLay0 = true) → PyData.canLayAll0 (xs.map f) = true
  | [], _ => rfl
  | x :: xs, h => by
    rw [List.map_cons]
    unfold PyData.canLayAll0
    rw [h x List.mem_cons_self, canLayAll_map fun y hy => h y (List.mem_cons_of_mem _ hy)]
    rfl
theorem depthAll_map {α : Type} {f : α → D} {n : Nat} : ∀ {xs : List α}, (∀ x ∈ xs, (f x).depth ≤ n) → PyData.depthAll (xs.map f) ≤ n
  | [], _ => by simp [PyData.depthAll]
  | x :: xs, h => by
    rw [List.map_cons, PyData.depthAll]
    have h1 := h x List.mem_cons_self
    have h2 := depthAll_map (n := n) fun y hy => h y (List.mem_cons_of_mem x hy)
    omega
theorem okD.lst {α : Type} {f : α → D} {n : Nat} {xs : List α} (h : ∀ x ∈ xs, okD n (f x)) : okD (n + 1) (.list (xs.map f)) := by
  refine ⟨by unfold PyData.canLay0; exact canLayAll_map fun x hx => (h x hx).1, ?_⟩
  rw [PyData.depth]
  have := depthAll_map (n := n) fun x hx => (h x hx).2
  omega
theorem okD.tup {α : Type} {f : α → D} {n : Nat} {xs : List α} (h : ∀ x ∈ xs, okD n (f x)) : okD (n + 1) (.tuple (xs.map f)) := by
  refine ⟨by unfold PyData.canLay0; exact canLayAll_map fun x hx => (h x hx).1, ?_⟩
  rw [PyData.depth]
  have := depthAll_map (n := n) fun x hx => (h x hx).2
  omega
theorem okD.int (n : Nat) (i : Int) : okD n (.int i) := ⟨by simp [PyData.canLay0], by simp [PyData.depth]⟩
theorem okD.non (n : Nat) : okD n .none := ⟨by simp [PyData.canLay0], by simp [PyData.depth]⟩
theorem okD.txt (n : Nat) {cs : List Nat} (h : ∀ c ∈ cs, c < 1114112) : okD n (.str (tS cs)) := by
  refine ⟨?_, by simp [PyData.depth]⟩
  unfold PyData.canLay0 PyData.strOk tS
  simp only [Array.all_eq_true_iff_forall_mem, decide_eq_true_eq]
  intro c hc
  have := h c (by simpa using hc)
  omega
theorem sgO_lt (a : Option Bool) : sgO a < 1114112 := by
  cases a with
  | none => decide
  | some b => cases b <;> decide
theorem okD.eT (n : Nat) (t : Tm) : okD n (eT t) := okD.txt n fun c hc => by
  obtain ⟨a, _, rfl⟩ := List.mem_map.mp hc
  exact sgO_lt a
theorem okD.aO (n : Nat) (a : Option Bool) : okD n (aO a) := by
  cases a with
  | none => exact okD.non n
  | some b => exact okD.int n _
theorem okD.eF (n : Nat) (f : Fn) : okD (n + 1) (eF f) := okD.tup fun a _ => okD.aO n a
theorem plain_aO (a : Option Bool) : plainD (aO a) = true := by
  cases a with
  | none => rfl
  | some b => rfl
theorem plain_eF (f : Fn) : plainD (eF f) = true := by
  unfold eF plainD
  exact plainAll_map fun a _ => plain_aO a
theorem own0 : W.own [] = ownD [] := rfl
theorem own1 (x0 : D) : W.own [W.a (A.d x0)] = ownD [x0] := rfl
theorem own2 (x0 x1 : D) : W.own [W.a (A.d x0), W.a (A.d x1)] = ownD [x0, x1] := rfl
theorem own3 (x0 x1 x2 : D) : W.own [W.a (A.d x0), W.a (A.d x1), W.a (A.d x2)] = ownD [x0, x1, x2] := rfl
theorem own4 (x0 x1 x2 x3 : D) : W.own [W.a (A.d x0), W.a (A.d x1), W.a (A.d x2), W.a (A.d x3)] = ownD [x0, x1, x2, x3] := rfl
theorem own5 (x0 x1 x2 x3 x4 : D) : W.own [W.a (A.d x0), W.a (A.d x1), W.a (A.d x2), W.a (A.d x3), W.a (A.d x4)] = ownD [x0, x1, x2, x3, x4] := rfl
theorem own6 (x0 x1 x2 x3 x4 x5 : D) : W.own [W.a (A.d x0), W.a (A.d x1), W.a (A.d x2), W.a (A.d x3), W.a (A.d x4), W.a (A.d x5)] = ownD [x0, x1, x2, x3, x4, x5] := rfl
theorem own7 (x0 x1 x2 x3 x4 x5 x6 : D) : W.own [W.a (A.d x0), W.a (A.d x1), W.a (A.d x2), W.a (A.d x3), W.a (A.d x4), W.a (A.d x5), W.a (A.d x6)] = ownD [x0, x1, x2, x3, x4, x5, x6] := rfl
theorem own8 (x0 x1 x2 x3 x4 x5 x6 x7 : D) : W.own [W.a (A.d x0), W.a (A.d x1), W.a (A.d x2), W.a (A.d x3), W.a (A.d x4), W.a (A.d x5), W.a (A.d x6), W.a (A.d x7)] = ownD [x0, x1, x2, x3, x4, x5, x6, x7] := rfl
theorem own9 (x0 x1 x2 x3 x4 x5 x6 x7 x8 : D) : W.own [W.a (A.d x0), W.a (A.d x1), W.a (A.d x2), W.a (A.d x3), W.a (A.d x4), W.a (A.d x5), W.a (A.d x6), W.a (A.d x7), W.a (A.d x8)] = ownD [x0, x1, x2, x3, x4, x5, x6, x7, x8] := rfl
theorem own10 (x0 x1 x2 x3 x4 x5 x6 x7 x8 x9 : D) : W.own [W.a (A.d x0), W.a (A.d x1), W.a (A.d x2), W.a (A.d x3), W.a (A.d x4), W.a (A.d x5), W.a (A.d x6), W.a (A.d x7), W.a (A.d x8), W.a (A.d x9)] = ownD [x0, x1, x2, x3, x4, x5, x6, x7, x8, x9] := rfl
theorem own11 (x0 x1 x2 x3 x4 x5 x6 x7 x8 x9 x10 : D) : W.own [W.a (A.d x0), W.a (A.d x1), W.a (A.d x2), W.a (A.d x3), W.a (A.d x4), W.a (A.d x5), W.a (A.d x6), W.a (A.d x7), W.a (A.d x8), W.a (A.d x9), W.a (A.d x10)] = ownD [x0, x1, x2, x3, x4, x5, x6, x7, x8, x9, x10] := rfl
theorem own12 (x0 x1 x2 x3 x4 x5 x6 x7 x8 x9 x10 x11 : D) : W.own [W.a (A.d x0), W.a (A.d x1), W.a (A.d x2), W.a (A.d x3), W.a (A.d x4), W.a (A.d x5), W.a (A.d x6), W.a (A.d x7), W.a (A.d x8), W.a (A.d x9), W.a (A.d x10), W.a (A.d x11)] = ownD [x0, x1, x2, x3, x4, x5, x6, x7, x8, x9, x10, x11] := rfl
theorem x_app {i : Nat} {is : List Nat} {f : Fe} {ρ : Ev} {S S1 : Cs} {a : List D} {d : D} (h : (frzE is ρ)[i]? = some (some (ownD a))) (hf : f (ev (frzE is ρ)) S = .ok (.a (.d d)) S1) (hl : a.length < 1000000) : sApp i is f ρ S = .nx ((frzE is ρ).set i (some (ownD (a ++ [d])))) S1 := by
  unfold sApp
  rw [h, hf]
  simp only [ownD, List.length_map, hl, if_true, List.map_append, List.map_cons, List.map_nil]
theorem frz1_s (i : Nat) (o : Option W) (ρ : Ev) : frz1 (i + 1) (o :: ρ) = o :: frz1 i ρ := by
  unfold frz1
  rw [List.getElem?_cons_succ]
  cases ρ[i]? with
  | none => rfl
  | some q => cases q with
    | none => rfl
    | some w => cases w with
      | a x => rfl
      | own ws =>
        simp only
        cases (W.own ws).toA <;> rfl
theorem frz1_0o (ds : List D) (ρ : Ev) : frz1 0 (some (ownD ds) :: ρ) = some (.a (.d (.list ds))) :: ρ := by
  rw [frz1_own (ds := ds) rfl]; rfl
theorem frz1_0a (x : A) (ρ : Ev) : frz1 0 (some (.a x) :: ρ) = some (.a x) :: ρ := frz1_a rfl
theorem frz1_0n (ρ : Ev) : frz1 0 (none :: ρ) = none :: ρ := frz1_no rfl
theorem isi_int_none : dIsi "int" .none = some (bD false) := rfl
theorem isi_int_bool (b : Bool) : dIsi "int" (.bool b) = some (bD true) := rfl
theorem isi_int_int (i : Int) : dIsi "int" (.int i) = some (bD true) := rfl
theorem isi_int_str (z : Str) : dIsi "int" (.str z) = some (bD false) := rfl
theorem isi_int_list (l : List D) : dIsi "int" (.list l) = some (bD false) := rfl
theorem isi_int_tuple (l : List D) : dIsi "int" (.tuple l) = some (bD false) := rfl
theorem isi_bool_none : dIsi "bool" .none = some (bD false) := rfl
theorem isi_bool_bool (b : Bool) : dIsi "bool" (.bool b) = some (bD true) := rfl
theorem isi_bool_int (i : Int) : dIsi "bool" (.int i) = some (bD false) := rfl
theorem isi_bool_str (z : Str) : dIsi "bool" (.str z) = some (bD false) := rfl
theorem isi_bool_list (l : List D) : dIsi "bool" (.list l) = some (bD false) := rfl
theorem isi_bool_tuple (l : List D) : dIsi "bool" (.tuple l) = some (bD false) := rfl
theorem isi_str_none : dIsi "str" .none = some (bD false) := rfl
theorem isi_str_bool (b : Bool) : dIsi "str" (.bool b) = some (bD false) := rfl
theorem isi_str_int (i : Int) : dIsi "str" (.int i) = some (bD false) := rfl
theorem isi_str_str (z : Str) : dIsi "str" (.str z) = some (bD true) := rfl
theorem isi_str_list (l : List D) : dIsi "str" (.list l) = some (bD false) := rfl
theorem isi_str_tuple (l : List D) : dIsi "str" (.tuple l) = some (bD false) := rfl
theorem isi_list_none : dIsi "list" .none = some (bD false) := rfl
theorem isi_list_bool (b : Bool) : dIsi "list" (.bool b) = some (bD false) := rfl
theorem isi_list_int (i : Int) : dIsi "list" (.int i) = some (bD false) := rfl
theorem isi_list_str (z : Str) : dIsi "list" (.str z) = some (bD false) := rfl
theorem isi_list_list (l : List D) : dIsi "list" (.list l) = some (bD true) := rfl
theorem isi_list_tuple (l : List D) : dIsi "list" (.tuple l) = some (bD false) := rfl
theorem isi_tuple_none : dIsi "tuple" .none = some (bD false) := rfl
theorem isi_tuple_bool (b : Bool) : dIsi "tuple" (.bool b) = some (bD false) := rfl
theorem isi_tuple_int (i : Int) : dIsi "tuple" (.int i) = some (bD false) := rfl
theorem isi_tuple_str (z : Str) : dIsi "tuple" (.str z) = some (bD false) := rfl
theorem isi_tuple_list (l : List D) : dIsi "tuple" (.list l) = some (bD false) := rfl
theorem isi_tuple_tuple (l : List D) : dIsi "tuple" (.tuple l) = some (bD true) := rfl
theorem isi2_tl_none : dIsi2 "tuple" "list" .none = some (bD false) := rfl
theorem isi2_tl_bool (b : Bool) : dIsi2 "tuple" "list" (.bool b) = some (bD false) := rfl
theorem isi2_tl_int (i : Int) : dIsi2 "tuple" "list" (.int i) = some (bD false) := rfl
theorem isi2_tl_str (z : Str) : dIsi2 "tuple" "list" (.str z) = some (bD false) := rfl
theorem isi2_tl_list (l : List D) : dIsi2 "tuple" "list" (.list l) = some (bD true) := rfl
theorem isi2_tl_tuple (l : List D) : dIsi2 "tuple" "list" (.tuple l) = some (bD true) := rfl
theorem br_tt (S : Cs) (x y : Cs → R) : (R.ok (bD true) S).br x y = x S := rfl
theorem br_ff (S : Cs) (x y : Cs → R) : (R.ok (bD false) S).br x y = y S := rfl
theorem atI_n {α : Type} {l : List α} {i : Nat} {a : α} (h : l[i]? = some a) : L2.atI l (i : Int) = some a := by
  obtain ⟨h1, _⟩ := List.getElem?_eq_some_iff.mp h
  unfold L2.atI ixN
  rw [if_pos (by omega), if_pos (by omega)]
  simpa using h
theorem o_ix_tup {α : Type} (en : α → D) {l : List α} {i : Nat} {a : α} (h : l[i]? = some a) (S : Cs) : dIx (.d (.tuple (l.map en))) (.d (.int i)) S = .ok (.a (.d (en a))) S := by
  have h2 : (l.map en)[i]? = some (en a) := by rw [List.getElem?_map, h]; rfl
  unfold dIx
  simp only [atI_n h2]
theorem o_ix_lst {α : Type} (en : α → D) {l : List α} {i : Nat} {a : α} (h : l[i]? = some a) (S : Cs) : dIx (.d (.list (l.map en))) (.d (.int i)) S = .ok (.a (.d (en a))) S := by
  have h2 : (l.map en)[i]? = some (en a) := by rw [List.getElem?_map, h]; rfl
  unfold dIx
  simp only [atI_n h2]
theorem dAll_m {α : Type} (f : α → Bool) (l : List α) : dAll (.list (l.map fun x => PyData.bool (f x))) = some (bD (l.all f)) := by
  simp only [dAll, boolsOf_map]
  simp [List.all_map]
theorem dAny_m {α : Type} (f : α → Bool) (l : List α) : dAny (.list (l.map fun x => PyData.bool (f x))) = some (bD (l.any f)) := by
  simp only [dAny, boolsOf_map]
  simp [List.any_map]
theorem gLen_eF (f : Fn) (S : Cs) : gLen [.d (eF f)] S = .ok (iD f.length) S := by
  unfold eF gLen
  simp only [List.length_map]
theorem gLen_lst {α : Type} (en : α → D) (l : List α) (S : Cs) : gLen [.d (.list (l.map en))] S = .ok (iD l.length) S := by
  unfold gLen
  simp only [List.length_map]
theorem gLen_tup {α : Type} (en : α → D) (l : List α) (S : Cs) : gLen [.d (.tuple (l.map en))] S = .ok (iD l.length) S := by
  unfold gLen
  simp only [List.length_map]
def eG (fs : List Fn) : D := .tuple (fs.map eF)
theorem gLen_eG (fs : List Fn) (S : Cs) : gLen [.d (eG fs)] S = .ok (iD fs.length) S := gLen_tup eF fs S
theorem seqD_eF (f : Fn) : seqD (.d (eF f)) = some (f.map aO) := rfl
theorem seqD_eG (fs : List Fn) : seqD (.d (eG fs)) = some (fs.map eF) := rfl
theorem isi_eF (T : String) (f : Fn) : dIsi T (eF f) = dIsi T (.tuple []) := rfl
theorem isi_eG (T : String) (f : List Fn) : dIsi T (eG f) = dIsi T (.tuple []) := rfl
theorem isi_eT (T : String) (t : Tm) : dIsi T (eT t) = dIsi T (.str (tS [])) := rfl
theorem all_tt {α : Type} (l : List α) : (l.all fun _ => true) = true := by simp
theorem forL_cnt {g : Gs} {body : Fs} {dm : List Bool} (J : Nat → Ev → Cs → Prop) (N : Nat) : ∀ (xs : List D) (k : Nat) (ρ : Ev) (S : Cs), k + xs.length ≤ N → J k ρ S → (∀ x ∈ xs, ∀ k ρ S, k < N → J k ρ S → ∃ ρ1 ρ2 S2, g x ρ = some ρ1 ∧ body ρ1 S = .nx ρ2 S2 ∧ J (k + 1) (mask dm ρ2) S2) →
    ∃ ρ2 S2, forL g body dm xs ρ S = .nx ρ2 S2 ∧ J (k + xs.length) ρ2 S2
  | [], k, ρ, S, _, hJ, _ => ⟨ρ, S, rfl, hJ⟩
  | x :: xs, k, ρ, S, hN, hJ, h => by
    obtain ⟨ρ1, ρ2, S2, h1, h2, h3⟩ := h x List.mem_cons_self k ρ S (by simp at hN; omega) hJ
    obtain ⟨ρ3, S3, h4, h5⟩ := forL_cnt J N xs (k + 1) _ S2 (by simp at hN; omega) h3 fun y hy => h y (List.mem_cons_of_mem _ hy)
    refine ⟨ρ3, S3, ?_, by rw [List.length_cons, show k + (xs.length + 1) = k + 1 + xs.length by omega]; exact h5⟩
    unfold forL
    rw [h1]
    simp only [h2]
    exact h4
theorem dInt_b (b : Bool) : dInt (.bool b) = some (.a (.d (aO (some b)))) := rfl
theorem flatWs_map : ∀ ds : List D, flatWs (ds.map fun d => W.a (.d d)) = some ds
  | [] => rfl
  | d :: ds => by simp [flatWs, flatWs_map ds]
theorem St.drop {S : Cs} (h : ∃ (z : Int) (b : Bool), S = [[PyData.int z, PyData.bool b]]) : S.dropLast = [] := by
  obtain ⟨z, b, rfl⟩ := h
  rfl
end PD

namespace PD
open PySem PySem.Spec PyProof.Rows L2
def gi (K : PySem.W.Frag) (Cs : List Addr) (C : Addr) : Fe := fUn (gIsX K Cs (.ref C)) (fVar 1)
theorem refOk_at {K : PySem.W.Frag} {Cs : List Addr} {T : Addr} (h : refOk K Cs T = true) : (∀ C ∈ Cs, ExcC K C ∧ PySem.W.exmOne K (.ref C) (.ref T) = some true ∧ PySem.W.kitOne K (.ref C) (.type "ValueError") = some true ∧ PySem.W.kitOne K (.type "NoneType") (.ref C) = some false ∧ ∀ D ∈ Cs, PySem.W.kitOne K (.ref C) (.ref D) = some (decide (C = D))) ∧
    PySem.W.kitOne K (.type "NoneType") (.type "ValueError") = some false := by
  unfold refOk at h
  simp only [Bool.and_eq_true, List.all_eq_true, decide_eq_true_eq] at h
  obtain ⟨h1, h2⟩ := h
  refine ⟨fun C hC => ?_, h2⟩
  obtain ⟨⟨⟨⟨a1, a2⟩, a3⟩, a4⟩, a5⟩ := h1 C hC
  exact ⟨excC_of a1, a2, a3, a4, a5⟩
theorem gi_err {K : PySem.W.Frag} {Cs : List Addr} {T C D : Addr} {ρ : En} {S : PD.Cs} (h : refOk K Cs T = true) (hC : C ∈ Cs) (hD : D ∈ Cs) (hρ : ρ[1]? = some (some (.e (.exc C)))) : gi K Cs D ρ S = .ok (bD (decide (C = D))) S := by
  have q := ((refOk_at h).1 C hC).2.2.2.2 D hD
  unfold gi fUn fVar
  rw [hρ]
  simp only [bnd_a, gIsX, hC, if_true, q]
theorem gi_non {K : PySem.W.Frag} {Cs : List Addr} {T D : Addr} {ρ : En} {S : PD.Cs} (h : refOk K Cs T = true) (hD : D ∈ Cs) (hρ : ρ[1]? = some (some (.d .none))) : gi K Cs D ρ S = .ok (bD false) S := by
  have q := ((refOk_at h).1 D hD).2.2.2.1
  unfold gi fUn fVar
  rw [hρ]
  simp only [bnd_a, gIsX, q]
def grR (K : PySem.W.Frag) (c0 c1 c2 c3 c4 c5 c6 c7 c8 : Addr) : Fs :=
  (sSeq (sSet 3 [] (fLst [gi K [c0, c1, c2, c3, c4, c5, c6, c7, c8] c0, gi K [c0, c1, c2, c3, c4, c5, c6, c7, c8] c1, gi K [c0, c1, c2, c3, c4, c5, c6, c7, c8] c2]))
  (sSeq (sSet 3 [3] (fBin (onD dAdd) (fVar 3) (fLst [gi K [c0, c1, c2, c3, c4, c5, c6, c7, c8] c3, gi K [c0, c1, c2, c3, c4, c5, c6, c7, c8] c4, gi K [c0, c1, c2, c3, c4, c5, c6, c7, c8] c5])))
  (sSeq (sSet 3 [3] (fBin (onD dAdd) (fVar 3) (fLst [gi K [c0, c1, c2, c3, c4, c5, c6, c7, c8] c6, gi K [c0, c1, c2, c3, c4, c5, c6, c7, c8] c7, gi K [c0, c1, c2, c3, c4, c5, c6, c7, c8] c8])))
  (sSeq (sIf0 [] (fNot (fUn (gIsX K [c0, c1, c2, c3, c4, c5, c6, c7, c8] (.type "ValueError")) (fVar 1)))
  (sRet [] (fC .none))
  sSkip)
  (sRet [3] (fComp [4] (iRng1 (fC (.int 9))) (gNm 4) (fBin dIx (fVar 3) (fVar 4)) (fVar 4)))))))
theorem add_l (a b : List D) (h : a.length + b.length ≤ 1000) (S : PD.Cs) : onD dAdd (.d (.list a)) (.d (.list b)) S = .ok (ownD (a ++ b)) S := by
  show (match dAdd (.list a) (.list b) with | some w => R.ok w S | none => .stuck) = _
  unfold dAdd
  simp only
  rw [if_pos (by rw [sizeLine_eq]; omega)]
theorem grR_non {K : PySem.W.Frag} {c0 c1 c2 c3 c4 c5 c6 c7 c8 T : Addr} (h : refOk K [c0, c1, c2, c3, c4, c5, c6, c7, c8] T = true) (S : PD.Cs) : grR K c0 c1 c2 c3 c4 c5 c6 c7 c8 (PD.one 5 1 (.a (.d .none))) S = .rt (.a (.d .none)) S := by
  have e0 : PD.one 5 1 (.a (.d .none)) = [none, some (.a (.d .none)), none, none, none] := rfl
  have g : ∀ D ∈ [c0, c1, c2, c3, c4, c5, c6, c7, c8], ∀ (ρ : En), ρ[1]? = some (some (.d .none)) → gi K [c0, c1, c2, c3, c4, c5, c6, c7, c8] D ρ S = .ok (bD false) S := fun D hD ρ hρ => gi_non h hD hρ
  have gv := (refOk_at h).2
  rw [e0]
  have g3 : ∀ (x : Option A) (D : Addr), D ∈ [c0, c1, c2, c3, c4, c5, c6, c7, c8] → gi K [c0, c1, c2, c3, c4, c5, c6, c7, c8] D [none, some (.d .none), none, x, none] S = .ok (bD false) S := fun x D hD => g D hD _ rfl
  simp only [grR, bodySem, startE, sRet, sRetV, sRetN, sSeq, sSet, sSkip, sExp, sIf0, fSm, fC, fComp, iRng1, iSeq, iZip, iEnum, fVar, fCall, fBin, fUn, onD1, on1, evs_nil, evs_cons, frzE, ev, ev1_own, ev1_ownD, ev1_a, ev1_no, List.map_cons, List.map_nil, List.cons_append, List.nil_append, List.replicate, List.length_cons, List.length_nil, Nat.reduceAdd, Nat.reduceSub, bnd_a, bi_a, bi_own, bnd_own, List.getElem?_cons_zero, List.getElem?_cons_succ, rng1, SR.of, if_true, wipeE, List.set_cons_zero, List.set_cons_succ, rngD_map, i2n, and_self, setD, Option.map_some, gNm, gTp, o_add, o_sub, o_shr, o_band, o_lt, o_le, o_gt, o_ge, fTup, allD, zip2, zipD_map, Function.comp_def, List.map_map, own0, own1, own2, own3, own4, own5, own6, own7, own8, own9, own10, own11, own12, fLst, evsW, sFor, dom, seqD_lst, seqD_tup, Option.isSome, sNm, sTp, setW, frz1_s, frz1_0o, frz1_0a, frz1_0n, isi_int_none, isi_int_bool, isi_int_int, isi_int_str, isi_int_list, isi_int_tuple, isi_bool_none, isi_bool_bool, isi_bool_int, isi_bool_str, isi_bool_list, isi_bool_tuple, isi_str_none, isi_str_bool, isi_str_int, isi_str_str, isi_str_list, isi_str_tuple, isi_list_none, isi_list_bool, isi_list_int, isi_list_str, isi_list_list, isi_list_tuple, isi_tuple_none, isi_tuple_bool, isi_tuple_int, isi_tuple_str, isi_tuple_list, isi_tuple_tuple, isi2_tl_none, isi2_tl_bool, isi2_tl_int, isi2_tl_str, isi2_tl_list, isi2_tl_tuple, br_tt, br_ff, Bool.false_eq_true, if_false, seqD_eF, seqD_eG, isi_eF, isi_eG, isi_eT, gLen_eF, gLen_eG, gLen_lst, gLen_tup, dAll_m, dAny_m, all_tt, dInt_b, g3, List.mem_cons, true_or, or_true, fNot, gIsX, gv, add_l, Nat.reduceLeDiff]
theorem grR_err {K : PySem.W.Frag} {c0 c1 c2 c3 c4 c5 c6 c7 c8 T C : Addr} (h : refOk K [c0, c1, c2, c3, c4, c5, c6, c7, c8] T = true) (nd : [c0, c1, c2, c3, c4, c5, c6, c7, c8].Nodup) (S : PD.Cs) (k : Nat) (hk : [c0, c1, c2, c3, c4, c5, c6, c7, c8][k]? = some C) : grR K c0 c1 c2 c3 c4 c5 c6 c7 c8 (PD.one 5 1 (.a (.e (.exc C)))) S = .rt (ownD [.int (k : Nat)]) S := by
  have e0 : PD.one 5 1 (.a (.e (.exc C))) = [none, some (.a (.e (.exc C))), none, none, none] := rfl
  have hC : C ∈ [c0, c1, c2, c3, c4, c5, c6, c7, c8] := List.mem_of_getElem? hk
  have gv := ((refOk_at h).1 C hC).2.2.1
  rw [e0]
  have g3 : ∀ (x : Option A) (D : Addr), D ∈ [c0, c1, c2, c3, c4, c5, c6, c7, c8] → gi K [c0, c1, c2, c3, c4, c5, c6, c7, c8] D [none, some (.e (.exc C)), none, x, none] S = .ok (bD (decide (C = D))) S := fun x D hD => gi_err h hC hD rfl
  have nd0 := nd
  have g4 : ∀ (x : Option A), fUn (gIsX K [c0, c1, c2, c3, c4, c5, c6, c7, c8] (.type "ValueError")) (fVar 1) [none, some (.e (.exc C)), none, x, none] S = .ok (bD true) S := by
    intro x
    unfold fUn fVar
    simp only [List.getElem?_cons_succ, List.getElem?_cons_zero, bnd_a, gIsX, hC, if_true, gv]
  simp only [List.nodup_cons, List.mem_cons, not_or, List.not_mem_nil] at nd
  have hk9 : k < 9 := (List.getElem?_eq_some_iff.mp hk).1
  have b9 : (9 : Int) ≤ 1000000 ∧ -1000000 ≤ (9 : Int) := by omega
  simp only [grR, bodySem, startE, sRet, sRetV, sRetN, sSeq, sSet, sSkip, sExp, sIf0, fC, iRng1, fVar, fBin, evs_nil, evs_cons, frzE, ev, ev1_own, ev1_ownD, ev1_a, ev1_no, List.map_cons, List.map_nil, List.cons_append, List.nil_append, List.replicate, List.length_cons, List.length_nil, Nat.reduceAdd, Nat.reduceSub, bnd_a, bi_a, bi_own, bnd_own, List.getElem?_cons_zero, List.getElem?_cons_succ, if_true, List.set_cons_zero, List.set_cons_succ, setD, Option.map_some, fLst, evsW, setW, frz1_s, frz1_0o, frz1_0a, frz1_0n, own0, own1, own2, own3, own4, own5, own6, own7, own8, own9, br_tt, br_ff, Bool.false_eq_true, if_false, g3, g4, List.mem_cons, true_or, or_true, fNot, add_l, Nat.reduceLeDiff]
  have e9 : rngD 0 (9 : Int).toNat = (List.range 9).map fun (i : Nat) => PyData.int i := rngD_map 9
  have hm : ([PyData.bool (decide (C = c0)), PyData.bool (decide (C = c1)), PyData.bool (decide (C = c2)), PyData.bool (decide (C = c3)), PyData.bool (decide (C = c4)), PyData.bool (decide (C = c5)), PyData.bool (decide (C = c6)), PyData.bool (decide (C = c7)), PyData.bool (decide (C = c8))]) = [c0, c1, c2, c3, c4, c5, c6, c7, c8].map fun c => PyData.bool (decide (C = c)) := rfl
  have e1 : fComp [4] (iRng1 (fC (PyData.int 9))) (gNm 4) (fBin dIx (fVar 3) (fVar 4)) (fVar 4) [none, some (A.e (.exc C)), none, some (A.d (PyData.list ([c0, c1, c2, c3, c4, c5, c6, c7, c8].map fun c => PyData.bool (decide (C = c))))), none] S = .ok (ownD [.int (k : Nat)]) S := by
    simp only [fComp, iRng1, fC, bnd_a, bi_a, b9, and_self, if_true, rng1, SR.of, e9, wipeE, List.set_cons_succ, List.set_cons_zero]
    rw [compL_f (fun (i : Nat) => PyData.int i) (fun i => decide (i = k)) (fun (i : Nat) => PyData.int i) (List.range 9)]
    · have q : ∀ k < 9, (List.range 9).filter (fun i => decide (i = k)) = [k] := by decide
      rw [q k hk9]; rfl
    · intro i hi
      have hi := List.mem_range.mp hi
      refine ⟨_, rfl, ?_, fun _ => rfl⟩
      have hl : i < [c0, c1, c2, c3, c4, c5, c6, c7, c8].length := hi
      have hg := List.getElem?_eq_getElem hl
      show dIx (.d (.list ([c0, c1, c2, c3, c4, c5, c6, c7, c8].map fun c => PyData.bool (decide (C = c))))) (.d (.int i)) S = _
      have := o_ix_lst (fun c => PyData.bool (decide (C = c))) hg S
      refine this.trans ?_
      have e : decide (C = [c0, c1, c2, c3, c4, c5, c6, c7, c8][i]) = decide (i = k) := by
        obtain ⟨hk1, hk2⟩ := List.getElem?_eq_some_iff.mp hk
        rw [← hk2]
        refine decide_eq_decide.mpr ?_
        have pw := List.pairwise_iff_getElem.mp nd0
        constructor
        · intro he
          rcases Nat.lt_trichotomy i k with h1 | h1 | h1
          · exact absurd he.symm (pw i k hl hk1 h1)
          · exact h1
          · exact absurd he (pw k i hk1 hl h1)
        · rintro rfl; rfl
      rw [e]
  rw [hm, e1]
end PD

namespace PD
open PySem PySem.Spec PyProof.Rows L2
structure RefAt (K : PySem.W.Frag) (mg : Str → Option Value) (n0 n1 n2 n3 n4 n5 n6 n7 n8 : Str) : Prop where
  ex : ∃ c0 c1 c2 c3 c4 c5 c6 c7 c8 CT : Addr, (mg n0 = some (.ref c0) ∧ mg n1 = some (.ref c1) ∧ mg n2 = some (.ref c2) ∧ mg n3 = some (.ref c3) ∧ mg n4 = some (.ref c4) ∧ mg n5 = some (.ref c5) ∧ mg n6 = some (.ref c6) ∧ mg n7 = some (.ref c7) ∧ mg n8 = some (.ref c8)) ∧
    mg "TermError" = some (.ref CT) ∧ refOk K [c0, c1, c2, c3, c4, c5, c6, c7, c8] CT = true ∧ [c0, c1, c2, c3, c4, c5, c6, c7, c8].Nodup
theorem ref_at {K : PySem.W.Frag} {h : Heap} {mg : Str → Option Value} (X : K.In h) (G : h.Ns mainGlobals mg) {n0 n1 n2 n3 n4 n5 n6 n7 n8 : Str} {c0 c1 c2 c3 c4 c5 c6 c7 c8 CT : Addr}
    (a0 : PySem.W.nsIn K mainGlobals n0 = some (some (.ref c0))) (a1 : PySem.W.nsIn K mainGlobals n1 = some (some (.ref c1))) (a2 : PySem.W.nsIn K mainGlobals n2 = some (some (.ref c2))) (a3 : PySem.W.nsIn K mainGlobals n3 = some (some (.ref c3))) (a4 : PySem.W.nsIn K mainGlobals n4 = some (some (.ref c4)))
    (a5 : PySem.W.nsIn K mainGlobals n5 = some (some (.ref c5))) (a6 : PySem.W.nsIn K mainGlobals n6 = some (some (.ref c6))) (a7 : PySem.W.nsIn K mainGlobals n7 = some (some (.ref c7))) (a8 : PySem.W.nsIn K mainGlobals n8 = some (some (.ref c8))) (aT : PySem.W.nsIn K mainGlobals "TermError" = some (some (.ref CT)))
    (o : refOk K [c0, c1, c2, c3, c4, c5, c6, c7, c8] CT = true) (nd : [c0, c1, c2, c3, c4, c5, c6, c7, c8].Nodup) : RefAt K mg n0 n1 n2 n3 n4 n5 n6 n7 n8 :=
  ⟨c0, c1, c2, c3, c4, c5, c6, c7, c8, CT, ⟨PySem.W.mg_of X G a0, PySem.W.mg_of X G a1, PySem.W.mg_of X G a2, PySem.W.mg_of X G a3, PySem.W.mg_of X G a4, PySem.W.mg_of X G a5, PySem.W.mg_of X G a6, PySem.W.mg_of X G a7, PySem.W.mg_of X G a8⟩, PySem.W.mg_of X G aT, o, nd⟩
section
variable {K : PySem.W.Frag} {mg : Str → Option Value} {n0 n1 n2 n3 n4 n5 n6 n7 n8 : Str} {c0 c1 c2 c3 c4 c5 c6 c7 c8 CT : Addr}
theorem ref_ords (m : mg n0 = some (.ref c0) ∧ mg n1 = some (.ref c1) ∧ mg n2 = some (.ref c2) ∧ mg n3 = some (.ref c3) ∧ mg n4 = some (.ref c4) ∧ mg n5 = some (.ref c5) ∧ mg n6 = some (.ref c6) ∧ mg n7 = some (.ref c7) ∧ mg n8 = some (.ref c8))
    (ho : refOk K [c0, c1, c2, c3, c4, c5, c6, c7, c8] CT = true) : ∀ n ∈ [n0, n1, n2, n3, n4, n5, n6, n7, n8], ∃ C : Addr, mg n = some (.ref C) ∧ PySem.W.exmOne K (.ref C) (.ref CT) = some true := by
  obtain ⟨m0, m1, m2, m3, m4, m5, m6, m7, m8⟩ := m
  have q := (refOk_at ho).1
  intro n hn
  simp only [List.mem_cons, List.not_mem_nil, or_false] at hn
  rcases hn with rfl | rfl | rfl | rfl | rfl | rfl | rfl | rfl | rfl
  · exact ⟨_, m0, (q c0 (by simp)).2.1⟩
  · exact ⟨_, m1, (q c1 (by simp)).2.1⟩
  · exact ⟨_, m2, (q c2 (by simp)).2.1⟩
  · exact ⟨_, m3, (q c3 (by simp)).2.1⟩
  · exact ⟨_, m4, (q c4 (by simp)).2.1⟩
  · exact ⟨_, m5, (q c5 (by simp)).2.1⟩
  · exact ⟨_, m6, (q c6 (by simp)).2.1⟩
  · exact ⟨_, m7, (q c7 (by simp)).2.1⟩
  · exact ⟨_, m8, (q c8 (by simp)).2.1⟩
theorem ref_k (m : mg n0 = some (.ref c0) ∧ mg n1 = some (.ref c1) ∧ mg n2 = some (.ref c2) ∧ mg n3 = some (.ref c3) ∧ mg n4 = some (.ref c4) ∧ mg n5 = some (.ref c5) ∧ mg n6 = some (.ref c6) ∧ mg n7 = some (.ref c7) ∧ mg n8 = some (.ref c8)) {n : Str} {k : Nat} {C : Addr}
    (hk : [n0, n1, n2, n3, n4, n5, n6, n7, n8].findIdx? (fun m => m == n) = some k) (hm : mg n = some (.ref C)) : [c0, c1, c2, c3, c4, c5, c6, c7, c8][k]? = some C := by
  obtain ⟨m0, m1, m2, m3, m4, m5, m6, m7, m8⟩ := m
  obtain ⟨hi, hn, _⟩ := List.findIdx?_eq_some_iff_getElem.mp hk
  have en := eq_of_beq hn
  have hi : k < 9 := hi
  subst en
  have key : k = 0 ∨ k = 1 ∨ k = 2 ∨ k = 3 ∨ k = 4 ∨ k = 5 ∨ k = 6 ∨ k = 7 ∨ k = 8 := by omega
  rcases key with rfl | rfl | rfl | rfl | rfl | rfl | rfl | rfl | rfl
  · cases m0.symm.trans hm; rfl
  · cases m1.symm.trans hm; rfl
  · cases m2.symm.trans hm; rfl
  · cases m3.symm.trans hm; rfl
  · cases m4.symm.trans hm; rfl
  · cases m5.symm.trans hm; rfl
  · cases m6.symm.trans hm; rfl
  · cases m7.symm.trans hm; rfl
  · cases m8.symm.trans hm; rfl
end
section
variable {P : Program} {w : World} {K : PySem.W.Frag} {mg : Str → Option Value} {base : Heap} {x qual : Str} {st : Stmt} {f c PT : Addr} {N ps : List Str} {k : Nat} {g : Fs} {oc : Value} {od an : Option Addr} {dV kV doc pm ct : Value} {osl : Array (Option Value)}
theorem def_okC (lk : K.lookup f = some ⟨oc, od, .func (PySem.W.fnOf x qual (defArgs st) (defBody st) (defScope st) dV kV doc pm an (.ref c) ct), osl⟩) (hcd : PySem.W.codeIn K (.ref c) qual = true) (Sc : FnScope N ps (defScope st)) (hm : ps.length ≤ N.length)
    (hb : ∀ (A : Around) (outer : List Env) (s : Shared) (H : Hp) (E : XK), Room k (A.deeper (envOfC qual (defScope st) s.heap.objs.size f (.ref c))) →
      PSs (cxOf (L2.CX P w) P w K mg base N qual (defScope st) f (.ref c) A outer s H E) (defBody st) (ts K mg (fun cls d _ H' => E cls d H') g)) : FnOk P w K mg base (L2.CX P w) (k + 1) f (PySem.W.fnOf x qual (defArgs st) (defBody st) (defScope st) dV kV doc pm an (.ref c) ct) ps (spD K mg ps.length (bodySem N.length g)) :=
  fn_of lk hcd Sc (fun vs H Q E h => h.1) fun A outer s H vs Q E hr h => ⟨_, hb A outer s H E hr, body_ok hm h⟩
theorem tab_of_law {co : Value} {cod : Option Addr} {vs : Array Value} {csl : Array (Option Value)} (a : PySem.W.nsIn K mainGlobals x = some (some (.ref f))) (lk : K.lookup f = some ⟨oc, od, .func (PySem.W.fnOf x qual (defArgs st) (defBody st) (defScope st) dV kV doc pm an (.ref c) ct), osl⟩) (lc : K.lookup c = some ⟨co, cod, .fields vs, csl⟩) (h11 : vs[11]? = some (.ref PT)) :
    PySem.W.tabIn K x = some (c, PT) := by
  unfold PySem.W.tabIn
  rw [a]
  simp only
  rw [lk]
  simp only [PySem.W.fnOf]
  rw [lc]
  simp only
  rw [h11]
theorem tabOf_of {n : Str} (h : PySem.W.tabIn K n = some (c, PT)) : tabOf K n = [(PT, (n ++ ".<locals>.") ++ "<lambda>")] := by
  unfold tabOf
  rw [h]
end
end PD

namespace PD
open PySem PySem.Spec PyProof.Rows L2
section
variable {X : Cx} {Z : WX} {e c a b o : Expr} {f fa fb : Fe} {p pos apos : Pos}
end
section
variable {K : PySem.W.Frag} {mg : Str → Option Value} {κ : Kp} {F0 H0 F H : Hp} {ρ : Ev} {S : Cs} {σ : L2.St}
end
def sAppV (i k : Nat) : Fs := fun ρ S => match ρ[i]?, ρ[k]? with
  | some (some (.own ws)), some (some (.own us)) => if i ≠ k ∧ ws.length < 1000000 then .nx ((ρ.set k none).set i (some (.own (ws ++ [.own us])))) S else .stuck
  | _, _ => .stuck
section
variable {X : Cx} {Z : WX} {pos apos cpos : Pos}
end
theorem RepWs.split {K : PySem.W.Frag} {κ : Kp} {F H : Hp} {w : W} : ∀ {ws : List W} {vs : List V} {L : List Addr} {j : Nat}, RepWs K κ F H ws vs L → ws[j]? = some w → ∃ (v : V) (L1 Lj L2 : List Addr), vs[j]? = some v ∧ L = L1 ++ (Lj ++ L2) ∧ RepW K κ F H w v Lj ∧
    ∀ (F' H' : Hp) (w' : W) (Lj' : List Addr), Same F F' → (∀ a ∈ L1 ++ L2, ∀ o, H a = some o → H' a = some o) → RepW K κ F' H' w' v Lj' → RepWs K κ F' H' (ws.set j w') vs (L1 ++ (Lj' ++ L2))
  | [], _, _, _, _, e => by simp at e
  | w0 :: ws, _, _, 0, h, e => by
    obtain ⟨v, r, L1, L2, rfl, rfl, h1, h2⟩ := h
    cases e
    exact ⟨v, [], L1, L2, rfl, rfl, h1, fun F' H' w' Lj' sf k g => ⟨v, r, Lj', L2, rfl, rfl, g, RepWs.up sf ws r L2 (fun a ha => k a (by simpa using ha)) h2⟩⟩
  | w0 :: ws, _, _, j + 1, h, e => by
    obtain ⟨v0, r, L1, L2, rfl, rfl, h1, h2⟩ := h
    obtain ⟨v, M1, Mj, M2, e1, rfl, g1, g2⟩ := RepWs.split (j := j) h2 (by simpa using e)
    refine ⟨v, L1 ++ M1, Mj, M2, by simpa using e1, by simp, g1, fun F' H' w' Lj' sf k g => ⟨v0, r, L1, M1 ++ (Lj' ++ M2), rfl, by simp, RepW.up sf w0 v0 L1 (fun a ha => k a (by simp [ha])) h1, g2 F' H' w' Lj' sf (fun a ha => k a (by
      rcases List.mem_append.mp ha with z | z
      · simp [z]
      · simp [z])) g⟩⟩
section
variable {X : Cx} {Z : WX} {e ix : Expr} {f fi : Fe} {pos apos cpos spos : Pos}
end
def IPR (K : PySem.W.Frag) (mg : Str → Option Value) (Z : WX) (κ : Kp) (F H : Hp) (σ : L2.St) (r : SR) (Rr : It → Hp → Prop) : Prop := match r with
  | .ok items S' => ∀ lo n H' F', items = rngD lo n → Nxt κ F H F' H' → Cel K κ F' H' S' → items.length ≤ sizeLine → Rr (Itr lo n) H'
  | .exc n S' => ∀ C H' F', mg n = some (.ref C) → Nxt κ F H F' H' → Cel K κ F' H' S' → Z (.ref C) none σ H'
  | .stuck => False
theorem IPR.up {K : PySem.W.Frag} {mg : Str → Option Value} {Z : WX} {κ : Kp} {F H F1 H1 : Hp} {σ : L2.St} {r : SR} {Rr : It → Hp → Prop} (h : IPR K mg Z κ F H σ r Rr) (n : Nxt κ F H F1 H1) : IPR K mg Z κ F1 H1 σ r Rr := by
  cases r with
  | ok items S' => exact fun lo m H' F' e a => h lo m H' F' e (n.trans a)
  | exc m S' => exact fun C H' F' g a => h C H' F' g (n.trans a)
  | stuck => exact h
section
variable {X : Cx} {Z : WX} {f g : Fe}
end
def sForB (is : List Nat) (src : Fi) (g : Gs) (body : Fs) : Fs := fun ρ S => match src (ev (frzE is ρ)) S with
  | .ok items S1 => if flatCs S1 = true then forL g body (dom ρ) items ρ S1 else .stuck
  | .exc n S1 => .exc n S1
  | .stuck => .stuck
section
variable {X : Cx} {Z : WX} {pos : Pos} {body : List Stmt} {g : Fs}
end
def fDct : Fe := fun _ S => .ok (.a (.d (.dict []))) S
theorem ve_dct {X : Cx} {Z : WX} {pos : Pos} : VE X Z (.Dict [] [] pos) fDct := pe_dnewK.imp fun σ H Q h p hp => by
  obtain ⟨κ, F, ρ, S, t, po⟩ := h
  have n : Nxt κ F H (upd F p (.dK [])) (upd H p (.dK [])) := Nxt.newF t.fh hp
  exact po (.ref p) _ _ [] n (t.cel.newF t.fh hp) ⟨rfl, Rep.dct (.inl upd_same)⟩ .nil fun _ hp => absurd hp (by simp)
end PD

namespace PD
open PySem PySem.Spec PyProof.Rows L2
def vKey : Value → Key
  | .int i _ => .inl i
  | .str x _ => .inr x
  | _ => .inl 0
def eKey (e : Int × Value) : Key := vKey e.2
section
variable {P : Program} {w : World}
structure SetG (P : Program) (w : World) (h : Heap) (a : Addr) (ks : List Key) : Prop where
  ex : ∃ (o : Obj) (es : Array (Int × Value)) (ep : Nat) (t : SetTable), h.get? a = some o ∧ o.ExactSet ∧ o.data = .set es ep t ∧ ElemsOf (mixKind P w) es.toList ∧ (es.toList.map eKey).Nodup ∧ (∀ k, k ∈ es.toList.map eKey ↔ k ∈ ks) ∧ t.fits es.size = true ∧ Ris t.place.toList ∧
    (w.params.followText "set-order" = true ∨ t.led = true)
theorem nodup_le : ∀ {a b : List Key}, a.Nodup → (∀ x ∈ a, x ∈ b) → a.length ≤ b.length
  | [], b, _, _ => Nat.zero_le _
  | x :: a, b, ha, h => by
    obtain ⟨b1, b2, rfl⟩ := List.append_of_mem (h x List.mem_cons_self)
    obtain ⟨h1, h2⟩ := List.nodup_cons.mp ha
    have := nodup_le (b := b1 ++ b2) h2 fun y hy => by
      have hne : y ≠ x := fun e => h1 (e ▸ hy)
      have := h y (List.mem_cons_of_mem _ hy)
      simp only [List.mem_append, List.mem_cons] at this ⊢
      rcases this with z | z | z
      · exact .inl z
      · exact absurd z hne
      · exact .inr z
    simp only [List.length_append, List.length_cons] at this ⊢
    omega
theorem SetG.size {h : Heap} {a : Addr} {ks : List Key} {es : Array (Int × Value)} (nd : (es.toList.map eKey).Nodup) (m : ∀ k, k ∈ es.toList.map eKey ↔ k ∈ ks) : es.size ≤ ks.length := by
  have := nodup_le nd fun k hk => (m k).mp hk
  simpa using this
theorem SetG.at {h h' : Heap} {a : Addr} {ks : List Key} (R : SetG P w h a ks) (k : ∀ o, h.get? a = some o → h'.get? a = some o) : SetG P w h' a ks := by
  obtain ⟨o, es, ep, t, ho, r⟩ := R.ex
  exact ⟨o, es, ep, t, k o ho, r⟩
section
variable {A : Around} {E : Value → Shared → Prop} {s : Shared} {a : Addr} {ks : List Key}
end
end
section
variable {P : Program} {w : World}
end
end PD

namespace PD
open PySem PySem.Spec PyProof.Rows L2
section
variable {P : Program} {w : World} {A : Around} {E : Value → Shared → Prop} {s : Shared} {a : Addr} {β : Type} [DecidableEq β]
end
section
variable {X : Cx}
end
section
variable {X : Cx}
end
section
variable {X : Cx} {Z : WX} {e : Expr} {f : Fe} {p p2 q pos : Pos}
end
section
variable {X : Cx}
end
section
variable {X : Cx} {Z : WX} {e : Expr} {f : Fe} {p p2 q pos : Pos}
end
end PD

namespace PD
open PySem PySem.Spec PyProof.Rows L2
section
variable {X : Cx}
end
section
variable {X : Cx} {Z : WX} {e : Expr} {f : Fe} {p pos : Pos}
end
end PD

namespace PD
open PySem PySem.Spec PyProof.Rows L2
def keyO : D → Option (Option Key)
  | .none => some none
  | .int i => some (some (.inl i))
  | .str x => some (some (.inr x))
  | _ => none
def vD : D → Option V
  | .none => some .non
  | .bool b => some (.bl b)
  | .int i => some (.int i)
  | .str x => some (.str x)
  | _ => none
def sameK : D → D → Bool
  | .none, .none => true
  | .int i, .int j => i == j
  | .str x, .str y => x == y
  | _, _ => false
def lookD : List (D × D) → D → Option D
  | [], _ => none
  | kv :: kvs, d => if sameK kv.1 d = true then some kv.2 else lookD kvs d
def hashN (w : World) : Option Key → Int
  | none => reduceHash 0xFCA86420
  | some k => keyH w k
def EntOk (w : World) (e : DictEntry) (kv : D × D) : Prop := ∃ k, keyO kv.1 = some k ∧ nkIs k e.key = true ∧ e.hash = hashN w k ∧ ∃ v, vD kv.2 = some v ∧ RelV v e.val
def EntsOk (w : World) : List DictEntry → List (D × D) → Prop
  | [], [] => True
  | e :: es, kv :: kvs => EntOk w e kv ∧ EntsOk w es kvs
  | _, _ => False
theorem sameK_iff {a b : D} {k j : Option Key} (ha : keyO a = some k) (hb : keyO b = some j) : sameK a b = true ↔ k = j := by
  cases a <;> cases b <;> simp [keyO] at ha hb <;> subst ha <;> subst hb <;> simp [sameK]
theorem ents_find {P : Program} {w : World} {dk : D} {k : Option Key} (hk : keyO dk = some k) : ∀ {es : List DictEntry} {kvs : List (D × D)}, EntsOk w es kvs → match lookD kvs dk with
    | some dv => ∃ e v, (es.find? fun e => nkIs k e.key) = some e ∧ vD dv = some v ∧ RelV v e.val
    | none => (es.find? fun e => nkIs k e.key) = none
  | [], [], _ => rfl
  | e :: es, kv :: kvs, h => by
    obtain ⟨⟨j, h1, h2, h3, v, h4, h5⟩, hr⟩ := h
    have ih := ents_find (P := P) hk hr
    unfold lookD
    have hi := sameK_iff h1 hk
    by_cases hs : sameK kv.1 dk = true
    · have ejk := hi.mp hs
      subst ejk
      rw [if_pos hs]
      exact ⟨e, v, by rw [List.find?_cons, h2], h4, h5⟩
    · rw [if_neg hs]
      have hn : nkIs k e.key = false := by
        refine Bool.eq_false_iff.mpr fun z => hs (hi.mpr ?_)
        exact (noneKind P w).inj e.key j k h2 z
      rw [List.find?_cons, hn]
      exact ih
  | [], _ :: _, h => h.elim
  | _ :: _, [], h => h.elim
theorem ents_all {w : World} : ∀ {es : List DictEntry} {kvs : List (D × D)}, EntsOk w es kvs → ∀ e ∈ es, ∃ k, nkIs k e.key = true ∧ e.hash = hashN w k
  | [], _, _, _, he => by simp at he
  | e :: es, kv :: kvs, h, x, hx => by
    obtain ⟨⟨j, h1, h2, h3, _⟩, hr⟩ := h
    rcases List.mem_cons.mp hx with rfl | hx
    · exact ⟨j, h2, h3⟩
    · exact ents_all hr x hx
  | _ :: _, [], h, _, _ => h.elim
structure KDat (K : PySem.W.Frag) (w : World) (mg : Str → Option Value) (x : Str) (kvs : List (D × D)) : Prop where
  ex : ∃ (d : Addr) (es : Array DictEntry) (n : Nat), mg x = some (.ref d) ∧ K.lookup d = some ⟨.type "dict", none, .dict es n, #[]⟩ ∧ (d == sysModules) = false ∧ EntsOk w es.toList kvs
theorem KDat.map {K : PySem.W.Frag} {P : Program} {w : World} {h : Heap} {d : Addr} {es : Array DictEntry} {n : Nat} {kvs : List (D × D)} (X : K.In h) (l : K.lookup d = some ⟨.type "dict", none, .dict es n, #[]⟩) (hk : EntsOk w es.toList kvs) : h.MapOf (noneKind P w) d (fun k => findBy (noneKind P w).is es k) :=
  ⟨_, es, n, X _ _ l, ⟨rfl, rfl, rfl⟩, rfl, fun e he => by
    obtain ⟨k, h1, h2⟩ := ents_all hk e (Array.mem_toList_iff.mpr he)
    exact ⟨k, h1, by rw [h2]; cases k <;> rfl⟩, fun _ => rfl⟩
def dAtK (kvs : List (D × D)) : D → Option W
  | .none => (lookD kvs .none).map fun v => .a (.d v)
  | .int i => (lookD kvs (.int i)).map fun v => .a (.d v)
  | .str x => (lookD kvs (.str x)).map fun v => .a (.d v)
  | _ => none
theorem find_toList (es : Array DictEntry) (p : DictEntry → Bool) : es.find? p = es.toList.find? p := by simp
theorem nk_of (P : Program) (w : World) {K : PySem.W.Frag} {F : Hp} {v : V} {u : Value} {d : D} {k : Option Key} (hk : keyO d = some k) (r : Rep K F v d) (ru : RelV v u) : nkIs k u = true := by
  cases d <;> simp [keyO] at hk <;> subst hk
  · cases r; cases ru; rfl
  · rw [r.intv] at ru
    obtain ⟨t, rfl⟩ := ru
    exact PySem.intKind_is P w _ t
  · rw [r.strv] at ru
    obtain ⟨t, rfl⟩ := ru
    exact PySem.strKind_is P w _ t
theorem rep_vD {K : PySem.W.Frag} {F : Hp} {d : D} {v : V} (h : vD d = some v) : Rep K F v d := by
  cases d <;> simp [vD] at h <;> subst h
  · exact .non
  · exact .bl _
  · exact .int _
  · exact .str _
section
variable {X : Cx} {Z : WX} {a : Expr} {fa : Fe} {p pos : Pos}
theorem ve_atK {x : Str} {kvs : List (D × D)} (M : KDat X.K X.w X.mg x kvs) (ha : VE X Z a fa) (hg : Gl X x := by rfl) (hd : (x == ("__debug__" : Str)) = false := by decide) (hs : PlainIx a := by intro _ _; rfl) : VE X Z (.Subscript (.Name x p) a pos) (fUn (onD1 (dAtK kvs)) fa) := by
  obtain ⟨d, es, n, e1, e2, e3, e4⟩ := M.ex
  have hi : IxR X (fun z y H Q => ∃ dk k dv v, keyO dk = some k ∧ Rep X.K H y dk ∧ z = .ref d ∧ lookD kvs dk = some dv ∧ vD dv = some v ∧ Q v H) := by
    intro value slice pins s σ H z y v u Q I rz ry h hs
    obtain ⟨dk, k, dv, v0, hk, rk, rfl, l, hv, q⟩ := h
    obtain rfl : v = Value.ref d := rz
    have hf := ents_find (P := X.prog) hk e4
    rw [l] at hf
    obtain ⟨e, v1, f1, f2, f3⟩ := hf
    rw [hv] at f2
    cases f2
    have hm := KDat.map (P := X.prog) (w := X.w) I.kIn e2 e4
    have e6 : findBy (noneKind X.prog X.w).is es k = some e.val := by
      show (es.find? fun e => nkIs k e.key).map (·.val) = _
      rw [find_toList, f1]
      rfl
    exact tail_any hm.typeIs slot_dict_getitem.lookup (wpAny_getItem_of (show (noneKind X.prog X.w).is k u = true from nk_of X.prog X.w hk rk ry) hm e6 ⟨v0, H, I.tok _, f3, q⟩) hs
  refine (pe_ix hi (pe_glob (v := .ref d) hg e1 rfl hd) ha hs).imp fun σ H Q h => ?_
  refine tUn_of (r := fun y H Q => ∃ dk k dv v, keyO dk = some k ∧ Rep X.K H y dk ∧ V.ref d = .ref d ∧ lookD kvs dk = some dv ∧ vD dv = some v ∧ Q v H) (OpS1.onD fun κ F ρ S σ H v x w Q t r e p => ?_) h
  have key : ∀ (k : Option Key), keyO x = some k → (lookD kvs x).map (fun v => W.a (A.d v)) = some w → ∃ dk k dv v0, keyO dk = some k ∧ Rep X.K H v dk ∧ V.ref d = .ref d ∧ lookD kvs dk = some dv ∧ vD dv = some v0 ∧ Q v0 H := by
    intro k hk hw
    cases q : lookD kvs x with
    | none => rw [q] at hw; cases hw
    | some dv =>
      rw [q] at hw
      cases hw
      have hf := ents_find (P := X.prog) hk e4
      rw [q] at hf
      obtain ⟨_, v1, _, f2, _⟩ := hf
      exact ⟨x, k, dv, v1, hk, Rep.up t.fh x v r, rfl, q, f2, p.a t (show Rep X.K F v1 dv from rep_vD f2)⟩
  cases x with
  | none => exact key _ rfl e
  | int i => exact key _ rfl e
  | str z => exact key _ rfl e
  | _ => cases e
end
theorem nk_lit {i : Int} {t : Tok} (h : (i == i) = true) : nkIs (some (.inl i)) (.int i t) = true := by
  show Value.isInt i (.int i t) = true
  unfold Value.isInt
  simp
theorem kdat_at {w : World} {K : PySem.W.Frag} {h : Heap} {mg : Str → Option Value} (X : K.In h) (G : h.Ns mainGlobals mg) {x : Str} {d : Addr} {es : Array DictEntry} {n : Nat} {kvs : List (D × D)} (a : PySem.W.nsIn K mainGlobals x = some (some (.ref d)))
    (l : K.lookup d = some ⟨.type "dict", none, .dict es n, #[]⟩) (s : (d == sysModules) = false) (he : EntsOk w es.toList kvs) : KDat K w mg x kvs := ⟨d, es, n, PySem.W.mg_of X G a, l, s, he⟩
theorem hash_non (w : World) : (4238894112 : Int) = hashN w none := by
  show (4238894112 : Int) = reduceHash 0xFCA86420
  decide
theorem hash_int (w : World) (i : Int) (h : i = hashInt i) : i = hashN w (some (.inl i)) := h
section
variable {X : Cx} {Z : WX} {a : Expr} {fa : Fe} {p pos : Pos}
end
end PD

namespace PD
open PySem PySem.Spec PyProof.Rows L2
section
variable {X : Cx} {Z : WX} {a b : Expr} {fa fb : Fe} {p pos : Pos} {rest : List Expr}
end
end PD

namespace PD
open PySem PySem.Spec PyProof.Rows L2
def sAppPop (i k : Nat) (is : List Nat) (fi : Fe) : Fs := fun ρ S => match fi (ev (frzE is ρ)) S with
  | .ok (.a (.d (.int n))) S1 => if flatCs S1 = true then (match ρ[i]?, ρ[k]? with
    | some (some (.own ws)), some (some (.own us)) => match us[n.toNat]? with
      | some (.a (.d d)) => if i ≠ k ∧ 0 ≤ n ∧ ws.length < 1000000 ∧ us.length < 1000000 then .nx ((ρ.set k (some (.own (us.eraseIdx n.toNat)))).set i (some (.own (ws ++ [.a (.d d)])))) S1 else .stuck
      | _ => .stuck
    | _, _ => .stuck) else .stuck
  | _ => .stuck
theorem RepWs.erase {K : PySem.W.Frag} {κ : Kp} {F H : Hp} {x : A} : ∀ {us : List W} {vs : List V} {L : List Addr} {j : Nat}, RepWs K κ F H us vs L → us[j]? = some (.a x) → ∃ y, vs[j]? = some y ∧ RepA K κ F y x ∧ RepWs K κ F H (us.eraseIdx j) (vs.eraseIdx j) L
  | [], _, _, _, _, e => by simp at e
  | u :: us, _, _, 0, h, e => by
    obtain ⟨v, r, L1, L2, rfl, rfl, h1, h2⟩ := h
    cases e
    obtain ⟨rfl, h3⟩ := h1
    exact ⟨v, rfl, h3, by simpa using h2⟩
  | u :: us, _, _, j + 1, h, e => by
    obtain ⟨v, r, L1, L2, rfl, rfl, h1, h2⟩ := h
    obtain ⟨y, e1, e2, e3⟩ := RepWs.erase (j := j) h2 (by simpa using e)
    exact ⟨y, by simpa using e1, e2, ⟨v, r.eraseIdx j, L1, L2, rfl, rfl, h1, e3⟩⟩
section
variable {X : Cx} {Z : WX} {pos apos cpos apos2 cpos2 : Pos} {e : Expr} {f : Fe}
theorem vs_appPop (i k : Nat) (is : List Nat) {x y : Str} {px py : Pos} (he : VE X Z e f) (hN : X.N[i]? = some x := by rfl) (hv : Vis X.env.scope x := by first | exact Or.inl rfl | exact Or.inr (Or.inl rfl) | exact Or.inr (Or.inr rfl)) (hd : (x == ("__debug__" : Str)) = false := by decide)
    (hcd : (x == ("__classdict__" : Str)) = false := by decide) (hNy : X.N[k]? = some y := by rfl) (hvy : Vis X.env.scope y := by first | exact Or.inl rfl | exact Or.inr (Or.inl rfl) | exact Or.inr (Or.inr rfl)) (hdy : (y == ("__debug__" : Str)) = false := by decide)
    (hcdy : (y == ("__classdict__" : Str)) = false := by decide)
    (hbase2 : attributeBase (.Name y py) "pop" X.env (eval (.Name y py) X.env) = eval (.Name y py) X.env := by rfl)
    (hfew2 : ((backTo cpos2 (starEach [e] X.env)).all (fun x => !x.1) && (backToKw cpos2 (keywordEach [] X.env)).all (fun x => x.1.isSome) && decide ([e].length + ([] : List Keyword).length + (if ([] : List Keyword).isEmpty then 0 else 1) < 30)) = true := by rfl)
    (hline2 : (apos2.endLine == cpos2.line) = true := by rfl) (hs2 : starEach [e] X.env = (false, eval e X.env) :: starEach [] X.env := by rfl) (hplain2 : (backTo cpos2 (starEach [] X.env)).any (·.1) = false := by rfl)
    (hbase : attributeBase (.Name x px) "append" X.env (eval (.Name x px) X.env) = eval (.Name x px) X.env := by rfl)
    (hfew : ((backTo cpos (starEach [.Call (.Attribute (.Name y py) "pop" apos2) [e] [] cpos2] X.env)).all (fun x => !x.1) && (backToKw cpos (keywordEach [] X.env)).all (fun x => x.1.isSome) && decide ([Expr.Call (.Attribute (.Name y py) "pop" apos2) [e] [] cpos2].length + ([] : List Keyword).length + (if ([] : List Keyword).isEmpty then 0 else 1) < 30)) = true := by rfl)
    (hline : (apos.endLine == cpos.line) = true := by rfl) (hs : starEach [.Call (.Attribute (.Name y py) "pop" apos2) [e] [] cpos2] X.env = (false, eval (.Call (.Attribute (.Name y py) "pop" apos2) [e] [] cpos2) X.env) :: starEach [] X.env := by rfl) (hplain : (backTo cpos (starEach [] X.env)).any (·.1) = false := by rfl)
    (hsw : swapsWith (.Call (.Attribute (.Name x px) "append" apos) [.Call (.Attribute (.Name y py) "pop" apos2) [e] [] cpos2] [] cpos) none pos.line X.env = pure false := by rfl) :
    VS X Z (.Expr (.Call (.Attribute (.Name x px) "append" apos) [.Call (.Attribute (.Name y py) "pop" apos2) [e] [] cpos2] [] cpos) pos) (sAppPop i k is f) :=
  (ps_expr (pe_bm PySem.F.plainAttrs_list PySem.F.slot_list_append PySem.F.type_list_append mt_append (pe_var hN hv hd hcd)
    (pa_cons (pe_bm PySem.F.plainAttrs_list PySem.F.slot_list_pop PySem.F.type_list_pop mt_popAt (pe_var hNy hvy hdy hcdy) (va_cons he va_nil hs2) hbase2 hfew2 hline2 hs2 hplain2) pa_nil hs) hbase hfew hline hs hplain) hsw).imp fun Dn σ H h => by
    obtain ⟨κ, F0, H0, F, ρ, S, t, p⟩ := h
    unfold sAppPop at p
    cases qe : f (ev (frzE is ρ)) S with
    | stuck => rw [qe] at p; exact p.elim
    | exc n S1 => rw [qe] at p; exact p.elim
    | ok w0 S1 =>
      rw [qe] at p
      match w0, p, qe with
      | .a (.d (.int n)), p, qe =>
        simp only at p
        split at p
        · rename_i hf
          cases q : ρ[i]? with
          | none => rw [q] at p; exact p.elim
          | some ow =>
            cases qk : ρ[k]? with
            | none => rw [q, qk] at p; exact (show False by match ow, p with | some (.own _), p => exact p | some (.a _), p => exact p | none, p => exact p).elim
            | some ok =>
              rw [q, qk] at p
              match ow, ok, p, q, qk with
              | some (.own ws), some (.own us), p, q, qk =>
                simp only at p
                cases qu : us[n.toNat]? with
                | none => rw [qu] at p; exact p.elim
                | some wu =>
                  rw [qu] at p
                  match wu, p, qu with
                  | .a (.d d), p, qu =>
                    simp only at p
                    split at p
                    · rename_i hc
                      obtain ⟨hik, h0, hlw, hlu⟩ := hc
                      obtain ⟨fp, sl⟩ := t.sl
                      obtain ⟨v, hσ, a, vs0, L0, rfl, hd0, hL0, rr0⟩ := sl.rep i _ q
                      obtain ⟨v2, hσ2, b, vs20, L20, rfl, hd20, hL20, rr20⟩ := sl.rep k _ qk
                      obtain ⟨F1, s1, t1⟩ := t.frzE (is := is)
                      refine ⟨.ref a, hσ, Or.inl ⟨rfl, vs0, .of hd0⟩, .ref b, hσ2, Or.inl ⟨rfl, vs20, .of hd20⟩, ?_⟩
                      show tv X.K X.mg Z f σ H fun y H2 => rPopAt (.ref b) [y] H2 fun z H3 => rAppend (.ref a) [z] H3 fun _ H4 => Dn.nx σ H4
                      refine ⟨κ, F1, _, S, t1.at_, ?_⟩
                      rw [qe]
                      intro vi H' F' L' nn cc rr nd nw
                      have t' := t.borrow s1 nn cc hf
                      obtain ⟨fp', sl'⟩ := t'.sl
                      obtain ⟨v', hσ', b', vs2, L2, e1, hd2, hL2, rr2⟩ := sl'.rep k _ qk
                      rw [hσ2] at hσ'
                      cases hσ'
                      cases e1
                      obtain ⟨y, hy, ry, re⟩ := rr2.erase qu
                      have hvi : vi = .int n := Rep.intv rr.2
                      subst hvi
                      have hln : n.toNat < us.length := (List.getElem?_eq_some_iff.mp qu).1
                      have hl2 := RepWs.len rr2
                      have fb : b ∈ fp' k := by rw [hL2]; exact List.mem_cons_self
                      have bL : b ∉ L2 := by have := sl'.nd k; rw [hL2] at this; exact (List.nodup_cons.mp this).1
                      have t2 := t'.wr sl' qk hσ2 hd2 fb (ws' := us.eraseIdx n.toNat) (vs' := vs2.eraseIdx n.toNat) (L' := L2) (RepWs.up (Same.refl _) _ _ L2 (fun c hc o e => by rw [upd_ne (show c ≠ b from fun z => bL (z ▸ hc))]; exact e) re) (by have := sl'.nd k; rw [hL2] at this; exact this) (fun c hc => sl'.nw k c (by rw [hL2]; exact List.mem_cons_of_mem _ hc)) (fun j hj c hc z => sl'.dis j k hj c hc (by rw [hL2]; exact List.mem_cons_of_mem _ z))
                      refine ⟨b, vs2, n, n.toNat, y, rfl, rfl, hd2, by omega, by omega, ?_, hy, ?_⟩
                      · unfold seqIndex?
                        have hlt : n < (vs2.length : Int) := by omega
                        have hn0 : ¬ n < 0 := by omega
                        simp [hn0, h0, hlt]
                      · obtain ⟨fp3, sl3⟩ := t2.sl
                        have q3 : (ρ.set k (some (.own (us.eraseIdx n.toNat))))[i]? = some (some (.own ws)) := by rw [List.getElem?_set_ne (Ne.symm hik)]; exact q
                        obtain ⟨v3, hσ3, a3, vs3, L3, e3, hd3, hL3, rr3⟩ := sl3.rep i _ q3
                        rw [hσ] at hσ3
                        cases hσ3
                        cases e3
                        have fa : a ∈ fp3 i := by rw [hL3]; exact List.mem_cons_self
                        have aL : a ∉ L3 := by have := sl3.nd i; rw [hL3] at this; exact (List.nodup_cons.mp this).1
                        refine ⟨a, vs3, y, rfl, rfl, hd3, by rw [RepWs.len rr3, sizeLine_eq]; omega, ?_⟩
                        refine p σ _ F (Same.refl _) (t2.wr sl3 q3 hσ hd3 fa (L' := L3) ?_ ?_ ?_ ?_)
                        · have r1 := RepWs.up (Same.refl F) ws vs3 L3 (H' := upd (upd H' b (.lst (vs2.eraseIdx n.toNat))) a (.lst (vs3 ++ [y]))) (fun c hc o e => by rw [upd_ne (show c ≠ a from fun z => aL (z ▸ hc))]; exact e) rr3
                          have r2 := RepWs.app r1 (show RepWs X.K κ F (upd (upd H' b (.lst (vs2.eraseIdx n.toNat))) a (.lst (vs3 ++ [y]))) [.a (.d d)] [y] [] from ⟨y, [], [], [], rfl, rfl, ⟨rfl, ry⟩, rfl, rfl⟩)
                          simpa using r2
                        · have := sl3.nd i; rw [hL3] at this; exact this
                        · exact fun c hc => sl3.nw i c (by rw [hL3]; exact List.mem_cons_of_mem _ hc)
                        · exact fun j hj c hc z => sl3.dis j i hj c hc (by rw [hL3]; exact List.mem_cons_of_mem _ z)
                    · exact p.elim
                  | .a (.c _), p, _ => exact p.elim
                  | .a (.s _), p, _ => exact p.elim
                  | .a (.e _), p, _ => exact p.elim
                  | .own _, p, _ => exact p.elim
              | some (.own _), some (.a _), p, _, _ => exact p.elim
              | some (.own _), none, p, _, _ => exact p.elim
              | some (.a _), _, p, _, _ => exact p.elim
              | none, _, p, _, _ => exact p.elim
        · exact p.elim
      | .a (.d .none), p, _ => exact p.elim
      | .a (.d (.bool _)), p, _ => exact p.elim
      | .a (.d (.str _)), p, _ => exact p.elim
      | .a (.d (.list _)), p, _ => exact p.elim
      | .a (.d (.tuple _)), p, _ => exact p.elim
      | .a (.d (.dict _)), p, _ => exact p.elim
      | .a (.c _), p, _ => exact p.elim
      | .a (.s _), p, _ => exact p.elim
      | .a (.e _), p, _ => exact p.elim
      | .own _, p, _ => exact p.elim
end
def dLisRg : D → Option W
  | .int n => if n ≤ 1000000 ∧ -1000000 ≤ n then some (ownD (rngD 0 n.toNat)) else none
  | _ => none
theorem rep_rg {K : PySem.W.Frag} {F : Hp} (f : Nat → Int) : ∀ l : List Nat, RepAll K F (l.map fun i => V.int (f i)) (l.map fun i => PyData.int (f i))
  | [] => .nil
  | i :: l => .cons (.int _) (rep_rg f l)
section
variable {X : Cx} {Z : WX} {p p2 q pos : Pos} {e : Expr} {f : Fe}
theorem ve_listRg (hg : Gl X "list") (hm : X.mg "list" = none) (hg2 : Gl X "range") (hm2 : X.mg "range" = none) (ha : VE X Z e f) (hc : X.calm = true := by rfl) (na2 : starEach [e] X.env = (false, eval e X.env) :: starEach [] X.env := by rfl)
    (na : starEach [.Call (.Name "range" p2) [e] [] q] X.env = (false, eval (.Call (.Name "range" p2) [e] [] q) X.env) :: starEach [] X.env := by rfl) : VE X Z (.Call (.Name "list" p) [.Call (.Name "range" p2) [e] [] q] [] pos) (fUn (onD1 dLisRg) f) :=
  (pe_listRg hc hg hm (prg_1 hg2 hm2 ha na2) na).imp fun σ H Q h => by
    obtain ⟨κ, F, ρ, S, t, po⟩ := h
    refine at_bind t po fun v H1 F1 S1 x n1 t1 r1 p1 => ?_
    cases x with
    | d x =>
      cases x with
      | int n =>
        unfold onD1 dLisRg at p1
        simp only at p1
        by_cases hn : n ≤ 1000000 ∧ -1000000 ≤ n
        · simp only [if_pos hn] at p1
          rw [Rep.intv r1]
          refine ⟨n, rfl, ⟨by omega, by omega, by omega, by omega, by omega⟩, fun q hq => p1.lst t1 ?_ hq⟩
          have h0 : (n - 0).toNat = n.toNat := by omega
          unfold rgV rngD
          rw [h0]
          exact rep_rg _ _
        · simp only [if_neg hn] at p1
          exact p1.elim
      | _ => exact p1.elim
    | _ => exact p1.elim
end
end PD

namespace PD
open PySem PySem.Spec PyProof.Rows L2
theorem valsGet : ∀ {xs : List V} {us : List Value} {i : Nat} {v : Value}, Vals xs us → us[i]? = some v → ∃ x, xs[i]? = some x ∧ RelV x v
  | _, _, _, _, .nil, h => by simp at h
  | _, _, 0, _, .cons r _, h => by simp at h; subst h; exact ⟨_, rfl, r⟩
  | _, _, i + 1, v, .cons _ t, h => by
    obtain ⟨x, h1, h2⟩ := valsGet (i := i) (v := v) t (by simpa using h)
    exact ⟨x, by simpa using h1, h2⟩
section
variable {X : Cx} {Z : WX} {e a b c : Expr} {f fa fb fc : Fe} {p pos : Pos}
end
end PD

namespace PD
open PySem PySem.Spec PyProof.Rows L2
section
variable {X : Cx} {Z : WX} {e : Expr} {f : Fe} {pos p : Pos}
end
end PD

namespace PD
open PySem PySem.Spec PyProof.Rows L2
section
variable {X : Cx} {Z : WX}
end
section
variable {prog : Program} {w : World} {A : Around} {E : Value → Shared → Prop} {s : Shared}
end
end PD

namespace PD
open PySem PySem.Spec PyProof.Rows L2
theorem kv_at {n : Nat} (h1 : 1 ≤ n) (h4 : n ≤ 4) : List.lookup ((2 ^ n : Nat) : Int) [((2 : Int), (1 : Int)), (4, 2), (8, 3), (16, 4)] = some (n : Int) := by
  have : n = 1 ∨ n = 2 ∨ n = 3 ∨ n = 4 := by omega
  rcases this with rfl | rfl | rfl | rfl <;> rfl
structure Tog (n : Nat) (fs : List Fn) : Prop where
  n1 : 1 ≤ n
  n3 : n ≤ 3
  l2 : 2 ≤ fs.length
  l3 : fs.length ≤ 3
  ln : ∀ f ∈ fs, f.length = 2 ^ n
theorem Tog.first {n : Nat} {fs : List Fn} (h : Tog n fs) : ∃ f0, fs[0]? = some f0 ∧ f0.length = 2 ^ n := by
  have := h.l2
  have h0 : 0 < fs.length := by omega
  exact ⟨fs[0], List.getElem?_eq_getElem h0, h.ln _ (List.getElem_mem h0)⟩
def eN (l : List Nat) : D := .list (l.map fun (i : Nat) => PyData.int i)
theorem okN (l : List Nat) (k : Nat) : okD (k + 1) (eN l) := okD.lst fun i _ => okD.int k _
theorem ne_nil (l : List Nat) (S : Cs) : onD dNe (.d (eN l)) (.d (.list [])) S = .ok (bD (!l.isEmpty)) S := by
  rw [o_ne _ (eqOk_sh (okN l 0).sh (show SeqAt.shaped (.list []) = true from by decide))]
  cases l <;> rfl
mutual
def sameOk : Nat → D → Prop
  | 0, _ => False
  | n + 1, .list ds => ds.length ≤ 100000 ∧ sameOks n ds
  | n + 1, .tuple ds => ds.length ≤ 100000 ∧ sameOks n ds
  | _ + 1, .dict _ => False
  | _ + 1, _ => True
def sameOks : Nat → List D → Prop
  | _, [] => True
  | n, d :: ds => sameOk n d ∧ sameOks n ds
end
theorem sameOks_all : ∀ {n : Nat} {ds : List D}, (∀ d ∈ ds, sameOk n d) → sameOks n ds
  | _, [], _ => by unfold sameOks; trivial
  | n, d :: ds, h => by
    unfold sameOks
    exact ⟨h d List.mem_cons_self, sameOks_all fun e he => h e (List.mem_cons_of_mem _ he)⟩
theorem sameOks_mem : ∀ {n : Nat} {ds : List D}, sameOks n ds → ∀ d ∈ ds, sameOk n d
  | _, [], _, _, h => by simp at h
  | n, d :: ds, h, e, he => by
    unfold sameOks at h
    rcases List.mem_cons.mp he with rfl | he
    · exact h.1
    · exact sameOks_mem h.2 e he
theorem eqv_self : ∀ (d : D), flatD d = true → PyData.eqv d d = true
  | .none, _ => rfl
  | .bool b, _ => by simp [PyData.eqv]
  | .int i, _ => by simp [PyData.eqv]
  | .str i, _ => by simp [PyData.eqv]
theorem same_bool (b : Bool) (S : Cs) : onD dEq (.d (.bool b)) (.d (.bool b)) S = .ok (bD true) S := by
  rw [o_eq _ (eqOk_flat rfl rfl), eqv_self _ rfl]
theorem ne_bool (b : Bool) (S : Cs) : onD dNe (.d (.bool b)) (.d (.bool b)) S = .ok (bD false) S := by
  rw [o_ne _ (eqOk_flat rfl rfl), eqv_self _ rfl]; rfl
theorem ne_int (b : Int) (S : Cs) : onD dNe (.d (.int b)) (.d (.int b)) S = .ok (bD false) S := by
  rw [o_ne _ (eqOk_flat rfl rfl), eqv_self _ rfl]; rfl
def St (S : Cs) : Prop := ∃ (z : Int) (b : Bool), S = [[.int z, .bool b]] ∧ 0 ≤ z ∧ (b = false → z < 2147483647)
theorem St.flat {S : Cs} (h : St S) : flatCs S = true := by
  obtain ⟨z, b, rfl, _⟩ := h
  rfl
theorem pick {l : List Int} {r : Nat} (h : r < l.length) (S : Cs) : dIx (.d (.list (l.map PyData.int))) (.d (.int r)) S = .ok (iD l[r]) S := o_ix_lst PyData.int (List.getElem?_eq_getElem h) S
def Fl.nxt (r : Fl) (k : Ev → Cs → Fl) : Fl := match r with
  | .nx ρ S => k ρ S
  | .rt w S => .rt w S
  | .exc n S => .exc n S
  | .stuck => .stuck
def Fl.fin (r : Fl) : R := match r with
  | .nx _ S => .ok nD S
  | .rt w S => .ok w S
  | .exc n S => .exc n S
  | .stuck => .stuck
def setS (r : R) (i : Nat) (ρ : Ev) : Fl := match r with
  | .ok w S => .nx (ρ.set i (some w)) S
  | .exc n S => .exc n S
  | .stuck => .stuck
def retS (r : R) : Fl := match r with
  | .ok w S => .rt w S
  | .exc n S => .exc n S
  | .stuck => .stuck
def expS (r : R) (ρ : Ev) : Fl := match r with
  | .ok _ S => if flatCs S = true then .nx ρ S else .stuck
  | .exc n S => .exc n S
  | .stuck => .stuck
def ifS (r : R) (g1 g2 : Fs) (ρ : Ev) : Fl := match r with
  | .ok (.a (.d (.bool b))) S => if flatCs S = true then (if b = true then g1 ρ S else g2 ρ S) else .stuck
  | .exc n S => .exc n S
  | _ => .stuck
def forS (r : SR) (g : Gs) (body : Fs) (ρ : Ev) : Fl := match r with
  | .ok items S => forL g body (dom ρ) items ρ S
  | .exc n S => .exc n S
  | .stuck => .stuck
def appS (r : R) (i : Nat) (ρ : Ev) : Fl := match ρ[i]? with
  | some (some (.own ws)) => match r with
    | .ok w S => if ws.length < 1000000 then .nx (ρ.set i (some (.own (ws ++ [w])))) S else .stuck
    | .exc n S => .exc n S
    | .stuck => .stuck
  | _ => .stuck
def extS (r : R) (i : Nat) (ρ : Ev) : Fl := match ρ[i]? with
  | some (some (.own ws)) => match r with
    | .ok (.own us) S => if ws.length + us.length < 1000000 then .nx (ρ.set i (some (.own (ws ++ us)))) S else .stuck
    | .exc n S => .exc n S
    | _ => .stuck
  | _ => .stuck
def setTS (r : R) (ks : List Nat) (ρ : Ev) : Fl := match r with
  | .ok (.a (.d (.tuple ds))) S => if ds.length = ks.length then .nx (setW ks ds ρ) S else .stuck
  | .exc n S => .exc n S
  | _ => .stuck
def Fl.cons (o : Option W) (r : Fl) : Fl := match r with
  | .nx ρ S => .nx (o :: ρ) S
  | .rt w S => .rt w S
  | .exc n S => .exc n S
  | .stuck => .stuck
def Fl.pop (n : Nat) (r : Fl) : Fl := match r with
  | .nx ρ S => .nx (unC n ρ) S.dropLast
  | .rt (.a (.d d)) S => .rt (.a (.d d)) S.dropLast
  | .exc n S => .exc n S.dropLast
  | _ => .stuck
def cellS (r : R) (i : Nat) (g : Fs) (ρ : Ev) : Fl := match r with
  | .ok (.own ws) S1 => match flatWs ws with
    | some ds => Fl.pop S1.length (g (ρ.set i (some (.a (.c S1.length)))) (S1 ++ [ds]))
    | none => .stuck
  | .exc n S1 => .exc n S1
  | _ => .stuck
section
variable {g1 g2 : Fs} {f fa fb fc : Fe} {ρ : Ev} {S : Cs} {i : Nat} {is : List Nat}
theorem p_skip : sSkip ρ S = .nx ρ S := rfl
theorem p_seq : sSeq g1 g2 ρ S = (g1 ρ S).nxt g2 := by
  unfold sSeq Fl.nxt
  cases g1 ρ S <;> rfl
theorem p_set : sSet i is f ρ S = setS (f (ev (frzE is ρ)) S) i (frzE is ρ) := rfl
theorem p_ret : sRet is f ρ S = retS (f (ev (frzE is ρ)) S) := rfl
theorem p_retN : sRetN ρ S = .rt nD S := rfl
theorem p_retV_s {o : Option W} : sRetV (i + 1) (o :: ρ) S = sRetV i ρ S := rfl
theorem p_retV_0 {w : W} : sRetV 0 (some w :: ρ) S = .rt w S := rfl
theorem p_exp : sExp is f ρ S = expS (f (ev (frzE is ρ)) S) ρ := rfl
theorem p_if : sIf is fc g1 g2 ρ S = ifS (fc (ev (frzE is ρ)) S) g1 g2 ρ := by
  unfold sIf ifS
  rfl
theorem p_raise {n : Str} : sRaise n ρ S = .exc n S := rfl
theorem p_app : sApp i is f ρ S = appS (f (ev (frzE is ρ)) S) i (frzE is ρ) := rfl
theorem p_ext : sExt i is f ρ S = extS (f (ev (frzE is ρ)) S) i (frzE is ρ) := rfl
theorem p_setT {ks : List Nat} : sSetT ks is f ρ S = setTS (f (ev (frzE is ρ)) S) ks (frzE is ρ) := rfl
theorem p_for {src : Fi} {g : Gs} : sFor is src g g1 ρ S = forS (src (ev (frzE is ρ)) S) g g1 (frzE is ρ) := rfl
theorem p_cell' : sCell i f g1 ρ S = if noOwn ρ = true then cellS (f (ev ρ) S) i g1 ρ else .stuck := by
  unfold sCell cellS
  rfl
theorem nxt_nx {k : Fs} : (Fl.nx ρ S).nxt k = k ρ S := rfl
theorem nxt_rt {k : Fs} {w : W} : (Fl.rt w S).nxt k = .rt w S := rfl
theorem nxt_exc {k : Fs} {n : Str} : (Fl.exc n S).nxt k = .exc n S := rfl
theorem fin_nx : (Fl.nx ρ S).fin = .ok nD S := rfl
theorem fin_rt {w : W} : (Fl.rt w S).fin = .ok w S := rfl
theorem fin_exc {n : Str} : (Fl.exc n S).fin = .exc n S := rfl
theorem p_body {n : Nat} {g : Fs} {xs : List A} : bodySem n g xs S = (g (startE n xs) S).fin := by
  unfold bodySem Fl.fin
  cases g (startE n xs) S <;> rfl
theorem set_ok {w : W} : setS (.ok w S) i ρ = .nx (ρ.set i (some w)) S := rfl
theorem set_exc {n : Str} : setS (.exc n S) i ρ = .exc n S := rfl
theorem ret_ok {w : W} : retS (.ok w S) = .rt w S := rfl
theorem ret_exc {n : Str} : retS (.exc n S) = .exc n S := rfl
theorem exp_ok {w : W} : expS (.ok w S) ρ = if flatCs S = true then .nx ρ S else .stuck := rfl
theorem exp_exc {n : Str} : expS (.exc n S) ρ = .exc n S := rfl
theorem if_tt : ifS (.ok (bD true) S) g1 g2 ρ = if flatCs S = true then g1 ρ S else .stuck := rfl
theorem if_ff : ifS (.ok (bD false) S) g1 g2 ρ = if flatCs S = true then g2 ρ S else .stuck := rfl
theorem if_ok {b : Bool} : ifS (.ok (bD b) S) g1 g2 ρ = if flatCs S = true then (if b = true then g1 ρ S else g2 ρ S) else .stuck := rfl
theorem if_exc {n : Str} : ifS (.exc n S) g1 g2 ρ = .exc n S := rfl
theorem for_ok {items : List D} {g : Gs} : forS (.ok items S) g g1 ρ = forL g g1 (dom ρ) items ρ S := rfl
theorem for_exc {n : Str} {g : Gs} : forS (.exc n S) g g1 ρ = .exc n S := rfl
theorem app_s {r : R} {o : Option W} : appS r (i + 1) (o :: ρ) = Fl.cons o (appS r i ρ) := by
  unfold appS
  rw [List.getElem?_cons_succ]
  cases ρ[i]? with
  | none => rfl
  | some q => cases q with
    | none => rfl
    | some w => cases w with
      | a x => rfl
      | own ws => cases r with
        | ok w S =>
          by_cases h : ws.length < 1000000
          · simp only [h, if_true]; rfl
          · simp only [h, if_false]; rfl
        | _ => rfl
theorem app_0 {a : List D} {d : D} : appS (.ok (.a (.d d)) S) 0 (some (ownD a) :: ρ) = if a.length < 1000000 then .nx (some (ownD (a ++ [d])) :: ρ) S else .stuck := by
  unfold appS
  simp [ownD]
theorem app_0o {a ds : List D} : appS (.ok (ownD ds) S) 0 (some (ownD a) :: ρ) = if a.length < 1000000 then .nx (some (.own ((a.map fun d => .a (.d d)) ++ [ownD ds])) :: ρ) S else .stuck := by
  unfold appS
  simp [ownD]
theorem ext_s {r : R} {o : Option W} : extS r (i + 1) (o :: ρ) = Fl.cons o (extS r i ρ) := by
  unfold extS
  rw [List.getElem?_cons_succ]
  cases ρ[i]? with
  | none => rfl
  | some q => cases q with
    | none => rfl
    | some w => cases w with
      | a x => rfl
      | own ws => cases r with
        | ok w S => cases w with
          | a x => rfl
          | own us =>
            by_cases h : ws.length + us.length < 1000000
            · simp only [h, if_true]; rfl
            · simp only [h, if_false]; rfl
        | _ => rfl
theorem ext_0 {a b : List D} : extS (.ok (ownD b) S) 0 (some (ownD a) :: ρ) = if a.length + b.length < 1000000 then .nx (some (ownD (a ++ b)) :: ρ) S else .stuck := by
  unfold extS
  simp [ownD]
theorem cons_nx {o : Option W} : Fl.cons o (.nx ρ S) = .nx (o :: ρ) S := rfl
theorem cons_exc {o : Option W} {n : Str} : Fl.cons o (.exc n S) = .exc n S := rfl
theorem setT_ok {ds : List D} {ks : List Nat} : setTS (.ok (.a (.d (.tuple ds))) S) ks ρ = if ds.length = ks.length then .nx (setW ks ds ρ) S else .stuck := rfl
theorem cell_ok {ds : List D} : cellS (.ok (ownD ds) S) i g1 ρ = Fl.pop S.length (g1 (ρ.set i (some (.a (.c S.length)))) (S ++ [ds])) := by
  unfold cellS ownD
  simp only [flatWs_map]
theorem pop_nx {n : Nat} : Fl.pop n (.nx ρ S) = .nx (unC n ρ) S.dropLast := rfl
theorem pop_rt {n : Nat} {d : D} : Fl.pop n (.rt (.a (.d d)) S) = .rt (.a (.d d)) S.dropLast := rfl
theorem unC_nil {n : Nat} : unC n [] = [] := rfl
theorem unC_n {n : Nat} : unC n (none :: ρ) = none :: unC n ρ := rfl
theorem unC_d {n : Nat} {d : D} : unC n (some (.a (.d d)) :: ρ) = some (.a (.d d)) :: unC n ρ := rfl
theorem unC_st {n : Nat} {ns : List Int} : unC n (some (.a (.s ns)) :: ρ) = some (.a (.s ns)) :: unC n ρ := rfl
theorem no_nil : noOwn [] = true := rfl
theorem no_n : noOwn (none :: ρ) = noOwn ρ := rfl
theorem no_a {x : A} : noOwn (some (.a x) :: ρ) = noOwn ρ := rfl
theorem mask_nil {dm : List Bool} : mask dm [] = [] := by cases dm <;> rfl
theorem mask_t {dm : List Bool} {o : Option W} : mask (true :: dm) (o :: ρ) = o :: mask dm ρ := rfl
theorem mask_f {dm : List Bool} {o : Option W} : mask (false :: dm) (o :: ρ) = none :: mask dm ρ := rfl
theorem dom_nil : dom [] = [] := rfl
theorem dom_s {w : W} : dom (some w :: ρ) = true :: dom ρ := rfl
theorem dom_n : dom (none :: ρ) = false :: dom ρ := rfl
theorem start_0 {n : Nat} : startE n [] = List.replicate n none := by simp [startE]
theorem start_s {n : Nat} {x : A} {xs : List A} : startE (n + 1) (x :: xs) = some (.a x) :: startE n xs := by
  unfold startE
  simp
theorem setW_nil {ds : List D} : setW [] ds ρ = ρ := by cases ds <;> rfl
theorem setW_cons {k : Nat} {ks : List Nat} {d : D} {ds : List D} : setW (k :: ks) (d :: ds) ρ = setW ks ds (ρ.set k (some (.a (.d d)))) := rfl
theorem ev_nil : ev [] = [] := rfl
theorem ev_n : ev (none :: ρ) = none :: ev ρ := rfl
theorem ev_a {x : A} : ev (some (.a x) :: ρ) = some x :: ev ρ := rfl
theorem ev_o {ds : List D} : ev (some (ownD ds) :: ρ) = none :: ev ρ := rfl
theorem ev_own {ws : List W} : ev (some (.own ws) :: ρ) = none :: ev ρ := rfl
theorem frzE_nil : frzE [] ρ = ρ := rfl
theorem frzE_cons {k : Nat} {ks : List Nat} : frzE (k :: ks) ρ = frzE ks (frz1 k ρ) := rfl
theorem sNm_ap {x : D} : sNm i x ρ = some (ρ.set i (some (.a (.d x)))) := rfl
theorem sTp_ap {ks : List Nat} {ds : List D} : sTp ks (.tuple ds) ρ = if ds.length = ks.length then some (setW ks ds ρ) else none := rfl
end
def bin1 (r : R) (fb : Fe) (ρ : En) (g : A → A → Cs → R) : R := r.bnd fun x S => (fb ρ S).bnd fun y S2 => g x y S2
def bin2 (x : A) (r : R) (g : A → A → Cs → R) : R := r.bnd fun y S => g x y S
def un1 (r : R) (g : A → Cs → R) : R := r.bnd g
def callS (fs : List Fe) (ρ : En) (S : Cs) (acc : List A) (g : List A → Cs → R) : R := evs fs ρ S fun xs S1 => g (acc ++ xs) S1
def call1 (r : R) (fs : List Fe) (ρ : En) (acc : List A) (g : List A → Cs → R) : R := r.bnd fun x S => evs fs ρ S fun xs S1 => g (acc ++ x :: xs) S1
def tupE (ds : List A) (S : Cs) : R := match allD ds with
  | some ds => .ok (.a (.d (.tuple ds))) S
  | none => .stuck
def lstS (fs : List Fe) (ρ : En) (S : Cs) (acc : List W) : R := evsW fs ρ S fun ws S1 => .ok (.own (acc ++ ws)) S1
def lst1 (r : R) (fs : List Fe) (ρ : En) (acc : List W) : R := match r with
  | .ok w S => lstS fs ρ S (acc ++ [w])
  | .exc n S => .exc n S
  | .stuck => .stuck
def compS (r : SR) (g : Gt) (fc fe : Fe) (ρ : En) : R := match r with
  | .ok items S => compL g fc fe ρ items S []
  | .exc n S => .exc n S
  | .stuck => .stuck
def andS (r : R) (fb : Fe) (ρ : En) : R := r.br (fun S1 => (fb ρ S1).br (fun S2 => .ok (bD true) S2) (fun S2 => .ok (bD false) S2)) (fun S1 => .ok (bD false) S1)
def orS (r : R) (fb : Fe) (ρ : En) : R := r.br (fun S1 => .ok (bD true) S1) (fun S1 => (fb ρ S1).br (fun S2 => .ok (bD true) S2) (fun S2 => .ok (bD false) S2))
def notS (r : R) : R := r.br (fun S1 => .ok (bD false) S1) (fun S1 => .ok (bD true) S1)
def asB (r : R) : R := r.br (fun S2 => .ok (bD true) S2) (fun S2 => .ok (bD false) S2)
def ifE (r : R) (fa fb : Fe) (ρ : En) : R := r.br (fa ρ) (fb ρ)
def srcS (r : R) (h : A → Option (List D)) : SR := r.bi fun x S => SR.of (h x) S
def src1 (r : R) (g : Fe) (ρ : En) (h : A → A → Option (List D)) : SR := r.bi fun x S1 => (g ρ S1).bi fun y S2 => SR.of (h x y) S2
def src2 (x : A) (r : R) (h : A → A → Option (List D)) : SR := r.bi fun y S2 => SR.of (h x y) S2
def sl1 (r : R) (lo hi : Option Fe) (ρ : En) : R := r.bnd fun x S1 => optI lo ρ S1 fun l S2 => optI hi ρ S2 fun h S3 => onD1 (dSl l h) x S3
def slLo (x : A) (r : R) (hi : Option Fe) (ρ : En) : R := r.bnd fun y S2 => match y with
  | .d (.int i) => optI hi ρ S2 fun h S3 => onD1 (dSl (some i) h) x S3
  | _ => .stuck
def slHi (x : A) (l : Option Int) (r : R) : R := r.bnd fun y S2 => match y with
  | .d (.int i) => onD1 (dSl l (some i)) x S2
  | _ => .stuck
def sm1 (r : R) (fb : Fe) (ρ : En) (g : Str → D → Option W) : R := r.bnd fun x S1 => match x with
  | .d (.str z) => (fb ρ S1).bnd fun y S2 => match y with
    | .d d => match g z d with
      | some w => .ok w S2
      | none => .stuck
    | _ => .stuck
  | _ => .stuck
def sm2 (z : Str) (r : R) (g : Str → D → Option W) : R := r.bnd fun y S2 => match y with
    | .d d => match g z d with
      | some w => .ok w S2
      | none => .stuck
    | _ => .stuck
section
variable {f fa fb fc fe : Fe} {fs : List Fe} {ρ : En} {S : Cs} {i : Nat} {g2 : A → A → Cs → R} {gn : List A → Cs → R} {x y : A} {ds : List D} {n : Str}
theorem q_var0 : fVar 0 (some x :: ρ) S = .ok (.a x) S := rfl
theorem q_varS {o : Option A} : fVar (i + 1) (o :: ρ) S = fVar i ρ S := rfl
theorem q_c {d : D} : fC d ρ S = .ok (.a (.d d)) S := rfl
theorem q_bin : fBin g2 fa fb ρ S = bin1 (fa ρ S) fb ρ g2 := rfl
theorem bin1_a : bin1 (.ok (.a x) S) fb ρ g2 = bin2 x (fb ρ S) g2 := rfl
theorem bin1_o : bin1 (.ok (ownD ds) S) fb ρ g2 = bin2 (.d (.list ds)) (fb ρ S) g2 := by unfold bin1 bin2; rw [bnd_own]
theorem bin1_e : bin1 (.exc n S) fb ρ g2 = .exc n S := rfl
theorem bin2_a : bin2 x (.ok (.a y) S) g2 = g2 x y S := rfl
theorem bin2_o : bin2 x (.ok (ownD ds) S) g2 = g2 x (.d (.list ds)) S := by unfold bin2; rw [bnd_own]
theorem bin2_e : bin2 x (.exc n S) g2 = .exc n S := rfl
theorem q_un {g : A → Cs → R} : fUn g fa ρ S = un1 (fa ρ S) g := rfl
theorem un1_a {g : A → Cs → R} : un1 (.ok (.a x) S) g = g x S := rfl
theorem un1_o {g : A → Cs → R} : un1 (.ok (ownD ds) S) g = g (.d (.list ds)) S := by unfold un1; rw [bnd_own]
theorem q_call : fCall gn fs ρ S = callS fs ρ S [] gn := rfl
theorem call_n {acc : List A} : callS [] ρ S acc gn = gn acc S := by unfold callS; rw [evs_nil, List.append_nil]
theorem call_c {acc : List A} : callS (f :: fs) ρ S acc gn = call1 (f ρ S) fs ρ acc gn := rfl
theorem call1_a {acc : List A} : call1 (.ok (.a x) S) fs ρ acc gn = callS fs ρ S (acc ++ [x]) gn := by
  unfold call1 callS
  rw [bnd_a]
  simp
theorem call1_o {acc : List A} : call1 (.ok (ownD ds) S) fs ρ acc gn = callS fs ρ S (acc ++ [.d (.list ds)]) gn := by
  unfold call1 callS
  rw [bnd_own]
  simp
theorem call1_e {acc : List A} : call1 (.exc n S) fs ρ acc gn = .exc n S := rfl
theorem q_tup : fTup fs ρ S = callS fs ρ S [] tupE := rfl
theorem allD_nil : allD [] = some [] := rfl
theorem allD_cons {d : D} {xs : List A} : allD (.d d :: xs) = (allD xs).map (d :: ·) := rfl
theorem tupE_ap {xs : List A} : tupE xs S = match allD xs with | some ds => .ok (.a (.d (.tuple ds))) S | none => .stuck := rfl
theorem q_lst : fLst fs ρ S = lstS fs ρ S [] := rfl
theorem lst_n {acc : List W} : lstS [] ρ S acc = .ok (.own acc) S := by
  unfold lstS evsW
  simp
theorem lst_c {acc : List W} : lstS (f :: fs) ρ S acc = lst1 (f ρ S) fs ρ acc := by
  unfold lst1 lstS
  rw [evsW]
  cases f ρ S <;> simp
theorem lst1_ok {acc : List W} {w : W} : lst1 (.ok w S) fs ρ acc = lstS fs ρ S (acc ++ [w]) := rfl
theorem q_comp {vs : List Nat} {src : Fi} {g : Gt} : fComp vs src g fc fe ρ S = compS (src ρ S) g fc fe (wipeE ρ vs) := rfl
theorem comp_ok {items : List D} {g : Gt} : compS (.ok items S) g fc fe ρ = compL g fc fe ρ items S [] := rfl
theorem q_and : fAnd fa fb ρ S = andS (fa ρ S) fb ρ := rfl
theorem and_tt : andS (.ok (bD true) S) fb ρ = asB (fb ρ S) := rfl
theorem and_ff : andS (.ok (bD false) S) fb ρ = .ok (bD false) S := rfl
theorem asB_ok {b : Bool} : asB (.ok (bD b) S) = .ok (bD b) S := by cases b <;> rfl
theorem asB_e : asB (.exc n S) = .exc n S := rfl
theorem and_ok {b : Bool} : andS (.ok (bD b) S) fb ρ = if b = true then asB (fb ρ S) else .ok (bD false) S := by cases b <;> rfl
theorem and_fold {a b : Bool} : (if a = true then R.ok (bD b) S else .ok (bD false) S) = .ok (bD (a && b)) S := by cases a <;> rfl
theorem q_or : fOr fa fb ρ S = orS (fa ρ S) fb ρ := rfl
theorem or_tt : orS (.ok (bD true) S) fb ρ = .ok (bD true) S := rfl
theorem or_ff : orS (.ok (bD false) S) fb ρ = asB (fb ρ S) := rfl
theorem or_ok {b : Bool} : orS (.ok (bD b) S) fb ρ = if b = true then .ok (bD true) S else asB (fb ρ S) := by cases b <;> rfl
theorem or_fold {a b : Bool} : (if a = true then R.ok (bD true) S else .ok (bD b) S) = .ok (bD (a || b)) S := by cases a <;> rfl
theorem q_not : fNot fa ρ S = notS (fa ρ S) := rfl
theorem not_ok {b : Bool} : notS (.ok (bD b) S) = .ok (bD (!b)) S := by cases b <;> rfl
theorem not_e : notS (.exc n S) = .exc n S := rfl
theorem q_ife : fIf fc fa fb ρ S = ifE (fc ρ S) fa fb ρ := rfl
theorem ife_tt : ifE (.ok (bD true) S) fa fb ρ = fa ρ S := rfl
theorem ife_ff : ifE (.ok (bD false) S) fa fb ρ = fb ρ S := rfl
theorem ife_ok {b : Bool} : ifE (.ok (bD b) S) fa fb ρ = if b = true then fa ρ S else fb ρ S := by cases b <;> rfl
theorem q_seq : iSeq f ρ S = srcS (f ρ S) seqD := rfl
theorem q_rng1 : iRng1 f ρ S = srcS (f ρ S) rng1 := rfl
theorem q_rng2 : iRng2 fa fb ρ S = src1 (fa ρ S) fb ρ rng2 := rfl
theorem q_enum : iEnum f ρ S = srcS (f ρ S) (fun x => (seqD x).map enumD) := rfl
theorem q_zip : iZip fa fb ρ S = src1 (fa ρ S) fb ρ (fun x y => zip2 (seqD x) (seqD y)) := rfl
theorem srcS_a {h : A → Option (List D)} : srcS (.ok (.a x) S) h = SR.of (h x) S := rfl
theorem srcS_o {h : A → Option (List D)} : srcS (.ok (ownD ds) S) h = SR.of (h (.d (.list ds))) S := by unfold srcS; rw [bi_own]
theorem src1_a {h : A → A → Option (List D)} : src1 (.ok (.a x) S) fb ρ h = src2 x (fb ρ S) h := rfl
theorem src1_o {h : A → A → Option (List D)} : src1 (.ok (ownD ds) S) fb ρ h = src2 (.d (.list ds)) (fb ρ S) h := by unfold src1 src2; rw [bi_own]
theorem src2_a {h : A → A → Option (List D)} : src2 x (.ok (.a y) S) h = SR.of (h x y) S := rfl
theorem src2_o {h : A → A → Option (List D)} : src2 x (.ok (ownD ds) S) h = SR.of (h x (.d (.list ds))) S := by unfold src2; rw [bi_own]
theorem of_some : SR.of (some ds) S = .ok ds S := rfl
theorem q_sl {lo hi : Option Fe} : fSl fa lo hi ρ S = sl1 (fa ρ S) lo hi ρ := rfl
theorem sl_nn : sl1 (.ok (.a x) S) none none ρ = onD1 (dSl none none) x S := rfl
theorem sl_n {hi : Fe} : sl1 (.ok (.a x) S) none (some hi) ρ = slHi x none (hi ρ S) := rfl
theorem sl_s {lo : Fe} {hi : Option Fe} : sl1 (.ok (.a x) S) (some lo) hi ρ = slLo x (lo ρ S) hi ρ := rfl
theorem slo_nn : sl1 (.ok (ownD ds) S) none none ρ = onD1 (dSl none none) (.d (.list ds)) S := by unfold sl1; rw [bnd_own]; rfl
theorem slo_n {hi : Fe} : sl1 (.ok (ownD ds) S) none (some hi) ρ = slHi (.d (.list ds)) none (hi ρ S) := by unfold sl1; rw [bnd_own]; rfl
theorem slo_s {lo : Fe} {hi : Option Fe} : sl1 (.ok (ownD ds) S) (some lo) hi ρ = slLo (.d (.list ds)) (lo ρ S) hi ρ := by unfold sl1; rw [bnd_own]; rfl
theorem slLo_n {j : Int} : slLo x (.ok (iD j) S) none ρ = onD1 (dSl (some j) none) x S := rfl
theorem slLo_s {j : Int} {hi : Fe} : slLo x (.ok (iD j) S) (some hi) ρ = slHi x (some j) (hi ρ S) := rfl
theorem slHi_ok {j : Int} {l : Option Int} : slHi x l (.ok (iD j) S) = onD1 (dSl l (some j)) x S := rfl
theorem slLo_n' {j : Int} : slLo x (.ok (.a (.d (.int j))) S) none ρ = onD1 (dSl (some j) none) x S := rfl
theorem slLo_s' {j : Int} {hi : Fe} : slLo x (.ok (.a (.d (.int j))) S) (some hi) ρ = slHi x (some j) (hi ρ S) := rfl
theorem slHi_ok' {j : Int} {l : Option Int} : slHi x l (.ok (.a (.d (.int j))) S) = onD1 (dSl l (some j)) x S := rfl
theorem q_sm {g : Str → D → Option W} : fSm g fa fb ρ S = sm1 (fa ρ S) fb ρ g := rfl
theorem sm1_a {g : Str → D → Option W} {z : Str} : sm1 (.ok (.a (.d (.str z))) S) fb ρ g = sm2 z (fb ρ S) g := rfl
theorem sm2_a {g : Str → D → Option W} {z : Str} {d : D} : sm2 z (.ok (.a (.d d)) S) g = match g z d with | some w => .ok w S | none => .stuck := rfl
theorem sm2_o {g : Str → D → Option W} {z : Str} : sm2 z (.ok (ownD ds) S) g = match g z (.list ds) with | some w => .ok w S | none => .stuck := by
  unfold sm2
  rw [bnd_own]
theorem on1_ap {g : D → Option W} {d : D} : on1 g [.d d] S = match g d with | some w => .ok w S | none => .stuck := rfl
theorem onD1_ap {g : D → Option W} {d : D} : onD1 g (.d d) S = match g d with | some w => .ok w S | none => .stuck := rfl
theorem true_ap : fTrue ρ S = .ok (bD true) S := rfl
theorem gNm_ap {d : D} : gNm i d ρ = some (ρ.set i (some (.d d))) := rfl
theorem gTp_ap {is : List Nat} {ds : List D} : gTp is (.tuple ds) ρ = if ds.length = is.length then some (setD is ds ρ) else none := rfl
theorem setD_nil {ds : List D} : setD [] ds ρ = ρ := by cases ds <;> rfl
theorem setD_cons {k : Nat} {ks : List Nat} {d : D} : setD (k :: ks) (d :: ds) ρ = setD ks ds (ρ.set k (some (.d d))) := rfl
theorem wipe_nil : wipeE ρ [] = ρ := rfl
theorem wipe_cons {k : Nat} {ks : List Nat} : wipeE ρ (k :: ks) = (wipeE ρ ks).set k none := rfl
theorem max2_ap {f : Int → Int → Int} {i j : Int} : gMax2 f [.d (.int i), .d (.int j)] S = .ok (iD (f i j)) S := rfl
theorem rng1_n (n : Nat) (h : n ≤ 1000000) : rng1 (.d (.int (n : Nat))) = some ((List.range n).map fun (i : Nat) => PyData.int (i : Int)) := by
  show (if (n : Int) ≤ 1000000 ∧ -1000000 ≤ (n : Int) then some (rngD 0 ((n : Int)).toNat) else none) = _
  rw [if_pos (by omega), i2n, rngD_map]
theorem rng1_l (m : Nat) (h : m ≤ 1000000) : rng1 (.d (.int (no_index (OfNat.ofNat m)))) = some ((List.range m).map fun (i : Nat) => PyData.int (i : Int)) := rng1_n m h
theorem rng1_1 : rng1 (.d (.int 1)) = some ((List.range 1).map fun (i : Nat) => PyData.int (i : Int)) := rng1_n 1 (by decide)
end
theorem isi_int_dict (l : List (D × D)) : dIsi "int" (.dict l) = some (bD false) := rfl
theorem isi_bool_dict (l : List (D × D)) : dIsi "bool" (.dict l) = some (bD false) := rfl
theorem isi_str_dict (l : List (D × D)) : dIsi "str" (.dict l) = some (bD false) := rfl
theorem isi_list_dict (l : List (D × D)) : dIsi "list" (.dict l) = some (bD false) := rfl
theorem isi_tuple_dict (l : List (D × D)) : dIsi "tuple" (.dict l) = some (bD false) := rfl
theorem isi2_tl_dict (l : List (D × D)) : dIsi2 "tuple" "list" (.dict l) = some (bD false) := rfl
def isInt : D → Bool
  | .int _ => true
  | _ => false
def isAns : D → Bool
  | .none => true
  | .int i => (0 == i) || (1 == i)
  | _ => false
def isFnD : D → Bool
  | .tuple ds => (List.lookup (ds.length : Int) ([(2, 1), (4, 2), (8, 3), (16, 4)] : List (Int × Int))).isSome && ds.all isAns
  | _ => false
theorem isAns_aO (a : Option Bool) : isAns (aO a) = true := by
  cases a with
  | none => rfl
  | some b => cases b <;> rfl
theorem isFn_eF {f : Fn} {n : Nat} (hf : f.length = 2 ^ n) (h1 : 1 ≤ n) (h4 : n ≤ 4) : isFnD (eF f) = true := by
  show ((List.lookup ((f.map aO).length : Int) [((2 : Int), (1 : Int)), (4, 2), (8, 3), (16, 4)]).isSome && (f.map aO).all isAns) = true
  rw [List.length_map, hf, kv_at h1 h4]
  simp [isAns_aO]
def R.To (r : R) (Q : W → Cs → Prop) : Prop := match r with
  | .ok w S => Q w S
  | _ => False
def Fl.To (r : Fl) (Qn : Ev → Cs → Prop) (Qr : W → Cs → Prop) : Prop := match r with
  | .nx ρ S => Qn ρ S
  | .rt w S => Qr w S
  | _ => False
section
variable {r : R} {x : Fl} {Q Q' Qr Qr' : W → Cs → Prop} {Qn Qn' : Ev → Cs → Prop} {ρ : Ev} {S : Cs} {w : W} {k : Fs} {n : Nat}
theorem to_ok : R.To (.ok w S) Q = Q w S := rfl
theorem to_nx : Fl.To (.nx ρ S) Qn Qr = Qn ρ S := rfl
theorem to_rt : Fl.To (.rt w S) Qn Qr = Qr w S := rfl
theorem to_fin : R.To x.fin Q = Fl.To x (fun _ S => Q nD S) Q := by cases x <;> rfl
theorem to_nxt : Fl.To (x.nxt k) Qn Qr = Fl.To x (fun ρ S => Fl.To (k ρ S) Qn Qr) Qr := by cases x <;> rfl
theorem R.To.imp (h : R.To r Q) (f : ∀ w S, Q w S → Q' w S) : R.To r Q' := by
  cases r with
  | ok w S => exact f w S h
  | _ => exact h.elim
theorem Fl.To.imp (h : Fl.To x Qn Qr) (f : ∀ ρ S, Qn ρ S → Qn' ρ S) (g : ∀ w S, Qr w S → Qr' w S) : Fl.To x Qn' Qr' := by
  cases x with
  | nx ρ S => exact f ρ S h
  | rt w S => exact g w S h
  | _ => exact h.elim
theorem R.To.get (h : R.To r Q) : ∃ w S, r = .ok w S ∧ Q w S := by
  cases r with
  | ok w S => exact ⟨w, S, rfl, h⟩
  | _ => exact h.elim
theorem to_eq : R.To r (fun w1 S1 => w1 = w ∧ S1 = S) → r = .ok w S := fun h => by
  obtain ⟨w1, S1, e, rfl, rfl⟩ := h.get
  exact e
theorem to_pop : Fl.To (Fl.pop n x) Qn Qr = Fl.To x (fun ρ S => Qn (unC n ρ) S.dropLast) (fun w S => ∃ d, w = .a (.d d) ∧ Qr w S.dropLast) := by
  cases x with
  | nx ρ S => rfl
  | rt w S =>
    cases w with
    | own ws => simp [Fl.pop, Fl.To]
    | a y =>
      cases y with
      | d d => simp [Fl.pop, Fl.To]
      | _ => simp [Fl.pop, Fl.To]
  | _ => rfl
theorem to_ifte {c : Prop} [Decidable c] {y : Fl} : Fl.To (if c then x else y) Qn Qr = if c then Fl.To x Qn Qr else Fl.To y Qn Qr := by split <;> rfl
end
section
variable {g : Gs} {body : Fs} {dm : List Bool} {Qr : W → Cs → Prop} {Qn : Ev → Cs → Prop} {k : Fs} {ρ : Ev} {S : Cs}
theorem for_to (J : Ev → Cs → Prop) : ∀ {xs : List D} {ρ : Ev} {S : Cs}, J ρ S → (∀ x ∈ xs, ∀ ρ S, J ρ S → ∃ ρ1, g x ρ = some ρ1 ∧ Fl.To (body ρ1 S) (fun ρ2 S2 => J (mask dm ρ2) S2) Qr) → (∀ ρ S, J ρ S → Qn ρ S) → Fl.To (forL g body dm xs ρ S) Qn Qr
  | [], ρ, S, h0, _, hq => hq ρ S h0
  | x :: xs, ρ, S, h0, hs, hq => by
    obtain ⟨ρ1, e, h⟩ := hs x List.mem_cons_self ρ S h0
    unfold forL
    rw [e]
    simp only
    cases hb : body ρ1 S with
    | nx ρ2 S2 =>
      rw [hb] at h
      exact for_to J h (fun y hy => hs y (List.mem_cons_of_mem _ hy)) hq
    | rt w S2 => rw [hb] at h; exact h
    | exc n S2 => rw [hb] at h; exact h.elim
    | stuck => rw [hb] at h; exact h.elim
theorem for_seq (J : Ev → Cs → Prop) {xs : List D} (h0 : J ρ S) (hs : ∀ x ∈ xs, ∀ ρ S, J ρ S → ∃ ρ1, g x ρ = some ρ1 ∧ Fl.To (body ρ1 S) (fun ρ2 S2 => J (mask dm ρ2) S2) Qr) (hq : ∀ ρ S, J ρ S → Fl.To (k ρ S) Qn Qr) : Fl.To ((forL g body dm xs ρ S).nxt k) Qn Qr := by
  rw [to_nxt]
  exact for_to J h0 hs hq
theorem for_pre {α : Type} (en : α → D) (J : List α → Ev → Cs → Prop) : ∀ {post pre : List α} {ρ : Ev} {S : Cs}, J pre ρ S → (∀ q x p, pre ++ post = q ++ x :: p → ∀ ρ S, J q ρ S → ∃ ρ1, g (en x) ρ = some ρ1 ∧ Fl.To (body ρ1 S) (fun ρ2 S2 => J (q ++ [x]) (mask dm ρ2) S2) Qr) → (∀ ρ S, J (pre ++ post) ρ S → Qn ρ S) → Fl.To (forL g body dm (post.map en) ρ S) Qn Qr
  | [], pre, ρ, S, h0, _, hq => hq ρ S (by rw [List.append_nil]; exact h0)
  | x :: post, pre, ρ, S, h0, hs, hq => by
    obtain ⟨ρ1, e, h⟩ := hs pre x post rfl ρ S h0
    rw [List.map_cons]
    unfold forL
    rw [e]
    simp only
    cases hb : body ρ1 S with
    | nx ρ2 S2 =>
      rw [hb] at h
      refine for_pre en J (pre := pre ++ [x]) h (fun q y p e => hs q y p (by rw [← e]; simp)) fun ρ S h => hq ρ S (by simpa using h)
    | rt w S2 => rw [hb] at h; exact h
    | exc n S2 => rw [hb] at h; exact h.elim
    | stuck => rw [hb] at h; exact h.elim
theorem for_all {α : Type} (en : α → D) (J : List α → Ev → Cs → Prop) {l : List α} (h0 : J [] ρ S) (hs : ∀ q x p, l = q ++ x :: p → ∀ ρ S, J q ρ S → ∃ ρ1, g (en x) ρ = some ρ1 ∧ Fl.To (body ρ1 S) (fun ρ2 S2 => J (q ++ [x]) (mask dm ρ2) S2) Qr) (hq : ∀ ρ S, J l ρ S → Qn ρ S) : Fl.To (forL g body dm (l.map en) ρ S) Qn Qr :=
  for_pre en J (pre := []) h0 (fun q x p e => hs q x p (by simpa using e)) fun ρ S h => hq ρ S (by simpa using h)
theorem for_allS {α : Type} (en : α → D) (J : List α → Ev → Cs → Prop) {l : List α} (h0 : J [] ρ S) (hs : ∀ q x p, l = q ++ x :: p → ∀ ρ S, J q ρ S → ∃ ρ1, g (en x) ρ = some ρ1 ∧ Fl.To (body ρ1 S) (fun ρ2 S2 => J (q ++ [x]) (mask dm ρ2) S2) Qr) (hq : ∀ ρ S, J l ρ S → Fl.To (k ρ S) Qn Qr) : Fl.To ((forL g body dm (l.map en) ρ S).nxt k) Qn Qr := by
  rw [to_nxt]
  exact for_all en J h0 hs hq
end
theorem compL_to {g : Gt} {fe : Fe} {ρ : En} (J : List D → Cs → Prop) : ∀ {xs : List D} {acc : List D} {S : Cs} {Q : W → Cs → Prop}, J acc S → (∀ x ∈ xs, ∀ acc S, J acc S → ∃ ρ1, g x ρ = some ρ1 ∧ R.To (fe ρ1 S) (fun w S1 => ∃ d, w = .a (.d d) ∧ J (acc ++ [d]) S1)) → (∀ ds S, J ds S → ds.length = acc.length + xs.length → Q (ownD ds) S) →
    R.To (compL g fTrue fe ρ xs S (acc.map fun d => .a (.d d))) Q
  | [], acc, S, Q, h0, _, hq => hq acc S h0 rfl
  | x :: xs, acc, S, Q, h0, hs, hq => by
    obtain ⟨ρ1, e, h⟩ := hs x List.mem_cons_self acc S h0
    obtain ⟨w, S1, e1, d, rfl, h1⟩ := h.get
    unfold compL
    rw [e]
    simp only [fTrue, e1]
    have e2 : (acc.map fun d => W.a (.d d)) ++ [W.a (.d d)] = (acc ++ [d]).map fun d => W.a (.d d) := by simp
    rw [e2]
    exact compL_to J h1 (fun y hy => hs y (List.mem_cons_of_mem _ hy)) fun ds S h hl => hq ds S h (by rw [hl]; simp; omega)
theorem comp_to {g : Gt} {fe : Fe} {ρ : En} (J : List D → Cs → Prop) {xs : List D} {S : Cs} {Q : W → Cs → Prop} (h0 : J [] S) (hs : ∀ x ∈ xs, ∀ acc S, J acc S → ∃ ρ1, g x ρ = some ρ1 ∧ R.To (fe ρ1 S) (fun w S1 => ∃ d, w = .a (.d d) ∧ J (acc ++ [d]) S1)) (hq : ∀ ds S, J ds S → ds.length = xs.length → Q (ownD ds) S) :
    R.To (compL g fTrue fe ρ xs S []) Q := compL_to J (acc := []) h0 hs fun ds S h hl => hq ds S h (by rw [hl]; simp)
def setIx2 (d : D) (r : R) (k : Nat) (ρ : Ev) : Fl := match r with
    | .ok (.a (.d (.int i))) S2 => match ρ[k]? with
      | some (some (.a (.c c))) => match S2[c]? with
        | some ds => match ixN ds.length i with
          | some j => .nx ρ (S2.set c (ds.set j d))
          | none => .stuck
        | none => .stuck
      | some (some (.own ws)) => match ixN ws.length i with
        | some j => .nx (ρ.set k (some (.own (ws.set j (.a (.d d)))))) S2
        | none => .stuck
      | _ => .stuck
    | _ => .stuck
def setIx1 (r : R) (g : Fe) (k : Nat) (ρ : Ev) : Fl := match r with
  | .ok (.a (.d d)) S1 => setIx2 d (g (ev ρ) S1) k ρ
  | .exc n S1 => .exc n S1
  | _ => .stuck
theorem ixN_n {n i : Nat} (h : i < n) : ixN n (i : Int) = some i := by
  unfold ixN
  rw [if_pos (by omega), if_pos (by omega)]
  simp
section
variable {f g : Fe} {ρ : Ev} {S : Cs} {k : Nat} {is : List Nat}
theorem p_setIx : sSetIx k is f g ρ S = setIx1 (f (ev (frzE is ρ)) S) g k (frzE is ρ) := by
  unfold sSetIx setIx1 setIx2
  rfl
theorem setIx1_ok {d : D} : setIx1 (.ok (.a (.d d)) S) g k ρ = setIx2 d (g (ev ρ) S) k ρ := rfl
theorem setIx2_s {d : D} {r : R} {o : Option W} : setIx2 d r (k + 1) (o :: ρ) = Fl.cons o (setIx2 d r k ρ) := by
  unfold setIx2
  split
  · rename_i i S2
    rw [List.getElem?_cons_succ]
    cases ρ[k]? with
    | none => rfl
    | some q => cases q with
      | none => rfl
      | some w => cases w with
        | own ws => simp only; cases ixN ws.length i <;> rfl
        | a x => cases x with
          | c c => simp only; cases S2[c]? with
            | none => rfl
            | some ds => simp only; cases ixN ds.length i <;> rfl
          | _ => rfl
  · rfl
theorem setIx2_0 {d : D} {i : Nat} {l : List D} (h : i < l.length) : setIx2 d (.ok (iD i) S) 0 (some (ownD l) :: ρ) = .nx (some (ownD (l.set i d)) :: ρ) S := by
  have h2 : ixN (l.map fun d => W.a (.d d)).length (i : Int) = some i := ixN_n (by rw [List.length_map]; exact h)
  show (match ixN (l.map fun d => W.a (.d d)).length (i : Int) with
        | some j => Fl.nx ((some (ownD l) :: ρ).set 0 (some (.own ((l.map fun d => W.a (.d d)).set j (.a (.d d)))))) S
        | none => .stuck) = _
  rw [h2]
  simp [ownD, List.map_set]
end
section
variable {r : R} {Q : W → Cs → Prop} {ρ : En} {S : Cs}
end
theorem mem_mapInt {l : List Nat} {x : D} (h : x ∈ l.map fun (i : Nat) => PyData.int (i : Int)) : ∃ i ∈ l, x = .int (i : Int) := by
  obtain ⟨i, h1, h2⟩ := List.mem_map.mp h
  exact ⟨i, h1, h2.symm⟩
def bin1o (o : Option (List D)) (fb : Fe) (ρ : En) (S : Cs) (g : A → A → Cs → R) : R := match o with
  | some ds => bin2 (.d (.list ds)) (fb ρ S) g
  | none => .stuck
theorem bin1_w {ws : List W} {S : Cs} {fb : Fe} {ρ : En} {g : A → A → Cs → R} : bin1 (.ok (.own ws) S) fb ρ g = bin1o (W.toDs ws) fb ρ S g := by
  cases h : W.toDs ws with
  | none =>
    have e : (W.own ws).toA = none := by
      show (W.toDs ws).map _ = _
      rw [h]; rfl
    unfold bin1 bin1o
    show (match (W.own ws).toA with | some x => _ | none => R.stuck) = _
    rw [e]
  | some ds =>
    have e : (W.own ws).toA = some (.d (.list ds)) := by
      show (W.toDs ws).map _ = _
      rw [h]; rfl
    unfold bin1 bin1o
    show (match (W.own ws).toA with | some x => _ | none => R.stuck) = _
    rw [e]
    rfl
theorem bin1o_some {ds : List D} {S : Cs} {fb : Fe} {ρ : En} {g : A → A → Cs → R} : bin1o (some ds) fb ρ S g = bin2 (.d (.list ds)) (fb ρ S) g := rfl
theorem toDs_nil : W.toDs [] = some [] := by simp [W.toDs]
theorem toDs_a {d : D} {ws : List W} : W.toDs (.a (.d d) :: ws) = (W.toDs ws).map (d :: ·) := by
  simp only [W.toDs, W.toD]
  cases W.toDs ws <;> rfl
theorem toDs_map : ∀ l : List D, W.toDs (l.map fun d => .a (.d d)) = some l
  | [] => toDs_nil
  | d :: l => by rw [List.map_cons, toDs_a, toDs_map l]; rfl
theorem ownD_toD (l : List D) : (ownD l).toD = some (.list l) := by
  unfold ownD W.toD
  rw [toDs_map]
  rfl
theorem toDs_o {l : List D} {ws : List W} : W.toDs (ownD l :: ws) = (W.toDs ws).map (.list l :: ·) := by
  simp only [W.toDs, ownD_toD]
  cases W.toDs ws <;> rfl
theorem ret_nxt {r : R} {k : Fs} : (retS r).nxt k = retS r := by cases r <;> rfl
end PD

namespace PD
open PySem PySem.Spec PyProof.Rows L2
theorem St.drop2 {S : Cs} (h : St S) : S.dropLast = [] := by
  obtain ⟨z, b, rfl, _⟩ := h
  rfl
theorem maxmin (m c : Nat) : ∃ k : Nat, (if ((if (c : Int) < (m : Int) then (c : Int) else (m : Int))) > 1 then (if (c : Int) < (m : Int) then (c : Int) else (m : Int)) else 1) = (k : Int) ∧ k ≤ max 1 c := by
  by_cases h : (c : Int) < (m : Int)
  · rw [if_pos h]
    by_cases h2 : (c : Int) > 1
    · exact ⟨c, by rw [if_pos h2], by omega⟩
    · exact ⟨1, by rw [if_neg h2]; rfl, by omega⟩
  · rw [if_neg h]
    by_cases h2 : (m : Int) > 1
    · exact ⟨m, by rw [if_pos h2], by omega⟩
    · exact ⟨1, by rw [if_neg h2]; rfl, by omega⟩
theorem gLen_s (ns : List Int) (S : Cs) : gLen [.s ns] S = .ok (iD ns.length) S := rfl
theorem law_of {ns : List Int} {sem : Sem_} (h : R.To (sem [.s ns] []) fun w _ => w = bD true) : ∃ S, sem [.s ns] [] = .ok (bD true) S := by
  obtain ⟨w, S, e, rfl⟩ := h.get
  exact ⟨S, e⟩
section
variable {r : R} {i : Nat} {ρ : Ev} {k : Fs} {Qn : Ev → Cs → Prop} {Qr : W → Cs → Prop}
end
end PD

namespace PD
open PySem PySem.Spec PyProof.Rows L2
def appV1 (o1 o2 : Option (Option W)) (i k : Nat) (ρ : Ev) (S : Cs) : Fl := match o1, o2 with
  | some (some (.own ws)), some (some (.own us)) => if i ≠ k ∧ ws.length < 1000000 then .nx ((ρ.set k none).set i (some (.own (ws ++ [.own us])))) S else .stuck
  | _, _ => .stuck
def forBS (r : SR) (g : Gs) (body : Fs) (ρ : Ev) : Fl := match r with
  | .ok items S => if flatCs S = true then forL g body (dom ρ) items ρ S else .stuck
  | .exc n S => .exc n S
  | .stuck => .stuck
section
variable {ρ : Ev} {S : Cs} {i k : Nat} {is : List Nat}
theorem p_appV : sAppV i k ρ S = appV1 ρ[i]? ρ[k]? i k ρ S := rfl
theorem appV_ok' {ws : List W} {us : List D} : appV1 (some (some (.own ws))) (some (some (ownD us))) i k ρ S = if i ≠ k ∧ ws.length < 1000000 then .nx ((ρ.set k none).set i (some (.own (ws ++ [ownD us])))) S else .stuck := rfl
theorem p_forB {src : Fi} {g : Gs} {g1 : Fs} : sForB is src g g1 ρ S = forBS (src (ev (frzE is ρ)) S) g g1 ρ := rfl
theorem forB_ok {items : List D} {g : Gs} {g1 : Fs} : forBS (.ok items S) g g1 ρ = if flatCs S = true then forL g g1 (dom ρ) items ρ S else .stuck := rfl
end
theorem sm1_T {t : Tm} {S : Cs} {fb : Fe} {ρ : En} {g : Str → D → Option W} : sm1 (.ok (.a (.d (eT t))) S) fb ρ g = sm2 (tS (t.map sgO)) (fb ρ S) g := rfl
theorem app_0w {ws : List W} {w : W} {S : Cs} {ρ : Ev} : appS (.ok w S) 0 (some (.own ws) :: ρ) = if ws.length < 1000000 then .nx (some (.own (ws ++ [w])) :: ρ) S else .stuck := rfl
def ch1 (r : R) (fb fc : Fe) (ρ : En) (g g' : A → A → Cs → R) : R := r.bnd fun x S1 => (fb ρ S1).bnd fun y S2 => (g x y S2).bnd fun z S3 => match z with
  | .d (.bool true) => (fc ρ S3).bnd fun w S4 => g' y w S4
  | .d (.bool false) => .ok (bD false) S3
  | _ => .stuck
def ch2 (x : A) (r : R) (fc : Fe) (ρ : En) (g g' : A → A → Cs → R) : R := r.bnd fun y S2 => (g x y S2).bnd fun z S3 => match z with
  | .d (.bool true) => (fc ρ S3).bnd fun w S4 => g' y w S4
  | .d (.bool false) => .ok (bD false) S3
  | _ => .stuck
def ch3 (r : R) (y : A) (fc : Fe) (ρ : En) (g' : A → A → Cs → R) : R := r.bnd fun z S3 => match z with
  | .d (.bool true) => (fc ρ S3).bnd fun w S4 => g' y w S4
  | .d (.bool false) => .ok (bD false) S3
  | _ => .stuck
def ch4 (y : A) (r : R) (g' : A → A → Cs → R) : R := r.bnd fun w S4 => g' y w S4
section
variable {fa fb fc : Fe} {ρ : En} {S : Cs} {g g' : A → A → Cs → R} {x y : A}
theorem q_chain : fChain g g' fa fb fc ρ S = ch1 (fa ρ S) fb fc ρ g g' := rfl
theorem ch1_a : ch1 (.ok (.a x) S) fb fc ρ g g' = ch2 x (fb ρ S) fc ρ g g' := rfl
theorem ch2_a : ch2 x (.ok (.a y) S) fc ρ g g' = ch3 (g x y S) y fc ρ g' := rfl
theorem ch3_tt : ch3 (.ok (bD true) S) y fc ρ g' = ch4 y (fc ρ S) g' := rfl
theorem ch3_ff : ch3 (.ok (bD false) S) y fc ρ g' = .ok (bD false) S := rfl
theorem ch4_a : ch4 y (.ok (.a x) S) g' = g' y x S := rfl
end
def par1 (r : R) (f2 : Fe) (i j : Nat) (ρ : Ev) : Fl := match r with
  | .ok w S1 => match f2 (ev ρ) S1 with
    | .ok u S2 => .nx ((ρ.set i (some w)).set j (some u)) S2
    | .exc n S2 => .exc n S2
    | .stuck => .stuck
  | .exc n S1 => .exc n S1
  | .stuck => .stuck
def par2 (w : W) (r : R) (i j : Nat) (ρ : Ev) : Fl := match r with
    | .ok u S2 => .nx ((ρ.set i (some w)).set j (some u)) S2
    | .exc n S2 => .exc n S2
    | .stuck => .stuck
section
variable {ρ : Ev} {S : Cs} {i j : Nat} {is : List Nat} {f1 f2 : Fe} {w u : W}
theorem par_ap : sPar i j is f1 f2 ρ S = par1 (f1 (ev (frzE is ρ)) S) f2 i j (frzE is ρ) := rfl
theorem par1_ok : par1 (.ok w S) f2 i j ρ = par2 w (f2 (ev ρ) S) i j ρ := rfl
theorem par2_ok : par2 w (.ok u S) i j ρ = .nx ((ρ.set i (some w)).set j (some u)) S := rfl
end
end PD

namespace PD
open PySem PySem.Spec PyProof.Rows L2
def ltT (a b : Tm) : Bool := decide (a.map sgO < b.map sgO)
theorem lt_TT (a b : Tm) (S : Cs) : onD dLt (.d (eT a)) (.d (eT b)) S = .ok (bD (ltT a b)) S := rfl
end PD

namespace PD
open PySem PySem.Spec PyProof.Rows L2
section
variable {n : Str} {S : Cs} {ρ : En} {fb fc fe : Fe}
theorem srcS_e {h : A → Option (List D)} : srcS (.exc n S) h = .exc n S := rfl
theorem src1_e {h : A → A → Option (List D)} : src1 (.exc n S) fb ρ h = .exc n S := rfl
theorem src2_e {x : A} {h : A → A → Option (List D)} : src2 x (.exc n S) h = .exc n S := rfl
theorem comp_e {g : Gt} : compS (.exc n S) g fc fe ρ = .exc n S := rfl
theorem un1_e {g : A → Cs → R} : un1 (.exc n S) g = .exc n S := rfl
theorem lst1_e {fs : List Fe} {acc : List W} : lst1 (.exc n S) fs ρ acc = .exc n S := rfl
theorem and_e : andS (.exc n S) fb ρ = .exc n S := rfl
theorem or_e : orS (.exc n S) fb ρ = .exc n S := rfl
end
end PD

namespace PD
open PySem PySem.Spec PyProof.Rows L2
end PD

namespace PD
open PySem PySem.Spec PyProof.Rows L2
def sm01 (r : R) (g : Str → Option W) : R := r.bnd fun x S1 => match x with
  | .d (.str z) => match g z with
    | some w => .ok w S1
    | none => .stuck
  | _ => .stuck
theorem q_sm0 {g : Str → Option W} {fa : Fe} {ρ : En} {S : Cs} : fSm0 g fa ρ S = sm01 (fa ρ S) g := rfl
def smO (o : Option W) (S : Cs) : R := match o with
  | some w => .ok w S
  | none => .stuck
theorem sm01_a {g : Str → Option W} {z : Str} {S : Cs} : sm01 (.ok (.a (.d (.str z))) S) g = smO (g z) S := rfl
theorem sm01_T {g : Str → Option W} {t : Tm} {S : Cs} : sm01 (.ok (.a (.d (eT t))) S) g = smO (g (tS (t.map sgO))) S := rfl
theorem smO_some {w : W} {S : Cs} : smO (some w) S = .ok w S := rfl
theorem frz1_0w {ws : List W} {ds : List D} {ρ : Ev} (h : W.toDs ws = some ds) : frz1 0 (some (.own ws) :: ρ) = some (.a (.d (.list ds))) :: ρ := by
  unfold frz1
  simp only [List.getElem?_cons_zero]
  have : W.toA (.own ws) = some (.d (.list ds)) := by
    show (W.toDs ws).map (fun ds => A.d (PyData.list ds)) = _
    rw [h]
    rfl
  rw [this]
  rfl
end PD

namespace PD
open PySem PySem.Spec PyProof.Rows L2
theorem ref_exc {ords : List Str} {n : Str} {S : Cs} {k : Nat} (hS : flatCs S = true) (h : ords.findIdx? (fun m => m == n) = some k) : refR ords (.exc n S) = .ok (ownD [.int (k : Nat)]) S := by
  unfold refR
  simp only [h]
theorem rB0 {S : Cs} (hS : flatCs S = true) : refR ["NoFunction", "NoTerm", "NoPoint", "NoNumber", "NoText", "NoLine", "NoDeed", "NoForm", "NoChange"] (.exc "NoFunction" S) = .ok (ownD [.int 0]) S := ref_exc (k := 0) hS rfl
end PD

namespace PD
open PySem PySem.Spec PyProof.Rows L2
def okTup (d : D) : Prop := ∀ ds, d = .tuple ds → ds.length ≤ 1000 ∧ ∀ x ∈ ds, okD 2 x
theorem okTup.no {d : D} (h : ∀ ds, d ≠ .tuple ds) : okTup d := fun ds e => absurd e (h ds)
theorem okTup.tup {ds : List D} (h1 : ds.length ≤ 1000) (h : ∀ x ∈ ds, okD 2 x) : okTup (.tuple ds) := fun es e => by cases e; exact ⟨h1, h⟩
theorem okaO (a : Option Bool) : okD 2 (aO a) := by
  cases a with
  | none => exact ⟨rfl, by decide⟩
  | some b => exact ⟨rfl, by simp [aO, PyData.depth]⟩
theorem okTup.eF {f : Fn} (h : f.length ≤ 1000) : okTup (eF f) := okTup.tup (by rw [List.length_map]; exact h) fun x hx => by
  obtain ⟨a, _, rfl⟩ := List.mem_map.mp hx
  exact okaO a
theorem sameOk_eF (k : Nat) {f : Fn} (h : f.length ≤ 1000) : sameOk (k + 2) (eF f) := by
  unfold eF sameOk
  refine ⟨by rw [List.length_map]; omega, sameOks_all fun d hd => ?_⟩
  obtain ⟨q, _, rfl⟩ := List.mem_map.mp hd
  cases q <;> simp [sameOk, aO]
end PD

namespace PD
open PySem PySem.Spec PyProof.Rows L2 PySem.StrLaws PySem.Builtin.Str
end PD

namespace PD
open PySem PySem.Spec PyProof.Rows L2
theorem bAnd_nat (a b : Nat) : Builtin.bitAnd (a : Int) (b : Int) = ((a &&& b : Nat) : Int) := rfl
theorem bOr_nat (a b : Nat) : Builtin.bitOr (a : Int) (b : Int) = ((a ||| b : Nat) : Int) := by
  have e1 : ∀ a : Nat, Builtin.bitNot (Builtin.bitNot (a : Int)) = a := fun a => by unfold Builtin.bitNot; omega
  have h1 : ∀ a : Nat, decide (0 ≤ Builtin.bitNot (a : Int)) = false := fun a => decide_eq_false (by unfold Builtin.bitNot; omega)
  unfold Builtin.bitOr Builtin.bitAnd
  rw [h1, h1]
  simp only [e1]
  rfl
theorem add_disj {a b : Nat} (h : a &&& b = 0) : a + b = a ||| b := by
  obtain ⟨w, hw⟩ : ∃ w, a + b < 2 ^ w := ⟨a + b, Nat.lt_two_pow_self⟩
  have e := BitVec.add_eq_or_of_and_eq_zero (BitVec.ofNat w a) (BitVec.ofNat w b) (by
    apply BitVec.eq_of_toNat_eq
    simp only [BitVec.toNat_and, BitVec.toNat_ofNat]
    rw [Nat.mod_eq_of_lt (by omega), Nat.mod_eq_of_lt (by omega), h]
    simp)
  have e2 := congrArg BitVec.toNat e
  simp only [BitVec.toNat_add, BitVec.toNat_or, BitVec.toNat_ofNat] at e2
  rw [Nat.mod_eq_of_lt (show a < 2 ^ w by omega), Nat.mod_eq_of_lt (show b < 2 ^ w by omega), Nat.mod_eq_of_lt hw] at e2
  exact e2
theorem bXor_nat (a b : Nat) : Builtin.bitXor (a : Int) (b : Int) = ((a ^^^ b : Nat) : Int) := by
  unfold Builtin.bitXor
  rw [bOr_nat, bAnd_nat]
  have h1 : (a ^^^ b) &&& (a &&& b) = 0 := Nat.eq_of_testBit_eq fun i => by
    simp only [Nat.testBit_and, Nat.testBit_xor, Nat.zero_testBit]
    cases a.testBit i <;> cases b.testBit i <;> rfl
  have h2 : (a ^^^ b) ||| (a &&& b) = a ||| b := Nat.eq_of_testBit_eq fun i => by
    simp only [Nat.testBit_or, Nat.testBit_and, Nat.testBit_xor]
    cases a.testBit i <;> cases b.testBit i <;> rfl
  have h3 := add_disj h1
  rw [h2] at h3
  omega
end PD

namespace PD
open PySem PySem.Spec PyProof.Rows L2
end PD

namespace PD
open PySem PySem.Spec PyProof.Rows L2
theorem p_while {n : Nat} {is : List Nat} {fc : Fe} {g1 : Fs} {ρ : Ev} {S : Cs} : sWhile n is fc g1 ρ S = whileL is fc g1 (dom ρ) n ρ S := rfl
theorem while_to {is : List Nat} {fc : Fe} {body : Fs} {dm : List Bool} {Qn : Ev → Cs → Prop} {Qr : W → Cs → Prop} (J : Nat → Ev → Cs → Prop)
    (hs : ∀ k ρ S, J k ρ S → ∃ b S1, fc (ev (frzE is ρ)) S = .ok (bD b) S1 ∧ flatCs S1 = true ∧ (b = false → Qn ρ S1) ∧ (b = true → Fl.To (body ρ S1) (fun ρ2 S2 => ∃ k', k' < k ∧ J k' (mask dm ρ2) S2) Qr)) :
    ∀ (N k : Nat) (ρ : Ev) (S : Cs), J k ρ S → k < N → Fl.To (whileL is fc body dm N ρ S) Qn Qr
  | 0, _, _, _, _, h => absurd h (Nat.not_lt_zero _)
  | N + 1, k, ρ, S, hJ, hk => by
    obtain ⟨b, S1, e, hf, h1, h2⟩ := hs k ρ S hJ
    unfold whileL
    rw [e]
    simp only [hf, if_true]
    cases b with
    | false => exact h1 rfl
    | true =>
      have h3 := h2 rfl
      simp only [if_true]
      cases q : body ρ S1 with
      | nx ρ2 S2 =>
        rw [q] at h3
        obtain ⟨k', hk', hJ'⟩ := (show ∃ k', k' < k ∧ J k' (mask dm ρ2) S2 from h3)
        exact while_to J hs N k' _ _ hJ' (by omega)
      | rt w S2 => rw [q] at h3; exact h3
      | exc m S2 => rw [q] at h3; exact h3.elim
      | stuck => rw [q] at h3; exact h3.elim
end PD

namespace PD
open PySem PySem.Spec PyProof.Rows L2
end PD

namespace PD
open PySem PySem.Spec PyProof.Rows L2
theorem onD_of {g : D → D → Option W} {x y : D} {w : W} (h : g x y = some w) (S : Cs) : onD g (.d x) (.d y) S = .ok w S := by
  unfold onD
  simp only [h]
end PD

namespace PD
open PySem PySem.Spec PyProof.Rows L2
end PD

namespace PD
open PySem PySem.Spec PyProof.Rows L2
def cpS (c : Nat) : Option Bool := if c = 49 then some true else if c = 48 then some false else none
def dT : D → Tm
  | .str z => z.cps.toList.map cpS
  | _ => []
def txtD (d : D) : Prop := ∀ z, d = .str z → z.length ≤ 1000 ∧ ∀ c ∈ z.cps.toList, c < 1114112
theorem txt_tS {cs : List Nat} (h : cs.length ≤ 1000) (h2 : ∀ c ∈ cs, c < 1114112) : txtD (.str (tS cs)) := fun z e => by
  have := PyData.str.inj e
  subst this
  exact ⟨by rw [tS_len]; exact h, by rw [tS_cps]; exact h2⟩
end PD

namespace PD
open PySem PySem.Spec PyProof.Rows L2
def e2 (s : Nat × Nat) : D := .tuple [.int (s.1 : Nat), .int (s.2 : Nat)]
end PD

namespace PD
open PySem PySem.Spec PyProof.Rows L2
theorem lisRg_n (n : Nat) (h : n ≤ 1000000) (S : Cs) : onD1 dLisRg (.d (.int (n : Nat))) S = .ok (ownD ((List.range n).map fun (i : Nat) => PyData.int (i : Int))) S := by
  have e : dLisRg (.int (n : Nat)) = some (ownD ((List.range n).map fun (i : Nat) => PyData.int (i : Int))) := by
    unfold dLisRg
    simp only
    rw [if_pos (by omega), Int.toNat_natCast, rngD_map]
  unfold onD1
  simp only [e]
end PD

namespace PD
open PySem PySem.Spec PyProof.Rows L2
end PD

namespace PD
open PySem PySem.Spec PyProof.Rows L2
theorem add_zero {n : Nat} (h4 : n ≤ 4) {t : Tm} (ht : t.length = n) (S : Cs) : ∃ z : Str, onD dAdd (.d (eT t)) (.d (.str (Str.ofString "0"))) S = .ok (sD z) S ∧ txtD (.str z) := by
  refine ⟨tS (t.map sgO ++ [48]), o_add_txt S (t.map sgO) [48] (by simp; omega), txt_tS (by simp; omega) fun c hc => ?_⟩
  rcases List.mem_append.mp hc with hc | hc
  · obtain ⟨a, _, rfl⟩ := List.mem_map.mp hc
    exact sgO_lt a
  · rw [List.mem_singleton.mp hc]; decide
end PD

namespace PD
open PySem PySem.Spec PyProof.Rows L2
abbrev eNs (l : List Nat) : List D := l.map fun (i : Nat) => PyData.int (i : Int)
theorem appPop_g {α : Type} (en : α → D) {L G : List α} {m : Nat} {o0 o1 : Option W} {rest : Ev} {is : List Nat} {fi : Fe} {S S1 : Cs} (hm : m < L.length) (hL : L.length < 1000000) (hG : G.length < 1000000) (hS : flatCs S1 = true)
    (hf : fi (ev (frzE is (o0 :: o1 :: some (ownD (L.map en)) :: some (ownD (G.map en)) :: rest))) S = .ok (iD (m : Nat)) S1) :
    sAppPop 3 2 is fi (o0 :: o1 :: some (ownD (L.map en)) :: some (ownD (G.map en)) :: rest) S = .nx (o0 :: o1 :: some (ownD ((L.eraseIdx m).map en)) :: some (ownD ((G ++ [L[m]]).map en)) :: rest) S1 := by
  unfold sAppPop
  rw [hf]
  have hu : ((L.map en).map fun d => W.a (.d d))[((m : Nat) : Int).toNat]? = some (.a (.d (en L[m]))) := by
    rw [Int.toNat_natCast, List.getElem?_map, List.getElem?_map, List.getElem?_eq_getElem hm]
    rfl
  simp only [hS, if_true, ownD, List.getElem?_cons_succ, List.getElem?_cons_zero, hu]
  rw [if_pos ⟨by decide, by omega, by simpa using hG, by simpa using hL⟩]
  simp only [List.set_cons_succ, List.set_cons_zero, Int.toNat_natCast]
  have e1 : ((L.map en).map fun d => W.a (.d d)).eraseIdx m = ((L.eraseIdx m).map en).map fun d => W.a (.d d) := by
    simp only [List.eraseIdx_eq_take_drop_succ, List.map_append, List.map_take, List.map_drop]
  rw [e1]
  simp
theorem perm_popG {α : Type} {L G M : List α} {m : Nat} (hm : m < L.length) (h : (G ++ L).Perm M) : ((G ++ [L[m]]) ++ L.eraseIdx m).Perm M := by
  refine List.Perm.trans ?_ h
  rw [List.append_assoc]
  refine List.Perm.append_left G ?_
  have e : L = L.take m ++ L[m] :: L.drop (m + 1) := by rw [← List.drop_eq_getElem_cons hm, List.take_append_drop]
  rw [List.eraseIdx_eq_take_drop_succ]
  refine List.Perm.trans ?_ (List.Perm.of_eq e.symm)
  exact (List.perm_middle (a := L[m]) (l₁ := L.take m) (l₂ := L.drop (m + 1))).symm
theorem and1 (p i : Nat) : Builtin.bitAnd ((p / 2 ^ i : Nat) : Int) 1 = (((p.testBit i).toNat : Nat) : Int) := by
  have := bAnd_nat (p / 2 ^ i) 1
  refine this.trans ?_
  rw [Nat.and_one_is_mod, Nat.testBit_eq_decide_div_mod_eq]
  congr 1
  rcases Nat.mod_two_eq_zero_or_one (p / 2 ^ i) with h | h <;> simp [h]
structure Ch where
  o : List Nat
  t : List Bool
  a : Bool
def eBt (b : Bool) : D := .int ((b.toNat : Nat) : Int)
def eC (c : Ch) : D := .tuple [.tuple (eNs c.o), .tuple (c.t.map eBt), eBt c.a]
structure okC (n : Nat) (c : Ch) : Prop where
  po : c.o.Perm (List.range n)
  lt : c.t.length = n
end PD

namespace PD
open PySem PySem.Spec PyProof.Rows L2
def vecs {α : Type} (xs : List α) : Nat → List (List α)
  | 0 => [[]]
  | n + 1 => (vecs xs n).flatMap fun v => xs.map (· :: v)
theorem mem_vecs {α : Type} {xs : List α} : ∀ {l : List α} {n : Nat}, l.length = n → (∀ x ∈ l, x ∈ xs) → l ∈ vecs xs n
  | [], n, h, _ => by
    have : n = 0 := h.symm
    subst this
    exact List.mem_singleton.mpr rfl
  | x :: l, n, h, hm => by
    cases n with
    | zero => simp at h
    | succ n =>
      have ih := mem_vecs (n := n) (by simpa using h) fun y hy => hm y (List.mem_cons_of_mem _ hy)
      exact List.mem_flatMap.mpr ⟨l, ih, List.mem_map.mpr ⟨x, hm x List.mem_cons_self, rfl⟩⟩
def xM (n p : Nat) (t : List Bool) (k : Nat) : Bool := p.testBit (n - 1 - k) != t.getD k false
def ledS (n p : Nat) (o : List Nat) (t : List Bool) (acc k : Nat) : Nat := acc ||| ((xM n p t k).toNat * 2 ^ (n - 1 - o.getD k 0))
def ledM (n p : Nat) (o : List Nat) (t : List Bool) : Nat := (List.range n).foldl (ledS n p o t) 0
def oldS (n p : Nat) (o : List Nat) (t : List Bool) (l : List Bool) (k : Nat) : List Bool := l.set (o.getD k 0) (xM n p t k)
def oldM (n p : Nat) (o : List Nat) (t : List Bool) : List Bool := (List.range n).foldl (oldS n p o t) (List.replicate n false)
def ptM (l : List Bool) : Nat := l.foldl (fun a b => 2 * a + b.toNat) 0
theorem led_all : ∀ n, n < 5 → ∀ o ∈ vecs (List.range n) n, o.Nodup → ∀ t ∈ vecs [false, true] n, ∀ p, p < 2 ^ n → ledM n p o t = ptM (oldM n p o t) ∧ ledM n p o t < 2 ^ n ∧ ∀ k, k < n → (ledM n p o t).testBit (n - 1 - o.getD k 0) = xM n p t k := by decide +kernel
theorem led_ok {n : Nat} (h4 : n ≤ 4) {c : Ch} (hc : okC n c) {p : Nat} (hp : p < 2 ^ n) : ledM n p c.o c.t = ptM (oldM n p c.o c.t) ∧ ledM n p c.o c.t < 2 ^ n ∧ ∀ k, k < n → (ledM n p c.o c.t).testBit (n - 1 - c.o.getD k 0) = xM n p c.t k := by
  refine led_all n (by omega) c.o (mem_vecs (by rw [hc.po.length_eq, List.length_range]) fun x hx => hc.po.mem_iff.mp hx) (hc.po.nodup_iff.mpr List.nodup_range) c.t (mem_vecs hc.lt fun b _ => by cases b <;> simp) p hp
theorem okC.lo {n : Nat} {c : Ch} (hc : okC n c) : c.o.length = n := by rw [hc.po.length_eq, List.length_range]
theorem okC.ol {n : Nat} {c : Ch} (hc : okC n c) {k : Nat} (hk : k < n) : c.o.getD k 0 < n := by
  have h := hc.lo
  rw [List.getD_eq_getElem?_getD, List.getElem?_eq_getElem (by omega)]
  exact List.mem_range.mp (hc.po.mem_iff.mp (List.getElem_mem _))
end PD

namespace PD
open PySem PySem.Spec PyProof.Rows L2
theorem getD_some {α : Type} {l : List α} {k : Nat} (h : k < l.length) (d : α) : l[k]? = some (l.getD k d) := by
  rw [List.getD_eq_getElem?_getD, List.getElem?_eq_getElem h]
  rfl
theorem turn_at {c : Ch} {k n : Nat} (hc : okC n c) (hk : k < n) (S : Cs) : dIx (.d (.tuple (c.t.map eBt))) (.d (.int (k : Nat))) S = .ok (.a (.d (eBt (c.t.getD k false)))) S :=
  o_ix_tup eBt (getD_some (by rw [hc.lt]; exact hk) false) S
theorem ord_at {c : Ch} {k n : Nat} (hc : okC n c) (hk : k < n) (S : Cs) : dIx (.d (.tuple (eNs c.o))) (.d (.int (k : Nat))) S = .ok (iD (c.o.getD k 0 : Nat)) S :=
  o_ix_tup (fun (i : Nat) => PyData.int (i : Int)) (getD_some (by rw [hc.lo]; exact hk) 0) S
theorem shl_g (a m : Nat) (ha : a < 2) (hm : m ≤ 1000000) (S : Cs) : onD dShl (.d (.int (a : Nat))) (.d (.int (m : Nat))) S = .ok (iD ((a * 2 ^ m : Nat) : Int)) S := by
  have e : (a : Int) * 2 ^ ((m : Int)).toNat = ((a * 2 ^ m : Nat) : Int) := by
    rw [Int.toNat_natCast]
    push_cast
    rfl
  refine onD_of ?_ S
  unfold dShl dI
  simp only
  rw [if_pos (decide_eq_true ⟨by omega, by omega, by omega⟩), e]
theorem xor_b (x y : Bool) : Builtin.bitXor ((x.toNat : Nat) : Int) ((y.toNat : Nat) : Int) = (((x != y).toNat : Nat) : Int) := by
  rw [bXor_nat]
  cases x <;> cases y <;> rfl
end PD

namespace PD
open PySem PySem.Spec PyProof.Rows L2
end PD

namespace PD
open PySem PySem.Spec PyProof.Rows L2
def cgA (a : Bool) (x : Option Bool) : Option Bool := x.map (· != a)
def cgF (n : Nat) (c : Ch) (f : Fn) : Fn := (List.range f.length).map fun p => cgA c.a (f.getD (ledM n p c.o c.t) none)
theorem okC.inj {n : Nat} {c : Ch} (hc : okC n c) {j k : Nat} (hj : j < n) (hk : k < n) (e : c.o.getD j 0 = c.o.getD k 0) : j = k := by
  have nd : c.o.Nodup := hc.po.nodup_iff.mpr List.nodup_range
  have lj : j < c.o.length := by rw [hc.lo]; exact hj
  have lk : k < c.o.length := by rw [hc.lo]; exact hk
  rw [List.getD_eq_getElem?_getD, List.getD_eq_getElem?_getD, List.getElem?_eq_getElem lj, List.getElem?_eq_getElem lk] at e
  have e : c.o[j] = c.o[k] := e
  rcases Nat.lt_trichotomy j k with h | h | h
  · exact absurd e (List.pairwise_iff_getElem.mp nd j k lj lk h)
  · exact h
  · exact absurd e.symm (List.pairwise_iff_getElem.mp nd k j lk lj h)
end PD

namespace PD
open PySem PySem.Spec PyProof.Rows L2
theorem cgF_len (n : Nat) (c : Ch) (f : Fn) : (cgF n c f).length = f.length := by unfold cgF; simp
end PD

namespace PD
open PySem PySem.Spec PyProof.Rows L2
end PD

namespace PD
open PySem PySem.Spec PyProof.Rows L2
structure Lam where
  ps : Arguments
  e : Expr
  sc : Scope
def LamAt (X : Cx) (m : Lam) (c f : Addr) : HO := .ext fun h => ∃ pm ctv : Value, h.get? f = some (PySem.W.kla_obj "<lambda>" (X.env.qual ++ "<lambda>") m.ps m.e m.sc (cloFrom X.env.cells m.sc.names []) pm c ctv)
theorem lamAt_nt {X : Cx} {m : Lam} {c f : Addr} (ps : Array Value) : LamAt X m c f ≠ .tbl ps := fun z => by
  unfold LamAt at z
  cases z
theorem lamAt_nf {X : Cx} {m : Lam} {c f : Addr} (w : World) (a : Addr) (ks : List FK) (as : List Addr) : LamAt X m c f ≠ fnsO w a ks as :=
  fns_ne (o1 := PySem.W.kla_obj "<lambda>" (X.env.qual ++ "<lambda>") m.ps m.e m.sc (cloFrom X.env.cells m.sc.names []) .none c .none) (n := f + 1) (fun _ _ z => by cases z) ⟨.none, .none, repl_at (fun z => by cases z) (Nat.lt_succ_self f)⟩
structure LamOk (X : Cx) (k : Nat) (m : Lam) (f : Fe) : Prop where
  sc : LamX.LamS X.env.scope m.sc
  bd : ∀ (q : Str) (cl : List (Str × Addr)) (pm cv ctv : Value), bindArgs (PySem.W.kla_fn "<lambda>" q m.ps m.e m.sc cl pm cv ctv) ⟨[], []⟩ = pure []
  ok : ∀ (A : Around) (outer : List Env) (s : Shared) (H : Hp) (E : XK) (f1 c1 : Addr), Room k (A.deeper (LamX.lamEnv X m.sc s.heap.objs.size f1 c1)) → VE (LamX.lamCx X A outer s H E m.sc f1 c1) (fun cls d _ H' => E cls d H') m.e f
section
variable {X : Cx} {pins : List (Addr × Obj)} {σ : L2.St} {H : Hp} {s : Shared}
theorem lam_new {T : List (Addr × Str)} {c P : Addr} {m : Lam} {pos : Pos} {E Q : Value → Shared → Prop} (I : Inv X pins σ H s) (tb : LamX.TabB X.base X.mg c P) (hc : X.env.code = .ref c) (hT : TabIn T P (X.env.qual ++ "<lambda>")) (tH : LamX.Tabs T H)
    (hd : defaultsOf m.ps X.env = ([], [])) (hf : ∀ y ∈ m.sc.names, y.2 = .free → ∃ c, X.env.cells.lookup y.1 = some c)
    (go : ∀ (f c1 : Addr) (H1 : Hp) (s1 : Shared), Inv X pins σ H1 s1 → LamX.ExtN H H1 → (∀ b, H1 b = none → H b = none) → LamX.Tabs T H1 → (∃ pm ctv : Value, s1.heap.get? f = some (PySem.W.kla_obj "<lambda>" (X.env.qual ++ "<lambda>") m.ps m.e m.sc (cloFrom X.env.cells m.sc.names []) pm c1 ctv)) →
      s.heap.objs.size ≤ f → H1 f = none → H1 c1 = some (LamX.CodeO c1 (X.env.qual ++ "<lambda>")) → Q (.ref f) s1) :
    wpAny (model X.prog X.w) X.A (eval (.Lambda m.ps m.e m.sc pos) X.env) Q E s := by
  obtain ⟨rows, tP, tri, all⟩ := tH _ hT.1
  have bP := tb.bm.keeps I.bk
  have atP : s.heap.get? P = some { cls := .none, data := .fields rows } := I.hok P _ tP
  apply PySem.W.kla_eval hd
  cases hit : codeAmong pos rows.toList with
  | some cv =>
    obtain ⟨c1, rfl, known⟩ := all pos cv hit
    apply PySem.W.kla_makeFunctionHit (mg := X.mg) (c := c) (P := P) (ps := rows) (closure_ok hf) I.ok.glob (I.mod.glob.keeps I.bk) hc (tb.code.keeps I.bk) atP tri hit bP
    intro ctv hp tk kp big
    exact go _ c1 H _ (I.kept fun b o e => Heap.get?_push_of_some _ (kp b o e)) (.refl H) (fun _ z => z) tH ⟨_, ctv, Heap.get?_push_size _ rfl⟩ big (I.hok.fresh big) known
  | none =>
    apply PySem.W.kla_makeFunction (mg := X.mg) (c := c) (P := P) (ps := rows) (closure_ok hf) I.ok.glob (I.mod.glob.keeps I.bk) hc (tb.code.keeps I.bk) atP tri hit tb.gP bP
    rintro c1 ctv hp tk kp newer below ⟨c2, oc, vs, t, e2, isc, dat, nm⟩ rowsAt
    cases e2
    have big : s.heap.objs.size ≤ hp.objs.size := Nat.le_trans newer (Nat.le_of_lt below)
    have free1 : H c1 = none := I.hok.fresh newer
    have apart : P ≠ c1 := ne_of_none tP free1
    have J := LamX.inv_table (t' := tk) (q := X.env.qual ++ "<lambda>") (more := #[rawInt pos.line, rawInt pos.col, .ref c1]) (h' := hp.push (PySem.W.kla_obj "<lambda>" (X.env.qual ++ "<lambda>") m.ps m.e m.sc (cloFrom X.env.cells m.sc.names []) ((X.mg "__name__").getD .none) c1 ctv)) I tP
      (fun b o ne e => Heap.get?_push_of_some _ (kp b o ne e)) (Heap.get?_push_of_some _ rowsAt) newer ⟨oc, vs, t, Heap.get?_push_of_some _ isc, dat, nm⟩
    have grows : LamX.ExtN H (upd (upd H P (.tbl (rows ++ #[rawInt pos.line, rawInt pos.col, .ref c1]))) c1 (LamX.CodeO c1 (X.env.qual ++ "<lambda>"))) := by
      intro b o e nt
      have nP : b ≠ P := fun z => by
        subst z
        rw [tP] at e
        exact nt rows (Option.some.inj e).symm
      rw [upd_ne (ne_of_none e free1), upd_ne nP, e]
    refine go hp.objs.size c1 _ _ J grows (fun b z => ?_) (fun p hp => ?_) ⟨_, ctv, Heap.get?_push_size _ rfl⟩ big ?_ upd_same
    · cases q : H b with
      | none => rfl
      | some o =>
        rw [upd_ne (ne_of_none q free1)] at z
        by_cases hb : b = P
        · rw [hb, upd_same] at z; cases z
        · rw [upd_ne hb, q] at z; cases z
    · by_cases hb : p.1 = P
      · rw [hT.2 p hp hb, hb]
        refine ⟨_, by rw [upd_ne apart, upd_same], by simpa using PySem.TriplesOk_snoc _ _ _ _ tri, fun p' cv hcv => ?_⟩
        have hcv : codeAmong p' (rows.toList ++ [rawInt pos.line, rawInt pos.col, .ref c1]) = some cv := by simpa using hcv
        rcases LamX.among_app _ tri hcv with z | z
        · obtain ⟨c0, e1, e2⟩ := all p' cv z
          exact ⟨c0, e1, grows _ _ e2 LamX.codeO_ne⟩
        · exact ⟨c1, z, upd_same⟩
      · obtain ⟨ps', a1, a2, a3⟩ := tH p hp
        refine ⟨ps', by rw [upd_ne (ne_of_none a1 free1), upd_ne hb]; exact a1, a2, fun p' cv hcv => ?_⟩
        obtain ⟨c0, e1, e2⟩ := a3 p' cv hcv
        exact ⟨c0, e1, grows _ _ e2 LamX.codeO_ne⟩
    · rw [upd_ne (Nat.ne_of_gt below), upd_ne (Nat.ne_of_gt (Nat.lt_of_lt_of_le (Heap.lt_size atP) big))]
      exact I.hok.fresh big
def tLamF (X : Cx) (T : List (Addr × Str)) (m : Lam) : TE := fun σ H Q => LamX.Tabs T H ∧ ∀ (f c1 : Addr) (H1 : Hp), LamX.ExtN H H1 → (∀ b, H1 b = none → H b = none) → LamX.Tabs T H1 → H f = none → H1 f = some (LamAt X m c1 f) → H1 c1 = some (LamX.CodeO c1 (X.env.qual ++ "<lambda>")) → Q (.ref f) H1
theorem pe_lamF {T : List (Addr × Str)} {c P : Addr} {m : Lam} {pos : Pos} (tb : LamX.TabB X.base X.mg c P) (hc : X.env.code = .ref c) (hT : TabIn T P (X.env.qual ++ "<lambda>")) (hd : defaultsOf m.ps X.env = ([], [])) (L : LamX.LamS X.env.scope m.sc) :
    PE X (.Lambda m.ps m.e m.sc pos) (tLamF X T m) := by
  refine ⟨fun pins s σ H Q I h => ?_⟩
  refine lam_new I tb hc hT h.1 hd (L.has I.ok) fun f c1 H1 s1 I1 eN dm t1 ob new n1 hco => ?_
  have nf : H f = none := I.hok.fresh new
  have old : ∀ {b : Addr}, b < s.heap.objs.size → f ≠ b := fun hb z => absurd (Nat.lt_of_lt_of_le hb (by rw [← z]; exact new)) (Nat.lt_irrefl _)
  have hs : X.s_0.heap.get? f = none := by
    cases q : X.s_0.heap.get? f with
    | none => rfl
    | some o => exact absurd rfl (old (Nat.lt_of_lt_of_le (Heap.lt_size q) I.sz))
  have I2 : Inv X pins σ (upd H1 f (LamAt X m c1 f)) s1 := by
    refine Inv_track I1 n1 hs ⟨ob, by obtain ⟨_, _, e⟩ := ob; exact ⟨_, e⟩, fun _ _ ⟨pm, ctv, e⟩ k => ⟨pm, ctv, k _ e⟩⟩ (old I.lt) (fun x cc e z => ?_) fun p hp z => ?_
    · obtain ⟨v, q⟩ := I.cell x cc e
      exact old q.lt z.symm
    · exact old (Heap.lt_size (I.pin p hp).1) z.symm
  have n2 : ∀ {b o}, H1 b = some o → upd H1 f (LamAt X m c1 f) b = some o := fun {b o} e => by rw [upd_ne (ne_of_none e n1)]; exact e
  exact ⟨.ref f, _, I2, rfl, h.2 f c1 _ (fun b o e nt => n2 (eN b o e nt)) (fun b z => dm b (by
    cases q : H1 b with
    | none => rfl
    | some o => rw [n2 q] at z; cases z)) (t1.ext fun b o e => n2 e) nf upd_same (n2 hco)⟩
end
end PD

namespace PD
open PySem PySem.Spec PyProof.Rows L2
section
variable {X : Cx} {pins : List (Addr × Obj)} {σ : L2.St} {H : Hp} {s : Shared}
theorem pe_actF {CXg : CXT} {Eg : XK} {Ng : List Str} {qg : Str} {sg : Scope} {g f c : Addr} {cdg : Value} {m : Lam} {k i : Nat} {a : Str} {pn : List (Addr × Obj)} {xe : Value → Shared → Prop} {W : WX} {E : XK} {fe : Fe} {p1 p2 : Pos}
    (I : Inv X pins σ H s) (ok : LamOk X k m fe) (tk : Takes ((cxOf CXg X.prog X.w X.K X.mg X.base Ng qg sg g cdg X.A X.stack s H Eg).tr pn xe) W) (hW : ∀ cls d σ' H', E cls d H' → W cls d σ' H') (hr : Room (k + 1) (X.A.deeper (envOfC qg sg s.heap.objs.size g cdg)))
    (hN : Ng[i]? = some a) (hv : Vis sg a) (hd : (a == ("__debug__" : Str)) = false) (hcd : (a == ("__classdict__" : Str)) = false) :
    PE ((cxOf CXg X.prog X.w X.K X.mg X.base Ng qg sg g cdg X.A X.stack s H Eg).tr pn xe) (.Call (.Name a p1) [] [] p2)
      (fun σ2 H2 Q => σ2[i]? = some (some (.ref f)) ∧ H2 f = some (LamAt X m c f) ∧ H2 c = some (LamX.CodeO c (X.env.qual ++ "<lambda>")) ∧ tv X.K X.mg (fun cls d _ H' => E cls d H') fe σ H2 Q) := by
  refine ⟨fun pz sz σz hz Q Iz hh => ?_⟩
  obtain ⟨at_i, at_f, at_c, go⟩ := hh
  have look := (pe_var (pos := p1) (i := i) hN hv hd hcd).run pz sz σz hz (fun v H1 => v = .ref f ∧ H1 = hz) Iz ⟨.ref f, at_i, rfl, rfl⟩
  apply wpAny_Call_Name_kw
  refine thn look fun u s1 ⟨v, H1, I1, r1, ev, eH⟩ => ?_
  subst ev eH
  obtain rfl : u = Value.ref f := r1
  obtain ⟨⟨pm, ctv, isf⟩, -, -⟩ := I1.hok f _ at_f
  obtain ⟨⟨oc, vs, t, isc, dat, nm⟩, -, -⟩ := I1.hok c _ at_c
  apply PySem.W.callWith_F0 ⟨_, _, _, _, isf⟩
  apply wpAny_call
  have run : codeAny (model X.prog X.w) (X.A.deeper (envOfC qg sg s.heap.objs.size g cdg)) (.call (.ref f) ⟨[], []⟩) (CR (L2.CX X.prog X.w) (envOfC qg sg s.heap.objs.size g cdg :: X.stack) X.prog X.w H1 s1 Q E) s1 := by
    apply PySem.W.kla_callFunE hr.depth isf rfl ok.sc.co ok.sc.gen rfl ⟨c, oc, vs, t, rfl, isc, dat, nm⟩
    rw [ok.bd]
    refine wpAny_pure (wpAny_newFunctionEnv (fun y hy => (ok.sc.own y hy).2) (by simp) (fun h1 fresh only => ⟨I1.nolimit.fresh _ only, ?_⟩) ok.sc.kind)
    have kp : ∀ b o, s1.heap.get? b = some o → h1.get? b = some o := fun b o e => only.extBut b o (Nat.ne_of_lt (Heap.lt_size e)) (Heap.get?_push_of_some _ e)
    have J := LamX.lam_start2 (E := E) (f := f) (c' := c) (tk := s1.toks + ([] : List (Str × Value)).length) I ok.sc I1.env0 hr.hd I1.base fresh kp
    apply PySem.W.kla_codeExpr
    refine wpAny_mono ((ok.ok _ _ s1 H1 E f c (hr.deeper _)).run [] _ _ H1 Q J go) ?_ (fun _ _ z => z)
    rintro v s2 ⟨w, H2, J2, rv, q⟩
    exact ⟨w, H2, J2.os, J2.bare, J2.base, J2.hok, rv, q⟩
  refine codeAny_mono run fun r s2 hq => ?_
  match r, hq with
  | .error e, hq => exact passes_call tk hW pz σz H1 s1 e s2 I1 hq
  | .ok (.ret u), hq => exact I1.after hq
  | .ok .next, hq => exact hq.elim
  | .ok .brk, hq => exact hq.elim
  | .ok .cont, hq => exact hq.elim
def tRefF (X : Cx) (k ic : Nat) (ords : List Str) (σ : L2.St) : TE := fun σ2 H2 Q => ∃ (m : Lam) (fe : Fe) (f c : Addr), σ2[ic]? = some (some (.ref f)) ∧ H2 f = some (LamAt X m c f) ∧ H2 c = some (LamX.CodeO c (X.env.qual ++ "<lambda>")) ∧ LamOk X k m fe ∧
  TTR X.K X.mg ords (fun E' H' Q' => tv X.K X.mg (fun cls d _ H'' => E' cls d H'') fe σ H' Q') H2 Q
theorem pe_refF {scope : Scope} {ce : Env} {fp : List Addr} {x a y : Str} {st : Stmt} {Ng ords : List Str} {k ic : Nat} {p py pos : Pos} (I : Inv X pins σ H s) (hfp : ∀ b ∈ fp, FpOk X pins H b) (hr : Room (k + 2) X.A) (Dg : DefAt X.K X.mg x st [a]) (Sg : FnScope Ng [a] (defScope st)) (hNg : Ng[0]? = some a) (hva : Vis (defScope st) a)
    (hG : ∀ (g : Addr) (cdg : Value), LamX.GivesTo X Ng x (defScope st) g cdg (defBody st) a (X.env.qual ++ "<lambda>") (TTR X.K X.mg ords))
    (hg : Gl (X.blk s H scope ce fp) x) (hy : X.N[ic]? = some y) (hvy : Vis ce.scope y) (hdy : (y == ("__debug__" : Str)) = false) (hcy : (y == ("__classdict__" : Str)) = false) (hdb : (x == ("__debug__" : Str)) = false) (hd : (a == ("__debug__" : Str)) = false) (hcd : (a == ("__classdict__" : Str)) = false) :
    PE (X.blk s H scope ce fp) (.Call (.Name x p) [.Name y py] [] pos) (tRefF X k ic ords σ) := by
  obtain ⟨g, fd, e1, e2, e3⟩ := Dg.ex
  obtain ⟨oc, od, kV, doc, pm, an, cdv, ct, osl, rfl, lk, hcd2⟩ := e3.ex
  refine ⟨fun pz sz σz hz Q Iz hh => ?_⟩
  obtain ⟨m, fe, f, c, at_y, at_f, at_c, ok, tt⟩ := hh
  apply wpAny_Call_Name_kw
  refine ld_glob Iz hg e1 ?_ hdb
  refine PySem.W.callWith_K (h₀ := X.base) Iz.ok.mod.kin e3.kp ?_ (by rfl) (by rfl)
  show wpAny _ _ (spliced ((false, eval (.Name y py) ce) :: backTo pos (starEach [] ce))) _ _ sz
  refine Calls.spliced_cons (thn ((pe_var (X := X.blk s H scope ce fp) (pos := py) (i := ic) hy hvy hdy hcy).run pz sz σz hz (fun v H1 => v = .ref f ∧ H1 = hz) Iz ⟨.ref f, at_y, rfl, rfl⟩) fun u s1 ⟨v, H1, I1, r1, ev, eH⟩ => ?_)
  subst ev eH
  obtain rfl : u = Value.ref f := r1
  refine Calls.spliced_nil ⟨I1.kIn, ?_⟩
  -- the def around, here
  have IX : Inv X pins σ H1 s1 := I.call' (ch := fp) I1.os I1.base I1.hok I1.bare fun b hb => by
    obtain ⟨-, z1, -, z2, z3, z4⟩ := hfp b hb
    exact ⟨z2, z1, z3, z4⟩
  have run : codeAny (model X.prog X.w) X.A (.call (.ref g) ⟨[.ref f], []⟩) (CR C8.CX0 X.stack X.prog X.w H1 s1 Q C8.E0) s1 := by
    refine LamX.run_ofS (N := Ng) (ps := [a]) (us := [.ref f]) (vs := [.ref f]) lk hcd2 Sg hr IX.env0 (e2 s1 [.ref f] IX.kIn rfl) (.cons rfl .nil) rfl fun hr' => ?_
    have tt2 : TTR X.K X.mg ords (fun E' H' Q' => H' f = some (LamAt X m c f) ∧ tv X.K X.mg (fun cls d _ H'' => E' cls d H'') fe σ H' Q') H1 Q := by
      obtain ⟨κ, F, S, r, fh, cl, gv, po⟩ := tt
      exact ⟨κ, F, S, r, fh, cl, fun E' Q' z => ⟨at_f, gv E' Q' z⟩, po⟩
    obtain ⟨t', ht', hq'⟩ := hG g cdv f c s1 H1 Q (fun E' H' Q' => H' f = some (LamAt X m c f) ∧ tv X.K X.mg (fun cls d _ H'' => E' cls d H'') fe σ H' Q') (fun W pn xe E p1 p2 tk hW => (pe_actF (i := 0) (g := g) (cdg := cdv) (c := c) (f := f) IX ok tk hW hr' hNg hva hd hcd).imp fun σ2 H2 Q2 ⟨z1, z2, z3, z4⟩ => ⟨z1, z3, z2, z4⟩) at_c tt2
    exact ⟨t', ht'.nox, hq'⟩
  refine wpAny_call (codeAny_mono run fun r s2 hq => ?_)
  match r, hq with
  | .error e, hq => exact (show False from hq).elim
  | .ok (.ret u), hq => exact I1.after hq
  | .ok .next, hq => exact hq.elim
  | .ok .brk, hq => exact hq.elim
  | .ok .cont, hq => exact hq.elim
end
end PD

namespace PD
open PySem PySem.Spec PyProof.Rows L2
section
variable {X : Cx}
theorem pe_lcI {elt tg iter : Expr} {scope : Scope} {own : List (Str × Nat)} {pos : Pos} {wi : TI} {g : TG} {te : L2.St → TE} (hc : X.calm = true) (hN : X.N.Nodup) (hi : PI X tg iter wi) (ok : BlkOk X.N X.env.scope scope own)
    (hg : ∀ (s : Shared) (H : Hp) (C : Addr) (cl : List (Str × Addr)) (fp : List Addr), PG (X.blk s H scope (compEnvC scope cl C X.env) fp) tg g)
    (he : ∀ (pins : List (Addr × Obj)) (σ : L2.St) (s : Shared) (H : Hp) (C : Addr) (cl : List (Str × Addr)) (fp : List Addr), Inv X pins σ H s → (∀ b ∈ fp, FpOk X pins H b) → PE (X.blk s H scope (compEnvC scope cl C X.env) fp) elt (te σ))
    (hs : ∀ x, foldedSetIterable iter X.env x = pure x) :
    PE X (.ListComp elt [⟨tg, iter, [], 0⟩] scope pos) (fun σ H Q => tLc wi g tYes (te σ) (own.map (·.2)) σ H Q) := by
  refine ⟨fun pins s σ H Q I walk => ?_⟩
  have caught : ∀ y ∈ scope.names, y.2 = .free → ∃ c, X.env.cells.lookup y.1 = some c := fun y hy e => I.ok.has _ (ok.free y hy e)
  rw [eval_ListComp]
  apply wpAny_comprehension_free (use := none) rfl hs (closure_ok caught) ok.kind (fun y hy e => (ok.uniq y hy).trans (congrArg some e))
  refine thn (hi.run pins s σ H _ I walk) fun xv s1 here => thn here fun itv s2 found => ?_
  obtain ⟨it, fp, tn, J, H2, rfl, I2, T, start, apart, q⟩ := found
  refine wpAny_newObj_type (newEnv_comp ?_) (by show 0 ≤ sizeLine; decide)
  -- the new list, at D
  obtain ⟨W, ⟨m0, w0⟩, turn⟩ := q s2.heap.objs.size (I2.hok.fresh (Nat.le_refl _))
  generalize eD : s2.heap.objs.size = D at w0 turn
  generalize e3 : ({ s2 with heap := s2.heap.push { cls := .type "list", data := .seq ([] : List Value).toArray } } : Shared) = s3
  have h3 : s3.heap = s2.heap.push { cls := .type "list", data := .seq ([] : List Value).toArray } := by rw [← e3]
  have I3 : Inv X pins σ (upd H2 D (.lst [])) s3 := by
    subst e3 eD
    exact I2.laid (t' := s2.toks) (fun b o e => Heap.get?_push_of_some _ e) (Nat.le_refl _) ⟨Nat.zero_le _, [], 0, .nil, Heap.get?_push_size _ rfl⟩
  have ahead : ∀ b ∈ fp, b < D := fun b hb => by
    obtain ⟨o, e, -⟩ := T.obj _ _ start b hb
    rw [← eD]
    exact Heap.lt_size e
  have apart3 : ∀ b ∈ fp, FpOk X pins (upd H2 D (.lst [])) b := fun b hb => by
    refine ⟨?_, (apart b hb).2⟩
    rw [upd_ne (Nat.ne_of_lt (ahead b hb))]
    exact (apart b hb).1
  have below3 : ∀ b ∈ fp, b < s3.heap.objs.size := fun b hb => by
    rw [h3, Heap.size_push, eD]
    exact Nat.lt_succ_of_lt (ahead b hb)
  generalize eH : upd H2 D (.lst []) = H3 at I3 apart3 w0
  -- the block's own frame
  have I4 := block_start I3 ok hN fun b hb => ⟨apart3 b hb, below3 b hb⟩
  show codeAny _ _ (.compStart (.ListComp elt [⟨tg, iter, [], 0⟩] scope pos) 0 (.ref it) (.ref D) (compEnvC scope (cellsFrom (s3.heap.objs.size + 1) scope.names (cloFrom X.env.cells scope.names [])) s3.heap.objs.size X.env)) (compPost (model X.prog X.w) X.A X.xe none (EP X pins σ Q) (.ref D) s3.heap.objs.size) { s3 with heap := pushCells (s3.heap.push { cls := .type "dict", data := .dict #[] }) scope.names }
  have PGc := hg s3 H3 s3.heap.objs.size (cellsFrom (s3.heap.objs.size + 1) scope.names (cloFrom X.env.cells scope.names [])) fp
  have PEc := he pins σ s3 H3 s3.heap.objs.size (cellsFrom (s3.heap.objs.size + 1) scope.names (cloFrom X.env.cells scope.names [])) fp I3 apart3
  generalize eC : compEnvC scope (cellsFrom (s3.heap.objs.size + 1) scope.names (cloFrom X.env.cells scope.names [])) s3.heap.objs.size X.env = C at I4 PGc PEc ⊢
  have hL : C.locals = s3.heap.objs.size := by rw [← eC]; rfl
  have start4 : tn 0 (pushCells (s3.heap.push { cls := .type "dict", data := .dict #[] }) scope.names) := by
    refine T.keep _ _ _ start fun b _ o e => pushCells_keeps _ _ _ _ (Heap.get?_push_of_some _ ?_)
    rw [h3]
    exact Heap.get?_push_of_some _ e
  generalize e4 : ({ s3 with heap := pushCells (s3.heap.push { cls := .type "dict", data := .dict #[] }) scope.names } : Shared) = s4 at I4 ⊢
  have start4 : tn 0 s4.heap := by rw [← e4]; exact start4
  let B := X.blk s3 H3 scope C fp
  have own_fp : ∀ {σ' : L2.St} {H' : Hp} {s' : Shared}, Inv B [] σ' H' s' → (∀ b ∈ fp, H' b = none) → ∀ b ∈ fp, FpOk B [] H' b := fun I' hn b hb =>
    ⟨hn b hb, (I'.ok.exf b hb).1, I'.ok.exfs b hb, .inl hb, (I'.ok.exf b hb).2, fun p hp => nomatch (show p ∈ ([] : List (Addr × Obj)) from hp)⟩
  let At_ : Nat → Shared → Prop := fun n s' => ∃ i H', Inv B [] (wipe σ (own.map (·.2))) H' s' ∧ tn i s'.heap ∧ (∀ b ∈ fp, H' b = none) ∧ W i n H'
  have at0 : At_ m0 s4 := ⟨0, H3, I4, start4, fun b hb => (apart3 b hb).1, w0⟩
  have loop : codeAny (model X.prog X.w) X.A (.compLoop (.ListComp elt [⟨tg, iter, [], 0⟩] scope pos) 0 (.ref it) (.ref D) C) (compPost (model X.prog X.w) X.A X.xe none (EP X pins σ Q) (.ref D) s3.heap.objs.size) s4 := by
    refine compLoop_any At_ (fun n s5 ⟨i, H5, I5, st5, n5, w5⟩ => ?_) m0 at0
    rcases turn i n H5 w5 with ⟨stop, fine⟩ | ⟨more, Nx, nxt, step⟩
    · have over := T.done B rfl rfl rfl hc i [] s5 _ H5 (fun _ _ => False) I5 (own_fp I5 n5) st5 stop
      refine thnF over fun r s6 ⟨none_, I6⟩ => ?_
      subst none_
      have I7 : Inv X pins σ H5 s6 := I3.call' (ch := fp) I6.os I6.base I6.hok I6.bare fun b hb => by
        obtain ⟨-, z1, -, z2, z3, z4⟩ := apart3 b hb
        exact ⟨z2, z1, z3, z4⟩
      obtain ⟨mm, ns, -⟩ := I6.loc
      have ns : s6.heap.Ns C.locals mm := ns
      rw [hL] at ns
      have free6 : H5 C.locals = none := I6.free
      rw [hL] at free6
      obtain ⟨-, g1, g2, g3, g4, g5⟩ := I3.fpOk (Nat.le_refl _) free6
      exact ⟨mm, ns, fun h7 sb => ⟨.ref D, H5, I7.turned (t' := s6.toks) (fun b o hb e => (sb.2 b hb).trans e) free6 g1 g3 g4 g5, rfl, fine⟩⟩
    · have item := T.item B rfl rfl rfl hc i [] s5 _ H5 (fun _ _ => False) I5 (own_fp I5 n5) st5 more
      refine thnF item fun r s6 ⟨u, some_, h6⟩ => ?_
      subst some_
      refine thnF h6 fun _ s7 ⟨x, H7, I7, r7, y7, st7, n7⟩ => ?_
      have P7 := I7.pinned (own_fp I7 n7) (T.obj _ _ st7)
      refine thnF (PGc.run _ s7 _ H7 x u _ P7 r7 (step x H7 y7)) fun _ s8 ⟨σ8, H8, I8, w8, q8⟩ => ?_
      refine thnF ((pts_nil (X := B)).run _ s8 σ8 H8 _ I8 q8) fun b s9 ⟨H9, I9, q9⟩ => ?_
      have turned : ∀ {s' : Shared} {H' : Hp}, Inv B ([] ++ pinsAt fp s7.heap) σ8 H' s' → Nx H' → ∃ m, m < n ∧ At_ m s' := fun {s' H'} I' nx => by
        obtain ⟨m', less, w'⟩ := nxt H' nx
        have held : ∀ b ∈ fp, ∀ o, s7.heap.get? b = some o → s'.heap.get? b = some o ∧ H' b = none := fun b hb o e => by
          have z := I'.pin (b, o) (List.mem_append_right _ (List.mem_append_right _ (mem_pinsAt hb e)))
          exact ⟨z.1, z.2.1⟩
        refine ⟨m', less, i + 1, H', (I'.unpinned (pins := [])).weak (by rw [← w8, wipe_length]) (fun j v e => ?_), T.keep _ _ _ st7 fun b hb o e => (held b hb o e).1, fun b hb => ?_, w'⟩
        · rw [← w8] at e
          exact (wipe_some e).1
        · obtain ⟨o, e, -⟩ := T.obj _ _ st7 b hb
          exact (held b hb o e).2
      cases b with
      | false => exact turned I9 q9
      | true =>
        refine thnF (PEc.run _ s9 σ8 H9 _ I9 q9) fun z s10 ⟨yv, H10, I10, r10, acc, at_D, room, nx⟩ => ?_
        exact app_ok (X := B) I10 at_D room r10 fun s11 I11 => turned I11 nx
  exact codeAny_compStart_list loop (T.self X.A 0 _ _ _ start4 loop)
end
end PD

namespace PD
open PySem PySem.Spec PyProof.Rows L2
inductive Fns (X : Cx) (H : Hp) : List Lam → List V → Prop
  | nil : Fns X H [] []
  | cons {m : Lam} {ms : List Lam} {f c : Addr} {vs : List V} : H f = some (LamAt X m c f) → H c = some (LamX.CodeO c (X.env.qual ++ "<lambda>")) → Fns X H ms vs → Fns X H (m :: ms) (.ref f :: vs)
inductive LamsOk (X : Cx) (k : Nat) : List Lam → List Fe → Prop
  | nil : LamsOk X k [] []
  | cons {m : Lam} {ms : List Lam} {f : Fe} {fs : List Fe} : LamOk X k m f → LamsOk X k ms fs → LamsOk X k (m :: ms) (f :: fs)
theorem lams_nil {X : Cx} {k : Nat} : LamsOk X k [] [] := .nil
theorem lams_cons {X : Cx} {k : Nat} {ps : Arguments} {e : Expr} {sc : Scope} {ms : List Lam} {f : Fe} {fs : List Fe} (L : LamX.LamS X.env.scope sc)
    (ok : ∀ (A : Around) (outer : List Env) (s : Shared) (H : Hp) (E : XK) (f1 c1 : Addr), Room k (A.deeper (LamX.lamEnv X sc s.heap.objs.size f1 c1)) → VE (LamX.lamCx X A outer s H E sc f1 c1) (fun cls d _ H' => E cls d H') e f)
    (h : LamsOk X k ms fs) (bd : ∀ (q : Str) (cl : List (Str × Addr)) (pm cv ctv : Value), bindArgs (PySem.W.kla_fn "<lambda>" q ps e sc cl pm cv ctv) ⟨[], []⟩ = pure [] := by intro _ _ _ _ _; rfl) : LamsOk X k (⟨ps, e, sc⟩ :: ms) (f :: fs) := .cons ⟨L, bd, ok⟩ h
theorem Fns.len {X : Cx} {H : Hp} {ms : List Lam} {vs : List V} (h : Fns X H ms vs) : vs.length = ms.length := by
  induction h with
  | nil => rfl
  | cons _ _ _ ih => simp [ih]
theorem LamsOk.len {X : Cx} {k : Nat} {ms : List Lam} {fs : List Fe} (h : LamsOk X k ms fs) : fs.length = ms.length := by
  induction h with
  | nil => rfl
  | cons _ _ ih => simp [ih]
theorem Fns.up {X : Cx} {H H' : Hp} {ms : List Lam} {vs : List V} (k : ∀ b o, H b = some o → NoC o → (∀ ps, o ≠ .tbl ps) → H' b = some o) (h : Fns X H ms vs) : Fns X H' ms vs := by
  induction h with
  | nil => exact .nil
  | cons h1 h2 _ ih => exact .cons (k _ _ h1 ⟨(fun _ z => by unfold LamAt at z; cases z), (fun _ z => by unfold LamAt at z; cases z), (fun _ _ _ z => by unfold LamAt at z; cases z), (fun _ z => by unfold LamAt at z; cases z), lamAt_nf⟩ lamAt_nt) (k _ _ h2 ⟨(fun _ z => by unfold LamX.CodeO at z; cases z), (fun _ z => by unfold LamX.CodeO at z; cases z), (fun _ _ _ z => by unfold LamX.CodeO at z; cases z), (fun _ z => by unfold LamX.CodeO at z; cases z), codeO_nf⟩ LamX.codeO_ne) ih
theorem Fns.app {X : Cx} {H : Hp} {m : Lam} {f c : Addr} (h1 : H f = some (LamAt X m c f)) (h2 : H c = some (LamX.CodeO c (X.env.qual ++ "<lambda>"))) : ∀ {ms : List Lam} {vs : List V}, Fns X H ms vs → Fns X H (ms ++ [m]) (vs ++ [.ref f])
  | _, _, .nil => .cons h1 h2 .nil
  | _, _, .cons a b t => .cons a b (t.app h1 h2)
theorem Fns.at_ {X : Cx} {H : Hp} {k : Nat} : ∀ {ms : List Lam} {vs : List V} {fs : List Fe} {i : Nat}, Fns X H ms vs → LamsOk X k ms fs → i < fs.length →
    ∃ m fe f c, fs.drop i = fe :: fs.drop (i + 1) ∧ vs[i]? = some (.ref f) ∧ H f = some (LamAt X m c f) ∧ H c = some (LamX.CodeO c (X.env.qual ++ "<lambda>")) ∧ LamOk X k m fe
  | _, _, _, i, .nil, .nil, h => absurd h (by simp)
  | _, _, _, 0, .cons a b t, .cons o os, _ => ⟨_, _, _, _, rfl, rfl, a, b, o⟩
  | _, _, _, i + 1, .cons a b t, .cons o os, h => by
    obtain ⟨m, fe, f, c, h1, h2, h3⟩ := t.at_ (i := i) os (by simpa using h)
    exact ⟨m, fe, f, c, by simpa using h1, by simpa using h2, h3⟩
def BLk (X : Cx) (iL : Nat) (ms : List Lam) (κ : Kp) (σ : L2.St) (H : Hp) : Prop := ∃ a vs, σ[iL]? = some (some (.ref a)) ∧ H a = some (.lst vs) ∧ a ∉ κ.l ∧ Fns X H ms vs
theorem Fns.nxt {X : Cx} {K : PySem.W.Frag} {κ : Kp} {F H F' H' : Hp} {S : Cs} {ms : List Lam} {vs : List V} (n : Nxt κ F H F' H') (c : Cel K κ F H S) (h : Fns X H ms vs) : Fns X H' ms vs :=
  h.up fun b o e nl nt => n.kp b o e (c.outC e nl) nt
theorem BLk.nxt {X : Cx} {iL : Nat} {ms : List Lam} {K : PySem.W.Frag} {κ : Kp} {F H F' H' : Hp} {S : Cs} {σ : L2.St} (b : BLk X iL ms κ σ H) (n : Nxt κ F H F' H') (c : Cel K κ F H S) : BLk X iL ms κ σ H' := by
  obtain ⟨a, vs, h1, h2, h3, h4⟩ := b
  exact ⟨a, vs, h1, n.kp a _ h2 h3 (fun ps z => by cases z), h3, h4.nxt n c⟩
def tvL (X : Cx) (iL : Nat) (ms : List Lam) (Z : WX) (f : Fe) : TE := fun σ H Q => ∃ κ F ρ S, At X.K κ F ρ S σ H ∧ BLk X iL ms κ σ H ∧ Post X.K X.mg Z κ F H σ (f ρ S) Q
def refsL (ords : List Str) (ρ : En) : List Fe → Cs → List W → R
  | [], S, acc => .ok (.own acc) S
  | f :: fs, S, acc => match fRef ords f ρ S with
    | .ok w S1 => refsL ords ρ fs S1 (acc ++ [w])
    | _ => .stuck
def fRefs (ords : List Str) (ic : Nat) (fs : List Fe) : Fe := fun ρ S => if ic < ρ.length then refsL ords ρ fs S [] else .stuck
theorem CInv.push {K : PySem.W.Frag} {κ : Kp} {F1 H1 F H F4 H4 : Hp} {Dd : Addr} {i : Nat} {S S4 : Cs} {acc : List W} {vs : List V} {L L4 : List Addr} {w : W} {ve : V} (ci : CInv K κ F1 H1 Dd i F H S acc vs L) (dk : Dd ∉ κ.l) (c1 : ∀ a ∈ κ.l, ¬ FrT H1 a) (fr : FrT H1 Dd)
    (n4 : Nxt κ F H F4 H4) (c4 : Cel K κ F4 H4 S4) (r4 : RepW K κ F4 H4 w ve L4) (nd4 : L4.Nodup) (nw4 : ∀ p ∈ L4, FrT H p ∧ F4 p = none) : H4 Dd = some (.lst vs) ∧ CInv K κ F1 H1 Dd (i + 1) F4 (upd H4 Dd (.lst (vs ++ [ve]))) S4 (acc ++ [w]) (vs ++ [ve]) (L ++ L4) := by
  have th := RepWs.there acc vs L ci.r
  have lk : ∀ a ∈ L, a ∉ κ.l := fun a ha z => c1 a z (ci.nw a ha).1
  obtain ⟨k1, k3⟩ := n4.own th (fun a ha => (ci.nw a ha).2) lk
  obtain ⟨o1, o2⟩ := n4.own1 ci.d ci.fd dk
  have o3 : RepWs K κ F4 H4 acc vs L := RepWs.up n4.ff acc vs L k1 ci.r
  have d4 : ∀ a ∈ L4, a ≠ Dd := fun a ha z => by
    have := (nw4 a ha).1
    rw [z] at this
    exact this.no ci.d
  have dL : ∀ a ∈ L, a ≠ Dd := fun a ha z => (List.nodup_cons.mp ci.nd).1 (z ▸ ha)
  have n5 : Nxt κ F1 H1 F4 (upd H4 Dd (.lst (vs ++ [ve]))) := (ci.n.trans n4).wr fr o2 o1
  refine ⟨o1, n5, c4.wr dk o1, upd_same, o2, ?_, ?_, fun a ha => ?_, ?_⟩
  · exact RepWs.app (RepWs.up (Same.refl _) acc vs L (fun a ha o e => by rw [upd_ne (dL a ha)]; exact e) o3) ⟨ve, [], L4, [], rfl, by simp, RepW.up (Same.refl _) w ve L4 (fun a ha o e => by rw [upd_ne (d4 a ha)]; exact e) r4, rfl, rfl⟩
  · refine List.nodup_cons.mpr ⟨fun z => ?_, List.nodup_append.mpr ⟨(List.nodup_cons.mp ci.nd).2, nd4, fun a ha b hb => ?_⟩⟩
    · rcases List.mem_append.mp z with z | z
      · exact dL Dd z rfl
      · exact d4 Dd z rfl
    · rintro rfl
      obtain ⟨us, hu⟩ := th a ha
      exact (nw4 a hb).1.no hu
  · rcases List.mem_append.mp ha with z | z
    · exact ⟨(ci.nw a z).1, k3 a z⟩
    · exact ⟨ci.n.back (nw4 a z).1, (nw4 a z).2⟩
  · rw [List.length_append]
    exact Nat.succ_le_succ ci.ln
theorem refs_of {X : Cx} {k iL ic : Nat} {ords : List Str} {own : List Nat} {ms : List Lam} {fs : List Fe} {Z : WX} {σ : L2.St} {H : Hp} {Q : VK} (hic : ic ∈ own) (oks : LamsOk X k ms fs) (few : fs.length ≤ 1000) (q : tvL X iL ms Z (fRefs ords ic fs) σ H Q) :
    tLc (iList X.K (tVar iL)) (gName ic) tYes (tRefF X k ic ords σ) own σ H Q := by
  obtain ⟨κ, F, ρ, S, t, ⟨a, vs, at_L, at_a, ak, fns⟩, p⟩ := q
  unfold fRefs at p
  split at p
  rotate_left
  · exact p.elim
  rename_i hic2
  have few' : fs.length ≤ sizeLine := by rw [sizeLine_eq]; omega
  have lv : vs.length = fs.length := fns.len.trans oks.len.symm
  refine ⟨.ref a, at_L, a, rfl, ⟨vs, .of at_a⟩, fun Dd hD => ?_⟩
  have dk : Dd ∉ κ.l := fun z => by
    obtain ⟨us, e, _⟩ := t.cel.there Dd z
    rw [hD] at e; cases e
  refine ⟨fun i m H' => m = fs.length - i ∧ i ≤ fs.length ∧ ∃ F' S' acc us L, CInv X.K κ F H Dd i F' H' S' acc us L ∧ Post X.K X.mg Z κ F H σ (refsL ords ρ (fs.drop i) S' acc) Q,
    ⟨fs.length, by simp, Nat.zero_le _, F, S, [], [], [], ⟨Nxt.newH t.fh hD, t.cel.newH t.fh hD, upd_same, t.fh.free hD, ⟨rfl, rfl⟩, by simp, fun _ h => absurd h (by simp), Nat.le_refl _⟩, p⟩, ?_⟩
  rintro i m H' ⟨rfl, hi, F', S', acc, us, L, ci, p'⟩
  have at_a' : H' a = some (.lst vs) := ci.n.kp a _ at_a ak (fun ps z => by cases z)
  by_cases hlt : i < fs.length
  · obtain ⟨m, fe, f, c, dr, at_i, at_f, at_c, ok⟩ := (fns.nxt ci.n t.cel).at_ oks hlt
    refine .inr ⟨⟨vs, _, .of at_a', at_i⟩, fun H' => i + 1 ≤ fs.length ∧ ∃ F' S' acc us L, CInv X.K κ F H Dd (i + 1) F' H' S' acc us L ∧ Post X.K X.mg Z κ F H σ (refsL ords ρ (fs.drop (i + 1)) S' acc) Q, fun H' h => ⟨fs.length - (i + 1), by omega, rfl, h⟩, fun x H2 y2 => ?_⟩
    obtain ⟨rfl, y2⟩ := y2
    have ex : x = .ref f := Option.some.inj ((y2 vs (.of at_a')).symm.trans at_i)
    subst ex
    refine ⟨wipe_eq (sl := [ic]) (fun j hj => List.getElem?_set_ne (fun z => hj (by simp [z]))) (fun j hj => by rw [List.mem_singleton.mp hj]; exact hic) (by simp), ?_⟩
    show tRefF X k ic ords σ ((wipe σ own).set ic (some (.ref f))) H2 _
    rw [dr] at p'
    unfold refsL at p'
    cases er : fRef ords fe ρ S' with
    | stuck => rw [er] at p'; exact p'.elim
    | exc n S2 => rw [er] at p'; exact p'.elim
    | ok w S2 =>
      rw [er] at p'
      refine ⟨m, fe, f, c, ?_, at_f, at_c, ok, κ, F', S', fe ρ S', ci.n.fh, ci.c, fun E' Q' z => ⟨κ, F', ρ, S', t.nxt ci.n ci.c, z.zx fun _ _ _ w => w⟩, ?_⟩
      · exact List.getElem?_set_self (by rw [wipe_length]; exact Nat.lt_of_lt_of_le hic2 t.ln)
      · have er' : refR ords (fe ρ S') = .ok w S2 := er
        rw [er']
        intro ve H4 F4 L4 n4 c4 r4 nd4 nw4
        obtain ⟨z1, z2⟩ := ci.push dk t.hk (frT_none hD) n4 c4 r4 nd4 nw4
        exact ⟨us, z1, Nat.lt_of_le_of_lt ci.ln (Nat.lt_of_lt_of_le hlt few'), hlt, F4, S2, acc ++ [w], us ++ [ve], L ++ L4, z2, p'⟩
  · have e : i = fs.length := by omega
    subst e
    refine .inl ⟨⟨vs, .of at_a', by rw [lv]; exact Nat.le_refl _⟩, ?_⟩
    rw [List.drop_length] at p'
    exact p' (.ref Dd) H' F' (Dd :: L) ci.n ci.c ⟨Dd, us, L, rfl, ci.d, rfl, ci.r⟩ ci.nd fun a ha => by
      rcases List.mem_cons.mp ha with rfl | ha
      · exact ⟨frT_none hD, ci.fd⟩
      · exact ⟨(ci.nw a ha).1, (ci.nw a ha).2⟩
end PD

namespace PD
open PySem PySem.Spec PyProof.Rows L2
section
variable {X : Cx} {Z : WX} {iL ic k : Nat} {ms : List Lam} {fs : List Fe} {ords : List Str}
theorem vel_refs {own : List (Str × Nat)} {scope : Scope} {x a y l : Str} {st : Stmt} {Ng : List Str} {p py p2 pt pL pos : Pos} (oks : LamsOk X k ms fs) (few : fs.length ≤ 1000) (hic : ic ∈ own.map (·.2)) (hc : X.calm = true) (hN : X.N.Nodup) (ok : BlkOk X.N X.env.scope scope own) (hr : Room (k + 2) X.A)
    (Dg : DefAt X.K X.mg x st [a]) (Sg : FnScope Ng [a] (defScope st)) (hNg : Ng[0]? = some a) (hva : Vis (defScope st) a) (hG : ∀ (g : Addr) (cdg : Value), LamX.GivesTo X Ng x (defScope st) g cdg (defBody st) a (X.env.qual ++ "<lambda>") (TTR X.K X.mg ords))
    (hl : X.N[iL]? = some l := by rfl) (hvl : Vis X.env.scope l := by first | exact Or.inl rfl | exact Or.inr (Or.inl rfl) | exact Or.inr (Or.inr rfl)) (hy : X.N[ic]? = some y := by rfl)
    (hg : ∀ (s : Shared) (H : Hp) (C : Addr) (cl : List (Str × Addr)) (fp : List Addr), Gl (X.blk s H scope (compEnvC scope cl C X.env) fp) x := by intro _ _ _ _ _; rfl)
    (hvy : ∀ (C : Addr) (cl : List (Str × Addr)), (compEnvC scope cl C X.env).scope.names.lookup y = some .local := by intro _ _; rfl)
    (hdl : (l == ("__debug__" : Str)) = false := by decide) (hcl : (l == ("__classdict__" : Str)) = false := by decide) (hdy : (y == ("__debug__" : Str)) = false := by decide) (hcy : (y == ("__classdict__" : Str)) = false := by decide) (hdb : (x == ("__debug__" : Str)) = false := by decide)
    (hd : (a == ("__debug__" : Str)) = false := by decide) (hcd : (a == ("__classdict__" : Str)) = false := by decide) (hs : ∀ x, foldedSetIterable (.Name l pL) X.env x = pure x := by intro _; rfl) :
    PE X (.ListComp (.Call (.Name x p) [.Name y py] [] p2) [⟨.Name y pt, .Name l pL, [], 0⟩] scope pos) (tvL X iL ms Z (fRefs ords ic fs)) :=
  (pe_lcI (te := tRefF X k ic ords) hc hN (pi_list (pe_var hl hvl hdl hcl)) ok (fun s H C cl fp => pg_name (X := X.blk s H scope (compEnvC scope cl C X.env) fp) hN hy (.inl (hvy C cl)) (.inr (hvy C cl)))
    (fun pins σ s H C cl fp I hfp => pe_refF I hfp hr Dg Sg hNg hva hG (hg s H C cl fp) hy (.inl (hvy C cl)) hdy hcy hdb hd hcd) hs).imp fun σ H Q q => refs_of hic oks few q
theorem post_bind {K : PySem.W.Frag} {mg : Str → Option Value} {κ : Kp} {F H : Hp} {ρ : En} {S : Cs} {σ : L2.St} {Q Q' : VK} {r : R} {kk : A → Cs → R} (t : At K κ F ρ S σ H) (p : Post K mg Z κ F H σ (r.bnd kk) Q)
    (g : ∀ v H1 F1 S1 x, Nxt κ F H F1 H1 → At K κ F1 ρ S1 σ H1 → RepA K κ F1 v x → Post K mg Z κ F1 H1 σ (kk x S1) Q → Q' v H1) : Post K mg Z κ F H σ r Q' := by
  cases r with
  | stuck => exact p
  | exc m S1 => exact p
  | ok w S1 =>
    intro v H1 F1 L n c r nd nw
    cases e : w.toA with
    | none => simp only [R.bnd, e] at p; exact p.elim
    | some x =>
      simp only [R.bnd, e] at p
      obtain ⟨F2, n2, c2, r2⟩ := frz_mix n c t.hk r nw e
      exact g v H1 F2 S1 x n2 (t.nxt n2 c2) r2 (p.up n2)
theorem tOp_ofL {r : R2} {g : A → A → Cs → R} {fa fb : Fe} (hg : OpS X.K X.mg Z r g) {σ : L2.St} {H : Hp} {Q : VK} (h : tvL X iL ms Z (fBin g fa fb) σ H Q) : tOp r (tvL X iL ms Z fa) (tv X.K X.mg Z fb) σ H Q := by
  obtain ⟨κ, F, ρ, S, t, b, p⟩ := h
  refine ⟨κ, F, ρ, S, t, b, ?_⟩
  refine post_bind t p fun v H1 F1 S1 x n1 t1 r1 p1 => ?_
  refine at_bind t1 p1 fun u H2 F2 S2 y n2 t2 r2 p2 => ?_
  exact hg κ F2 ρ S2 σ H2 v u x y Q t2 (r1.up n2.ff) r2 p2
theorem vel_cv {op : CmpOp} {g : A → A → Cs → R} {a b : Expr} {fa fb : Fe} {pos : Pos} (h : CmpV X Z op g) (ha : PE X a (tvL X iL ms Z fa)) (hb : VE X Z b fb) (hm : behindInMarks op b = false := by first | exact nomark _ | rfl) : PE X (.Compare a [op] [b] pos) (tvL X iL ms Z (fBin g fa fb)) := by
  obtain ⟨r, h1, h2⟩ := h
  exact (pe_cmpR h1 ha hb hm).imp fun σ H Q h => tOp_ofL h2 h
def tsM (X : Cx) (iL : Nat) (ms : List Lam) (Z : WX) (g : Fs) : TS := fun Dn σ H => ∃ κ F0 H0 F ρ S σb Hb a vs, Ats X.K κ F0 H0 F ρ S σb Hb ∧ σ = σb.set iL (some (.ref a)) ∧ iL < σb.length ∧ Hb a = none ∧ LamX.ExtN Hb H ∧ LamX.Tabs κ.T H ∧ H a = some (.lst vs) ∧ Fns X H ms vs ∧ ms.length ≤ 900 ∧ PostS X.K X.mg Z κ F0 H0 F (g (ρ.set iL none) S) Dn
def tsL (X : Cx) (iL : Nat) (ms : List Lam) (Z : WX) (g : Fs) : TS := fun Dn σ H => ∃ κ F0 H0 F ρ S, Ats X.K κ F0 H0 F ρ S σ H ∧ BLk X iL ms κ σ H ∧ PostS X.K X.mg Z κ F0 H0 F (g ρ S) Dn
theorem Ats.dropV {K : PySem.W.Frag} {κ : Kp} {F0 H0 F H : Hp} {ρ : Ev} {S : Cs} {σ : L2.St} (t : Ats K κ F0 H0 F ρ S σ H) (i : Nat) (v : Option V) : Ats K κ F0 H0 F (ρ.set i none) S (σ.set i v) H := by
  obtain ⟨fp, sl⟩ := t.sl
  have ne : ∀ {j w}, (ρ.set i none)[j]? = some (some w) → i ≠ j ∧ ρ[j]? = some (some w) := fun {j w} h => by
    by_cases hj : i = j
    · subst hj
      by_cases hl : i < ρ.length
      · rw [List.getElem?_set_self hl] at h; cases h
      · rw [List.getElem?_eq_none (by rw [List.length_set]; omega)] at h; cases h
    · rw [List.getElem?_set_ne hj] at h; exact ⟨hj, h⟩
  refine ⟨t.n, t.c, t.ck, by rw [List.length_set, List.length_set]; exact t.ln, fun j => if j = i then [] else fp j, fun j w h => ?_, fun j h => ?_, fun j => ?_, fun j k hjk a ha => ?_, fun j a ha => ?_⟩
  · obtain ⟨h1, h2⟩ := ne h
    obtain ⟨v, e1, e2⟩ := sl.rep j w h2
    refine ⟨v, by rw [List.getElem?_set_ne h1]; exact e1, ?_⟩
    rw [if_neg (Ne.symm h1)]; exact e2
  · split
    · rfl
    · rename_i hj
      exact sl.non j fun w e => h w (by rw [List.getElem?_set_ne (Ne.symm hj)]; exact e)
  · split
    · exact .nil
    · exact sl.nd j
  · split at ha
    · exact absurd ha (by simp)
    · split
      · simp
      · exact sl.dis j k hjk a ha
  · split at ha
    · exact absurd ha (by simp)
    · exact sl.nw j a ha
theorem ext_nxt {K : PySem.W.Frag} {κ : Kp} {F H H1 : Hp} {S : Cs} (fh : Same F H) (c : Cel K κ F H S) (e : LamX.ExtN H H1) (t : LamX.Tabs κ.T H1) : Nxt κ F H F H1 ∧ Cel K κ F H1 S := by
  have n : Nxt κ F H F H1 := ⟨.refl F, fun b o q => e b o (fh b o q) fun ps z => c.nt b ps (z ▸ q), fun b o q _ nt => e b o q nt, fun b hb z => hb fun o q => Classical.byContradiction fun nt => by
    obtain ⟨ps, w⟩ := z o (e b o q fun ps w => nt ⟨ps, w⟩)
    exact nt ⟨ps, w⟩, fun _ => t, fun _ h => .inl h, fun h => h⟩
  refine ⟨n, c.up n fun a ha => ?_⟩
  obtain ⟨o, q, nt⟩ := c.there a ha
  rw [q, e a _ q nt]
theorem tsM_L {Dn : Ends} {σ : L2.St} {H : Hp} {g : Fs} (h : tsM X iL ms Z g Dn σ H) : tsL X iL ms Z g Dn σ H := by
  obtain ⟨κ, F0, H0, F, ρ, S, σb, Hb, a, vs, t, rfl, hl, na, ex, tb, at_a, fns, _, p⟩ := h
  obtain ⟨n, c⟩ := ext_nxt t.n.fh t.c ex tb
  refine ⟨κ, F0, H0, F, _, S, (t.nxt n c).dropV iL _, ⟨a, vs, List.getElem?_set_self hl, at_a, fun z => ?_, fns⟩, p⟩
  obtain ⟨us, q, _⟩ := t.c.there a z
  rw [na] at q
  cases q
abbrev VSsM (X : Cx) (iL : Nat) (ms : List Lam) (Z : WX) (sts : List Stmt) (g : Fs) : Prop := PSs X sts (tsM X iL ms Z g)
abbrev VSM (X : Cx) (iL : Nat) (ms : List Lam) (Z : WX) (st : Stmt) (g : Fs) : Prop := PS X st (tsM X iL ms Z g)
def sFgt (i : Nat) (g : Fs) : Fs := fun ρ S => if i < ρ.length then g (ρ.set i none) S else .stuck
variable {T : List (Addr × Str)} {c P : Addr} {ps : Arguments} {e : Expr} {sc : Scope} {l : Str} {rest : List Stmt} {g g1 g2 : Fs} {st : Stmt}
theorem vss_lam0 {lpos epos npos pos : Pos} (hN : X.N.Nodup) (tb : LamX.TabB X.base X.mg c P) (hc : X.env.code = .ref c) (hT : TabIn (tabsK X.K) P (X.env.qual ++ "<lambda>")) (L : LamX.LamS X.env.scope sc) (hrest : VSsM X iL [⟨ps, e, sc⟩] Z rest g)
    (hi : X.N[iL]? = some l := by rfl) (hx : Loc X.env.scope l := by first | exact Or.inl rfl | exact Or.inr rfl) (hd : defaultsOf ps X.env = ([], []) := by rfl) (he : starEach [.Lambda ps e sc lpos] X.env = (false, eval (.Lambda ps e sc lpos) X.env) :: starEach [] X.env := by rfl)
    (hs : swapsWith (.List [.Lambda ps e sc lpos] epos) (some (.Name l npos)) pos.line X.env = pure false := by rfl) (hf : X.fn l = true ∨ X.env.scope.names.lookup l = some .local := by first | exact .inl rfl | exact .inr rfl | assumption) :
    VSs X Z (.Assign [.Name l npos] (.List [.Lambda ps e sc lpos] epos) pos :: rest) (sFgt iL g) :=
  (pss_cons (ps_set hN hi hx (pe_lst (pa_cons (pe_lamF (m := ⟨ps, e, sc⟩) tb hc hT hd L) pa_nil he)) hs hf) hrest).imp fun Dn σ H h => by
    obtain ⟨κ, F0, H0, F, ρ, S, t, p⟩ := h
    unfold sFgt at p
    split at p
    rotate_left
    · exact p.elim
    rename_i hl
    refine ⟨by rw [← t.c.tb.1]; exact t.c.tb.2, fun f c1 H1 ex dm t1 nf at_f at_c => ⟨by rw [sizeLine_eq]; simp, fun a na => ?_⟩⟩
    rw [← t.c.tb.1] at t1
    have up : ∀ {b o}, H1 b = some o → upd H1 a (.lst [.ref f]) b = some o := fun {b o} q => by rw [upd_ne (ne_of_none q na)]; exact q
    have nb : H a = none := dm a na
    exact ⟨κ, F0, H0, F, ρ, S, σ, H, a, _, t, rfl, Nat.lt_of_lt_of_le hl t.ln, nb, fun b o q nt => up (ex b o q nt), t1.ext fun b o q => up q, upd_same, .cons (up at_f) (up at_c) .nil, by simp, p⟩
theorem vss_lamA {lpos px apos cpos pos : Pos} (tb : LamX.TabB X.base X.mg c P) (hc : X.env.code = .ref c) (hT : TabIn (tabsK X.K) P (X.env.qual ++ "<lambda>")) (L : LamX.LamS X.env.scope sc) (hrest : VSsM X iL (ms ++ [⟨ps, e, sc⟩]) Z rest g)
    (few : ms.length ≤ 800 := by simp) (hN : X.N[iL]? = some l := by rfl) (hv : Vis X.env.scope l := by first | exact Or.inl rfl | exact Or.inr (Or.inl rfl) | exact Or.inr (Or.inr rfl)) (hdf : defaultsOf ps X.env = ([], []) := by rfl) (hd : (l == ("__debug__" : Str)) = false := by decide)
    (hcd : (l == ("__classdict__" : Str)) = false := by decide) (hbase : attributeBase (.Name l px) "append" X.env (eval (.Name l px) X.env) = eval (.Name l px) X.env := by rfl)
    (hfew : ((backTo cpos (starEach [.Lambda ps e sc lpos] X.env)).all (fun x => !x.1) && (backToKw cpos (keywordEach [] X.env)).all (fun x => x.1.isSome) && decide ([Expr.Lambda ps e sc lpos].length + ([] : List Keyword).length + (if ([] : List Keyword).isEmpty then 0 else 1) < 30)) = true := by rfl)
    (hline : (apos.endLine == cpos.line) = true := by rfl) (hs : starEach [.Lambda ps e sc lpos] X.env = (false, eval (.Lambda ps e sc lpos) X.env) :: starEach [] X.env := by rfl) (hplain : (backTo cpos (starEach [] X.env)).any (·.1) = false := by rfl)
    (hsw : swapsWith (.Call (.Attribute (.Name l px) "append" apos) [.Lambda ps e sc lpos] [] cpos) none pos.line X.env = pure false := by rfl) :
    VSsM X iL ms Z (.Expr (.Call (.Attribute (.Name l px) "append" apos) [.Lambda ps e sc lpos] [] cpos) pos :: rest) g :=
  (pss_cons (ps_expr (pe_bm PySem.F.plainAttrs_list PySem.F.slot_list_append PySem.F.type_list_append mt_append (pe_var hN hv hd hcd) (pa_cons (pe_lamF (m := ⟨ps, e, sc⟩) tb hc hT hdf L) pa_nil hs) hbase hfew hline hs hplain) hsw) hrest).imp fun Dn σ H h => by
    obtain ⟨κ, F0, H0, F, ρ, S, σb, Hb, a, vs, t, rfl, hl, na, ex, tt, at_a, fns, _, p⟩ := h
    refine ⟨.ref a, List.getElem?_set_self hl, .inl ⟨rfl, vs, .of at_a⟩, by rw [← t.c.tb.1]; exact tt, fun f c1 H1 ex1 dm t1 nf at_f at_c => ?_⟩
    rw [← t.c.tb.1] at t1
    have at_a1 : H1 a = some (.lst vs) := ex1 a _ at_a fun ps z => by cases z
    have up : ∀ {b o}, H1 b = some o → (∀ xs, o ≠ .lst xs) → upd H1 a (.lst (vs ++ [.ref f])) b = some o := fun {b o} q nl => by
      rw [upd_ne (fun z => by
        rw [z, at_a1] at q
        exact nl vs (Option.some.inj q).symm)]
      exact q
    refine ⟨a, vs, .ref f, rfl, rfl, at_a1, by rw [sizeLine_eq, fns.len]; omega, κ, F0, H0, F, ρ, S, σb, Hb, a, _, t, rfl, hl, na, fun b o q nt => ?_, tabs_wr at_a1 _ t1, upd_same, ?_, by simp; omega, p⟩
    · rw [upd_ne (ne_of_none q na)]
      exact ex1 b o (ex b o q nt) nt
    · refine Fns.app (up at_f fun _ z => by unfold LamAt at z; cases z) (up at_c fun _ z => by unfold LamX.CodeO at z; cases z) (fns.up fun b o q nl nt => up (ex1 b o q nt) nl.1)
theorem vssM_one (h : VSM X iL ms Z st g) : VSsM X iL ms Z [st] g := pss_one h
theorem vsM_ret (is : List Nat) {e : Expr} {f : Fe} {pos : Pos} (he : PE X e (tvL X iL ms Z f)) : VSM X iL ms Z (.Return (some e) pos) (sRet is f) := (ps_ret he).imp fun Dn σ H h => by
  obtain ⟨κ, F0, H0, F, ρ, S, t, bl, p⟩ := tsM_L h
  obtain ⟨F1, s1, t1⟩ := t.frzE (is := is)
  show tvL X iL ms Z f σ H Dn.rt
  refine ⟨κ, F1, _, S, t1.at_, bl, ?_⟩
  unfold sRet at p
  cases q : f (ev (frzE is ρ)) S with
  | stuck => rw [q] at p; exact p
  | exc n S1 => rw [q] at p; exact PostS.exc p t1.n
  | ok w S1 =>
    rw [q] at p
    exact fun v H' F' L n c r nd nw => p v H' F' L (t1.n.trans n) c r nd fun a ha => ⟨t1.n.back (nw a ha).1, (nw a ha).2⟩
end
end PD

namespace PD
open PySem PySem.Spec PyProof.Rows L2
theorem refsL_all {ords : List Str} {ρ : En} {S : Cs} {w : W} : ∀ (fs : List Fe) (acc : List W), (∀ f ∈ fs, refR ords (f ρ S) = .ok w S) → refsL ords ρ fs S acc = .ok (.own (acc ++ List.replicate fs.length w)) S
  | [], acc, _ => by simp [refsL]
  | f :: fs, acc, h => by
    have h1 : fRef ords f ρ S = .ok w S := h f List.mem_cons_self
    unfold refsL
    rw [h1]
    simp only
    rw [refsL_all fs (acc ++ [w]) fun g hg => h g (List.mem_cons_of_mem _ hg)]
    simp [List.replicate_succ]
theorem fRefs_all {ords : List Str} {ic k : Nat} {ρ : En} {S : Cs} {fs : List Fe} (hi : ic < ρ.length) (h : ∀ f ∈ fs, refR ords (f ρ S) = .ok (ownD [.int (k : Nat)]) S) : fRefs ords ic fs ρ S = .ok (.own (List.replicate fs.length (ownD [.int (k : Nat)]))) S := by
  unfold fRefs
  rw [if_pos hi, refsL_all fs [] h]
  rfl
theorem toA_rep (k m : Nat) : (W.own (List.replicate m (ownD [.int (k : Nat)]))).toA = some (.d (.list (List.replicate m (.list [.int (k : Nat)])))) := by
  have h : W.toDs (List.replicate m (ownD [.int (k : Nat)])) = some (List.replicate m (PyData.list [.int (k : Nat)])) := by
    induction m with
    | zero => rfl
    | succ m ih =>
      rw [List.replicate_succ, List.replicate_succ]
      have e : (ownD [PyData.int (k : Nat)]).toD = some (.list [.int (k : Nat)]) := rfl
      unfold W.toDs
      rw [e, ih]
  simp [W.toA, h]
end PD

namespace PD
open PySem PySem.Spec PyProof.Rows L2
end PD

namespace PD
open PySem PySem.Spec PyProof.Rows L2
section
variable {X : Cx} {Z : WX} {st : Stmt} {rest : List Stmt} {g1 g2 : Fs} {tl : TS}
end
structure PRd (X : Cx) (e : Expr) (f : Fe) : Prop where
  ex : ∃ te, PE X e te ∧ ∀ (κ : Kp) (F : Hp) (ρ : En) (S : Cs) (σ : L2.St) (H : Hp) (y : A) (Q : VK), At X.K κ F ρ S σ H → f ρ S = .ok (.a y) S → (∀ v, RepA X.K κ F v y → Q v H) → te σ H Q
section
variable {X : Cx} {Z : WX} {ix ix2 ix3 dE dE2 dE3 eE : Expr} {body : List Stmt} {xf kf fe : Fe} {pre : Fs} {p1 p2 p3 p4 : Pos}
end
end PD

namespace PD
open PySem PySem.Spec PyProof.Rows L2
theorem RepAs.app {K : PySem.W.Frag} {κ : Kp} {F : Hp} {v : V} {x : A} (r : RepA K κ F v x) : ∀ {vs : List V} {xs : List A}, RepAs K κ F vs xs → RepAs K κ F (vs ++ [v]) (xs ++ [x])
  | _, _, .nil => .cons r .nil
  | _, _, .cons h t => .cons h (RepAs.app r t)
theorem RepAs.moreM {K : PySem.W.Frag} {κ : Kp} {F : Hp} {a : Addr} {m : Option Ck} (hn : a ∉ κ.l) : ∀ {vs : List V} {xs : List A}, RepAs K κ F vs xs → RepAs K (κ.moreM a m) F vs xs
  | _, _, .nil => .nil
  | _, _, .cons h t => .cons (RepA.more hn h) (RepAs.moreM hn t)
end PD

namespace PD
open PySem PySem.Spec PyProof.Rows L2
theorem hu_of {X : Cx} {k : Nat} (hr : Room k X.A) : X.A.units + 1 < cLine := by
  have := hr.un
  omega
end PD

namespace PD
open PySem PySem.Spec PyProof.Rows L2
theorem look_eq {α : Type} {f a : Str} {v : α} {l : List (Str × α)} : ((a, v) :: l).lookup f = if f = a then some v else l.lookup f := by
  rw [List.lookup_cons]
  by_cases z : f = a
  · rw [if_pos z, beq_iff_eq.mpr z]
  · rw [if_neg z, beq_false_of_ne z]
theorem RepFs.look {K : PySem.W.Frag} {κ : Kp} {F : Hp} {f : Str} : ∀ {ps : List (Str × V)} {fs : List (Str × Fk)}, RepFs K κ F ps fs → ∀ {q : Fk}, fs.lookup f = some q → ∃ v, ps.lookup f = some v ∧ RepK K κ F v q
  | _, _, .nil, _, e => by cases e
  | (a, v) :: ps, (b, r) :: qs, .cons h t, q, e => by
    obtain ⟨h1, h2⟩ := h
    have h1 : a = b := h1
    subst h1
    rw [look_eq] at e ⊢
    by_cases z : f = a
    · rw [if_pos z] at e ⊢
      cases e
      exact ⟨v, rfl, h2⟩
    · rw [if_neg z] at e ⊢
      exact RepFs.look t e
theorem RepFs.len {K : PySem.W.Frag} {κ : Kp} {F : Hp} : ∀ {ps : List (Str × V)} {fs : List (Str × Fk)}, RepFs K κ F ps fs → ps.length = fs.length
  | _, _, .nil => rfl
  | _, _, .cons _ t => congrArg (· + 1) (RepFs.len t)
theorem RepFs.app {K : PySem.W.Frag} {κ : Kp} {F : Hp} {f : Str} {v : V} {q : Fk} (r : RepK K κ F v q) : ∀ {ps : List (Str × V)} {fs : List (Str × Fk)}, RepFs K κ F ps fs → RepFs K κ F (ps ++ [(f, v)]) (fs ++ [(f, q)])
  | _, _, .nil => .cons ⟨rfl, r⟩ .nil
  | _, _, .cons h t => .cons h (RepFs.app r t)
structure ClsAt (K : PySem.W.Frag) (n : Str) (C : Addr) : Prop where
  at_ : PySem.W.nsIn K mainGlobals n = some (some (.ref C))
  cls : Cls K C
section
variable {K : PySem.W.Frag} {mg : Str → Option Value} {Z : WX} {κ : Kp} {F H : Hp} {σ : L2.St} {ρ : En} {S S' : Cs} {Q : VK} {v : V} {x : A} {n f : Str} {C : Addr}
end
section
variable {X : Cx} {Z : WX} {e o : Expr} {fe fo : Fe} {f n m cn : Str} {C : Addr} {pos p apos : Pos}
theorem at_evsL {K : PySem.W.Frag} {mg : Str → Option Value} {κ : Kp} {σ : L2.St} {ρ : En} {Q : VK} : ∀ {fs : List Fe} {F H : Hp} {S : Cs} {k : List A → Cs → R} {Q' : List V → Hp → Prop}, At K κ F ρ S σ H → Post K mg Z κ F H σ (evs fs ρ S k) Q →
    (∀ vs H1 F1 S1 xs, Nxt κ F H F1 H1 → At K κ F1 ρ S1 σ H1 → RepAs K κ F1 vs xs → xs.length = fs.length → Post K mg Z κ F1 H1 σ (k xs S1) Q → Q' vs H1) → tvs K mg Z fs σ H Q'
  | [], F, H, S, k, Q', t, p, g => g [] H F S [] (.refl t.fh) t .nil rfl p
  | f :: fs, F, H, S, k, Q', t, p, g => by
    show tCons (tv K mg Z f) (tvs K mg Z fs) σ H Q'
    refine at_bind t p fun v H1 F1 S1 x n1 t1 r1 p1 => ?_
    refine at_evsL t1 p1 fun vs H2 F2 S2 xs n2 t2 r2 l2 p2 => ?_
    exact g (v :: vs) H2 F2 S2 (x :: xs) (n1.trans n2) t2 (.cons (r1.up n2.ff) r2) (congrArg (· + 1) l2) p2
section
variable {CX : CXT} {k : Nat} {g : Addr} {fd : FuncData} {ps : List Str} {sp : Sp} {E : L2.St → XK} {ta : TE} {t : TA} {es : List Expr}
end
structure OkM (P : Program) (w : World) (K : PySem.W.Frag) (mg : Str → Option Value) (base : Heap) (k : Nat) (n m : Str) (ps : List Str) (sem : Sem_) : Prop where
  ex : ∃ C f fd, ClsAt K n C ∧ Meth K C m f ∧ Binds K fd ps [] ∧ FnOk P w K mg base (L2.CX P w) k f fd ps (spD K mg ps.length sem)
section
variable {k j : Nat} {ps : List Str} {sem : Sem_} {es : List Expr} {fs : List Fe}
end
end
end PD

namespace PD
open PySem PySem.Spec PyProof.Rows L2
def rmv (F : Hp) (x : Addr) : Hp := fun b => if b = x then none else F b
theorem rmv_same {F : Hp} {x : Addr} : rmv F x x = none := if_pos rfl
theorem rmv_ne {F : Hp} {x b : Addr} (h : b ≠ x) : rmv F x b = F b := if_neg h
theorem Rd.rmv {F : Hp} {x a C dx : Addr} {ps : List (Str × V)} {u : HO} (hx : F x = some (.ins C dx ps)) (hu : ∀ C dx ps, u ≠ .ins C dx ps) (h : Rd F a u) : Rd (PD.rmv F x) a u := by
  rcases h with h | ⟨o, h⟩
  · refine .inl ?_
    rw [rmv_ne (fun z => by rw [z, hx] at h; exact hu _ _ _ (Option.some.inj h).symm)]; exact h
  · refine .inr ⟨o, ?_⟩
    rw [rmv_ne (fun z => by rw [z, hx] at h; cases h)]; exact h
theorem SqT.rmv {K : PySem.W.Frag} {F : Hp} {x a C dx : Addr} {ps : List (Str × V)} {xs : List V} (hx : F x = some (.ins C dx ps)) (h : SqT K F a xs) : SqT K (PD.rmv F x) a xs := by
  rcases h with h | h
  · exact .inl (Rd.rmv hx (fun _ _ _ z => by cases z) h)
  · exact .inr h
mutual
theorem Rep.rmv {K : PySem.W.Frag} {F : Hp} {x C dx : Addr} {ps : List (Str × V)} (hx : F x = some (.ins C dx ps)) : ∀ (d : D) (v : V), Rep K F v d → Rep K (PD.rmv F x) v d
  | _, _, .non => .non
  | _, _, .bl b => .bl b
  | _, _, .int i => .int i
  | _, _, .str s => .str s
  | .list ds, _, .lst h r => .lst (by rw [rmv_ne (fun z => by rw [z, hx] at h; cases h)]; exact h) (RepAll.rmv hx ds _ r)
  | .tuple ds, _, .tup h r => .tup (SqT.rmv hx h) (RepAll.rmv hx ds _ r)
  | _, _, .dct h => .dct (Rd.rmv hx (fun _ _ _ z => by cases z) h)
theorem RepAll.rmv {K : PySem.W.Frag} {F : Hp} {x C dx : Addr} {ps : List (Str × V)} (hx : F x = some (.ins C dx ps)) : ∀ (ds : List D) (vs : List V), RepAll K F vs ds → RepAll K (PD.rmv F x) vs ds
  | _, _, .nil => .nil
  | d :: ds, _, .cons h t => .cons (Rep.rmv hx d _ h) (RepAll.rmv hx ds _ t)
end
theorem Cont.rmv {K : PySem.W.Frag} {κ : Kp} {F H : Hp} {x C dx : Addr} {ps : List (Str × V)} (hx : F x = some (.ins C dx ps)) {a : Addr} {ds : List D} : Cont K κ F H a ds → Cont K κ (PD.rmv F x) H a ds
  | .inl ⟨h0, vs, h1, h2⟩ => .inl ⟨h0, vs, h1, RepAll.rmv hx _ _ h2⟩
  | .inr (.inl ⟨h1, B, h0, is, vs, a1, a2, a3, a4, a5, a6⟩) => .inr (.inl ⟨h1, B, h0, is, vs, a1, a2, a3, a4, RepAll.rmv hx _ _ a5, a6⟩)
  | .inr (.inr (.inl ⟨n, nm, pn, b, h0, C', dx', vs, a1, a2, a3, a4⟩)) => .inr (.inr (.inl ⟨n, nm, pn, b, h0, C', dx', vs, a1, a2, a3, RepAll.rmv hx _ _ a4⟩))
  | .inr (.inr (.inr (.inl h))) => .inr (.inr (.inr (.inl h)))
  | .inr (.inr (.inr (.inr ⟨w, h0, ks, as, h1, h2, h3, h4⟩))) => .inr (.inr (.inr (.inr ⟨w, h0, ks, as, h1, h2, RepAll.rmv hx _ _ h3, h4⟩)))
inductive Ri where
  | ok (fs : List (Str × Fk)) (S : Cs) | okM (fs : List (Str × Fk)) (f : Str) (B : Int → D) (S : Cs) | okL (fs : List (Str × Fk)) (f : Str) (S : Cs) | exc (n : Str) (S : Cs) | stuck
abbrev Is := List (Str × Fk) → En → Cs → Ri
structure AtI (K : PySem.W.Frag) (κ : Kp) (F1 H1 F : Hp) (ρ : En) (S : Cs) (σ : L2.St) (H : Hp) (x C dx : Addr) (ps : List (Str × V)) (fs : List (Str × Fk)) : Prop where
  hx : H x = some (.ins C dx ps)
  n : Nxt κ F1 H1 F H
  c : Cel K κ F H S
  rel : RelE K κ F ρ σ
  ln : ρ.length ≤ σ.length
  fx : F x = none
  xk : x ∉ κ.l
  h1 : H1 x = none
  rf : RepFs K κ F ps fs
  s0 : σ[0]? = some (some (.ref x))
section
variable {X : Cx} {Z : WX} {n f : Str} {C : Addr} {st : Stmt} {rest : List Stmt} {g1 g2 : Is} {e : Expr} {fe : Fe} {pos p1 p2 : Pos}
theorem AtI.go {K : PySem.W.Frag} {κ : Kp} {F1 H1 F : Hp} {ρ : En} {S : Cs} {σ : L2.St} {H : Hp} {x dx : Addr} {ps : List (Str × V)} {fs : List (Str × Fk)} (T : ClsAt K n C) (t : AtI K κ F1 H1 F ρ S σ H x C dx ps fs) :
    At K κ (upd F x (.ins C dx ps)) (ρ.set 0 (some (.e (.ob n fs)))) S σ H := by
  have ff : Same F (upd F x (.ins C dx ps)) := fun b o e => by rw [upd_ne (fun z => by rw [z, t.fx] at e; cases e)]; exact e
  have fh : Same (upd F x (.ins C dx ps)) H := fun b o e => by
    by_cases hb : b = x
    · subst hb; rw [upd_same] at e; cases e; exact t.hx
    · rw [upd_ne hb] at e; exact t.n.fh b o e
  refine ⟨fun i y h => ?_, fh, ⟨t.c.len, t.c.nd, fun k a ds e1 e2 => (t.c.cl k a ds e1 e2).up ff rfl, fun a ha => ?_, t.c.tb, fun b ps' e => ?_⟩, by rw [List.length_set]; exact t.ln⟩
  · by_cases hi : i = 0
    · subst hi
      by_cases hl : 0 < ρ.length
      · rw [List.getElem?_set_self hl] at h
        cases h
        exact ⟨_, t.s0, x, rfl, C, dx, ps, T.at_, upd_same, t.rf.up ff⟩
      · rw [List.getElem?_eq_none (by rw [List.length_set]; omega)] at h; cases h
    · rw [List.getElem?_set_ne (Ne.symm hi)] at h
      obtain ⟨v, h1, h2⟩ := t.rel i y h
      exact ⟨v, h1, h2.up ff⟩
  · rw [upd_ne (fun z => t.xk (by rw [← z]; exact ha))]; exact t.c.fz a ha
  · by_cases hb : b = x
    · subst hb; rw [upd_same] at e; cases e
    · rw [upd_ne hb] at e; exact t.c.nt b ps' e
theorem AtI.back {K : PySem.W.Frag} {κ : Kp} {F1 H1 F F2 H2 : Hp} {ρ : En} {S S2 : Cs} {σ : L2.St} {H : Hp} {x dx : Addr} {ps : List (Str × V)} {fs : List (Str × Fk)} (t : AtI K κ F1 H1 F ρ S σ H x C dx ps fs)
    (n2 : Nxt κ (upd F x (.ins C dx ps)) H F2 H2) (c2 : Cel K κ F2 H2 S2) : F2 x = some (.ins C dx ps) ∧ AtI K κ F1 H1 (rmv F2 x) ρ S2 σ H2 x C dx ps fs := by
  have hF2 : F2 x = some (.ins C dx ps) := n2.ff x _ upd_same
  have ff : Same F (rmv F2 x) := fun b o e => by
    have hb : b ≠ x := fun z => by rw [z, t.fx] at e; cases e
    rw [rmv_ne hb]
    exact n2.ff b o (by rw [upd_ne hb]; exact e)
  have hx2 : H2 x = some (.ins C dx ps) := n2.fh x _ hF2
  refine ⟨hF2, hx2, ?_, ⟨c2.len, c2.nd, fun k a ds e1 e2 => (c2.cl k a ds e1 e2).rmv hF2, fun a ha => ?_, c2.tb, fun b qs e => ?_⟩, t.rel.up ff, t.ln, rmv_same, t.xk, t.h1, t.rf.up ff, t.s0⟩
  · refine t.n.trans ⟨ff, fun b o e => ?_, n2.kp, n2.dm, n2.tb, fun a h => ?_, fun h => fun b qs e => ?_⟩
    · by_cases hb : b = x
      · subst hb; rw [rmv_same] at e; cases e
      · rw [rmv_ne hb] at e; exact n2.fh b o e
    · by_cases hb : a = x
      · subst hb; rw [rmv_same] at h; exact absurd rfl h
      · rw [rmv_ne hb] at h
        rcases n2.fn a h with h | h
        · rw [upd_ne hb] at h; exact .inl h
        · exact .inr h
    · by_cases hb : b = x
      · subst hb; rw [rmv_same] at e; cases e
      · rw [rmv_ne hb] at e; exact c2.nt b qs e
  · by_cases hb : a = x
    · subst hb; exact rmv_same
    · rw [rmv_ne hb]; exact c2.fz a ha
  · by_cases hb : b = x
    · subst hb; rw [rmv_same] at e; cases e
    · rw [rmv_ne hb] at e; exact c2.nt b qs e
theorem AtI.newH {K : PySem.W.Frag} {κ : Kp} {F1 H1 F : Hp} {ρ : En} {S : Cs} {σ : L2.St} {H : Hp} {x dx p : Addr} {o : HO} {ps : List (Str × V)} {fs : List (Str × Fk)} (t : AtI K κ F1 H1 F ρ S σ H x C dx ps fs) (hp : H p = none) : AtI K κ F1 H1 F ρ S σ (upd H p o) x C dx ps fs :=
  ⟨by rw [upd_ne (fun z => by rw [← z, t.hx] at hp; cases hp)]; exact t.hx, t.n.trans (Nxt.newH t.n.fh hp), t.c.newH t.n.fh hp, t.rel, t.ln, t.fx, t.xk, t.h1, t.rf, t.s0⟩
theorem RepFs.moreM {K : PySem.W.Frag} {κ : Kp} {F : Hp} {a : Addr} {m : Option Ck} (hn : a ∉ κ.l) {ps : List (Str × V)} {qs : List (Str × Fk)} (h : RepFs K κ F ps qs) : RepFs K (κ.moreM a m) F ps qs := h.more hn
end
end PD

namespace PD
open PySem PySem.Spec PyProof.Rows L2
def startI (N : Nat) (xs : List A) : En := none :: (xs.map some ++ List.replicate (N - 1 - xs.length) none)
def PostJ (K : PySem.W.Frag) (mg : Str → Option Value) (κ : Kp) (F H : Hp) (x C dx : Addr) (r : Ri) (Q : VK) (E : XK) : Prop := match r with
  | .ok fs S => ∀ H' F' ps, Nxt κ F H F' H' → Cel K κ F' H' S → H' x = some (.ins C dx ps) → F' x = none → RepFs K κ F' ps fs → Q .non H'
  | .okM fs f B S => ∀ H' F' ps d, Nxt κ F H F' H' → FrT H d → d ∉ κ.l → Cel K (κ.moreM d (some (.mem B))) F' H' (S ++ [[]]) → H' x = some (.ins C dx ps) → F' x = none → RepFs K (κ.moreM d (some (.mem B))) F' ps (fs ++ [(f, .mem S.length B)]) → Q .non H'
  | .okL fs f S => ∀ H' F' ps d, Nxt κ F H F' H' → FrT H d → d ∉ κ.l → Cel K κ F' H' S → H' d = some (.lst []) → F' d = none → H' x = some (.ins C dx (ps ++ [(f, .ref d)])) → F' x = none → RepFs K κ F' ps fs → Q .non H'
  | .exc m S => ∀ C' H' F', mg m = some (.ref C') → Nxt κ F H F' H' → Cel K κ F' H' S → E (.ref C') none H'
  | .stuck => False
def spI (K : PySem.W.Frag) (mg : Str → Option Value) (n : Str) (m N : Nat) (g : Is) : Sp := fun vs H Q E => vs.length = m ∧ ∃ κ F S xs x C dx Hb vs', vs = .ref x :: vs' ∧ ClsAt K n C ∧ H = upd (upd Hb dx (.own x)) x (.ins C dx []) ∧ Hb x = none ∧ Hb dx = none ∧ dx ≠ x ∧ Same F Hb ∧ Cel K κ F Hb S ∧ RepAs K κ F vs' xs ∧
  PostJ K mg κ F Hb x C dx (g [] (startI N xs) S) Q E
section
variable {P : Program} {w : World} {K : PySem.W.Frag} {mg : Str → Option Value} {base : Heap} {n : Str} {st : Stmt} {f : Addr} {fd : FuncData} {N ps : List Str} {k : Nat} {g : Is} {qual : Str}
structure OkI (P : Program) (w : World) (K : PySem.W.Frag) (mg : Str → Option Value) (base : Heap) (k : Nat) (n : Str) (m N : Nat) (g : Is) : Prop where
  ex : ∃ C f fd ps, mg n = some (.ref C) ∧ ClsAt K n C ∧ Mk K C f ∧ Binds K fd ps [] ∧ ps.length = m ∧ FnOk P w K mg base (L2.CX P w) k f fd ps (spI K mg n m N g)
end
section
variable {X : Cx} {Z : WX} {e : Expr} {es : List Expr} {fs : List Fe} {n m : Str} {p p1 p2 pos apos : Pos} {k j i M N : Nat} {g : Is} {CX : CXT} {C f : Addr} {fd : FuncData} {ps : List Str} {sp : Sp} {E : L2.St → XK} {t : TA}
end
end PD

namespace PD
open PySem PySem.Spec PyProof.Rows L2
theorem ClsAt.one {K : PySem.W.Frag} {n : Str} {C C' : Addr} (a : ClsAt K n C) (b : ClsAt K n C') : C = C' := by
  have := a.at_.symm.trans b.at_
  cases this; rfl
structure FldAt (K : PySem.W.Frag) (n f : Str) : Prop where
  ex : ∃ C, ClsAt K n C ∧ NoAttr K C f
section
variable {X : Cx} {Z : WX} {e : Expr} {fe : Fe} {n f m : Str} {pos p1 p2 : Pos}
end
structure DefM (K : PySem.W.Frag) (n m qual : Str) (st : Stmt) (ps : List Str) : Prop where
  ex : ∃ C f fd, ClsAt K n C ∧ Meth K C m f ∧ Binds K fd ps [] ∧ Fun K m qual st f fd
structure DefI (K : PySem.W.Frag) (mg : Str → Option Value) (n qual : Str) (st : Stmt) (ps : List Str) : Prop where
  ex : ∃ C f fd, mg n = some (.ref C) ∧ ClsAt K n C ∧ Mk K C f ∧ Binds K fd ps [] ∧ Fun K "__init__" qual st f fd
section
variable {P : Program} {w : World} {K : PySem.W.Frag} {mg : Str → Option Value} {base : Heap} {n m qual : Str} {st : Stmt} {N ps : List Str} {k : Nat} {g : Fs} {gi : Is}
theorem OkM.never (Dx : DefM K n m qual st ps) : OkM P w K mg base k n m ps (fun _ _ => .stuck) := by
  obtain ⟨C, f, fd, T, e1, e2, e3⟩ := Dx.ex
  refine ⟨C, f, fd, T, e1, e2, ⟨fun vs H Q E h => h.1, fun A outer s H args us vs Q E hr e0 hb r h => ?_⟩⟩
  obtain ⟨_, κ, F, S, xs, _, _, _, p⟩ := h
  exact p.elim
section
variable {h : Heap} {C f : Addr} {oc : Value} {od an : Option Addr} {osl : Array (Option Value)} {kV doc pm cdv ct : Value} {fl : Str}
end
end
end PD

namespace PD
open PySem PySem.Spec PyProof.Rows L2
def noCA : A → Bool
  | .c _ => false
  | .e (.mem _ _) => false
  | .e (.prc _) => false
  | .e (.fnc _) => false
  | .e (.ob _ _) => false
  | .e (.obc _ _ _ _ _) => false
  | _ => true
def kp0 (κ : Kp) : Kp := ⟨[], κ.T, fun _ => none⟩
theorem RepA.hide {K : PySem.W.Frag} {κ : Kp} {F : Hp} {v : V} : ∀ {x : A}, noCA x = true → RepA K κ F v x → RepA K (kp0 κ) F v x
  | .d _, _, h => h
  | .s _, _, h => h
  | .e (.exc _), _, h => h
  | .e (.st _), _, h => h
  | .e (.sf _), _, h => h
  | .e (.fn _), _, h => h
  | .e (.dkk _ _), _, h => h
  | .e (.dtt _), _, h => h
  | .e (.dff _), _, h => h
  | .c _, n, _ => nomatch n
  | .e (.mem _ _), n, _ => nomatch n
  | .e (.prc _), n, _ => nomatch n
  | .e (.fnc _), n, _ => nomatch n
  | .e (.ob _ _), n, _ => nomatch n
  | .e (.obc _ _ _ _ _), n, _ => nomatch n
theorem RepAs.hide {K : PySem.W.Frag} {κ : Kp} {F : Hp} : ∀ {vs : List V} {xs : List A}, xs.all noCA = true → RepAs K κ F vs xs → RepAs K (kp0 κ) F vs xs
  | _, _, _, .nil => .nil
  | _, _, n, .cons h t => by
    rw [List.all_cons, Bool.and_eq_true] at n
    exact .cons (h.hide n.1) (RepAs.hide n.2 t)
theorem RepK.seen {K : PySem.W.Frag} {κ : Kp} {F : Hp} {v : V} : ∀ {q : Fk}, RepK K (kp0 κ) F v q → RepK K κ F v q
  | .d _, h => h
  | .mem k _, ⟨_, _, e, _⟩ => nomatch (show ([] : List Addr)[k]? = some _ from e)
  | .dk _ _, h => h
  | .dt _, h => h
theorem RepFs.seen {K : PySem.W.Frag} {κ : Kp} {F : Hp} : ∀ {ps : List (Str × V)} {fs : List (Str × Fk)}, RepFs K (kp0 κ) F ps fs → RepFs K κ F ps fs
  | _, _, .nil => .nil
  | _, _, .cons h t => .cons ⟨h.1, h.2.seen⟩ (RepFs.seen t)
theorem RepA.seen {K : PySem.W.Frag} {κ : Kp} {F : Hp} {v : V} : ∀ {x : A}, RepA K (kp0 κ) F v x → RepA K κ F v x
  | .d _, h => h
  | .s _, h => h
  | .e (.exc _), h => h
  | .e (.st _), h => h
  | .e (.sf _), h => h
  | .e (.fn _), h => h
  | .e (.dkk _ _), h => h
  | .e (.dtt _), h => h
  | .e (.dff _), h => h
  | .c k, ⟨_, e, _⟩ => nomatch (show ([] : List Addr)[k]? = some _ from e)
  | .e (.mem k _), ⟨_, _, e, _⟩ => nomatch (show ([] : List Addr)[k]? = some _ from e)
  | .e (.prc k), ⟨_, _, e, _⟩ => nomatch (show ([] : List Addr)[k]? = some _ from e)
  | .e (.fnc k), ⟨_, _, _, e, _⟩ => nomatch (show ([] : List Addr)[k]? = some _ from e)
  | .e (.ob _ _), ⟨a, e1, C, dx, ps, hc, h, r⟩ => ⟨a, e1, C, dx, ps, hc, h, r.seen⟩
  | .e (.obc k _ _ _ _), ⟨_, _, _, e, _⟩ => nomatch (show ([] : List Addr)[k]? = some _ from e)
mutual
theorem RepW.seen {K : PySem.W.Frag} {κ : Kp} {F H : Hp} : ∀ (w : W) (v : V) (L : List Addr), RepW K (kp0 κ) F H w v L → RepW K κ F H w v L
  | .a x, v, L, h => ⟨h.1, h.2.seen⟩
  | .own ws, v, L, h => by
    obtain ⟨b, vs, L', e1, e2, e3, h⟩ := h
    exact ⟨b, vs, L', e1, e2, e3, RepWs.seen ws vs L' h⟩
theorem RepWs.seen {K : PySem.W.Frag} {κ : Kp} {F H : Hp} : ∀ (ws : List W) (vs : List V) (L : List Addr), RepWs K (kp0 κ) F H ws vs L → RepWs K κ F H ws vs L
  | [], _, _, h => h
  | w :: ws, _, _, h => by
    obtain ⟨v, r, L1, L2, e1, e2, h1, h2⟩ := h
    exact ⟨v, r, L1, L2, e1, e2, RepW.seen w v L1 h1, RepWs.seen ws r L2 h2⟩
end
theorem Nxt.seen {κ : Kp} {F H F' H' : Hp} (n : Nxt (kp0 κ) F H F' H') : Nxt κ F H F' H' := ⟨n.ff, n.fh, fun a o e _ t => n.kp a o e (List.not_mem_nil) t, n.dm, n.tb, n.fn, n.nt⟩
theorem Cel.hide {K : PySem.W.Frag} {κ : Kp} {F H : Hp} {S : Cs} (c : Cel K κ F H S) : Cel K (kp0 κ) F H [] :=
  ⟨rfl, .nil, fun k a ds e _ => (nomatch (show ([] : List Addr)[k]? = some _ from e)), fun a h => absurd h (List.not_mem_nil), c.tb, c.nt⟩
theorem Cel.seen {K : PySem.W.Frag} {κ : Kp} {F H F' H' : Hp} {S : Cs} (c : Cel K κ F H S) (n : Nxt (kp0 κ) F H F' H') : Cel K κ F' H' S := c.up n.seen fun a ha => by
  obtain ⟨o, e, t⟩ := c.there a ha
  rw [e]; exact n.kp a o e (List.not_mem_nil) t
def hideR (r : R) (S : Cs) : R := match r with
  | .ok w _ => .ok w S
  | .exc n _ => .exc n S
  | .stuck => .stuck
theorem Post.hide {K : PySem.W.Frag} {mg : Str → Option Value} {Z : WX} {κ : Kp} {F H : Hp} {σ : L2.St} {Q : VK} {r : R} {S : Cs} (c : Cel K κ F H S) (p : Post K mg Z κ F H σ (hideR r S) Q) : Post K mg Z (kp0 κ) F H σ r Q := by
  cases r with
  | stuck => exact p
  | exc m S2 => exact fun C H' F' g n _ => p C H' F' g n.seen (c.seen n)
  | ok w S2 => exact fun v H' F' L n _ r nd nw => p v H' F' L n.seen (c.seen n) (RepW.seen w v L r) nd nw
def fCallH (sem : Sem_) (fs : List Fe) : Fe := fun ρ S => evs fs ρ S fun xs S1 => if xs.all noCA = true then hideR (sem xs []) S1 else .stuck
section
variable {X : Cx} {Z : WX} {e : Expr} {es : List Expr} {fs : List Fe} {p pos : Pos}
theorem ve_callH {k j : Nat} {x : Str} {ps : List Str} {sem : Sem_} (hr : Room k X.A) (tk : Takes X Z) (G : OkAt X.prog X.w X.K X.mg X.base j x ps sem) (ha : VA X Z (e :: es) fs) (hj : j ≤ k := by first | omega | (simp only [Nat.add_eq]; omega)) (hx : Gl X x := by rfl) (hn : fs.length = ps.length := by rfl)
    (hdb : (x == ("__debug__" : Str)) = false := by decide) (he : starEach (e :: es) X.env = (false, eval e X.env) :: starEach es X.env := by rfl) (hpl : (backTo pos (starEach es X.env)).any (·.1) = false := by rfl) :
    VE X Z (.Call (.Name x p) (e :: es) [] pos) (fCallH sem fs) := by
  obtain ⟨ff, fd, e1, e2, e3, e4⟩ := G.ex
  refine (pe_callS e4 (hr.mono hj) hx e1 e2 e3 (fun σ => passAt tk σ) ha hdb he hpl).imp fun σ H Q h => ?_
  obtain ⟨κ, F, ρ, S, t, q⟩ := h
  refine at_evsL t q fun vs H1 F1 S1 xs n1 t1 r1 l1 p1 => ?_
  split at p1
  · rename_i hx
    exact ⟨r1.len.trans (l1.trans hn), kp0 κ, F1, [], xs, t1.fh, t1.cel.hide, r1.hide hx, Post.zx (Post.hide t1.cel p1) fun c d H' z => z⟩
  · exact p1.elim
end
section
variable {K : PySem.W.Frag} {mg : Str → Option Value} {Z : WX} {κ : Kp} {F0 H0 F H : Hp} {ρ : Ev} {S : Cs} {σ : L2.St}
theorem Ats.cellO {k : Nat} {a : Addr} {ds : List D} {o : HO} (t : Ats K κ F0 H0 F ρ S σ H) (ea : κ.l[k]? = some a) (hT : ∀ T, LamX.Tabs T H → LamX.Tabs T (upd H a o)) (no : ∀ ps, o ≠ .tbl ps) (m : Cont K κ F (upd H a o) a ds) : Ats K κ F0 H0 F ρ (S.set k ds) σ (upd H a o) := by
  have ak : a ∈ κ.l := List.mem_of_getElem? ea
  have fa : F a = none := t.c.fz a ak
  have n : Nxt κ F H F (upd H a o) := by
    refine ⟨Same.refl _, fun b u e => ?_, fun b u e nb nt => ?_, fun b e f => e fun u eu => ?_, fun h => hT _ h, fun _ h => .inl h, fun h => h⟩
    · rw [upd_ne (show b ≠ a from fun z => by rw [z, fa] at e; cases e)]; exact t.n.fh b u e
    · rw [upd_ne (show b ≠ a from fun z => nb (z ▸ ak))]; exact e
    · by_cases hb : b = a
      · subst hb
        obtain ⟨ps, z⟩ := f _ upd_same
        exact (no ps z).elim
      · exact f u (by rw [upd_ne hb]; exact eu)
  refine t.nxt n ⟨by rw [List.length_set]; exact t.c.len, t.c.nd, fun j b es e1 e2 => ?_, t.c.fz, ⟨t.c.tb.1, n.tb t.c.tb.2⟩, t.c.nt⟩
  by_cases hj : j = k
  · subst hj
    rw [ea] at e1
    cases e1
    have hl : j < S.length := by
      have := (List.getElem?_eq_some_iff.mp e2).1
      rw [List.length_set] at this
      exact this
    rw [List.getElem?_set_self hl] at e2
    cases e2
    exact m
  · rw [List.getElem?_set_ne (Ne.symm hj)] at e2
    have hb : b ≠ a := fun z => by
      subst z
      obtain ⟨i1, h1⟩ := List.getElem?_eq_some_iff.mp ea
      obtain ⟨i2, h2⟩ := List.getElem?_eq_some_iff.mp e1
      rcases Nat.lt_trichotomy j k with z | z | z
      · exact List.pairwise_iff_getElem.mp t.c.nd _ _ i2 i1 z (h2.trans h1.symm)
      · exact hj z
      · exact List.pairwise_iff_getElem.mp t.c.nd _ _ i1 i2 z (h1.trans h2.symm)
    exact (t.c.cl j b es e1 e2).up (Same.refl _) (upd_ne hb)
end
section
variable {X : Cx} {Z : WX} {e o : Expr} {f fo fe : Fe} {n fl x : Str} {pos p1 p2 apos cpos : Pos} {g : Fs} {rest : List Stmt}
end
end PD

namespace PD
open PySem PySem.Spec PyProof.Rows L2
section
variable {X : Cx} {Z : WX} {CX : CXT} {n : Str} {C f : Addr} {fd : FuncData} {ps : List Str} {sp : Sp} {E : L2.St → XK} {k : Nat} {p pos : Pos}
end
section
variable {X : Cx} {Z : WX} {n x : Str} {p pos p2 p3 : Pos} {rest : List Stmt} {g : Fs} {init : Is} {k j N : Nat}
end
section
variable {X : Cx} {Z : WX} {fl fh : Option Fe}
end
def TxtsOk : List Value → List Str → Prop
  | [], [] => True
  | .str s _ :: us, z :: zs => s = z ∧ TxtsOk us zs
  | _, _ => False
structure TupAt (K : PySem.W.Frag) (mg : Str → Option Value) (x : Str) (zs : List Str) : Prop where
  ex : ∃ (a : Addr) (o : Obj) (its : Array Value) (n : Nat), mg x = some (.ref a) ∧ K.lookup a = some o ∧ o.cls = .type "tuple" ∧ o.data = .seq its n ∧ its.size ≤ sizeLine ∧ TxtsOk its.toList zs
end PD

namespace PD
open PySem PySem.Spec PyProof.Rows L2
structure OkN (P : Program) (w : World) (K : PySem.W.Frag) (mg : Str → Option Value) (base : Heap) (k : Nat) (x : Str) (ps : List Str) (sem : Sem_) : Prop where
  ex : ∃ f fd, mg x = some (.ref f) ∧ PySem.W.keepIn K (.ref f) = true ∧ Binds K fd ps [] ∧ FnOk P w K mg base (L2N.CX P w) k f fd ps (spD K mg ps.length sem)
section
variable {X : Cx} {Z : WX} {x m : Str} {e : Expr} {es : List Expr} {fs : List Fe} {j : Nat} {p p1 p2 p3 p4 pos pos' np : Pos}
end
section
variable {X : Cx} {Z : WX} {a : Expr} {fa : Fe} {p pos : Pos}
end
end PD

namespace PD
open PySem PySem.Spec PyProof.Rows L2
section
variable {X : Cx} {Z : WX} {x : Str} {p1 p2 pos : Pos} {rest : List Stmt} {g : Fs}
end
end PD

namespace PD
open PySem PySem.Spec PyProof.Rows L2
section
variable {X : Cx} {Z : WX} {e e1 e2 o i : Expr} {f f1 f2 fo fi : Fe} {p p0 p1 p2 p3 pos cpos : Pos}
end
section
variable {X : Cx} {Z : WX}
end
end PD

namespace PD
open PySem PySem.Spec PyProof.Rows L2
end PD

namespace PD
open PySem PySem.Spec PyProof.Rows L2
theorem fkN_inj : ∀ {a b : Option Int}, fkN a = fkN b → a = b
  | none, none, _ => rfl
  | none, some _, h => by cases h
  | some _, none, h => by cases h
  | some a, some b, h => by injection h with h; rw [h]
theorem fkK_inj {a b : FK} (h : fkK a = fkK b) : a = b := by
  unfold fkK at h
  injection h with h
  induction a generalizing b with
  | nil => cases b with
    | nil => rfl
    | cons _ _ => cases h
  | cons x a ih => cases b with
    | nil => cases h
    | cons y b =>
      rw [List.map_cons, List.map_cons] at h
      injection h with h1 h2
      rw [fkN_inj h1, ih h2]
theorem fkN_hash (w w' : World) : ∀ a : Option Int, (fkN a).hash w = (fkN a).hash w'
  | none => by simp only [fkN, NestedKey.hash]
  | some i => by simp only [fkN, NestedKey.hash]
theorem fkN_hashes (w w' : World) : ∀ k : FK, NestedKey.hashes w (k.map fkN) = NestedKey.hashes w' (k.map fkN)
  | [] => by simp only [List.map_nil, NestedKey.hashes]
  | a :: k => by
    rw [List.map_cons]
    simp only [NestedKey.hashes]
    rw [fkN_hash w w' a, fkN_hashes w w' k]
theorem fkK_hash (w w' : World) (k : FK) : (fkK k).hash w = (fkK k).hash w' := by
  unfold fkK
  simp only [NestedKey.hash]
  rw [fkN_hashes w w' k]
theorem fkK_depth (k : FK) : (fkK k).depth ≤ 8 := by
  have h : ∀ k : FK, NestedKey.depthAll (k.map fkN) = 0 := by
    intro k
    induction k with
    | nil => simp [NestedKey.depthAll]
    | cons a k ih =>
      rw [List.map_cons]
      simp only [NestedKey.depthAll]
      rw [ih]
      cases a <;> simp [fkN, NestedKey.depth]
  unfold fkK
  simp only [NestedKey.depth]
  rw [h]
  omega
def ofEs : List D → Option FK
  | [] => some []
  | .none :: ds => (ofEs ds).map (none :: ·)
  | .int i :: ds => (ofEs ds).map (some i :: ·)
  | _ :: _ => none
theorem ofEs_eq : ∀ {ds : List D} {k : FK}, ofEs ds = some k → ds = k.map fkE
  | [], k, h => by cases (show some [] = some k from h); rfl
  | .none :: ds, k, h => by
    have h : (ofEs ds).map (none :: ·) = some k := h
    cases q : ofEs ds with
    | none => rw [q] at h; cases h
    | some r => rw [q] at h; cases h; rw [ofEs_eq q]; rfl
  | .int i :: ds, k, h => by
    have h : (ofEs ds).map (some i :: ·) = some k := h
    cases q : ofEs ds with
    | none => rw [q] at h; cases h
    | some r => rw [q] at h; cases h; rw [ofEs_eq q]; rfl
  | .bool _ :: _, _, h => nomatch (show (none : Option FK) = some _ from h)
  | .str _ :: _, _, h => nomatch (show (none : Option FK) = some _ from h)
  | .list _ :: _, _, h => nomatch (show (none : Option FK) = some _ from h)
  | .tuple _ :: _, _, h => nomatch (show (none : Option FK) = some _ from h)
  | .dict _ :: _, _, h => nomatch (show (none : Option FK) = some _ from h)
theorem ofEs_map : ∀ k : FK, ofEs (k.map fkE) = some k
  | [] => rfl
  | none :: k => by show (ofEs (k.map fkE)).map (none :: ·) = _; rw [ofEs_map k]; rfl
  | some i :: k => by show (ofEs (k.map fkE)).map (some i :: ·) = _; rw [ofEs_map k]; rfl
def ofD : D → Option FK
  | .tuple ds => ofEs ds
  | _ => none
theorem ofD_eq {d : D} {k : FK} (h : ofD d = some k) : d = fkD k := by
  cases d with
  | tuple ds => rw [ofEs_eq (show ofEs ds = some k from h)]; rfl
  | _ => nomatch (show (none : Option FK) = some _ from h)
theorem ofD_fk (k : FK) : ofD (fkD k) = some k := ofEs_map k
def ksOf : List D → Option (List FK)
  | [] => some []
  | d :: ds => match ofD d with
    | some k => (ksOf ds).map (k :: ·)
    | none => none
theorem ksOf_fks : ∀ ks : List FK, ksOf (fksD ks) = some ks
  | [] => rfl
  | k :: ks => by
    show (match ofD (fkD k) with
      | some k => (ksOf (fksD ks)).map (k :: ·)
      | none => none) = _
    rw [ofD_fk, ksOf_fks ks]
    rfl
def addK (ks : List FK) (k : FK) : List FK := if k ∈ ks then ks else ks ++ [k]
theorem addK_len (ks : List FK) (k : FK) : (addK ks k).length ≤ ks.length + 1 := by
  unfold addK
  split
  · omega
  · rw [List.length_append]; simp
def xsOf (ks : List FK) (as : List Addr) : List (NestedKey × Addr × Value) := (List.zip ks as).map fun x => (fkK x.1, x.2, Value.bool true)
theorem xsOf_keys {ks : List FK} {as : List Addr} (h : as.length = ks.length) : (xsOf ks as).map (·.1) = ks.map fkK := by
  unfold xsOf
  rw [List.map_map]
  have e : (fun x : FK × Addr => fkK x.1) = fkK ∘ Prod.fst := rfl
  show (List.zip ks as).map (fun x => fkK x.1) = _
  rw [e, ← List.map_map, List.map_fst_zip (by omega)]
theorem rep_zip {K : PySem.W.Frag} {F : Hp} : ∀ {ks : List FK} {as : List Addr}, RepAll K F (as.map V.ref) (fksD ks) → ∀ p ∈ List.zip ks as, Rep K F (.ref p.2) (fkD p.1)
  | [], _, _, p, h => by simp at h
  | _ :: _, [], _, p, h => by simp at h
  | k :: ks, a :: as, .cons r t, p, h => by
    rw [List.zip_cons_cons] at h
    rcases List.mem_cons.mp h with rfl | h
    · exact r
    · exact rep_zip t p h
theorem nested_all {K : PySem.W.Frag} {F : Hp} {h : Heap} : ∀ {k : FK} {vs : List V} {us : List Value}, RepAll K F vs (k.map fkE) → Vals vs us → NestedAll h (k.map fkN) us
  | [], _, _, .nil, .nil => .nil
  | none :: k, v :: vs, u :: us, .cons r t, .cons q qs => by
    have r : Rep K F v .none := r
    cases r
    have e2 : u = Value.none := q
    subst e2
    exact .cons .none (nested_all t qs)
  | some i :: k, v :: vs, u :: us, .cons r t, .cons q qs => by
    have e := Rep.intv (i := i) r
    subst e
    obtain ⟨tk, rfl⟩ := q
    exact .cons (.int i tk) (nested_all t qs)
section
variable {X : Cx} {pins : List (Addr × Obj)} {σ : L2.St} {H F : Hp} {s : Shared} {w : World} {a : Addr} {ks : List FK} {as : List Addr}
theorem nested_of (I : Inv X pins σ H s) (fh : Same F H) {b : Addr} {k : FK} (r : Rep X.K F (.ref b) (fkD k)) : NestedIs s.heap (fkK k) (.ref b) := by
  obtain ⟨a, vs, e, h1, h2⟩ := Rep.tupv r
  cases e
  obtain ⟨its, rv, ⟨o, ho, hc, n, hd⟩, _⟩ := I.tuple (Same.seqT fh h1)
  exact .tup ho hc hd (by simpa using nested_all h2 rv)
theorem fns_ok {P : Program} {w0 : World} {h : Heap} (e : ObjOk P w0 H h a (fnsO w a ks as)) : (a == sysModules) = false ∧ ks.length ≤ sizeLine ∧ ks.Nodup ∧ ∃ o es ep, h.get? a = some o ∧ o.ExactDict ∧ o.data = .dict es ep ∧ es.toList = (List.zip ks as).map fun x => (⟨(fkK x.1).hash w, .ref x.2, .bool true⟩ : DictEntry) := e.1
theorem fns_new {P : Program} {w0 : World} {h : Heap} (h1 : (a == sysModules) = false) (h2 : ks.length ≤ sizeLine) (h3 : ks.Nodup) {o : Obj} {es : Array DictEntry} {ep : Nat} (ho : h.get? a = some o) (hx : o.ExactDict) (hd : o.data = .dict es ep) (he : es.toList = (List.zip ks as).map fun x => (⟨(fkK x.1).hash w, .ref x.2, .bool true⟩ : DictEntry)) : ObjOk P w0 H h a (fnsO w a ks as) :=
  ⟨⟨h1, h2, h3, o, es, ep, ho, hx, hd, he⟩, ⟨o, ho⟩, fun h1 h2 p k => by
    obtain ⟨a1, a2, a3, o, es, ep, ho, r⟩ := p
    exact ⟨a1, a2, a3, o, es, ep, k o ho, r⟩⟩
theorem fns_dict (I : Inv X pins σ H s) (fh : Same F H) (e : H a = some (fnsO w a ks as)) (hl : as.length = ks.length) (r : RepAll X.K F (as.map V.ref) (fksD ks)) : (a == sysModules) = false ∧ ks.Nodup ∧ s.heap.DictOfH (nestedKind X.prog X.w) a (xsOf ks as) := by
  obtain ⟨h1, h2, h3, o, es, ep, ho, hx, hd, he⟩ := fns_ok (I.hok a _ e)
  refine ⟨h1, h3, o, es, ep, ho, hx, hd, ?_, fun x hxm => ?_, ?_⟩
  · rw [he]
    unfold xsOf
    rw [List.map_map]
    refine List.map_congr_left fun x _ => ?_
    show (⟨(fkK x.1).hash w, .ref x.2, .bool true⟩ : DictEntry) = ⟨(fkK x.1).hash X.w, .ref x.2, .bool true⟩
    rw [fkK_hash w X.w]
  · obtain ⟨p, hp, rfl⟩ := List.mem_map.mp hxm
    exact ⟨nested_of I fh (rep_zip r p hp), fkK_depth p.1⟩
  · rw [xsOf_keys hl]
    exact List.pairwise_map.mpr (h3.imp fun hne z => hne (fkK_inj z))
theorem at_key {ks : List FK} {as : List Addr} (hl : as.length = ks.length) (k : FK) : (atKey (xsOf ks as) (fkK k)).isSome = decide (k ∈ ks) := by
  induction ks generalizing as with
  | nil => rfl
  | cons k0 ks ih =>
    cases as with
    | nil => cases hl
    | cons b as =>
      have hl : as.length = ks.length := by simpa using hl
      have ih := ih hl
      unfold atKey xsOf at ih ⊢
      rw [List.zip_cons_cons, List.map_cons, List.find?_cons]
      by_cases h : fkK k0 = fkK k
      · rw [decide_eq_true h]
        simp [fkK_inj h]
      · rw [decide_eq_false h]
        simp only
        rw [ih]
        refine decide_eq_decide.mpr ⟨fun z => List.mem_cons_of_mem _ z, fun z => ?_⟩
        rcases List.mem_cons.mp z with rfl | z
        · exact absurd rfl h
        · exact z
theorem stored_fk {ks : List FK} {as : List Addr} (hl : as.length = ks.length) (k : FK) (b : Addr) : storedH (xsOf ks as) (fkK k) b (.bool true) = xsOf (addK ks k) (if k ∈ ks then as else as ++ [b]) := by
  have h := at_key hl k
  unfold storedH addK
  by_cases hm : k ∈ ks
  · rw [h, decide_eq_true hm, if_pos rfl, if_pos hm, if_pos hm]
    refine (List.map_congr_left fun x hx => ?_).trans (List.map_id _)
    obtain ⟨p, _, rfl⟩ := List.mem_map.mp hx
    unfold putAt
    split <;> rfl
  · rw [h, decide_eq_false hm, if_neg Bool.false_ne_true, if_neg hm, if_neg hm]
    unfold xsOf
    rw [List.zip_append hl.symm, List.map_append]
    rfl
theorem fns_put {Q : Unit → Shared → Prop} {A : Around} {E : Value → Shared → Prop} (hu : A.units + 9 < cLine) (I : Inv X pins σ H s) (fh : Same F H) (e : H a = some (fnsO w a ks as)) (hl : as.length = ks.length) (r : RepAll X.K F (as.map V.ref) (fksD ks)) {b : Addr} {k : FK} (rb : Rep X.K F (.ref b) (fkD k)) (hz : ks.length + 1 ≤ sizeLine)
    (h : ∀ s', Inv X pins σ (upd H a (fnsO w a (addK ks k) (if k ∈ ks then as else as ++ [b]))) s' → Q () s') : wpAny (model X.prog X.w) A (setItem (.ref a) (.ref b) (.bool true)) Q E s := by
  obtain ⟨h1, h3, dd⟩ := fns_dict I fh e hl r
  have hsz : (xsOf ks as).length ≤ sizeLine := by
    unfold xsOf
    rw [List.length_map, List.length_zip]
    omega
  refine wpAny_setItem_heap (hsz := hsz) (show (nestedKind X.prog X.w).room A.in1 from by show A.units + 1 + 8 < cLine; omega) ⟨nested_of I fh rb, fkK_depth k⟩ dd fun h' dd' hs => h _ ?_
  rw [stored_fk hl] at dd'
  obtain ⟨q, es, ep, hq, h2, h4, h5, _, h6⟩ := dd'
  have hl2 : (if k ∈ ks then as else as ++ [b]).length = (addK ks k).length := by
    unfold addK
    split
    · exact hl
    · rw [List.length_append, List.length_append, hl]; rfl
  refine d_write I (by rw [e]; exact True.intro) hs ⟨q, hq⟩ (fns_new h1 (Nat.le_trans (addK_len ks k) hz) ?_ hq h2 h4 ?_)
  · rw [xsOf_keys hl2] at h6
    exact (List.pairwise_map.mp h6).imp fun hne z => hne (by rw [z])
  · rw [h5]
    unfold xsOf
    rw [List.map_map]
    refine List.map_congr_left fun x _ => ?_
    show (⟨(fkK x.1).hash X.w, .ref x.2, .bool true⟩ : DictEntry) = ⟨(fkK x.1).hash w, .ref x.2, .bool true⟩
    rw [fkK_hash w X.w]
end
section
variable {X : Cx} {pos : Pos}
theorem pe_dnewF : PE X (.Dict [] [] pos) (fun _ H Q => ∀ p, H p = none → Q (.ref p) (upd H p (fnsO X.w p [] []))) := ⟨fun pins s σ H Q I h =>
  wpAny_Dict_empty ⟨.ref s.heap.objs.size, _, I.laid (a := s.heap.objs.size) (o := fnsO X.w s.heap.objs.size [] []) (t' := s.toks) (fun _ _ q => Heap.get?_push_of_some _ q) (Nat.le_refl _)
    (fns_new (beq_eq_false_iff_ne.mpr (Ne.symm (Nat.ne_of_lt I.big))) (Nat.zero_le _) .nil (Heap.get?_push_size _ rfl) ⟨rfl, rfl, rfl⟩ (es := #[]) (ep := 0) rfl rfl), rfl, h _ (I.hok.fresh (Nat.le_refl _))⟩⟩
end
def tRtL (t : TS) : TS := fun D σ H => t ⟨D.nx, fun v H' => ∃ p u, v = .ref p ∧ H' p = some u ∧ Mut (some u) ∧ ∀ od, D.rt v (upd H' p (.frz od u)), D.bk, D.ct⟩ σ H
theorem pss_rtl {X : Cx} {st : List Stmt} {t : TS} (h : PSs X st t) : PSs X st (tRtL t) := ⟨fun pins s σ H D I hw => thn (h.run pins s σ H _ I hw) fun f s1 q => by
  cases f with
  | next => exact q
  | brk => exact q
  | cont => exact q
  | ret v =>
    obtain ⟨x, σ', H', I2, r, p, u, e1, e2, mu, q⟩ := q
    obtain ⟨od, I3⟩ := I2.lock e2 mu
    exact ⟨x, σ', _, I3, r, q od⟩⟩
theorem frz_lock {K : PySem.W.Frag} {κ : Kp} {F H F' H' : Hp} {S : Cs} {x : Addr} {o : HO} (n : Nxt κ F H F' H') (c : Cel K κ F' H' S) (fx : F' x = none) (h0 : FrT H x) (xk : x ∉ κ.l) (ho : ∀ ps, o ≠ .tbl ps) (hT : ∀ T, LamX.Tabs T H' → LamX.Tabs T (upd H' x o)) :
    Nxt κ F H (upd F' x o) (upd H' x o) ∧ Cel K κ (upd F' x o) (upd H' x o) S := by
  have ff : Same F' (upd F' x o) := fun b u e => by rw [upd_ne (fun z => by rw [z, fx] at e; cases e)]; exact e
  have nt : NoT (upd F' x o) := fun b qs e => by
    by_cases hb : b = x
    · subst hb; rw [upd_same] at e; exact ho qs (Option.some.inj e)
    · rw [upd_ne hb] at e; exact c.nt b qs e
  refine ⟨⟨n.ff.trans ff, fun b u e => ?_, fun b u e nb ntb => ?_, fun b e f => ?_, fun h => hT _ (n.tb h), fun a h => ?_, fun _ => nt⟩, ⟨c.len, c.nd, fun k a ds e1 e2 => (c.cl k a ds e1 e2).up ff (upd_ne fun z => xk (by rw [← z]; exact List.mem_of_getElem? e1)), fun a ha => ?_, ⟨c.tb.1, hT _ c.tb.2⟩, nt⟩⟩
  · by_cases hb : b = x
    · subst hb; rw [upd_same] at e ⊢; exact e
    · rw [upd_ne hb] at e ⊢; exact n.fh b u e
  · by_cases hb : b = x
    · subst hb
      obtain ⟨ps, z⟩ := h0 u e
      exact absurd z (ntb ps)
    · rw [upd_ne hb]; exact n.kp b u e nb ntb
  · by_cases hb : b = x
    · subst hb; exact e h0
    · exact n.dm b e fun u eu => f u (by rw [upd_ne hb]; exact eu)
  · by_cases hb : a = x
    · subst hb; exact .inr h0
    · rw [upd_ne hb] at h; exact n.fn a h
  · rw [upd_ne (fun z => xk (by rw [← z]; exact ha))]; exact c.fz a ha
theorem tabs_fns {H : Hp} {a : Addr} {w : World} {ks : List FK} {as : List Addr} {o : HO} (h0 : H a = some (fnsO w a ks as)) (T : List (Addr × Str)) (h : LamX.Tabs T H) : LamX.Tabs T (upd H a o) := fun q hq => by
  obtain ⟨ps, h5, h6, h7⟩ := h q hq
  refine ⟨ps, by rw [upd_ne (fun z => by rw [z, h0] at h5; cases h5)]; exact h5, h6, fun pp cv hcv => ?_⟩
  obtain ⟨c0, g1, g2⟩ := h7 pp cv hcv
  exact ⟨c0, g1, by rw [upd_ne (fun z => by rw [z, h0] at g2; exact codeO_nf _ _ _ _ (Option.some.inj g2).symm)]; exact g2⟩
def sCellF (i : Nat) (is : List Nat) (g : Fs) : Fs := fun ρ S => if noOwn (frzE is ρ) = true then (match g ((frzE is ρ).set i (some (.a (.e (.fnc S.length))))) (S ++ [[]]) with
  | .rt (.a (.e (.fnc k))) S2 => if k = S.length then (match S2[S.length]? with
    | some ds => match ksOf ds with
      | some ks => .rt (.a (.e (.dff ks))) S2.dropLast
      | none => .stuck
    | none => .stuck) else .stuck
  | .exc n S2 => .exc n S2.dropLast
  | _ => .stuck) else .stuck
section
variable {X : Cx} {Z : WX} {x : Str} {p1 p2 pos : Pos} {rest : List Stmt} {g : Fs}
theorem vss_cellF (i : Nat) (is : List Nat) (hNd : X.N.Nodup) (hR : VSs X Z rest g) (hi : X.N[i]? = some x := by rfl) (hx : Loc X.env.scope x := by first | exact Or.inl rfl | exact Or.inr rfl) (hs : swapsWith (.Dict [] [] p2) (some (.Name x p1)) pos.line X.env = pure false := by rfl)
    (hf : X.fn x = true ∨ X.env.scope.names.lookup x = some .local := by first | exact .inl rfl | exact .inr rfl | assumption) : VSs X Z (.Assign [.Name x p1] (.Dict [] [] p2) pos :: rest) (sCellF i is g) := by
  refine (pss_rtl (pss_cons (ps_set hNd hi hx pe_dnewF hs hf) hR)).imp fun Dn σ H h => ?_
  obtain ⟨κ, F0, H0, Fa, ρ0, S, ta, qa⟩ := h
  obtain ⟨F, sF, t⟩ := ta.frzE (is := is)
  have q := qa.upF sF
  clear qa
  unfold sCellF at q
  obtain ⟨ρ, eρ⟩ : ∃ ρ, ρ = PD.frzE is ρ0 := ⟨_, rfl⟩
  rw [← eρ] at q t
  split at q
  case isFalse => exact q.elim
  rename_i no
  show ∀ a, H a = none → _
  intro a ha
  have ak : a ∉ κ.l := fun z => by
    obtain ⟨o, e, _⟩ := t.c.there a z
    rw [ha] at e; cases e
  have fa : F a = none := t.n.fh.free ha
  have n1 : Nxt κ F H F (upd H a (fnsO X.w a [] [])) := Nxt.newH t.n.fh ha
  have c0 : Cel X.K κ F (upd H a (fnsO X.w a [] [])) S := t.c.newH t.n.fh ha
  have c1 : Cel X.K (κ.moreM a (some (.fns X.w))) F (upd H a (fnsO X.w a [] [])) (S ++ [[]]) := c0.moreM ak fa (.inr (.inr (.inr (.inr ⟨X.w, moreM_new, [], [], upd_same, rfl, .nil, rfl⟩))))
  have hl : κ.l.length = S.length := t.c.len
  have h0 : FrT H0 a := t.n.back (frT_none ha)
  obtain ⟨fp, sl⟩ := t.sl
  have t2 : Ats X.K (κ.moreM a (some (.fns X.w))) F (upd H a (fnsO X.w a [] [])) F (ρ.set i (some (.a (.e (.fnc S.length))))) (S ++ [[]]) (σ.set i (some (.ref a))) (upd H a (fnsO X.w a [] [])) := by
    refine ⟨.refl n1.fh, c1, fun b hb => c1.notT hb, by rw [List.length_set, List.length_set]; exact t.ln, fun _ => [], fun j w h => ?_, fun _ _ => rfl, fun _ => .nil, fun _ _ _ _ hb => absurd hb (by simp), fun _ _ hb => absurd hb (by simp)⟩
    by_cases hj : j = i
    · subst hj
      by_cases hl2 : j < ρ.length
      · rw [List.getElem?_set_self hl2] at h
        cases h
        refine ⟨.ref a, List.getElem?_set_self (Nat.lt_of_lt_of_le hl2 t.ln), rfl, a, rfl, X.w, ?_, moreM_new⟩
        show (κ.l ++ [a])[S.length]? = some a
        rw [← hl, List.getElem?_append_right (Nat.le_refl _), Nat.sub_self]
        rfl
      · rw [List.getElem?_eq_none (by rw [List.length_set]; omega)] at h
        cases h
    · rw [List.getElem?_set_ne (Ne.symm hj)] at h
      obtain ⟨v, h1, h2⟩ := sl.rep j w h
      have hm : okOwn (some w) = true := by
        unfold noOwn at no
        exact List.all_eq_true.mp no _ (List.mem_of_getElem? h)
      cases w with
      | own ws => cases hm
      | a y => exact ⟨v, by rw [List.getElem?_set_ne (Ne.symm hj)]; exact h1, rfl, RepA.more ak h2.2⟩
  refine ⟨_, F, _, F, _, _, t2, ?_⟩
  have x1 := t.n.trans n1
  cases qg : g (ρ.set i (some (.a (.e (.fnc S.length))))) (S ++ [[]]) with
  | stuck => rw [qg] at q; exact q.elim
  | nx ρ2 S2 => rw [qg] at q; exact q.elim
  | exc m S2 =>
    rw [qg] at q
    exact fun C σ' H' F' g n' c' => q C σ' H' F' g (x1.less h0 n') c'.less
  | rt w S2 =>
    rw [qg] at q
    match w, q with
    | .a (.e (.fnc k)), q =>
      simp only at q
      split at q
      · rename_i hk
        split at q
        · rename_i ds qd
          split at q
          · rename_i ks qk
            intro v H3 F3 L n' c' r' nd' nw'
            obtain ⟨_, a', rfl, w', ea, eM⟩ := r'
            have ea : (κ.l ++ [a])[k]? = some a' := ea
            rw [hk, ← hl, List.getElem?_append_right (Nat.le_refl _), Nat.sub_self] at ea
            cases ea
            have hkl : (κ.moreM a (some (.fns X.w))).l[S.length]? = some a := by
              show (κ.l ++ [a])[S.length]? = some a
              rw [← hl, List.getElem?_append_right (Nat.le_refl _), Nat.sub_self]
              rfl
            obtain ⟨ks', as, h3, h4, h5, h6⟩ := (c'.cl S.length a ds hkl qd).fns moreM_new
            rw [h6, ksOf_fks] at qk
            cases qk
            rw [h6] at h5
            have f3 : F3 a = none := c'.fz a (List.mem_append_right _ (List.mem_singleton.mpr rfl))
            refine ⟨a, _, rfl, h3, trivial, fun od => ?_⟩
            obtain ⟨n4, c4⟩ := frz_lock (o := .frz od (fnsO X.w a ks as)) (x1.less h0 n') c'.less f3 h0 ak (fun ps z => by cases z) (tabs_fns h3)
            exact q _ _ _ [] n4 c4 ⟨rfl, a, rfl, od, X.w, as, upd_same, h4, RepAll.up (fun b u e => by rw [upd_ne (fun z => by rw [z, f3] at e; cases e)]; exact e) _ _ h5⟩ .nil fun _ hb => absurd hb (by simp)
          · exact q.elim
        · exact q.elim
      · exact q.elim
    | .a (.d _), q => exact q.elim
    | .a (.c _), q => exact q.elim
    | .a (.s _), q => exact q.elim
    | .a (.e (.exc _)), q => exact q.elim
    | .a (.e (.st _)), q => exact q.elim
    | .a (.e (.sf _)), q => exact q.elim
    | .a (.e (.fn _)), q => exact q.elim
    | .a (.e (.mem _ _)), q => exact q.elim
    | .a (.e (.ob _ _)), q => exact q.elim
    | .a (.e (.obc _ _ _ _ _)), q => exact q.elim
    | .a (.e (.dkk _ _)), q => exact q.elim
    | .a (.e (.dtt _)), q => exact q.elim
    | .a (.e (.prc _)), q => exact q.elim
    | .a (.e (.dff _)), q => exact q.elim
    | .own _, q => exact q.elim
end
def sPutF (i : Nat) (is : List Nat) (f : Fe) : Fs := fun ρ S => match (frzE is ρ)[i]? with
  | some (some (.a (.e (.fnc k)))) => match f (ev (frzE is ρ)) S with
    | .ok (.a (.d d)) S1 => match ofD d with
      | some key => match S1[k]? with
        | some ds => match ksOf ds with
          | some ks => if ks.length < 1000000 then .nx (frzE is ρ) (S1.set k (fksD (addK ks key))) else .stuck
          | none => .stuck
        | none => .stuck
      | none => .stuck
    | _ => .stuck
  | _ => .stuck
section
variable {X : Cx} {Z : WX} {e1 o i value tg e : Expr} {td ty tv : TE} {f f1 : Fe} {p p0 p1 p2 p3 pos pos' : Pos}
theorem ps_fput (hu : X.A.units + 9 < cLine) (ho : PE X o td) (hi : PE X i ty) (hv : PE X value tv) (hs : swapsWith value (some (.Subscript o i pos')) pos.line X.env = pure false) :
    PS X (.Assign [.Subscript o i pos'] value pos) (fun D σ H => tv σ H fun v H1 => td σ H1 fun x H2 => ty σ H2 fun y H3 => ∃ (F : Hp) (a b : Addr) (w : World) (ks : List FK) (as : List Addr) (k : FK), x = .ref a ∧ y = .ref b ∧ v = .bl true ∧ Same F H3 ∧ H3 a = some (fnsO w a ks as) ∧ as.length = ks.length ∧ RepAll X.K F (as.map V.ref) (fksD ks) ∧ Rep X.K F (.ref b) (fkD k) ∧ ks.length + 1 ≤ sizeLine ∧ D.nx σ (upd H3 a (fnsO w a (addK ks k) (if k ∈ ks then as else as ++ [b])))) := by
  refine ⟨fun pins s σ H D I h => ?_⟩
  refine wpAny_Assign_Subscript (thn (hv.run pins s σ H _ I h) fun r s1 ⟨v, H1, I1, rv, q1⟩ => thn (ho.run pins s1 σ H1 _ I1 q1) fun u s2 ⟨x, H2, I2, rx, q2⟩ => thn (hi.run pins s2 σ H2 _ I2 q2) fun iv s3 ⟨y, H3, I3, ry, F, a, b, w, ks, as, k, ex, ey, ev, fh, e, hl, r4, rb, hz, q3⟩ => ?_) hs
  subst ex ey ev
  obtain rfl : u = Value.ref a := rx
  obtain rfl : iv = Value.ref b := ry
  obtain rfl : r = Value.bool true := rv
  exact fns_put hu I3 fh e hl r4 rb hz fun s4 I4 => ⟨σ, _, I4, q3⟩
theorem vs_putF (i : Nat) (is : List Nat) {x : Str} {j : Nat} (hu : X.A.units + 9 < cLine) (h1 : VE X Z e1 f1) (hN : X.N[i]? = some x := by rfl) (hv : Vis X.env.scope x := by first | exact Or.inl rfl | exact Or.inr (Or.inl rfl) | exact Or.inr (Or.inr rfl)) (hd : (x == ("__debug__" : Str)) = false := by decide)
    (hcd : (x == ("__classdict__" : Str)) = false := by decide) (hs : swapsWith (.Constant (.bool true) j p0) (some (.Subscript (.Name x p1) e1 p3)) pos.line X.env = pure false := by rfl) :
    VS X Z (.Assign [.Subscript (.Name x p1) e1 p3] (.Constant (.bool true) j p0) pos) (sPutF i is f1) :=
  (ps_fput hu (pe_var hN hv hd hcd) h1 pe_bl hs).imp fun Dn σ H h => by
    obtain ⟨κ, F0, H0, F, ρ, S, t, p⟩ := h
    obtain ⟨F1, s1, t1⟩ := t.frzE (is := is)
    unfold sPutF at p
    split at p
    case h_2 => exact p.elim
    rename_i k qi
    obtain ⟨fp, sl⟩ := t1.sl
    obtain ⟨v, hσ, _, rv⟩ := sl.rep i _ qi
    obtain ⟨a, rfl, w, ea, eM⟩ := rv
    refine ⟨.ref a, hσ, ?_⟩
    show tv X.K X.mg Z f1 σ H _
    refine ⟨κ, F1, _, S, t1.at_, ?_⟩
    split at p
    case h_2 => exact p.elim
    rename_i d S1 q1
    rw [q1]
    intro v1 H1 F2 L1 n1 c1 r1 nd1 nw1
    have t2 := t1.nxt n1 c1
    split at p
    case h_2 => exact p.elim
    rename_i key qk
    have r2 : Rep X.K F2 v1 (fkD key) := by rw [← ofD_eq qk]; exact r1.2
    obtain ⟨b, vs, rfl, _, _⟩ := Rep.tupv r2
    split at p
    case h_2 => exact p.elim
    rename_i ds qd
    split at p
    case h_2 => exact p.elim
    rename_i ks qks
    split at p
    case isFalse => exact p.elim
    rename_i hlen
    obtain ⟨ks', as, h3, h4, h5, h6⟩ := (c1.cl k a ds ea qd).fns eM
    rw [h6, ksOf_fks] at qks
    cases qks
    rw [h6] at h5
    refine ⟨F2, a, b, w, ks, as, key, rfl, rfl, rfl, n1.fh, h3, h4, h5, r2, by rw [sizeLine_eq]; omega, ?_⟩
    refine p σ _ _ (s1.trans n1.ff) (t2.cellO ea (tabs_fns h3) (fun _ z => by cases z) (.inr (.inr (.inr (.inr ⟨w, eM, addK ks key, if key ∈ ks then as else as ++ [b], upd_same, ?_, ?_, rfl⟩)))))
    · unfold addK
      split
      · exact h4
      · rw [List.length_append, List.length_append, h4]; rfl
    · unfold addK
      split
      · exact h5
      · unfold fksD
        rw [List.map_append, List.map_append]
        exact RepAll.app h5 (.cons r2 .nil)
theorem frzF {pins : List (Addr × Obj)} {σ : L2.St} {H : Hp} {s : Shared} {d : Addr} {ob : Obj} {w : World} {ks : List FK} {as : List Addr} (I : Inv X pins σ H s) (h : H d = some (.frz ob (fnsO w d ks as))) (hl : as.length = ks.length) :
    (d == sysModules) = false ∧ s.heap.get? d = some ob ∧ ob.ExactDict ∧ ∃ (es : Array DictEntry) (ep : Nat), ob.data = .dict es ep ∧ es.size = ks.length ∧ ∀ (i : Nat) (b : Addr), as[i]? = some b → ∃ en : DictEntry, es[i]? = some en ∧ en.key = .ref b := by
  obtain ⟨hd, hk⟩ := I.hok d _ h
  obtain ⟨h1, h2, h3, o, es, ep, ho, hx, hdt, he⟩ := fns_ok hk
  rw [hd] at ho
  cases ho
  refine ⟨h1, hd, hx, es, ep, hdt, ?_, fun i b hb => ?_⟩
  · rw [← Array.length_toList, he, List.length_map, List.length_zip]
    omega
  · have hi : i < ks.length := by rw [← hl]; exact (List.getElem?_eq_some_iff.mp hb).1
    have hz : (List.zip ks as)[i]? = some (ks[i], b) := List.getElem?_zip_eq_some.mpr ⟨List.getElem?_eq_getElem hi, hb⟩
    exact ⟨_, by rw [← Array.getElem?_toList, he, List.getElem?_map, hz]; rfl, rfl⟩
def Itf (d : Addr) (o : Obj) (w : World) (ks : List FK) (as : List Addr) : It :=
  ⟨fun i H => H d = some (.frz o (fnsO w d ks as)) ∧ i < ks.length, fun i H x H' => H' = H ∧ ∃ b, as[i]? = some b ∧ x = .ref b, fun i H => H d = some (.frz o (fnsO w d ks as)) ∧ ks.length ≤ i⟩
theorem turn_fns {P : Program} {w0 : World} {K : PySem.W.Frag} {d : Addr} {ob : Obj} {es : Array DictEntry} {ep : Nat} {w : World} {ks : List FK} {as : List Addr} (hl : as.length = ks.length) (it : Addr) (hod : ob.data = .dict es ep) : Turn P w0 K tg (Itf d ob w ks as) [it] it (fun i h => h.IsKeyIter it d i ks.length ep) where
  mem := by simp
  obj := fun i h st b hb => by
    have e : b = it := by simpa using hb
    subst e
    obtain ⟨oi, e, c, dd⟩ := st
    exact ⟨oi, e, fun v z => by rw [dd] at z; cases z⟩
  keep := fun i h h' st k => st.at fun oi e => k it (by simp) oi e
  item := by
    intro X hP hw hK hc i pins s σ H E I hf st hg
    subst hP hw hK
    obtain ⟨hd, hi⟩ := hg
    obtain ⟨f0, f1, f2, f3, f4, f5⟩ := hf it (by simp)
    obtain ⟨hs, hgd, hx, es', ep', hdt, hsz, ent⟩ := frzF I hd hl
    obtain ⟨rfl, rfl⟩ := dict_ep hod hdt
    have hi2 : i < as.length := by omega
    obtain ⟨en, hen, hkey⟩ := ent i as[i] (List.getElem?_eq_getElem hi2)
    refine next_key_item st hgd hdt hsz hen fun h' st' sb => ?_
    have I1 : Inv X pins σ H { s with heap := h' } := I.turned (t' := s.toks) (fun b ob hb e => (sb.2 b hb).trans e) f0 f1 f3 f4 f5
    obtain ⟨oi, e, c, dd⟩ := id st'
    exact ⟨en.key, rfl, go_of (s := { s with heap := h' }) e c dd (by decide) ⟨.ref as[i], H, I1, hkey, ⟨rfl, as[i], List.getElem?_eq_getElem hi2, rfl⟩, st', fun b hb => (hf b hb).1⟩⟩
  done := by
    intro X hP hw hK hc i pins s σ H E I hf st hg
    subst hP hw hK
    obtain ⟨hd, hi⟩ := hg
    obtain ⟨f0, f1, f2, f3, f4, f5⟩ := hf it (by simp)
    obtain ⟨hs, hgd, hx, es', ep', hdt, hsz, ent⟩ := frzF I hd hl
    obtain ⟨rfl, rfl⟩ := dict_ep hod hdt
    exact next_key_end (I.ok.hd hc) st hgd hdt hsz hi fun h' eb => ⟨rfl, I.turned (t' := s.toks) (fun b ob hb e => eb b ob hb e) f0 f1 f3 f4 f5⟩
  self := fun A i s Q E st h => by
    refine wpAny_pyIter_slot st.typeIs F.slot_dict_keyiterator_iter (wpAny_call_entry F.slot_dict_keyiterator_iter st.typeIs F.entry_dict_keyiterator_iter ?_ (F.args_dict_keyiterator_iter_1 _))
    show wpAny _ _ (ret (.ref it)) _ _ s
    exact wpAny_pure ⟨_, rfl, "dict_keyiterator", _, st.typeIs, F.slot_dict_keyiterator_next.lookup, h⟩
def iDff (f : Fe) : Fi := fun ρ S => (f ρ S).bi fun x S1 => match x with
  | .e (.dff ks) => if ks.length ≤ 1000000 then .ok (fksD ks) S1 else .stuck
  | _ => .stuck
theorem vi_dff (h : VE X Z e f) : VI X Z tg e (iDff f) := by
  refine ⟨fun pins s σ H Rr I q => ?_⟩
  obtain ⟨κ, F, ρ, S, t, p⟩ := q
  have key : tv X.K X.mg Z f σ H (fun v H1 => ∃ d ob w ks as, v = .ref d ∧ H1 d = some (.frz ob (fnsO w d ks as)) ∧ as.length = ks.length ∧ Rr (Itf d ob w ks as) H1) := at_bi t p fun v H1 F1 S1 x n1 t1 r1 p1 => by
    split at p1
    · rename_i ks
      split at p1
      · rename_i hz
        obtain ⟨d, rfl, ob, w, as, ha, hl, rr⟩ := r1
        refine ⟨d, ob, w, ks, as, rfl, t1.fh _ _ ha, hl, ?_⟩
        refine p1 _ H1 F1 (.refl t1.fh) t1.cel (by unfold fksD; rw [List.length_map, sizeLine_eq]; omega) fun i F' H' h1 h2 => ⟨fun x hx => ?_, fun hi => ?_⟩
        · obtain ⟨v, e, r⟩ := rr.get hx
          have hi : i < ks.length := by
            have := (List.getElem?_eq_some_iff.mp hx).1
            unfold fksD at this
            rw [List.length_map] at this
            exact this
          refine ⟨⟨h2 _ _ (h1 _ _ ha), hi⟩, fun v' H'' y => ?_⟩
          obtain ⟨rfl, b, hb, rfl⟩ := y
          rw [List.getElem?_map, hb] at e
          cases e
          exact ⟨F', .refl h2, fun _ _ => rfl, Rep.up h1 _ _ r⟩
        · refine ⟨h2 _ _ (h1 _ _ ha), ?_⟩
          rw [hi]
          unfold fksD
          rw [List.length_map]
          exact Nat.le_refl _
      · exact p1.elim
    · exact p1.elim
  refine thn (h.run pins s σ H _ I key) fun u s1 ⟨v, H1, I1, rx, d, ob, w, ks, as, ex, hd, hl, q⟩ => ?_
  subst ex
  obtain rfl : u = Value.ref d := rx
  obtain ⟨hs, hgd, hx, es, ep, hdt, hsz, ent⟩ := frzF I1 hd hl
  refine iter_keys hs hgd hx hdt (pi_one (tk := s1.toks) I1 _ (turn_fns hl _ hdt) ⟨_, Heap.get?_push_size _ rfl, rfl, ?_⟩ q)
  rw [hsz] <;> rfl
end
end PD

namespace PD
open PySem PySem.Spec PyProof.Rows L2
section
open PySem.SeqAt
open PySem.AutoSeq1 (wpAny_loadPart')
open PySem.MeetsSeq PySem.MeetsSeq2 PySem.MeetsSeq3
theorem tuple_lt2 (l b : Addr) (n n2 : Nat) (dd dd2 : Option Addr) (sl sl2 : Array (Option Value)) (x y : Str) (t u : Tok) (v1 v2 : Value) (hne : (x == y) = false) :
    Meets (Builtin.«tuple.__lt__» ⟨[.ref l, .ref b], []⟩)
      (fun _ R s => s.heap.get? l = some { cls := .type "tuple", dict := dd, data := .seq #[.str x t, v1] n, slots := sl } ∧ s.heap.get? b = some { cls := .type "tuple", dict := dd2, data := .seq #[.str y u, v2] n2, slots := sl2 } ∧
        R (.ok (.ret (.bool (decide (x.cps.toList < y.cps.toList))))) s) :=
  .of_wp fun prog w A R s h => by
    obtain ⟨hp, g, d, tk, os⟩ := s; obtain ⟨hl, hb, h⟩ := h
    have f2 := AutoSeq1.sub_tuple_tuple
    wp_walk using wpAny_loadPart' hl, wpAny_loadPart' hb, wpAny_forIn_list _ (fun rest b s' => b.1 = none ∧ s' = ⟨hp, g, d, tk, os⟩ ∧ rest = [(Value.str x t, Value.str y u), (v1, v2)]) _
    case turn =>
      rintro ⟨p, q⟩ rest b s' ⟨hb', rfl, hz⟩
      injection hz with h1 h2
      injection h1 with h3 h4
      subst h3 h4 h2
      have he := SeqAt.EqAt.str_str (A := A.in1) (s := ⟨hp, g, d, tk, os⟩) x t y u
      rw [hne] at he
      refine wpAny_bind (he prog w _ _ ?_)
      have hri := DT.rcLt_str A.in1 ⟨hp, g, d, tk, os⟩ x t y u prog w
      wp_walk using hri
      exact ⟨_, rfl, by simpa using h⟩
    case fin =>
      rintro ⟨b1, b2⟩ s' ⟨hb', rfl, hz⟩
      cases hz
    case h =>
      exact ⟨rfl, rfl, rfl⟩
end
section
variable {prog : Program} {w : World} {A : Around} {E : Value → Shared → Prop} {s : Shared}
theorem lt_two {l b : Addr} {x y : Str} {t u : Tok} {v1 v2 : Value} {k1 k2 : FK} {Q : Value → Shared → Prop} (hl : IsTup s.heap l #[.str x t, v1]) (hb : IsTup s.heap b #[.str y u, v2]) (h1 : NestedIs s.heap (fkK k1) v1) (h2 : NestedIs s.heap (fkK k2) v2) (hk : x = y → k1 = k2) (hu : A.units + 12 < cLine)
    (h : Q (.bool (decide (x.cps.toList < y.cps.toList))) s) : wpAny (model prog w) A (richCompare .Lt (.ref l) (.ref b)) Q E s := by
  by_cases hxy : x = y
  · have hkk := hk hxy
    subst hxy hkk
    have e := PySem.SeqAt.RcLt.tuples (A := A) (s := s) (e := fun _ => true) (r := fun _ => false) hl hb (by omega) (fun j j1 j2 => ?_) (fun j j1 j2 hj => by cases hj)
    · refine e prog w E Q ?_
      have hf : PySem.SeqAt.firstLt (fun _ => true) (fun _ => false) (decide ((#[Value.str x t, v1] : Array Value).size < (#[Value.str x u, v2] : Array Value).size)) (List.range (min (#[Value.str x t, v1] : Array Value).size (#[Value.str x u, v2] : Array Value).size)) = false := rfl
      rw [hf]
      have hd : decide (x.cps.toList < x.cps.toList) = false := decide_eq_false (List.lt_irrefl _)
      rw [hd] at h
      exact h
    · match j, j1, j2 with
      | 0, _, _ =>
        have he := SeqAt.EqAt.str_str (A := A.in1) (s := s) x t x u
        rw [show (x == x) = true by simp] at he
        exact he
      | 1, _, _ =>
        have he := PySem.eqAt_key (fkK k1) (fkK k1) A.in1 s v1 v2 h1 h2 (by
          have := fkK_depth k1
          show A.units + 1 + _ < cLine
          have := Nat.min_le_left (fkK k1).depth (fkK k1).depth
          omega)
        rw [NestedKey.beq_self] at he
        exact he
  · obtain ⟨⟨cls, dd, data, sl⟩, ho, hc, n, hd⟩ := id hl
    obtain ⟨⟨cls2, dd2, data2, sl2⟩, ho2, hc2, n2, hd2⟩ := id hb
    simp only at hc hd hc2 hd2
    subst hc hd hc2 hd2
    exact richCompare_meets_room (op := .Lt) ⟨_, ho, rfl⟩ ⟨_, ho2, rfl⟩ PySem.F.slot_tuple_lt PySem.F.entry_tuple_lt (PySem.F.args_tuple_lt_2 _ _) (tuple_lt2 l b n n2 dd dd2 sl sl2 x y t u v1 v2 (beq_eq_false_iff_ne.mpr hxy))
      ⟨ho, ho2, show Value.bool (decide (x.cps.toList < y.cps.toList)) ≠ Value.notImplemented ∧ Q (.bool (decide (x.cps.toList < y.cps.toList))) s from ⟨(fun z => nomatch z), h⟩⟩ (by omega)
end
def keyTx : D → Option (Str × FK)
  | .tuple [.str x, f] => (ofD f).map fun k => (x, k)
  | _ => none
theorem keyTx_eq {d : D} {p : Str × FK} (h : keyTx d = some p) : d = .tuple [.str p.1, fkD p.2] := by
  unfold keyTx at h
  split at h
  · rename_i x f
    cases q : ofD f with
    | none => rw [q] at h; cases h
    | some k =>
      rw [q] at h
      cases h
      rw [ofD_eq q]
  · cases h
def ltX (a b : D) : Bool := match keyTx a, keyTx b with
  | some p, some q => decide (p.1.cps.toList < q.1.cps.toList)
  | _, _ => false
def likeX (a b : D) : Bool := match keyTx a, keyTx b with
  | some p, some q => decide (p.1 = q.1 → p.2 = q.2)
  | _, _ => false
def mtOk (ds : List D) : Bool := ds.all fun d => ds.all fun e => likeX d e
def minX (x : D) (xs : List D) : D := xs.foldl (fun a y => if ltX y a then y else a) x
def rMinT (K : PySem.W.Frag) : List V → Hp → VK → Prop := fun vs H Q => ∃ (F : Hp) (a : Addr) (xs : List V) (d : D) (ds : List D), vs = [.ref a] ∧ Same F H ∧ SqL K H a xs ∧ RepAll K F xs (d :: ds) ∧ mtOk (d :: ds) = true ∧ ∀ v : V, Rep K F v (minX d ds) → Q v H
theorem item_of {X : Cx} {pins : List (Addr × Obj)} {σ : L2.St} {H F : Hp} {s : Shared} (I : Inv X pins σ H s) (fh : Same F H) {v : V} {u : Value} {p : Str × FK} (r : Rep X.K F v (.tuple [.str p.1, fkD p.2])) (ru : RelV v u) : ∃ l t v1, u = .ref l ∧ IsTup s.heap l #[.str p.1 t, v1] ∧ NestedIs s.heap (fkK p.2) v1 := by
  obtain ⟨a, vs, rfl, h1, h2⟩ := Rep.tupv r
  obtain ⟨its, rv, ht, _⟩ := I.tuple (Same.seqT fh h1)
  cases h2 with
  | cons r1 h2 =>
    cases h2 with
    | cons r2 h2 =>
      cases h2
      cases Rep.strv r1
      obtain ⟨b, ws, rfl, _, _⟩ := Rep.tupv r2
      cases rv with
      | cons q1 rv =>
        cases rv with
        | cons q2 rv =>
          cases rv
          obtain ⟨t, rfl⟩ := q1
          cases q2
          exact ⟨a, t, _, ru, ht, nested_of I fh r2⟩
theorem cr_minT {X : Cx} {k : Nat} (hr : Room k X.A) (hc : X.calm = true) : CallR X (.builtin "min") (rMinT X.K) := by
  intro pins s σ H vs us Q I r h
  obtain ⟨F, a, xs, d, ds, rfl, fh, hs, rr, ok, q⟩ := h
  obtain ⟨its, rv, hl, hz⟩ := I.list hs
  rw [Vals.ref1 r]
  have hu := hr.units
  have hlen : its.length = (d :: ds).length := by rw [← rv.length, rr.len]
  refine PySem.call_min_walkH (PySem.W.iter_listW (A := X.A.in1) (I.ok.hd hc) hl.isList fun s₂ e W st hfp hw hk => ?_)
  refine ⟨_, _, _, _, _, _, _, s.heap, fun i j => ltX ((d :: ds).getD i .none) ((d :: ds).getD j .none), rfl, W, st, hfp, by rw [List.size_toArray, hlen, List.length_cons]; omega, hw, hk, ?_, fun v s' hP m => ?_⟩
  · intro i j vi vj s' Q' E' hk' hi hj hq
    obtain ⟨x1, hx1, rx1⟩ := valsGet rv (by simpa using hi)
    obtain ⟨x2, hx2, rx2⟩ := valsGet rv (by simpa using hj)
    have hli : i < (d :: ds).length := by rw [← rr.len]; exact (List.getElem?_eq_some_iff.mp hx1).1
    have hlj : j < (d :: ds).length := by rw [← rr.len]; exact (List.getElem?_eq_some_iff.mp hx2).1
    obtain ⟨y1, hy1, r1⟩ := rr.get (List.getElem?_eq_getElem hli)
    obtain ⟨y2, hy2, r2⟩ := rr.get (List.getElem?_eq_getElem hlj)
    rw [hx1] at hy1
    rw [hx2] at hy2
    cases hy1
    cases hy2
    have hok := List.all_eq_true.mp (List.all_eq_true.mp ok _ (List.getElem_mem hli)) _ (List.getElem_mem hlj)
    have e1 : (d :: ds).getD i .none = (d :: ds)[i] := by rw [List.getD_eq_getElem?_getD, List.getElem?_eq_getElem hli]; rfl
    have e2 : (d :: ds).getD j .none = (d :: ds)[j] := by rw [List.getD_eq_getElem?_getD, List.getElem?_eq_getElem hlj]; rfl
    have hq : Q' (.bool (ltX (d :: ds)[i] (d :: ds)[j])) s' := by rw [← e1, ← e2]; exact hq
    unfold likeX at hok
    unfold ltX at hq
    cases k1 : keyTx (d :: ds)[i] with
    | none => rw [k1] at hok; cases hok
    | some p1 =>
      cases k2 : keyTx (d :: ds)[j] with
      | none => rw [k1, k2] at hok; cases hok
      | some p2 =>
        rw [k1, k2] at hok hq
        have hok := of_decide_eq_true hok
        rw [keyTx_eq k1] at r1
        rw [keyTx_eq k2] at r2
        obtain ⟨l1, t1, v1, rfl, i1, n1⟩ := item_of I fh r1 rx1
        obtain ⟨l2, t2, v2, rfl, i2, n2⟩ := item_of I fh r2 rx2
        have up : ∀ {l : Addr} {items : Array Value}, IsTup s.heap l items → IsTup s'.heap l items := fun ⟨o, ho, r⟩ => ⟨o, hk' _ _ ho, r⟩
        have un : ∀ {k : NestedKey} {v : Value}, NestedIs s.heap k v → NestedIs s'.heap k v := fun n => NestedIs.at (fun a o vs n ho _ => hk' a o ho) _ _ n
        exact lt_two (up i1) (up i2) (un n1) (un n2) hok (by show X.A.units + 1 + 12 < cLine; omega) hq
  · obtain ⟨h', tk, rfl, hk'⟩ := PySem.W.moved_old e rfl m
    have hb := (PySem.W.argBest_fold ltX PyData.none d ds ds.length (Nat.le_refl _)).2
    rw [List.take_length] at hb
    have hn : its.toArray.size - 1 = ds.length := by rw [List.size_toArray, hlen, List.length_cons]; omega
    rw [← hn] at hb
    generalize argBest (fun i j => ltX ((d :: ds).getD i .none) ((d :: ds).getD j .none)) (its.toArray.size - 1) = ix at hP hb
    obtain ⟨x, hx, rx⟩ := valsGet rv (by simpa using hP)
    have hlt := (List.getElem?_eq_some_iff.mp hx).1
    rw [rr.len] at hlt
    obtain ⟨x2, hx2, rp⟩ := rr.get (List.getElem?_eq_getElem hlt)
    rw [hx] at hx2
    cases hx2
    refine ⟨x, H, I.kept hk', rx, q x ?_⟩
    have e3 : (d :: ds)[ix] = minX d ds := by
      unfold minX
      rw [← hb, List.getD_eq_getElem?_getD, List.getElem?_eq_getElem hlt]
      rfl
    rw [e3] at rp
    exact rp
def dMinT : D → Option W
  | .list (d :: ds) => if mtOk (d :: ds) = true then some (.a (.d (minX d ds))) else none
  | _ => none
section
variable {X : Cx} {Z : WX} {e : Expr} {f : Fe} {p pos : Pos}
theorem ve_minT {k : Nat} (hr : Room k X.A) (hc : X.calm = true) (hx : Gl X "min") (hm : X.mg "min" = none) (ha : VE X Z e f) (he : starEach [e] X.env = (false, eval e X.env) :: starEach [] X.env := by rfl) : VE X Z (.Call (.Name "min" p) [e] [] pos) (fCall (on1 dMinT) [f]) :=
  ve_callB (cr_minT hr hc) (OpSs.on1 fun κ F ρ S σ H v x w Q t r e p => by
    unfold dMinT at e
    split at e
    · split at e
      · rename_i hs
        cases e
        obtain ⟨a, vs, rfl, h1, h2⟩ := Rep.lstv r
        exact ⟨F, a, vs, _, _, rfl, t.fh, .of (t.fh _ _ h1), h2, hs, fun v rv => p.a t (show RepA X.K κ F v (.d _) from rv)⟩
      · cases e
    · cases e) hx hm (by decide +kernel) (va_cons ha va_nil he) (by decide) (by decide) he (by rfl)
end
theorem hu9_of {k : Nat} {A : Around} (hr : Room k A) : A.units + 9 < cLine := by have := hr.units; omega
end PD

namespace PD
open PySem PySem.Spec PyProof.Rows L2
def ordrS (n : Nat) (rs : List (List Nat)) : List (List Nat) := rs.flatMap fun o => ((List.range n).filter fun k => !o.contains k).map fun k => o ++ [k]
def ordrM (n : Nat) : List (List Nat) := (List.range n).foldl (fun rs _ => ordrS n rs) [[]]
def brwS (rs : List (List Bool)) : List (List Bool) := rs.flatMap fun r => [r ++ [false], r ++ [true]]
def brwM (n : Nat) : List (List Bool) := (List.range n).foldl (fun rs _ => brwS rs) [[]]
def chsM (n : Nat) : List Ch := (ordrM n).flatMap fun o => (brwM n).flatMap fun t => [⟨o, t, false⟩, ⟨o, t, true⟩]
def chB (n : Nat) (c : Ch) : Bool := (c.o.length == n && c.o.all (· < n) && (List.range n).all fun k => c.o.count k == 1) && c.t.length == n
theorem chs_b : ∀ n, n < 5 → (chsM n).all (chB n) = true := by decide +kernel
theorem chs_len : ∀ n, n < 5 → (chsM n).length ≤ 768 := by decide +kernel
theorem chs_ne0 : ∀ n, n < 5 → (chsM n).isEmpty = false := by decide +kernel
theorem chs_ok {n : Nat} (h4 : n ≤ 4) {c : Ch} (h : c ∈ chsM n) : okC n c := by
  have hb := List.all_eq_true.mp (chs_b n (by omega)) c h
  unfold chB at hb
  simp only [Bool.and_eq_true, beq_iff_eq, List.all_eq_true, decide_eq_true_eq] at hb
  obtain ⟨⟨⟨h1, h2⟩, h3⟩, h5⟩ := hb
  refine ⟨?_, h5⟩
  rw [List.perm_iff_count]
  intro a
  by_cases ha : a < n
  · rw [h3 a (List.mem_range.mpr ha), List.nodup_range.count, if_pos (List.mem_range.mpr ha)]
  · rw [List.count_eq_zero_of_not_mem (fun z => ha (List.mem_range.mp z)), List.count_eq_zero_of_not_mem (fun z => ha (h2 a z))]
theorem aO_inj {a b : Option Bool} (h : aO a = aO b) : a = b := by
  rcases a with _ | (_ | _) <;> rcases b with _ | (_ | _) <;> first | rfl | cases h
theorem eF_inj {f g : Fn} (h : eF f = eF g) : f = g := by
  have h : f.map aO = g.map aO := PyData.tuple.inj h
  induction f generalizing g with
  | nil => cases g with
    | nil => rfl
    | cons _ _ => cases h
  | cons a f ih => cases g with
    | nil => cases h
    | cons b g =>
      rw [List.map_cons, List.map_cons] at h
      injection h with h1 h2
      rw [aO_inj h1, ih (show eF f = eF g by unfold eF; rw [h2]) h2]
theorem eq_eF (f g : Fn) (S : Cs) : onD dEq (.d (eF f)) (.d (eF g)) S = .ok (bD (f == g)) S := by
  rw [o_eq S (eqOk_sh (okD.eF 0 f).sh (okD.eF 0 g).sh)]
  congr 2
  rw [Bool.eq_iff_iff, eqv_plain _ _ (plain_eF f) (plain_eF g), beq_iff_eq]
  exact ⟨eF_inj, fun h => by rw [h]⟩
def fkF (f : Fn) : FK := f.map fun o => o.map fun b => if b = true then 1 else 0
theorem fkD_F (f : Fn) : fkD (fkF f) = eF f := by
  unfold fkD fkF eF
  rw [List.map_map]
  congr 1
  refine List.map_congr_left fun a _ => ?_
  rcases a with _ | (_ | _) <;> rfl
theorem ofD_F (f : Fn) : ofD (eF f) = some (fkF f) := by rw [← fkD_F, ofD_fk]
theorem fkF_inj {f g : Fn} (h : fkF f = fkF g) : f = g := eF_inj (by rw [← fkD_F, ← fkD_F, h])
def addF (fs : List Fn) (f : Fn) : List Fn := if f ∈ fs then fs else fs ++ [f]
theorem addK_F (fs : List Fn) (f : Fn) : addK (fs.map fkF) (fkF f) = (addF fs f).map fkF := by
  have h : fkF f ∈ fs.map fkF ↔ f ∈ fs := by
    rw [List.mem_map]
    exact ⟨fun ⟨g, hg, e⟩ => by rw [← fkF_inj e]; exact hg, fun h => ⟨f, h, rfl⟩⟩
  unfold addK addF
  by_cases hm : f ∈ fs
  · rw [if_pos (h.mpr hm), if_pos hm]
  · rw [if_neg (fun z => hm (h.mp z)), if_neg hm, List.map_append, List.map_cons, List.map_nil]
theorem addF_mem {fs : List Fn} {f g : Fn} : g ∈ addF fs f ↔ g ∈ fs ∨ g = f := by
  unfold addF
  split
  · rename_i h
    exact ⟨.inl, fun h2 => h2.elim id fun e => by rw [e]; exact h⟩
  · rw [List.mem_append, List.mem_singleton]
theorem addF_len (fs : List Fn) (f : Fn) : (addF fs f).length ≤ fs.length + 1 := by
  unfold addF
  split
  · omega
  · rw [List.length_append]; simp
theorem fold_mem {l : List Fn} : ∀ {fs : List Fn} {g : Fn}, g ∈ l.foldl addF fs ↔ g ∈ fs ∨ g ∈ l := by
  induction l with
  | nil => intro fs g; simp
  | cons x l ih =>
    intro fs g
    rw [List.foldl_cons, ih, addF_mem, List.mem_cons, or_assoc]
theorem fold_len {l : List Fn} : ∀ {fs : List Fn}, (l.foldl addF fs).length ≤ fs.length + l.length := by
  induction l with
  | nil => intro fs; simp
  | cons x l ih =>
    intro fs
    rw [List.foldl_cons, List.length_cons]
    have := ih (fs := addF fs x)
    have := addF_len fs x
    omega
def ledL (n : Nat) (f : Fn) : List Fn := (chsM n).map fun c => cgF n c f
def alkF (n : Nat) (f : Fn) : List Fn := (ledL n f).foldl addF []
theorem alk_mem {n : Nat} {f g : Fn} : g ∈ alkF n f ↔ g ∈ ledL n f := by
  unfold alkF
  rw [fold_mem]
  simp
def minG (g : Fn) (gs : List Fn) : Fn := gs.foldl (fun a y => if ltT y a then y else a) g
theorem ltT_irr (a : Tm) : ltT a a = false := decide_eq_false (List.lt_irrefl _)
theorem ltT_trans {a b c : Tm} (h1 : ltT a b = true) (h2 : ltT b c = true) : ltT a c = true := decide_eq_true (List.lt_trans (of_decide_eq_true h1) (of_decide_eq_true h2))
theorem ltT_tri {a b : Tm} (h1 : ltT a b = false) (h2 : ltT b a = false) : a = b := by
  have h1 := of_decide_eq_false h1
  have h2 := of_decide_eq_false h2
  exact map_sgO_inj.mp (List.le_antisymm (List.not_lt.mp h2) (List.not_lt.mp h1))
theorem minG_spec (gs : List Fn) : ∀ g, minG g gs ∈ g :: gs ∧ ∀ x ∈ g :: gs, ltT x (minG g gs) = false := by
  induction gs with
  | nil =>
    intro g
    refine ⟨List.mem_cons_self, fun x hx => ?_⟩
    rw [List.mem_singleton.mp hx]
    exact ltT_irr g
  | cons y gs ih =>
    intro g
    have e : minG g (y :: gs) = minG (if ltT y g then y else g) gs := rfl
    rw [e]
    cases h : ltT y g with
    | true =>
      rw [if_pos rfl]
      obtain ⟨h1, h2⟩ := ih y
      refine ⟨List.mem_cons_of_mem _ h1, fun x hx => ?_⟩
      rcases List.mem_cons.mp hx with rfl | hx
      · have hy := h2 y List.mem_cons_self
        cases hc : ltT x (minG y gs) with
        | false => rfl
        | true => rw [ltT_trans h hc] at hy; cases hy
      · exact h2 x hx
    | false =>
      rw [if_neg (by simp)]
      obtain ⟨h1, h2⟩ := ih g
      refine ⟨?_, fun x hx => ?_⟩
      · rcases List.mem_cons.mp h1 with e | h1
        · rw [e]; exact List.mem_cons_self
        · exact List.mem_cons_of_mem _ (List.mem_cons_of_mem _ h1)
      · rcases List.mem_cons.mp hx with rfl | hx
        · exact h2 x List.mem_cons_self
        rcases List.mem_cons.mp hx with rfl | hx
        · have hg := h2 g List.mem_cons_self
          cases hc : ltT x (minG g gs) with
          | false => rfl
          | true =>
            exfalso
            have : minG g gs = g ∨ ltT (minG g gs) g = true := by
              cases hm : ltT (minG g gs) g with
              | true => exact .inr rfl
              | false => exact .inl (ltT_tri hm hg)
            rcases this with e | e
            · rw [e, h] at hc; cases hc
            · rw [ltT_trans hc e] at h; cases h
        · exact h2 x (List.mem_cons_of_mem _ hx)
theorem minG_mem {g h : Fn} {gs hs : List Fn} (k : ∀ x, x ∈ g :: gs ↔ x ∈ h :: hs) : minG g gs = minG h hs := by
  obtain ⟨a1, a2⟩ := minG_spec gs g
  obtain ⟨b1, b2⟩ := minG_spec hs h
  exact ltT_tri (b2 _ ((k _).mp a1)) (a2 _ ((k _).mpr b1))
def pT (g : Fn) : D := .tuple [eT g, eF g]
theorem keyTx_p (g : Fn) : keyTx (pT g) = some (tS (g.map sgO), fkF g) := by
  show (ofD (eF g)).map (fun k => (tS (g.map sgO), k)) = _
  rw [ofD_F]
  rfl
theorem ltX_p (g h : Fn) : ltX (pT g) (pT h) = ltT g h := by
  unfold ltX
  rw [keyTx_p, keyTx_p]
  show decide ((tS (g.map sgO)).cps.toList < (tS (h.map sgO)).cps.toList) = _
  rw [tS_cps, tS_cps]
  rfl
theorem mtOk_p (l : List Fn) : mtOk (l.map pT) = true := by
  unfold mtOk
  rw [List.all_map, List.all_eq_true]
  intro g _
  show ((l.map pT).all fun e => likeX (pT g) e) = true
  rw [List.all_map, List.all_eq_true]
  intro h _
  show likeX (pT g) (pT h) = true
  unfold likeX
  rw [keyTx_p, keyTx_p]
  refine decide_eq_true fun e => ?_
  show fkF g = fkF h
  rw [map_sgO_inj.mp (tS_inj.mp e)]
theorem minX_p (gs : List Fn) : ∀ g, minX (pT g) (gs.map pT) = pT (minG g gs) := by
  induction gs with
  | nil => intro g; rfl
  | cons y gs ih =>
    intro g
    show minX (if ltX (pT y) (pT g) then pT y else pT g) (gs.map pT) = pT (minG (if ltT y g then y else g) gs)
    rw [ltX_p, ← ih]
    cases ltT y g <;> rfl
theorem dMinT_p (g : Fn) (gs : List Fn) : dMinT (.list ((g :: gs).map pT)) = some (.a (.d (pT (minG g gs)))) := by
  show (if mtOk ((g :: gs).map pT) = true then some (W.a (.d (minX (pT g) (gs.map pT)))) else none) = _
  rw [if_pos (mtOk_p _), minX_p]
theorem pick_at {α β : Type} (c : α → Bool) (F : Nat → β) (G : α → β) : ∀ (l : List α) (k : Nat) (d : Nat → Bool), (∀ i a, l[i]? = some a → F (k + i) = G a ∧ d (k + i) = c a) → ((List.range' k l.length).filter d).map F = (l.filter c).map G
  | [], k, d, _ => rfl
  | a :: l, k, d, h => by
    have h0 := h 0 a rfl
    have ih := pick_at c F G l (k + 1) d fun i b e => by
      have := h (i + 1) b (by simpa using e)
      rw [show k + 1 + i = k + (i + 1) by omega]
      exact this
    rw [List.length_cons, List.range'_succ]
    rw [Nat.add_zero] at h0
    cases hc : c a with
    | true =>
      rw [hc] at h0
      rw [List.filter_cons_of_pos h0.2, List.map_cons, List.filter_cons_of_pos hc, List.map_cons, h0.1, ih]
    | false =>
      rw [hc] at h0
      rw [List.filter_cons_of_neg (by rw [h0.2]; simp), List.filter_cons_of_neg (by rw [hc]; simp), ih]
theorem pick_at0 {α β : Type} {c : α → Bool} {F : Nat → β} {G : α → β} {l : List α} {d : Nat → Bool} (h : ∀ i a, l[i]? = some a → F i = G a ∧ d i = c a) : ((List.range l.length).filter d).map F = (l.filter c).map G := by
  rw [List.range_eq_range']
  exact pick_at c F G l 0 d fun i a e => by rw [Nat.zero_add]; exact h i a e
def toM (n : Nat) (f g : Fn) : List Ch := (chsM n).filter fun c => cgF n c f == g
def dueM (n : Nat) (f g : Fn) : D := match toM n f g with
  | [] => .none
  | c :: _ => eC c
theorem forL_preK {α : Type} {g : Gs} {body : Fs} {dm : List Bool} (en : α → D) (ρ : Ev) (s : List α → Cs) : ∀ (post pre : List α), (∀ q x p, pre ++ post = q ++ x :: p → ∃ ρ1 ρ2, g (en x) ρ = some ρ1 ∧ body ρ1 (s q) = .nx ρ2 (s (q ++ [x])) ∧ mask dm ρ2 = ρ) →
    forL g body dm (post.map en) ρ (s pre) = .nx ρ (s (pre ++ post))
  | [], pre, _ => by rw [List.append_nil]; rfl
  | x :: post, pre, h => by
    obtain ⟨ρ1, ρ2, h1, h2, h3⟩ := h pre x post rfl
    rw [List.map_cons]
    unfold forL
    rw [h1]
    simp only [h2]
    rw [h3, forL_preK en ρ s post (pre ++ [x]) fun q y p e => h q y p (by rw [← e, List.append_assoc]; rfl), List.append_assoc]
    rfl
theorem sameOk_eCk (k : Nat) {n : Nat} (hn : n ≤ 100) {c : Ch} (hc : okC n c) : sameOk (k + 3) (eC c) := by
  have hb : ∀ (k : Nat) (b : Bool), sameOk (k + 1) (eBt b) := fun k b => by unfold eBt sameOk; trivial
  have h1 : sameOk (k + 2) (.tuple (eNs c.o)) := by
    unfold sameOk
    refine ⟨by rw [List.length_map, hc.lo]; omega, sameOks_all fun d hd => ?_⟩
    obtain ⟨x, _, rfl⟩ := List.mem_map.mp hd
    unfold sameOk
    trivial
  have h2 : sameOk (k + 2) (.tuple (c.t.map eBt)) := by
    unfold sameOk
    refine ⟨by rw [List.length_map, hc.lt]; omega, sameOks_all fun d hd => ?_⟩
    obtain ⟨x, _, rfl⟩ := List.mem_map.mp hd
    exact hb _ x
  unfold eC sameOk
  refine ⟨by simp, sameOks_all fun d hd => ?_⟩
  simp only [List.mem_cons, List.not_mem_nil, or_false] at hd
  rcases hd with rfl | rfl | rfl
  · exact h1
  · exact h2
  · exact hb _ _
theorem toM_len {n : Nat} (h4 : n ≤ 4) (f g : Fn) : (toM n f g).length ≤ 768 := Nat.le_trans (List.length_filter_le _ _) (chs_len n (by omega))
theorem toM_ok {n : Nat} (h4 : n ≤ 4) {f g : Fn} {c : Ch} (h : c ∈ toM n f g) : okC n c := chs_ok h4 (List.mem_filter.mp h).1
theorem sameOk_due {n : Nat} (h4 : n ≤ 4) (f g : Fn) : sameOk 4 (dueM n f g) := by
  unfold dueM
  split
  · unfold sameOk; trivial
  · rename_i c cs e
    exact sameOk_eCk 1 (n := n) (by omega) (toM_ok h4 (f := f) (g := g) (by rw [e]; simp))
theorem sameOk_to {n : Nat} (h4 : n ≤ 4) (f g : Fn) : sameOk 4 (.list ((toM n f g).map eC)) := by
  unfold sameOk
  refine ⟨by rw [List.length_map]; have := toM_len h4 f g; omega, sameOks_all fun d hd => ?_⟩
  obtain ⟨c, hc, rfl⟩ := List.mem_map.mp hd
  exact sameOk_eCk 0 (n := n) (by omega) (toM_ok h4 hc)
theorem due_at (n : Nat) (f g : Fn) (S : Cs) : dIx (.d (.list ((toM n f g).map eC ++ [.none]))) (.d (.int 0)) S = .ok (.a (.d (dueM n f g))) S := by
  unfold dueM
  cases toM n f g with
  | nil => rfl
  | cons c cs =>
    rw [List.map_cons, List.cons_append]
    have := o_ix_lst (id : D → D) (l := eC c :: (cs.map eC ++ [.none])) (i := 0) (a := eC c) rfl S
    rw [List.map_id] at this
    exact this
end PD

namespace PD
open PySem PySem.Spec PyProof.Rows L2
noncomputable section
def topS (i : Nat) : Stmt := PySem.Challenge.pw_leastterms_k72_alike_functions.main.body.getD i (.Pass ⟨0, 0, 0, 0⟩)
abbrev s_is_whole : Stmt := topS 13
abbrev s_is_answer : Stmt := topS 14
abbrev s_is_function : Stmt := topS 15
abbrev s_need_function : Stmt := topS 16
abbrev s_switches_of : Stmt := topS 17
abbrev s_bit_at : Stmt := topS 19
abbrev s_led_point : Stmt := topS 20
abbrev s_changed_by : Stmt := topS 21
abbrev s_shown : Stmt := topS 24
abbrev s_orders : Stmt := topS 26
abbrev s_rows_of_bits : Stmt := topS 27
abbrev s_all_changes : Stmt := topS 28
abbrev s_change_to : Stmt := topS 29
abbrev s_own_changes : Stmt := topS 30
abbrev s_alike_to : Stmt := topS 31
abbrev s_least_alike : Stmt := topS 32
abbrev s__law_take : Stmt := topS 34
abbrev s__law_bad_function : Stmt := topS 35
abbrev s__law_refused : Stmt := topS 36
abbrev s__law_cell_at : Stmt := topS 37
abbrev s__law_state : Stmt := topS 38
abbrev s__law_function : Stmt := topS 39
abbrev s__law_changes : Stmt := topS 40
abbrev s__law_switches : Stmt := topS 41
abbrev s__law_bits : Stmt := topS 42
abbrev s__law_point : Stmt := topS 43
abbrev s__law_changed : Stmt := topS 44
abbrev s__law_order : Stmt := topS 45
abbrev s__law_change : Stmt := topS 46
abbrev s__law_same : Stmt := topS 47
abbrev s__law_shown : Stmt := topS 48
abbrev s__law_refusals_right : Stmt := topS 49
abbrev s_law : Stmt := topS 50
theorem sc_is_whole : FnScope ["thing"] ["thing"] (defScope s_is_whole) := ⟨rfl, rfl, rfl, by decide +kernel, rfl, by decide +kernel, by decide +kernel⟩
theorem sc_is_answer : FnScope ["thing"] ["thing"] (defScope s_is_answer) := ⟨rfl, rfl, rfl, by decide +kernel, rfl, by decide +kernel, by decide +kernel⟩
theorem sc_is_function : FnScope ["thing", "one"] ["thing"] (defScope s_is_function) := ⟨rfl, rfl, rfl, by decide +kernel, rfl, by decide +kernel, by decide +kernel⟩
theorem sc_need_function : FnScope ["thing"] ["thing"] (defScope s_need_function) := ⟨rfl, rfl, rfl, by decide +kernel, rfl, by decide +kernel, by decide +kernel⟩
theorem sc_switches_of : FnScope ["function"] ["function"] (defScope s_switches_of) := ⟨rfl, rfl, rfl, by decide +kernel, rfl, by decide +kernel, by decide +kernel⟩
theorem sc_bit_at : FnScope ["n", "point", "k"] ["n", "point", "k"] (defScope s_bit_at) := ⟨rfl, rfl, rfl, by decide +kernel, rfl, by decide +kernel, by decide +kernel⟩
theorem sc_led_point : FnScope ["n", "point", "change", "found", "k", "order", "turns"] ["n", "point", "change"] (defScope s_led_point) := ⟨rfl, rfl, rfl, by decide +kernel, rfl, by decide +kernel, by decide +kernel⟩
theorem sc_changed_by : FnScope ["function", "change", "n", "found", "point", "answer"] ["function", "change"] (defScope s_changed_by) := ⟨rfl, rfl, rfl, by decide +kernel, rfl, by decide +kernel, by decide +kernel⟩
theorem sc_shown : FnScope ["function", "answer"] ["function"] (defScope s_shown) := ⟨rfl, rfl, rfl, by decide +kernel, rfl, by decide +kernel, by decide +kernel⟩
theorem sc_orders : FnScope ["n", "found", "turn", "longer", "order", "k"] ["n"] (defScope s_orders) := ⟨rfl, rfl, rfl, by decide +kernel, rfl, by decide +kernel, by decide +kernel⟩
theorem sc_rows_of_bits : FnScope ["n", "found", "turn", "longer", "row"] ["n"] (defScope s_rows_of_bits) := ⟨rfl, rfl, rfl, by decide +kernel, rfl, by decide +kernel, by decide +kernel⟩
theorem sc_all_changes : FnScope ["n", "found", "order", "turns"] ["n"] (defScope s_all_changes) := ⟨rfl, rfl, rfl, by decide +kernel, rfl, by decide +kernel, by decide +kernel⟩
theorem sc_change_to : FnScope ["one", "other", "change"] ["one", "other"] (defScope s_change_to) := ⟨rfl, rfl, rfl, by decide +kernel, rfl, by decide +kernel, by decide +kernel⟩
theorem sc_own_changes : FnScope ["function", "change"] ["function"] (defScope s_own_changes) := ⟨rfl, rfl, rfl, by decide +kernel, rfl, by decide +kernel, by decide +kernel⟩
theorem sc_alike_to : FnScope ["function", "found", "change"] ["function"] (defScope s_alike_to) := ⟨rfl, rfl, rfl, by decide +kernel, rfl, by decide +kernel, by decide +kernel⟩
theorem sc_least_alike : FnScope ["function", "other"] ["function"] (defScope s_least_alike) := ⟨rfl, rfl, rfl, by decide +kernel, rfl, by decide +kernel, by decide +kernel⟩
theorem sc__law_take : FnScope ["_law_state_here", "_law_many", "_law_stirred", "_law_found"] ["_law_state_here", "_law_many"] (defScope s__law_take) := ⟨rfl, rfl, rfl, by decide +kernel, rfl, by decide +kernel, by decide +kernel⟩
theorem sc__law_bad_function : FnScope ["_law_state_here", "_law_some"] ["_law_state_here"] (defScope s__law_bad_function) := ⟨rfl, rfl, rfl, by decide +kernel, rfl, by decide +kernel, by decide +kernel⟩
theorem sc__law_refused : FnScope ["_law_call", "_law_error", "e", "_law_marks", "_law_k"] ["_law_call"] (defScope s__law_refused) := ⟨rfl, rfl, rfl, by decide +kernel, rfl, by decide +kernel, by decide +kernel⟩
theorem sc__law_cell_at : FnScope ["_law_script", "_law_k"] ["_law_script", "_law_k"] (defScope s__law_cell_at) := ⟨rfl, rfl, rfl, by decide +kernel, rfl, by decide +kernel, by decide +kernel⟩
theorem sc__law_state : FnScope ["_law_script", "_law_k", "_law_cell"] ["_law_script", "_law_k"] (defScope s__law_state) := ⟨rfl, rfl, rfl, by decide +kernel, rfl, by decide +kernel, by decide +kernel⟩
theorem sc__law_function : FnScope ["_law_state_here", "_law_n", "_law_free", "_law_often", "_law_rest", "_law_found", "_law_point_here", "_law_answer"] ["_law_state_here", "_law_n", "_law_free"] (defScope s__law_function) := ⟨rfl, rfl, rfl, by decide +kernel, rfl, by decide +kernel, by decide +kernel⟩
theorem sc__law_changes : FnScope ["_law_n", "_law_rows", "_law_marks", "_law_turn", "_law_found", "_law_order_here", "_law_longer", "_law_wide", "_law_row", "_law_turns", "_law_k"] ["_law_n"] (defScope s__law_changes) := ⟨rfl, rfl, rfl, by decide +kernel, rfl, by decide +kernel, by decide +kernel⟩
theorem sc__law_switches : FnScope ["_law_function_here"] ["_law_function_here"] (defScope s__law_switches) := ⟨rfl, rfl, rfl, by decide +kernel, rfl, by decide +kernel, by decide +kernel⟩
theorem sc__law_bits : FnScope ["_law_n", "_law_point_here", "_law_k"] ["_law_n", "_law_point_here"] (defScope s__law_bits) := ⟨rfl, rfl, rfl, by decide +kernel, rfl, by decide +kernel, by decide +kernel⟩
theorem sc__law_point : FnScope ["_law_bits_here", "_law_found", "_law_bit"] ["_law_bits_here"] (defScope s__law_point) := ⟨rfl, rfl, rfl, by decide +kernel, rfl, by decide +kernel, by decide +kernel⟩
theorem sc__law_changed : FnScope ["_law_function_here", "_law_change_here", "_law_n", "_law_found", "_law_point_here", "_law_order_here", "_law_turns", "_law_answer", "_law_bits_here", "_law_old", "_law_k", "_law_one"] ["_law_function_here", "_law_change_here"] (defScope s__law_changed) := ⟨rfl, rfl, rfl, by decide +kernel, rfl, by decide +kernel, by decide +kernel⟩
theorem sc__law_order : FnScope ["_law_state_here", "_law_n", "_law_left", "_law_found"] ["_law_state_here", "_law_n"] (defScope s__law_order) := ⟨rfl, rfl, rfl, by decide +kernel, rfl, by decide +kernel, by decide +kernel⟩
theorem sc__law_change : FnScope ["_law_state_here", "_law_n", "_law_k"] ["_law_state_here", "_law_n"] (defScope s__law_change) := ⟨rfl, rfl, rfl, by decide +kernel, rfl, by decide +kernel, by decide +kernel⟩
theorem sc__law_same : FnScope ["_law_found", "_law_due", "_law_one", "_law_other"] ["_law_found", "_law_due"] (defScope s__law_same) := ⟨rfl, rfl, rfl, by decide +kernel, rfl, by decide +kernel, by decide +kernel⟩
theorem sc__law_shown : FnScope ["_law_function_here", "_law_answer"] ["_law_function_here"] (defScope s__law_shown) := ⟨rfl, rfl, rfl, by decide +kernel, rfl, by decide +kernel, by decide +kernel⟩
theorem sc__law_refusals_right : FnScope ["_law_state_here", "_law_one", "_law_bad", "_law_other", "_law_calls", "_law_call"] ["_law_state_here", "_law_one"] (defScope s__law_refusals_right) := ⟨rfl, rfl, rfl, by decide +kernel, rfl, by decide +kernel, by decide +kernel⟩
theorem sc_law : FnScope ["_law_script", "_law_k", "_law_state_here", "_law_n", "_law_one", "_law_changes_here", "_law_led", "_law_other", "_law_turn", "_law_due", "_law_found", "_law_change_here", "_law_at"] ["_law_script"] (defScope s_law) := ⟨rfl, rfl, rfl, by decide +kernel, rfl, by decide +kernel, by decide +kernel⟩
structure Tops (w : World) (K : PySem.W.Frag) (mg : Str → Option Value) : Prop where
  d_is_whole : DefAt K mg "is_whole" s_is_whole ["thing"]
  d_is_answer : DefAt K mg "is_answer" s_is_answer ["thing"]
  d_is_function : DefAt K mg "is_function" s_is_function ["thing"]
  d_need_function : DefAt K mg "need_function" s_need_function ["thing"]
  d_switches_of : DefAt K mg "switches_of" s_switches_of ["function"]
  d_bit_at : DefAt K mg "bit_at" s_bit_at ["n", "point", "k"]
  d_led_point : DefAt K mg "led_point" s_led_point ["n", "point", "change"]
  d_changed_by : DefAt K mg "changed_by" s_changed_by ["function", "change"]
  d_shown : DefAt K mg "shown" s_shown ["function"]
  d_orders : DefAt K mg "orders" s_orders ["n"]
  d_rows_of_bits : DefAt K mg "rows_of_bits" s_rows_of_bits ["n"]
  d_all_changes : DefAt K mg "all_changes" s_all_changes ["n"]
  d_change_to : DefAt K mg "change_to" s_change_to ["one", "other"]
  d_own_changes : DefAt K mg "own_changes" s_own_changes ["function"]
  d_alike_to : DefAt K mg "alike_to" s_alike_to ["function"]
  d_least_alike : DefAt K mg "least_alike" s_least_alike ["function"]
  d__law_take : DefAt K mg "_law_take" s__law_take ["_law_state_here", "_law_many"]
  d__law_bad_function : DefAt K mg "_law_bad_function" s__law_bad_function ["_law_state_here"]
  d__law_refused : DefAt K mg "_law_refused" s__law_refused ["_law_call"]
  d__law_cell_at : DefAt K mg "_law_cell_at" s__law_cell_at ["_law_script", "_law_k"]
  d__law_state : DefAt K mg "_law_state" s__law_state ["_law_script", "_law_k"]
  d__law_function : DefAt K mg "_law_function" s__law_function ["_law_state_here", "_law_n", "_law_free"]
  d__law_changes : DefAt K mg "_law_changes" s__law_changes ["_law_n"]
  d__law_switches : DefAt K mg "_law_switches" s__law_switches ["_law_function_here"]
  d__law_bits : DefAt K mg "_law_bits" s__law_bits ["_law_n", "_law_point_here"]
  d__law_point : DefAt K mg "_law_point" s__law_point ["_law_bits_here"]
  d__law_changed : DefAt K mg "_law_changed" s__law_changed ["_law_function_here", "_law_change_here"]
  d__law_order : DefAt K mg "_law_order" s__law_order ["_law_state_here", "_law_n"]
  d__law_change : DefAt K mg "_law_change" s__law_change ["_law_state_here", "_law_n"]
  d__law_same : DefAt K mg "_law_same" s__law_same ["_law_found", "_law_due"]
  d__law_shown : DefAt K mg "_law_shown" s__law_shown ["_law_function_here"]
  d__law_refusals_right : DefAt K mg "_law_refusals_right" s__law_refusals_right ["_law_state_here", "_law_one"]
  z_ValueError : mg "ValueError" = none
  z_all : mg "all" = none
  z_bool : mg "bool" = none
  z_int : mg "int" = none
  z_isinstance : mg "isinstance" = none
  z_len : mg "len" = none
  z_list : mg "list" = none
  z_max : mg "max" = none
  z_min : mg "min" = none
  z_range : mg "range" = none
  z_str : mg "str" = none
  z_tuple : mg "tuple" = none
  z_zip : mg "zip" = none
  m_SIGN : KDat K w mg "SIGN" [(.int 0, .str "0"), (.int 1, .str "1"), (.none, .str "-")]
  m_SIZES : KInt K mg "SIZES" [(2, 1), (4, 2), (8, 3), (16, 4)]
  e_NoFunction : ExcAt K mg "NoFunction"
  ref : RefAt K mg "NoFunction" "NoTerm" "NoPoint" "NoNumber" "NoText" "NoLine" "NoDeed" "NoForm" "NoChange"
variable {P : Program} {w : World} {K : PySem.W.Frag} {mg : Str → Option Value} {base : Heap}
def b_is_whole : Fs := (sRet [] (fAnd (fUn (onD1 (dIsi "int")) (fVar 0)) (fNot (fUn (onD1 (dIsi "bool")) (fVar 0)))))
def sem_is_whole : Sem_ := bodySem 1 b_is_whole
def b_is_answer : Fs := (sRet [] (fOr (fBin dIsN (fVar 0) (fC .none)) (fAnd (fCall sem_is_whole [(fVar 0)]) (fBin (onD dIn) (fVar 0) (fTup [(fC (.int 0)), (fC (.int 1))])))))
def sem_is_answer : Sem_ := bodySem 1 b_is_answer
def b_is_function : Fs := (sRet [] (fAnd (fUn (onD1 (dIsi "tuple")) (fVar 0)) (fAnd (fUn (onD1 (dInKI [(2, 1), (4, 2), (8, 3), (16, 4)])) (fCall gLen [(fVar 0)])) (fCall (on1 dAll) [(fComp [1] (iSeq (fVar 0)) (gNm 1) fTrue (fCall sem_is_answer [(fVar 1)]))]))))
def sem_is_function : Sem_ := bodySem 2 b_is_function
def b_need_function : Fs := (sIf [] (fNot (fCall sem_is_function [(fVar 0)]))
  (sRaise "NoFunction")
  sSkip)
def sem_need_function : Sem_ := bodySem 1 b_need_function
def b_switches_of : Fs := (sRet [] (fUn (onD1 (dAtKI [(2, 1), (4, 2), (8, 3), (16, 4)])) (fCall gLen [(fVar 0)])))
def sem_switches_of : Sem_ := bodySem 1 b_switches_of
def b_bit_at : Fs := (sRet [] (fBin (onD dBAnd) (fBin (onD dShr) (fVar 1) (fBin (onD dSub) (fBin (onD dSub) (fVar 0) (fC (.int 1))) (fVar 2))) (fC (.int 1))))
def sem_bit_at : Sem_ := bodySem 3 b_bit_at
def b_led_point : Fs := (sSeq (sSetT [5, 6] [] (fSl (fVar 2) none (some (fC (.int 2)))))
  (sSeq (sSet 3 [] (fC (.int 0)))
  (sSeq (sFor [] (iRng1 (fVar 0)) (sNm 4)
  (sSet 3 [3] (fBin (onD dBOr) (fVar 3) (fBin (onD dShl) (fBin (onD dBXor) (fCall sem_bit_at [(fVar 0), (fVar 1), (fVar 4)]) (fBin dIx (fVar 6) (fVar 4))) (fBin (onD dSub) (fBin (onD dSub) (fVar 0) (fC (.int 1))) (fBin dIx (fVar 5) (fVar 4)))))))
  (sRetV 3))))
def sem_led_point : Sem_ := bodySem 7 b_led_point
def b_changed_by : Fs := (sSeq (sSet 2 [] (fCall sem_switches_of [(fVar 0)]))
  (sSeq (sSet 3 [] (fLst []))
  (sSeq (sFor [] (iRng1 (fCall gLen [(fVar 0)])) (sNm 4)
  (sSeq (sSet 5 [2] (fBin dIx (fVar 0) (fCall sem_led_point [(fVar 2), (fVar 4), (fVar 1)])))
  (sApp 3 [] (fIf (fBin dIsN (fVar 5) (fC .none)) (fVar 5) (fBin (onD dBXor) (fVar 5) (fBin dIx (fVar 1) (fC (.int 2))))))))
  (sRet [3] (fCall (on1 dTup) [(fVar 3)])))))
def sem_changed_by : Sem_ := bodySem 6 b_changed_by
def b_shown : Fs := (sRet [] (fSm dJoin (fC (.str "")) (fComp [1] (iSeq (fVar 0)) (gNm 1) fTrue (fUn (onD1 (dAtK [(.int 0, .str "0"), (.int 1, .str "1"), (.none, .str "-")])) (fVar 1)))))
def sem_shown : Sem_ := bodySem 2 b_shown
def b_orders : Fs := (sSeq (sSet 1 [] (fLst [(fTup [])]))
  (sSeq (sFor [] (iRng1 (fVar 0)) (sNm 2)
  (sSeq (sSet 3 [] (fLst []))
  (sSeq (sFor [1] (iSeq (fVar 1)) (sNm 4)
  (sExt 3 [] (fComp [5] (iRng1 (fVar 0)) (gNm 5) (fBin (onD dNotIn) (fVar 5) (fVar 4)) (fBin (onD dAdd) (fVar 4) (fTup [(fVar 5)])))))
  (sSet 1 [3] (fVar 3)))))
  (sRetV 1)))
def sem_orders : Sem_ := bodySem 6 b_orders
def b_rows_of_bits : Fs := (sSeq (sSet 1 [] (fLst [(fTup [])]))
  (sSeq (sFor [] (iRng1 (fVar 0)) (sNm 2)
  (sSeq (sSet 3 [] (fLst []))
  (sSeq (sFor [1] (iSeq (fVar 1)) (sNm 4)
  (sExt 3 [] (fLst [(fBin (onD dAdd) (fVar 4) (fTup [(fC (.int 0))])), (fBin (onD dAdd) (fVar 4) (fTup [(fC (.int 1))]))])))
  (sSet 1 [3] (fVar 3)))))
  (sRetV 1)))
def sem_rows_of_bits : Sem_ := bodySem 5 b_rows_of_bits
def b_all_changes : Fs := (sSeq (sSet 1 [] (fLst []))
  (sSeq (sFor [] (iSeq (fCall sem_orders [(fVar 0)])) (sNm 2)
  (sFor [] (iSeq (fCall sem_rows_of_bits [(fVar 0)])) (sNm 3)
  (sExt 1 [] (fLst [(fTup [(fVar 2), (fVar 3), (fC (.int 0))]), (fTup [(fVar 2), (fVar 3), (fC (.int 1))])]))))
  (sRetV 1)))
def sem_all_changes : Sem_ := bodySem 4 b_all_changes
def b_change_to : Fs := (sSeq (sExp [] (fCall sem_need_function [(fVar 0)]))
  (sSeq (sExp [] (fCall sem_need_function [(fVar 1)]))
  (sSeq (sIf [] (fBin (onD dNe) (fCall gLen [(fVar 0)]) (fCall gLen [(fVar 1)]))
  (sRaise "NoFunction")
  sSkip)
  (sSeq (sFor [] (iSeq (fCall sem_all_changes [(fCall sem_switches_of [(fVar 0)])])) (sNm 2)
  (sIf [] (fBin (onD dEq) (fCall sem_changed_by [(fVar 0), (fVar 2)]) (fVar 1))
  (sRetV 2)
  sSkip))
  (sRet [] (fC .none))))))
def sem_change_to : Sem_ := bodySem 3 b_change_to
def b_own_changes : Fs := (sSeq (sExp [] (fCall sem_need_function [(fVar 0)]))
  (sRet [] (fComp [1] (iSeq (fCall sem_all_changes [(fCall sem_switches_of [(fVar 0)])])) (gNm 1) (fBin (onD dEq) (fCall sem_changed_by [(fVar 0), (fVar 1)]) (fVar 0)) (fVar 1))))
def sem_own_changes : Sem_ := bodySem 2 b_own_changes
def b_alike_to : Fs := (sCellF 1 []
  (sSeq (sFor [] (iSeq (fCallH sem_all_changes [(fCallH sem_switches_of [(fVar 0)])])) (sNm 2)
  (sPutF 1 [] (fCallH sem_changed_by [(fVar 0), (fVar 2)])))
  (sRetV 1)))
def sem_alike_to : Sem_ := bodySem 3 b_alike_to
def b_least_alike : Fs := (sSeq (sExp [] (fCall sem_need_function [(fVar 0)]))
  (sRet [] (fBin dIx (fCall (on1 dMinT) [(fComp [1] (iDff (fCall sem_alike_to [(fVar 0)])) (gNm 1) fTrue (fTup [(fCall sem_shown [(fVar 1)]), (fVar 1)]))]) (fC (.int 1)))))
def sem_least_alike : Sem_ := bodySem 2 b_least_alike
def b__law_take : Fs := (sSeq (sIf [] (fBin dIx (fVar 0) (fC (.int 1)))
  (sSeq (sSet 3 [] (fBin (onD dMod) (fBin dIx (fVar 0) (fC (.int 0))) (fVar 1)))
  (sSeq (sSetIx 0 [] (fBin (onD dDiv) (fBin dIx (fVar 0) (fC (.int 0))) (fVar 1)) (fC (.int 0)))
  (sRetV 3)))
  sSkip)
  (sSeq (sSetIx 0 [] (fBin (onD dMod) (fBin (onD dAdd) (fBin (onD dMul) (fBin dIx (fVar 0) (fC (.int 0))) (fC (.int 48271))) (fC (.int 29))) (fC (.int 2147483647))) (fC (.int 0)))
  (sSeq (sSet 2 [] (fBin (onD dMod) (fBin (onD dAdd) (fBin (onD dAdd) (fBin (onD dMul) (fBin dIx (fVar 0) (fC (.int 0))) (fBin dIx (fVar 0) (fC (.int 0)))) (fBin (onD dMul) (fC (.int 39373)) (fBin dIx (fVar 0) (fC (.int 0))))) (fC (.int 7))) (fC (.int 2147483629))))
  (sSeq (sSet 2 [2] (fBin (onD dMod) (fBin (onD dAdd) (fBin (onD dMul) (fVar 2) (fVar 2)) (fBin (onD dMul) (fC (.int 16807)) (fVar 2))) (fC (.int 2147483587))))
  (sRet [2] (fBin (onD dMod) (fBin (onD dDiv) (fVar 2) (fC (.int 8))) (fVar 1)))))))
def sem__law_take : Sem_ := bodySem 4 b__law_take
def b__law_bad_function : Fs := (sSeq (sSet 1 [] (fLst [(fC .none), (fTup []), (fTup [(fC (.int 0))]), (fTup [(fC (.int 0)), (fC (.int 1)), (fC (.int 0))]), (fTup [(fC (.int 0)), (fC (.int 2))]), (fTup [(fC (.int 0)), (fC (.bool true))]), (fLst [(fC (.int 0)), (fC (.int 1))]), (fBin (onD dMul) (fTup [(fC (.int 0))]) (fC (.int 32))), (fC (.str "01")), (fTup [(fC (.str "0")), (fC (.str "1"))]), fDct, (fC (.int 1)), (fTup [(fC (.int 0)), (fC (.int 1)), (fC .none)])]))
  (sRet [1] (fBin dIx (fVar 1) (fCall sem__law_take [(fVar 0), (fC (.int 13))]))))
def sem__law_bad_function : Sem_ := bodySem 2 b__law_bad_function
def b__law_cell_at : Fs := (sSeq (sIf [] (fBin (onD dLt) (fVar 1) (fCall gLen [(fVar 0)]))
  (sRet [] (fBin dIx (fVar 0) (fVar 1)))
  sSkip)
  (sRet [] (fC (.int 0))))
def sem__law_cell_at : Sem_ := bodySem 2 b__law_cell_at
def b__law_state : Fs := (sSeq (sSet 2 [] (fCall sem__law_cell_at [(fVar 0), (fVar 1)]))
  (sSeq (sIf [2] (fBin (onD dGe) (fVar 2) (fBin (onD dPow) (fC (.int 10)) (fC (.int 18))))
  (sRet [2] (fLst [(fBin (onD dSub) (fVar 2) (fBin (onD dPow) (fC (.int 10)) (fC (.int 18)))), (fC (.bool true))]))
  sSkip)
  (sRet [2] (fLst [(fBin (onD dMod) (fVar 2) (fC (.int 2147483647))), (fC (.bool false))]))))
def sem__law_state : Sem_ := bodySem 3 b__law_state
def b__law_function : Fs := (sSeq (sSet 3 [] (fBin dIx (fLst [(fC (.int 2)), (fC (.int 4)), (fC (.int 6))]) (fCall sem__law_take [(fVar 0), (fC (.int 3))])))
  (sSeq (sSet 4 [] (fBin (onD dMul) (fCall sem__law_take [(fVar 0), (fC (.int 3))]) (fCall (on1 dInt) [(fVar 2)])))
  (sSeq (sSet 5 [] (fLst []))
  (sSeq (sFor [] (iRng1 (fBin (onD dShl) (fC (.int 1)) (fVar 1))) (sNm 6)
  (sSeq (sSet 7 [] (fCall (on1 dInt) [(fBin (onD dLt) (fCall sem__law_take [(fVar 0), (fC (.int 8))]) (fVar 3))]))
  (sSeq (sIf [4] (fBin (onD dLt) (fCall sem__law_take [(fVar 0), (fC (.int 5))]) (fVar 4))
  (sSet 7 [] (fC .none))
  sSkip)
  (sApp 5 [7] (fVar 7)))))
  (sRet [5] (fCall (on1 dTup) [(fVar 5)]))))))
def sem__law_function : Sem_ := bodySem 8 b__law_function
def b__law_changes : Fs := (sSeq (sSet 1 [] (fLst [(fTup [])]))
  (sSeq (sSet 2 [] (fLst [(fTup [])]))
  (sSeq (sFor [] (iRng1 (fVar 0)) (sNm 3)
  (sSeq (sSet 6 [] (fLst []))
  (sSeq (sFor [1] (iSeq (fVar 1)) (sNm 5)
  (sExt 6 [] (fComp [10] (iRng1 (fVar 0)) (gNm 10) (fBin (onD dNotIn) (fVar 10) (fVar 5)) (fBin (onD dAdd) (fVar 5) (fTup [(fVar 10)])))))
  (sSeq (sSet 1 [6] (fVar 6))
  (sSeq (sSet 7 [] (fLst []))
  (sSeq (sFor [2] (iSeq (fVar 2)) (sNm 8)
  (sExt 7 [] (fLst [(fBin (onD dAdd) (fVar 8) (fTup [(fC (.int 0))])), (fBin (onD dAdd) (fVar 8) (fTup [(fC (.int 1))]))])))
  (sSet 2 [7] (fVar 7))))))))
  (sSeq (sSet 4 [] (fLst []))
  (sSeq (sFor [1] (iSeq (fVar 1)) (sNm 5)
  (sFor [2] (iSeq (fVar 2)) (sNm 9)
  (sExt 4 [] (fLst [(fTup [(fVar 5), (fVar 9), (fC (.int 0))]), (fTup [(fVar 5), (fVar 9), (fC (.int 1))])]))))
  (sRetV 4))))))
def sem__law_changes : Sem_ := bodySem 11 b__law_changes
def b__law_switches : Fs := (sRet [] (fUn (onD1 (dAtKI [(2, 1), (4, 2), (8, 3), (16, 4)])) (fCall gLen [(fVar 0)])))
def sem__law_switches : Sem_ := bodySem 1 b__law_switches
def b__law_bits : Fs := (sRet [] (fComp [2] (iRng1 (fVar 0)) (gNm 2) fTrue (fBin (onD dBAnd) (fBin (onD dShr) (fVar 1) (fBin (onD dSub) (fBin (onD dSub) (fVar 0) (fC (.int 1))) (fVar 2))) (fC (.int 1)))))
def sem__law_bits : Sem_ := bodySem 3 b__law_bits
def b__law_point : Fs := (sSeq (sSet 1 [] (fC (.int 0)))
  (sSeq (sFor [] (iSeq (fVar 0)) (sNm 2)
  (sSet 1 [1] (fBin (onD dAdd) (fBin (onD dMul) (fC (.int 2)) (fVar 1)) (fVar 2))))
  (sRetV 1)))
def sem__law_point : Sem_ := bodySem 3 b__law_point
def b__law_changed : Fs := (sSeq (sSet 2 [] (fCall sem__law_switches [(fVar 0)]))
  (sSeq (sSetT [5, 6, 7] [] (fVar 1))
  (sSeq (sSet 3 [] (fLst []))
  (sSeq (sFor [] (iRng1 (fCall gLen [(fVar 0)])) (sNm 4)
  (sSeq (sSet 8 [2] (fCall sem__law_bits [(fVar 2), (fVar 4)]))
  (sSeq (sSet 9 [2] (fBin (onD dMul) (fLst [(fC (.int 0))]) (fVar 2)))
  (sSeq (sFor [2] (iRng1 (fVar 2)) (sNm 10)
  (sSetIx 9 [8] (fBin (onD dMod) (fBin (onD dAdd) (fBin dIx (fVar 8) (fVar 10)) (fBin dIx (fVar 6) (fVar 10))) (fC (.int 2))) (fBin dIx (fVar 5) (fVar 10))))
  (sSeq (sSet 11 [9] (fBin dIx (fVar 0) (fCall sem__law_point [(fVar 9)])))
  (sApp 3 [] (fIf (fBin dIsN (fVar 11) (fC .none)) (fC .none) (fBin (onD dMod) (fBin (onD dAdd) (fVar 11) (fVar 7)) (fC (.int 2))))))))))
  (sRet [3] (fCall (on1 dTup) [(fVar 3)]))))))
def sem__law_changed : Sem_ := bodySem 12 b__law_changed
def b__law_order : Fs := (sSeq (sSet 2 [] (fUn (onD1 dLisRg) (fVar 1)))
  (sSeq (sSet 3 [] (fLst []))
  (sSeq (sWhile 1000 [2] (fBin (onD dNe) (fVar 2) (fLst []))
  (sAppPop 3 2 [2] (fCall sem__law_take [(fVar 0), (fCall gLen [(fVar 2)])])))
  (sRet [3] (fCall (on1 dTup) [(fVar 3)])))))
def sem__law_order : Sem_ := bodySem 4 b__law_order
def b__law_change : Fs := (sRet [] (fTup [(fCall sem__law_order [(fVar 0), (fVar 1)]), (fCall (on1 dTup) [(fComp [2] (iRng1 (fVar 1)) (gNm 2) fTrue (fCall sem__law_take [(fVar 0), (fC (.int 2))]))]), (fCall sem__law_take [(fVar 0), (fC (.int 2))])]))
def sem__law_change : Sem_ := bodySem 3 b__law_change
def b__law_same (self : Sem_) : Fs := (sSeq (sIf [] (fUn (onD1 (dIsi2 "tuple" "list")) (fVar 1))
  (sSeq (sIf [] (fOr (fBin (onD dNe) (fUn (onD1 (dIsi "tuple")) (fVar 0)) (fUn (onD1 (dIsi "tuple")) (fVar 1))) (fBin (onD dNe) (fUn (onD1 (dIsi "list")) (fVar 0)) (fUn (onD1 (dIsi "list")) (fVar 1))))
  (sRet [] (fC (.bool false)))
  sSkip)
  (sSeq (sIf [] (fBin (onD dNe) (fCall gLen [(fVar 0)]) (fCall gLen [(fVar 1)]))
  (sRet [] (fC (.bool false)))
  sSkip)
  (sRet [] (fCall (on1 dAll) [(fComp [2, 3] (iZip (fVar 0) (fVar 1)) (gTp [2, 3]) fTrue (fCall self [(fVar 2), (fVar 3)]))]))))
  sSkip)
  (sRet [] (fAnd (fBin (onD dEq) (fVar 0) (fVar 1)) (fBin (onD dEq) (fUn (onD1 (dIsi "bool")) (fVar 0)) (fUn (onD1 (dIsi "bool")) (fVar 1))))))
def sem__law_same : Nat → Sem_
  | 0 => fun _ _ => .stuck
  | n + 1 => bodySem 4 (b__law_same (sem__law_same n))
def b__law_shown : Fs := (sRet [] (fSm dJoin (fC (.str "")) (fComp [1] (iSeq (fVar 0)) (gNm 1) fTrue (fIf (fBin dIsN (fVar 1) (fC .none)) (fC (.str "-")) (fCall (on1 dStr) [(fVar 1)])))))
def sem__law_shown : Sem_ := bodySem 2 b__law_shown
def b__law_refusals_right : Fs := (sSeq (sSet 2 [] (fCall sem__law_bad_function [(fVar 0)]))
  (sSeq (sSet 3 [] (fBin dIx (fLst [(fTup [(fC (.int 0)), (fC (.int 1))]), (fTup [(fC (.int 0)), (fC (.int 1)), (fC (.int 1)), (fC (.int 0))])]) (fCall (on1 dInt) [(fBin (onD dEq) (fCall gLen [(fVar 1)]) (fC (.int 2)))])))
  (sFgt 4 (sRet [2] (fBin (onD dEq) (fRefs ["NoFunction", "NoTerm", "NoPoint", "NoNumber", "NoText", "NoLine", "NoDeed", "NoForm", "NoChange"] 5 [(fCall sem_change_to [(fVar 2), (fVar 1)]), (fCall sem_change_to [(fVar 1), (fVar 2)]), (fCall sem_change_to [(fVar 1), (fVar 3)]), (fCall sem_own_changes [(fVar 2)]), (fCall sem_least_alike [(fVar 2)])]) (fBin (onD dMul) (fLst [(fLst [(fC (.int 0))])]) (fC (.int 5))))))))
def sem__law_refusals_right : Sem_ := bodySem 6 b__law_refusals_right
def b_law : Fs := (sSeq (sFor [] (iRng1 (fCall (gMax2 fun i j => if j > i then j else i) [(fC (.int 1)), (fCall (gMax2 fun i j => if j < i then j else i) [(fCall gLen [(fVar 0)]), (fC (.int 3))])])) (sNm 1)
  (sCell 2 (fCall sem__law_state [(fVar 0), (fVar 1)])
  (sSeq (sSet 3 [2] (fBin dIx (fLst [(fC (.int 3)), (fC (.int 2)), (fC (.int 4)), (fC (.int 3)), (fC (.int 1))]) (fCall sem__law_take [(fVar 2), (fC (.int 5))])))
  (sSeq (sSet 4 [2] (fCall sem__law_function [(fVar 2), (fVar 3), (fC (.bool true))]))
  (sSeq (sSet 5 [] (fCall sem__law_changes [(fVar 3)]))
  (sSeq (sSet 6 [4, 5] (fComp [11] (iSeq (fVar 5)) (gNm 11) fTrue (fCall sem__law_changed [(fVar 4), (fVar 11)])))
  (sSeq (sFor [2, 4] (iSeq (fLst [(fCall sem__law_changed [(fVar 4), (fCall sem__law_change [(fVar 2), (fVar 3)])]), (fCall sem__law_function [(fVar 2), (fVar 3), (fC (.bool true))]), (fVar 4)])) (sNm 7)
  (sSeq (sSet 9 [5, 6] (fBin dIx (fBin (onD dAdd) (fComp [12] (iRng1 (fCall gLen [(fVar 6)])) (gNm 12) (fBin (onD dEq) (fBin dIx (fVar 6) (fVar 12)) (fVar 7)) (fBin dIx (fVar 5) (fVar 12))) (fLst [(fC .none)])) (fC (.int 0))))
  (sIf [4] (fNot (fCall (sem__law_same 4) [(fCall sem_change_to [(fVar 4), (fVar 7)]), (fVar 9)]))
  (sRet [] (fC (.bool false)))
  sSkip)))
  (sSeq (sFor [] (iRng1 (fC (.int 2))) (sNm 8)
  (sSeq (sSet 10 [4] (fCall sem_own_changes [(fVar 4)]))
  (sSeq (sIf [4, 5, 6, 10] (fNot (fCall (sem__law_same 4) [(fVar 10), (fComp [12] (iRng1 (fCall gLen [(fVar 6)])) (gNm 12) (fBin (onD dEq) (fBin dIx (fVar 6) (fVar 12)) (fVar 4)) (fBin dIx (fVar 5) (fVar 12)))]))
  (sRet [] (fC (.bool false)))
  sSkip)
  (sApp 10 [] (fC (.int 0))))))
  (sSeq (sIf [4, 6] (fNot (fCall (sem__law_same 4) [(fCall sem_least_alike [(fVar 4)]), (fBin dIx (fCall (on1 dMinT) [(fComp [7] (iSeq (fVar 6)) (gNm 7) fTrue (fTup [(fCall sem__law_shown [(fVar 7)]), (fVar 7)]))]) (fC (.int 1)))]))
  (sRet [] (fC (.bool false)))
  sSkip)
  (sIf [2, 4] (fNot (fCall sem__law_refusals_right [(fVar 2), (fVar 4)]))
  (sRet [] (fC (.bool false)))
  sSkip))))))))))
  (sRet [] (fC (.bool true))))
def sem_law : Sem_ := bodySem 13 b_law
theorem ok_is_whole (T : Tops w K mg) : OkAt P w K mg base 1 "is_whole" ["thing"] sem_is_whole := ok_of T.d_is_whole sc_is_whole (by decide) fun f cdv A outer s H E hr => by
  exact (vss_one (vs_ret [] (ve_and (ve_isi (T := "int") rfl T.z_isinstance (ve_var 0) rfl T.z_int (by decide +kernel)) (ve_one (ve_not (ve_isi (T := "bool") rfl T.z_isinstance (ve_var 0) rfl T.z_bool (by decide +kernel)))))))
theorem ok_is_answer (T : Tops w K mg) : OkAt P w K mg base 2 "is_answer" ["thing"] sem_is_answer := ok_of T.d_is_answer sc_is_answer (by decide) fun f cdv A outer s H E hr => by
  exact (vss_one (vs_ret [] (ve_or (ve_cv cv_isN (ve_var 0) ve_non) (ve_one (ve_and (ve_callO hr (takes_of rfl rfl rfl rfl) (ok_is_whole T) (va_cons (ve_var 0) va_nil)) (ve_one (ve_cv (cv_in hr) (ve_var 0) (ve_tup (va_cons ve_int (va_cons ve_int va_nil))))))))))
theorem ok_is_function (T : Tops w K mg) : OkAt P w K mg base 3 "is_function" ["thing"] sem_is_function := ok_of T.d_is_function sc_is_function (by decide) fun f cdv A outer s H E hr => by
  exact (vss_one (vs_ret [] (ve_and (ve_isi (T := "tuple") rfl T.z_isinstance (ve_var 0) rfl T.z_tuple (by decide +kernel)) (ve_and (ve_inKI T.m_SIZES (ve_len rfl T.z_len (ve_var 0))) (ve_one (ve_all rfl rfl T.z_all (ve_comp (own := [("one", 1)]) rfl sc_is_function.nd (vi_seq (ve_var 0)) (blkOk_by (by kernel_rfl)) (fun _ _ _ _ _ => (vg_name 1 sc_is_function.nd)) (fun _ _ _ _ _ => vts_nil) (fun _ _ _ _ _ => (ve_callO hr takes0 (ok_is_answer T) (va_cons (ve_var 1) va_nil))))))))))
theorem ok_need_function (T : Tops w K mg) : OkAt P w K mg base 4 "need_function" ["thing"] sem_need_function := ok_of T.d_need_function sc_need_function (by decide) fun f cdv A outer s H E hr => by
  exact (vss_one (vs_if [] (vt_not (vt_val (ve_callO hr (takes_of rfl rfl rfl rfl) (ok_is_function T) (va_cons (ve_var 0) va_nil))))
  (vss_one (vs_raiseO (takes_of rfl rfl rfl rfl) T.e_NoFunction))
  vss_nil))
theorem ok_switches_of (T : Tops w K mg) : OkAt P w K mg base 1 "switches_of" ["function"] sem_switches_of := ok_of T.d_switches_of sc_switches_of (by decide) fun f cdv A outer s H E hr => by
  exact (vss_one (vs_ret [] (ve_atKI T.m_SIZES (ve_len rfl T.z_len (ve_var 0)))))
theorem ok_bit_at (T : Tops w K mg) : OkAt P w K mg base 1 "bit_at" ["n", "point", "k"] sem_bit_at := ok_of T.d_bit_at sc_bit_at (by decide) fun f cdv A outer s H E hr => by
  exact (vss_one (vs_ret [] (ve_band (ve_shr (ve_var 1) (ve_sub (ve_sub (ve_var 0) ve_int) (ve_var 2))) ve_int)))
theorem ok_led_point (T : Tops w K mg) : OkAt P w K mg base 2 "led_point" ["n", "point", "change"] sem_led_point := ok_of T.d_led_point sc_led_point (by decide) fun f cdv A outer s H E hr => by
  exact (vss_cons (vs_setT [] (ks := [5, 6]) (gns_cons 5 sc_led_point.nd (gns_cons 6 sc_led_point.nd gns_nil)) (ve_sl (ve_var 2) vo_none (vo_some ve_int)))
  (vss_cons (vs_set 3 [] sc_led_point.nd ve_int)
  (vss_cons (vs_for [] (passes_of rfl) rfl (vi_rng1 rfl T.z_range (ve_var 0)) (vgs_name 4 sc_led_point.nd)
  (vss_one (vs_set 3 [3] sc_led_point.nd (ve_bor (ve_var 3) (ve_shl (ve_bxor (ve_callO hr (takes_of rfl rfl rfl rfl) (ok_bit_at T) (va_cons (ve_var 0) (va_cons (ve_var 1) (va_cons (ve_var 4) va_nil)))) (ve_at (ve_var 6) (ve_var 4))) (ve_sub (ve_sub (ve_var 0) ve_int) (ve_at (ve_var 5) (ve_var 4))))))))
  (vss_one (vs_retV 3)))))
theorem ok_changed_by (T : Tops w K mg) : OkAt P w K mg base 3 "changed_by" ["function", "change"] sem_changed_by := ok_of T.d_changed_by sc_changed_by (by decide) fun f cdv A outer s H E hr => by
  exact (vss_cons (vs_set 2 [] sc_changed_by.nd (ve_callO hr (takes_of rfl rfl rfl rfl) (ok_switches_of T) (va_cons (ve_var 0) va_nil)))
  (vss_cons (vs_set 3 [] sc_changed_by.nd (ve_lst va_nil))
  (vss_cons (vs_for [] (passes_of rfl) rfl (vi_rng1 rfl T.z_range (ve_len rfl T.z_len (ve_var 0))) (vgs_name 4 sc_changed_by.nd)
  (vss_cons (vs_set 5 [2] sc_changed_by.nd (ve_at (ve_var 0) (ve_callO hr (takes_of rfl rfl rfl rfl) (ok_led_point T) (va_cons (ve_var 2) (va_cons (ve_var 4) (va_cons (ve_var 1) va_nil))))))
  (vss_one (vs_app 3 [] (ve_if (vt_cv cv_isN (ve_var 5) ve_non) (ve_var 5) (ve_bxor (ve_var 5) (ve_at (ve_var 1) ve_int)))))))
  (vss_one (vs_ret [3] (ve_tuple rfl T.z_tuple (ve_var 3)))))))
theorem ok_shown (T : Tops w K mg) : OkAt P w K mg base 1 "shown" ["function"] sem_shown := ok_of T.d_shown sc_shown (by decide) fun f cdv A outer s H E hr => by
  exact (vss_one (vs_ret [] (ve_join ve_str (ve_comp (own := [("answer", 1)]) rfl sc_shown.nd (vi_seq (ve_var 0)) (blkOk_by (by kernel_rfl)) (fun _ _ _ _ _ => (vg_name 1 sc_shown.nd)) (fun _ _ _ _ _ => vts_nil) (fun _ _ _ _ _ => (ve_atK T.m_SIGN (ve_var 1)))))))
theorem ok_orders (T : Tops w K mg) : OkAt P w K mg base 1 "orders" ["n"] sem_orders := ok_of T.d_orders sc_orders (by decide) fun f cdv A outer s H E hr => by
  exact (vss_cons (vs_set 1 [] sc_orders.nd (ve_lst (va_cons (ve_tup va_nil) va_nil)))
  (vss_cons (vs_for [] (passes_of rfl) rfl (vi_rng1 rfl T.z_range (ve_var 0)) (vgs_name 2 sc_orders.nd)
  (vss_cons (vs_set 3 [] sc_orders.nd (ve_lst va_nil))
  (vss_cons (vs_for [1] (passes_of rfl) rfl (vi_seq (ve_var 1)) (vgs_name 4 sc_orders.nd)
  (vss_one (vs_ext 3 [] (ve_comp (own := [("k", 5)]) rfl sc_orders.nd (vi_rng1 rfl T.z_range (ve_var 0)) (blkOk_by (by kernel_rfl)) (fun _ _ _ _ _ => (vg_name 5 sc_orders.nd)) (fun _ _ _ _ _ => (vts_one (vt_cv (cv_notIn hr) (ve_var 5) (ve_var 4)))) (fun _ _ _ _ _ => (ve_add (ve_var 4) (ve_tup (va_cons (ve_var 5) va_nil))))))))
  (vss_one (vs_set 1 [3] sc_orders.nd (ve_var 3))))))
  (vss_one (vs_retV 1))))
theorem ok_rows_of_bits (T : Tops w K mg) : OkAt P w K mg base 1 "rows_of_bits" ["n"] sem_rows_of_bits := ok_of T.d_rows_of_bits sc_rows_of_bits (by decide) fun f cdv A outer s H E hr => by
  exact (vss_cons (vs_set 1 [] sc_rows_of_bits.nd (ve_lst (va_cons (ve_tup va_nil) va_nil)))
  (vss_cons (vs_for [] (passes_of rfl) rfl (vi_rng1 rfl T.z_range (ve_var 0)) (vgs_name 2 sc_rows_of_bits.nd)
  (vss_cons (vs_set 3 [] sc_rows_of_bits.nd (ve_lst va_nil))
  (vss_cons (vs_for [1] (passes_of rfl) rfl (vi_seq (ve_var 1)) (vgs_name 4 sc_rows_of_bits.nd)
  (vss_one (vs_ext 3 [] (ve_lst (va_cons (ve_add (ve_var 4) (ve_tup (va_cons ve_int va_nil))) (va_cons (ve_add (ve_var 4) (ve_tup (va_cons ve_int va_nil))) va_nil))))))
  (vss_one (vs_set 1 [3] sc_rows_of_bits.nd (ve_var 3))))))
  (vss_one (vs_retV 1))))
theorem ok_all_changes (T : Tops w K mg) : OkAt P w K mg base 2 "all_changes" ["n"] sem_all_changes := ok_of T.d_all_changes sc_all_changes (by decide) fun f cdv A outer s H E hr => by
  exact (vss_cons (vs_set 1 [] sc_all_changes.nd (ve_lst va_nil))
  (vss_cons (vs_for [] (passes_of rfl) rfl (vi_seq (ve_callO hr (takes_of rfl rfl rfl rfl) (ok_orders T) (va_cons (ve_var 0) va_nil))) (vgs_name 2 sc_all_changes.nd)
  (vss_one (vs_for [] (passes_of rfl) rfl (vi_seq (ve_callO hr (takes_of rfl rfl rfl rfl) (ok_rows_of_bits T) (va_cons (ve_var 0) va_nil))) (vgs_name 3 sc_all_changes.nd)
  (vss_one (vs_ext 1 [] (ve_lst (va_cons (ve_tup (va_cons (ve_var 2) (va_cons (ve_var 3) (va_cons ve_int va_nil)))) (va_cons (ve_tup (va_cons (ve_var 2) (va_cons (ve_var 3) (va_cons ve_int va_nil)))) va_nil))))))))
  (vss_one (vs_retV 1))))
theorem ok_change_to (T : Tops w K mg) : OkAt P w K mg base 5 "change_to" ["one", "other"] sem_change_to := ok_of T.d_change_to sc_change_to (by decide) fun f cdv A outer s H E hr => by
  exact (vss_cons (vs_exp [] (ve_callO hr (takes_of rfl rfl rfl rfl) (ok_need_function T) (va_cons (ve_var 0) va_nil)))
  (vss_cons (vs_exp [] (ve_callO hr (takes_of rfl rfl rfl rfl) (ok_need_function T) (va_cons (ve_var 1) va_nil)))
  (vss_cons (vs_if [] (vt_cv (cv_ne hr) (ve_len rfl T.z_len (ve_var 0)) (ve_len rfl T.z_len (ve_var 1)))
  (vss_one (vs_raiseO (takes_of rfl rfl rfl rfl) T.e_NoFunction))
  vss_nil)
  (vss_cons (vs_for [] (passes_of rfl) rfl (vi_seq (ve_callO hr (takes_of rfl rfl rfl rfl) (ok_all_changes T) (va_cons (ve_callO hr (takes_of rfl rfl rfl rfl) (ok_switches_of T) (va_cons (ve_var 0) va_nil)) va_nil))) (vgs_name 2 sc_change_to.nd)
  (vss_one (vs_if [] (vt_cv (cv_eq hr) (ve_callO hr (takes_of rfl rfl rfl rfl) (ok_changed_by T) (va_cons (ve_var 0) (va_cons (ve_var 2) va_nil))) (ve_var 1))
  (vss_one (vs_retV 2))
  vss_nil)))
  (vss_one (vs_ret [] ve_non))))))
theorem ok_own_changes (T : Tops w K mg) : OkAt P w K mg base 5 "own_changes" ["function"] sem_own_changes := ok_of T.d_own_changes sc_own_changes (by decide) fun f cdv A outer s H E hr => by
  exact (vss_cons (vs_exp [] (ve_callO hr (takes_of rfl rfl rfl rfl) (ok_need_function T) (va_cons (ve_var 0) va_nil)))
  (vss_one (vs_ret [] (ve_comp (own := [("change", 1)]) rfl sc_own_changes.nd (vi_seq (ve_callO hr (takes_of rfl rfl rfl rfl) (ok_all_changes T) (va_cons (ve_callO hr (takes_of rfl rfl rfl rfl) (ok_switches_of T) (va_cons (ve_var 0) va_nil)) va_nil))) (blkOk_by (by kernel_rfl)) (fun _ _ _ _ _ => (vg_name 1 sc_own_changes.nd)) (fun _ _ _ _ _ => (vts_one (vt_cv (cv_eq hr) (ve_callO hr takes0 (ok_changed_by T) (va_cons (ve_var 0) (va_cons (ve_var 1) va_nil))) (ve_var 0)))) (fun _ _ _ _ _ => (ve_var 1))))))
theorem ok_alike_to (T : Tops w K mg) : OkAt P w K mg base 4 "alike_to" ["function"] sem_alike_to := ok_of T.d_alike_to sc_alike_to (by decide) fun f cdv A outer s H E hr => by
  exact (vss_cellF 1 [] sc_alike_to.nd
  (vss_cons (vs_for [] (passes_of rfl) rfl (vi_seq (ve_callH hr (takes_of rfl rfl rfl rfl) (ok_all_changes T) (va_cons (ve_callH hr (takes_of rfl rfl rfl rfl) (ok_switches_of T) (va_cons (ve_var 0) va_nil)) va_nil))) (vgs_name 2 sc_alike_to.nd)
  (vss_one (vs_putF 1 [] (hu9_of hr) (ve_callH hr (takes_of rfl rfl rfl rfl) (ok_changed_by T) (va_cons (ve_var 0) (va_cons (ve_var 2) va_nil))))))
  (vss_one (vs_retV 1))))
theorem ok_least_alike (T : Tops w K mg) : OkAt P w K mg base 5 "least_alike" ["function"] sem_least_alike := ok_of T.d_least_alike sc_least_alike (by decide) fun f cdv A outer s H E hr => by
  exact (vss_cons (vs_exp [] (ve_callO hr (takes_of rfl rfl rfl rfl) (ok_need_function T) (va_cons (ve_var 0) va_nil)))
  (vss_one (vs_ret [] (ve_at (ve_minT hr rfl rfl T.z_min (ve_comp (own := [("other", 1)]) rfl sc_least_alike.nd (vi_dff (ve_callO hr (takes_of rfl rfl rfl rfl) (ok_alike_to T) (va_cons (ve_var 0) va_nil))) (blkOk_by (by kernel_rfl)) (fun _ _ _ _ _ => (vg_name 1 sc_least_alike.nd)) (fun _ _ _ _ _ => vts_nil) (fun _ _ _ _ _ => (ve_tup (va_cons (ve_callO hr takes0 (ok_shown T) (va_cons (ve_var 1) va_nil)) (va_cons (ve_var 1) va_nil)))))) ve_int))))
theorem ok__law_take (T : Tops w K mg) : OkAt P w K mg base 1 "_law_take" ["_law_state_here", "_law_many"] sem__law_take := ok_of T.d__law_take sc__law_take (by decide) fun f cdv A outer s H E hr => by
  exact (vss_cons (vs_if [] (vt_val (ve_at (ve_var 0) ve_int))
  (vss_cons (vs_set 3 [] sc__law_take.nd (ve_mod (ve_at (ve_var 0) ve_int) (ve_var 1)))
  (vss_cons (vs_setIx 0 [] (ve_div (ve_at (ve_var 0) ve_int) (ve_var 1)) ve_int)
  (vss_one (vs_retV 3))))
  vss_nil)
  (vss_cons (vs_setIx 0 [] (ve_mod (ve_add (ve_mul (ve_at (ve_var 0) ve_int) ve_int) ve_int) ve_int) ve_int)
  (vss_cons (vs_set 2 [] sc__law_take.nd (ve_mod (ve_add (ve_add (ve_mul (ve_at (ve_var 0) ve_int) (ve_at (ve_var 0) ve_int)) (ve_mul ve_int (ve_at (ve_var 0) ve_int))) ve_int) ve_int))
  (vss_cons (vs_set 2 [2] sc__law_take.nd (ve_mod (ve_add (ve_mul (ve_var 2) (ve_var 2)) (ve_mul ve_int (ve_var 2))) ve_int))
  (vss_one (vs_ret [2] (ve_mod (ve_div (ve_var 2) ve_int) (ve_var 1))))))))
theorem ok__law_bad_function (T : Tops w K mg) : OkAt P w K mg base 2 "_law_bad_function" ["_law_state_here"] sem__law_bad_function := ok_of T.d__law_bad_function sc__law_bad_function (by decide) fun f cdv A outer s H E hr => by
  exact (vss_cons (vs_set 1 [] sc__law_bad_function.nd (ve_lst (va_cons ve_non (va_cons (ve_tup va_nil) (va_cons (ve_tup (va_cons ve_int va_nil)) (va_cons (ve_tup (va_cons ve_int (va_cons ve_int (va_cons ve_int va_nil)))) (va_cons (ve_tup (va_cons ve_int (va_cons ve_int va_nil))) (va_cons (ve_tup (va_cons ve_int (va_cons ve_bl va_nil))) (va_cons (ve_lst (va_cons ve_int (va_cons ve_int va_nil))) (va_cons (ve_mul (ve_tup (va_cons ve_int va_nil)) ve_int) (va_cons ve_str (va_cons (ve_tup (va_cons ve_str (va_cons ve_str va_nil))) (va_cons ve_dct (va_cons ve_int (va_cons (ve_tup (va_cons ve_int (va_cons ve_int (va_cons ve_non va_nil)))) va_nil)))))))))))))))
  (vss_one (vs_ret [1] (ve_at (ve_var 1) (ve_callO hr (takes_of rfl rfl rfl rfl) (ok__law_take T) (va_cons (ve_var 0) (va_cons ve_int va_nil)))))))
theorem ok__law_refused {X : Cx} (T : Tops X.w X.K X.mg) (g : Addr) (cdg : Value) (q : Str) : LamX.GivesTo X ["_law_call", "_law_error", "e", "_law_marks", "_law_k"] "_law_refused" (defScope s__law_refused) g cdg (defBody s__law_refused) "_law_call" q (TTR X.K X.mg ["NoFunction", "NoTerm", "NoPoint", "NoNumber", "NoText", "NoLine", "NoDeed", "NoForm", "NoChange"]) := by
  obtain ⟨c0, c1, c2, c3, c4, c5, c6, c7, c8, CT, ⟨m0, m1, m2, m3, m4, m5, m6, m7, m8⟩, mT, ho, nd⟩ := T.ref.ex
  have hD : ∀ C ∈ [c0, c1, c2, c3, c4, c5, c6, c7, c8], ExcC X.K C := fun C h => ((refOk_at ho).1 C h).1
  refine ref_gives (ie := 1) (ix := 2) (CT := CT) (gr := grR X.K c0 c1 c2 c3 c4 c5 c6 c7 c8) sc__law_refused.nd rfl rfl (by decide) (by decide) (by decide) rfl rfl rfl mT (by decide) (by decide) (by decide) rfl (ref_ords ⟨m0, m1, m2, m3, m4, m5, m6, m7, m8⟩ ho) (fun s H => ?rest)
    (fun S => grR_non ho S) (fun S n k C hk hm => grR_err ho nd S k (ref_k ⟨m0, m1, m2, m3, m4, m5, m6, m7, m8⟩ hk hm))
  case rest => exact (vss_cons (vs_set 3 [] sc__law_refused.nd (ve_lst (hl := by simp) (va_cons (ve_isC hD T.z_isinstance m0 (ve_var 1)) (va_cons (ve_isC hD T.z_isinstance m1 (ve_var 1)) (va_cons (ve_isC hD T.z_isinstance m2 (ve_var 1)) va_nil)))))
    (vss_cons (vs_set 3 [3] sc__law_refused.nd (ve_add (ve_var 3) (ve_lst (hl := by simp) (va_cons (ve_isC hD T.z_isinstance m3 (ve_var 1)) (va_cons (ve_isC hD T.z_isinstance m4 (ve_var 1)) (va_cons (ve_isC hD T.z_isinstance m5 (ve_var 1)) va_nil))))))
    (vss_cons (vs_set 3 [3] sc__law_refused.nd (ve_add (ve_var 3) (ve_lst (hl := by simp) (va_cons (ve_isC hD T.z_isinstance m6 (ve_var 1)) (va_cons (ve_isC hD T.z_isinstance m7 (ve_var 1)) (va_cons (ve_isC hD T.z_isinstance m8 (ve_var 1)) va_nil))))))
    (vss_cons (vs_if0 [] (vt_not (vt_val (ve_isV (T := "ValueError") hD T.z_isinstance T.z_ValueError (ve_var 1)))) (vss_one (vs_ret [] ve_non)) vss_nil)
    (vss_one (vs_ret [3] (ve_comp (own := [("_law_k", 4)]) rfl sc__law_refused.nd (vi_rng1 rfl T.z_range ve_int) (blkOk_by (by kernel_rfl)) (fun _ _ _ _ _ => (vg_name 4 sc__law_refused.nd)) (fun _ _ _ _ _ => (vts_one (vt_val (ve_at (ve_var 3) (ve_var 4))))) (fun _ _ _ _ _ => (ve_var 4)))))))))

theorem ok__law_cell_at (T : Tops w K mg) : OkAt P w K mg base 1 "_law_cell_at" ["_law_script", "_law_k"] sem__law_cell_at := ok_of T.d__law_cell_at sc__law_cell_at (by decide) fun f cdv A outer s H E hr => by
  exact (vss_cons (vs_if [] (vt_cv cv_lt (ve_var 1) (ve_len rfl T.z_len (ve_var 0)))
  (vss_one (vs_ret [] (ve_at (ve_var 0) (ve_var 1))))
  vss_nil)
  (vss_one (vs_ret [] ve_int)))
theorem ok__law_state (T : Tops w K mg) : OkAt P w K mg base 2 "_law_state" ["_law_script", "_law_k"] sem__law_state := ok_of T.d__law_state sc__law_state (by decide) fun f cdv A outer s H E hr => by
  exact (vss_cons (vs_set 2 [] sc__law_state.nd (ve_callO hr (takes_of rfl rfl rfl rfl) (ok__law_cell_at T) (va_cons (ve_var 0) (va_cons (ve_var 1) va_nil))))
  (vss_cons (vs_if [2] (vt_cv cv_ge (ve_var 2) (ve_pow ve_int ve_int))
  (vss_one (vs_ret [2] (ve_lst (va_cons (ve_sub (ve_var 2) (ve_pow ve_int ve_int)) (va_cons ve_bl va_nil)))))
  vss_nil)
  (vss_one (vs_ret [2] (ve_lst (va_cons (ve_mod (ve_var 2) ve_int) (va_cons ve_bl va_nil)))))))
theorem ok__law_function (T : Tops w K mg) : OkAt P w K mg base 2 "_law_function" ["_law_state_here", "_law_n", "_law_free"] sem__law_function := ok_of T.d__law_function sc__law_function (by decide) fun f cdv A outer s H E hr => by
  exact (vss_cons (vs_set 3 [] sc__law_function.nd (ve_at (ve_lst (va_cons ve_int (va_cons ve_int (va_cons ve_int va_nil)))) (ve_callO hr (takes_of rfl rfl rfl rfl) (ok__law_take T) (va_cons (ve_var 0) (va_cons ve_int va_nil)))))
  (vss_cons (vs_set 4 [] sc__law_function.nd (ve_mul (ve_callO hr (takes_of rfl rfl rfl rfl) (ok__law_take T) (va_cons (ve_var 0) (va_cons ve_int va_nil))) (ve_int1 rfl T.z_int (ve_var 2))))
  (vss_cons (vs_set 5 [] sc__law_function.nd (ve_lst va_nil))
  (vss_cons (vs_for [] (passes_of rfl) rfl (vi_rng1 rfl T.z_range (ve_shl ve_int (ve_var 1))) (vgs_name 6 sc__law_function.nd)
  (vss_cons (vs_set 7 [] sc__law_function.nd (ve_int1 rfl T.z_int (ve_cv cv_lt (ve_callO hr (takes_of rfl rfl rfl rfl) (ok__law_take T) (va_cons (ve_var 0) (va_cons ve_int va_nil))) (ve_var 3))))
  (vss_cons (vs_if [4] (vt_cv cv_lt (ve_callO hr (takes_of rfl rfl rfl rfl) (ok__law_take T) (va_cons (ve_var 0) (va_cons ve_int va_nil))) (ve_var 4))
  (vss_one (vs_set 7 [] sc__law_function.nd ve_non))
  vss_nil)
  (vss_one (vs_app 5 [7] (ve_var 7))))))
  (vss_one (vs_ret [5] (ve_tuple rfl T.z_tuple (ve_var 5))))))))
theorem ok__law_changes (T : Tops w K mg) : OkAt P w K mg base 1 "_law_changes" ["_law_n"] sem__law_changes := ok_of T.d__law_changes sc__law_changes (by decide) fun f cdv A outer s H E hr => by
  exact (vss_cons (vs_set 1 [] sc__law_changes.nd (ve_lst (va_cons (ve_tup va_nil) va_nil)))
  (vss_cons (vs_set 2 [] sc__law_changes.nd (ve_lst (va_cons (ve_tup va_nil) va_nil)))
  (vss_cons (vs_for [] (passes_of rfl) rfl (vi_rng1 rfl T.z_range (ve_var 0)) (vgs_name 3 sc__law_changes.nd)
  (vss_cons (vs_set 6 [] sc__law_changes.nd (ve_lst va_nil))
  (vss_cons (vs_for [1] (passes_of rfl) rfl (vi_seq (ve_var 1)) (vgs_name 5 sc__law_changes.nd)
  (vss_one (vs_ext 6 [] (ve_comp (own := [("_law_k", 10)]) rfl sc__law_changes.nd (vi_rng1 rfl T.z_range (ve_var 0)) (blkOk_by (by kernel_rfl)) (fun _ _ _ _ _ => (vg_name 10 sc__law_changes.nd)) (fun _ _ _ _ _ => (vts_one (vt_cv (cv_notIn hr) (ve_var 10) (ve_var 5)))) (fun _ _ _ _ _ => (ve_add (ve_var 5) (ve_tup (va_cons (ve_var 10) va_nil))))))))
  (vss_cons (vs_set 1 [6] sc__law_changes.nd (ve_var 6))
  (vss_cons (vs_set 7 [] sc__law_changes.nd (ve_lst va_nil))
  (vss_cons (vs_for [2] (passes_of rfl) rfl (vi_seq (ve_var 2)) (vgs_name 8 sc__law_changes.nd)
  (vss_one (vs_ext 7 [] (ve_lst (va_cons (ve_add (ve_var 8) (ve_tup (va_cons ve_int va_nil))) (va_cons (ve_add (ve_var 8) (ve_tup (va_cons ve_int va_nil))) va_nil))))))
  (vss_one (vs_set 2 [7] sc__law_changes.nd (ve_var 7)))))))))
  (vss_cons (vs_set 4 [] sc__law_changes.nd (ve_lst va_nil))
  (vss_cons (vs_for [1] (passes_of rfl) rfl (vi_seq (ve_var 1)) (vgs_name 5 sc__law_changes.nd)
  (vss_one (vs_for [2] (passes_of rfl) rfl (vi_seq (ve_var 2)) (vgs_name 9 sc__law_changes.nd)
  (vss_one (vs_ext 4 [] (ve_lst (va_cons (ve_tup (va_cons (ve_var 5) (va_cons (ve_var 9) (va_cons ve_int va_nil)))) (va_cons (ve_tup (va_cons (ve_var 5) (va_cons (ve_var 9) (va_cons ve_int va_nil)))) va_nil))))))))
  (vss_one (vs_retV 4)))))))
theorem ok__law_switches (T : Tops w K mg) : OkAt P w K mg base 1 "_law_switches" ["_law_function_here"] sem__law_switches := ok_of T.d__law_switches sc__law_switches (by decide) fun f cdv A outer s H E hr => by
  exact (vss_one (vs_ret [] (ve_disp (kvs := [(2, 1), (4, 2), (8, 3), (16, 4)]) hr (pps_int (pps_int (pps_int (pps_int pps_nil)))) (ve_len rfl T.z_len (ve_var 0)) (hv := kv_sizes))))
theorem ok__law_bits (T : Tops w K mg) : OkAt P w K mg base 1 "_law_bits" ["_law_n", "_law_point_here"] sem__law_bits := ok_of T.d__law_bits sc__law_bits (by decide) fun f cdv A outer s H E hr => by
  exact (vss_one (vs_ret [] (ve_comp (own := [("_law_k", 2)]) rfl sc__law_bits.nd (vi_rng1 rfl T.z_range (ve_var 0)) (blkOk_by (by kernel_rfl)) (fun _ _ _ _ _ => (vg_name 2 sc__law_bits.nd)) (fun _ _ _ _ _ => vts_nil) (fun _ _ _ _ _ => (ve_band (ve_shr (ve_var 1) (ve_sub (ve_sub (ve_var 0) ve_int) (ve_var 2))) ve_int)))))
theorem ok__law_point (T : Tops w K mg) : OkAt P w K mg base 1 "_law_point" ["_law_bits_here"] sem__law_point := ok_of T.d__law_point sc__law_point (by decide) fun f cdv A outer s H E hr => by
  exact (vss_cons (vs_set 1 [] sc__law_point.nd ve_int)
  (vss_cons (vs_for [] (passes_of rfl) rfl (vi_seq (ve_var 0)) (vgs_name 2 sc__law_point.nd)
  (vss_one (vs_set 1 [1] sc__law_point.nd (ve_add (ve_mul ve_int (ve_var 1)) (ve_var 2)))))
  (vss_one (vs_retV 1))))
theorem ok__law_changed (T : Tops w K mg) : OkAt P w K mg base 2 "_law_changed" ["_law_function_here", "_law_change_here"] sem__law_changed := ok_of T.d__law_changed sc__law_changed (by decide) fun f cdv A outer s H E hr => by
  exact (vss_cons (vs_set 2 [] sc__law_changed.nd (ve_callO hr (takes_of rfl rfl rfl rfl) (ok__law_switches T) (va_cons (ve_var 0) va_nil)))
  (vss_cons (vs_setT [] (ks := [5, 6, 7]) (gns_cons 5 sc__law_changed.nd (gns_cons 6 sc__law_changed.nd (gns_cons 7 sc__law_changed.nd gns_nil))) (ve_var 1))
  (vss_cons (vs_set 3 [] sc__law_changed.nd (ve_lst va_nil))
  (vss_cons (vs_for [] (passes_of rfl) rfl (vi_rng1 rfl T.z_range (ve_len rfl T.z_len (ve_var 0))) (vgs_name 4 sc__law_changed.nd)
  (vss_cons (vs_set 8 [2] sc__law_changed.nd (ve_callO hr (takes_of rfl rfl rfl rfl) (ok__law_bits T) (va_cons (ve_var 2) (va_cons (ve_var 4) va_nil))))
  (vss_cons (vs_set 9 [2] sc__law_changed.nd (ve_mul (ve_lst (va_cons ve_int va_nil)) (ve_var 2)))
  (vss_cons (vs_for [2] (passes_of rfl) rfl (vi_rng1 rfl T.z_range (ve_var 2)) (vgs_name 10 sc__law_changed.nd)
  (vss_one (vs_setIx 9 [8] (ve_mod (ve_add (ve_at (ve_var 8) (ve_var 10)) (ve_at (ve_var 6) (ve_var 10))) ve_int) (ve_at (ve_var 5) (ve_var 10)))))
  (vss_cons (vs_set 11 [9] sc__law_changed.nd (ve_at (ve_var 0) (ve_callO hr (takes_of rfl rfl rfl rfl) (ok__law_point T) (va_cons (ve_var 9) va_nil))))
  (vss_one (vs_app 3 [] (ve_if (vt_cv cv_isN (ve_var 11) ve_non) ve_non (ve_mod (ve_add (ve_var 11) (ve_var 7)) ve_int)))))))))
  (vss_one (vs_ret [3] (ve_tuple rfl T.z_tuple (ve_var 3))))))))
theorem ok__law_order (T : Tops w K mg) : OkAt P w K mg base 2 "_law_order" ["_law_state_here", "_law_n"] sem__law_order := ok_of T.d__law_order sc__law_order (by decide) fun f cdv A outer s H E hr => by
  exact (vss_cons (vs_set 2 [] sc__law_order.nd (ve_listRg rfl T.z_list rfl T.z_range (ve_var 1)))
  (vss_cons (vs_set 3 [] sc__law_order.nd (ve_lst va_nil))
  (vss_cons (vs_while 1000 [2] (passes_of rfl) (vt_cv (cv_ne hr) (ve_var 2) (ve_lst va_nil))
  (vss_one (vs_appPop 3 2 [2] (ve_callO hr (takes_of rfl rfl rfl rfl) (ok__law_take T) (va_cons (ve_var 0) (va_cons (ve_len rfl T.z_len (ve_var 2)) va_nil))))))
  (vss_one (vs_ret [3] (ve_tuple rfl T.z_tuple (ve_var 3)))))))
theorem ok__law_change (T : Tops w K mg) : OkAt P w K mg base 3 "_law_change" ["_law_state_here", "_law_n"] sem__law_change := ok_of T.d__law_change sc__law_change (by decide) fun f cdv A outer s H E hr => by
  exact (vss_one (vs_ret [] (ve_tup (va_cons (ve_callO hr (takes_of rfl rfl rfl rfl) (ok__law_order T) (va_cons (ve_var 0) (va_cons (ve_var 1) va_nil))) (va_cons (ve_tuple rfl T.z_tuple (ve_comp (own := [("_law_k", 2)]) rfl sc__law_change.nd (vi_rng1 rfl T.z_range (ve_var 1)) (blkOk_by (by kernel_rfl)) (fun _ _ _ _ _ => (vg_name 2 sc__law_change.nd)) (fun _ _ _ _ _ => vts_nil) (fun _ _ _ _ _ => (ve_callO hr takes0 (ok__law_take T) (va_cons (ve_var 0) (va_cons ve_int va_nil)))))) (va_cons (ve_callO hr (takes_of rfl rfl rfl rfl) (ok__law_take T) (va_cons (ve_var 0) (va_cons ve_int va_nil))) va_nil))))))
theorem ok__law_same (T : Tops w K mg) : ∀ n : Nat, OkAt P w K mg base (0 + n) "_law_same" ["_law_found", "_law_due"] (sem__law_same n)
  | 0 => .never T.d__law_same
  | n + 1 => by
    have G := ok__law_same T n
    exact ok_of T.d__law_same sc__law_same (by decide) fun f cdv A outer s H E hr => (vss_cons (vs_if [] (vt_val (ve_isi2 (T := "tuple") (T' := "list") rfl T.z_isinstance (ve_var 1) rfl T.z_tuple (by decide +kernel) rfl T.z_list (by decide +kernel)))
  (vss_cons (vs_if [] (PW.pt (vw_or (vt_cv (cv_ne hr) (ve_isi (T := "tuple") rfl T.z_isinstance (ve_var 0) rfl T.z_tuple (by decide +kernel)) (ve_isi (T := "tuple") rfl T.z_isinstance (ve_var 1) rfl T.z_tuple (by decide +kernel))) (vw_or1 (vt_cv (cv_ne hr) (ve_isi (T := "list") rfl T.z_isinstance (ve_var 0) rfl T.z_list (by decide +kernel)) (ve_isi (T := "list") rfl T.z_isinstance (ve_var 1) rfl T.z_list (by decide +kernel))))))
  (vss_one (vs_ret [] ve_bl))
  vss_nil)
  (vss_cons (vs_if [] (vt_cv (cv_ne hr) (ve_len rfl T.z_len (ve_var 0)) (ve_len rfl T.z_len (ve_var 1)))
  (vss_one (vs_ret [] ve_bl))
  vss_nil)
  (vss_one (vs_ret [] (ve_all rfl rfl T.z_all (ve_comp (own := [("_law_one", 2), ("_law_other", 3)]) rfl sc__law_same.nd (vi_zip rfl T.z_zip (ve_var 0) (ve_var 1)) (blkOk_by (by kernel_rfl)) (fun _ _ _ _ _ => (vg_tup rfl (gns_cons 2 sc__law_same.nd (gns_cons 3 sc__law_same.nd gns_nil)))) (fun _ _ _ _ _ => vts_nil) (fun _ _ _ _ _ => (ve_callO hr takes0 G (va_cons (ve_var 2) (va_cons (ve_var 3) va_nil))))))))))
  vss_nil)
  (vss_one (vs_ret [] (ve_and (ve_cv (cv_eq hr) (ve_var 0) (ve_var 1)) (ve_one (ve_cv (cv_eq hr) (ve_isi (T := "bool") rfl T.z_isinstance (ve_var 0) rfl T.z_bool (by decide +kernel)) (ve_isi (T := "bool") rfl T.z_isinstance (ve_var 1) rfl T.z_bool (by decide +kernel))))))))
theorem ok__law_shown (T : Tops w K mg) : OkAt P w K mg base 1 "_law_shown" ["_law_function_here"] sem__law_shown := ok_of T.d__law_shown sc__law_shown (by decide) fun f cdv A outer s H E hr => by
  exact (vss_one (vs_ret [] (ve_join ve_str (ve_comp (own := [("_law_answer", 1)]) rfl sc__law_shown.nd (vi_seq (ve_var 0)) (blkOk_by (by kernel_rfl)) (fun _ _ _ _ _ => (vg_name 1 sc__law_shown.nd)) (fun _ _ _ _ _ => vts_nil) (fun _ _ _ _ _ => (ve_if (vt_cv cv_isN (ve_var 1) ve_non) ve_str (ve_str1 rfl T.z_str (ve_var 1))))))))
theorem ok__law_refusals_right {f c PT : Addr} {oc : Value} {od an : Option Addr} {dV kV doc pm ct : Value} {osl : Array (Option Value)} (T : Tops w K mg) (TB : LamX.TabB base mg c PT) (hTab : TabIn (tabsK K) PT ((("_law_refusals_right" : Str) ++ ".<locals>.") ++ "<lambda>")) (lk : K.lookup f = some ⟨oc, od, .func (PySem.W.fnOf "_law_refusals_right" "_law_refusals_right" (defArgs s__law_refusals_right) (defBody s__law_refusals_right) (defScope s__law_refusals_right) dV kV doc pm an (.ref c) ct), osl⟩) (hcd : PySem.W.codeIn K (.ref c) "_law_refusals_right" = true) (hm : mg "_law_refusals_right" = some (.ref f)) (kp : PySem.W.keepIn K (.ref f) = true) (bb : Binds K (PySem.W.fnOf "_law_refusals_right" "_law_refusals_right" (defArgs s__law_refusals_right) (defBody s__law_refusals_right) (defScope s__law_refusals_right) dV kV doc pm an (.ref c) ct) ["_law_state_here", "_law_one"] []) : OkAt P w K mg base 8 "_law_refusals_right" ["_law_state_here", "_law_one"] sem__law_refusals_right := ⟨f, _, hm, kp, bb, def_okC lk hcd sc__law_refusals_right (by decide) fun A outer s H E hr => by
  exact (vss_cons (vs_set 2 [] sc__law_refusals_right.nd (ve_callO hr (takes_of rfl rfl rfl rfl) (ok__law_bad_function T) (va_cons (ve_var 0) va_nil)))
  (vss_cons (vs_set 3 [] sc__law_refusals_right.nd (ve_at (ve_lst (va_cons (ve_tup (va_cons ve_int (va_cons ve_int va_nil))) (va_cons (ve_tup (va_cons ve_int (va_cons ve_int (va_cons ve_int (va_cons ve_int va_nil))))) va_nil))) (ve_int1 rfl T.z_int (ve_cv (cv_eq hr) (ve_len rfl T.z_len (ve_var 1)) ve_int))))
  (vss_lam0 (iL := 4) sc__law_refusals_right.nd TB rfl hTab (LamX.lamS_by (by kernel_rfl))
  (vss_lamA TB rfl hTab (LamX.lamS_by (by kernel_rfl))
  (vss_lamA TB rfl hTab (LamX.lamS_by (by kernel_rfl))
  (vss_lamA TB rfl hTab (LamX.lamS_by (by kernel_rfl))
  (vss_lamA TB rfl hTab (LamX.lamS_by (by kernel_rfl))
  (vssM_one (vsM_ret [2] (vel_cv (cv_eq hr) (vel_refs (k := 5) (own := [("_law_call", 5)]) (lams_cons (LamX.lamS_by (by kernel_rfl)) (fun A outer s H E f1 c1 hr => (ve_callO hr (takes_of rfl rfl rfl rfl) (ok_change_to T) (va_cons (ve_var 2) (va_cons (ve_var 1) va_nil)))) (lams_cons (LamX.lamS_by (by kernel_rfl)) (fun A outer s H E f1 c1 hr => (ve_callO hr (takes_of rfl rfl rfl rfl) (ok_change_to T) (va_cons (ve_var 1) (va_cons (ve_var 2) va_nil)))) (lams_cons (LamX.lamS_by (by kernel_rfl)) (fun A outer s H E f1 c1 hr => (ve_callO hr (takes_of rfl rfl rfl rfl) (ok_change_to T) (va_cons (ve_var 1) (va_cons (ve_var 3) va_nil)))) (lams_cons (LamX.lamS_by (by kernel_rfl)) (fun A outer s H E f1 c1 hr => (ve_callO hr (takes_of rfl rfl rfl rfl) (ok_own_changes T) (va_cons (ve_var 2) va_nil))) (lams_cons (LamX.lamS_by (by kernel_rfl)) (fun A outer s H E f1 c1 hr => (ve_callO hr (takes_of rfl rfl rfl rfl) (ok_least_alike T) (va_cons (ve_var 2) va_nil))) lams_nil))))) (by simp) (by decide) rfl sc__law_refusals_right.nd (blkOk_by (by kernel_rfl)) (hr.mono (by omega)) T.d__law_refused sc__law_refused rfl (by first | exact Or.inl rfl | exact Or.inr (Or.inl rfl)) (fun g cdg => ok__law_refused T g cdg _)) (ve_mul (ve_lst (va_cons (ve_lst (va_cons ve_int va_nil)) va_nil)) ve_int)))))))))))⟩
theorem ok_law {f : Addr} {fd : FuncData} (T : Tops w K mg) (OL__law_refusals_right : OkAt P w K mg base 8 "_law_refusals_right" ["_law_state_here", "_law_one"] sem__law_refusals_right) (Fn : Fun K "law" "law" s_law f fd) : FnOk P w K mg base (L2.CX P w) 9 f fd ["_law_script"] (spD K mg 1 sem_law) := def_ok Fn sc_law (by decide) fun cdv A outer s H E hr => by
  exact (vss_cons (vs_for [] (passes_of rfl) rfl (vi_rng1 rfl T.z_range (ve_max2 rfl rfl T.z_max ve_int (ve_min2 rfl rfl T.z_min (ve_len rfl T.z_len (ve_var 0)) ve_int))) (vgs_name 1 sc_law.nd)
  (vss_cell 2 sc_law.nd (ve_callO hr (takes_of rfl rfl rfl rfl) (ok__law_state T) (va_cons (ve_var 0) (va_cons (ve_var 1) va_nil)))
  (vss_cons (vs_set 3 [2] sc_law.nd (ve_at (ve_lst (va_cons ve_int (va_cons ve_int (va_cons ve_int (va_cons ve_int (va_cons ve_int va_nil)))))) (ve_callO hr (takes_of rfl rfl rfl rfl) (ok__law_take T) (va_cons (ve_var 2) (va_cons ve_int va_nil)))))
  (vss_cons (vs_set 4 [2] sc_law.nd (ve_callO hr (takes_of rfl rfl rfl rfl) (ok__law_function T) (va_cons (ve_var 2) (va_cons (ve_var 3) (va_cons ve_bl va_nil)))))
  (vss_cons (vs_set 5 [] sc_law.nd (ve_callO hr (takes_of rfl rfl rfl rfl) (ok__law_changes T) (va_cons (ve_var 3) va_nil)))
  (vss_cons (vs_set 6 [4, 5] sc_law.nd (ve_comp (own := [("_law_change_here", 11)]) rfl sc_law.nd (vi_seq (ve_var 5)) (blkOk_by (by kernel_rfl)) (fun _ _ _ _ _ => (vg_name 11 sc_law.nd)) (fun _ _ _ _ _ => vts_nil) (fun _ _ _ _ _ => (ve_callO hr takes0 (ok__law_changed T) (va_cons (ve_var 4) (va_cons (ve_var 11) va_nil))))))
  (vss_cons (vs_for [2, 4] (passes_of rfl) rfl (vi_seq (ve_lst (va_cons (ve_callO hr (takes_of rfl rfl rfl rfl) (ok__law_changed T) (va_cons (ve_var 4) (va_cons (ve_callO hr (takes_of rfl rfl rfl rfl) (ok__law_change T) (va_cons (ve_var 2) (va_cons (ve_var 3) va_nil))) va_nil))) (va_cons (ve_callO hr (takes_of rfl rfl rfl rfl) (ok__law_function T) (va_cons (ve_var 2) (va_cons (ve_var 3) (va_cons ve_bl va_nil)))) (va_cons (ve_var 4) va_nil))))) (vgs_name 7 sc_law.nd)
  (vss_cons (vs_set 9 [5, 6] sc_law.nd (ve_at (ve_add (ve_comp (own := [("_law_at", 12)]) rfl sc_law.nd (vi_rng1 rfl T.z_range (ve_len rfl T.z_len (ve_var 6))) (blkOk_by (by kernel_rfl)) (fun _ _ _ _ _ => (vg_name 12 sc_law.nd)) (fun _ _ _ _ _ => (vts_one (vt_cv (cv_eq hr) (ve_at (ve_var 6) (ve_var 12)) (ve_var 7)))) (fun _ _ _ _ _ => (ve_at (ve_var 5) (ve_var 12)))) (ve_lst (va_cons ve_non va_nil))) ve_int))
  (vss_one (vs_if [4] (vt_not (vt_val (ve_callO hr (takes_of rfl rfl rfl rfl) (ok__law_same T 4) (va_cons (ve_callO hr (takes_of rfl rfl rfl rfl) (ok_change_to T) (va_cons (ve_var 4) (va_cons (ve_var 7) va_nil))) (va_cons (ve_var 9) va_nil)))))
  (vss_one (vs_ret [] ve_bl))
  vss_nil))))
  (vss_cons (vs_for [] (passes_of rfl) rfl (vi_rng1 rfl T.z_range ve_int) (vgs_name 8 sc_law.nd)
  (vss_cons (vs_set 10 [4] sc_law.nd (ve_callO hr (takes_of rfl rfl rfl rfl) (ok_own_changes T) (va_cons (ve_var 4) va_nil)))
  (vss_cons (vs_if [4, 5, 6, 10] (vt_not (vt_val (ve_callO hr (takes_of rfl rfl rfl rfl) (ok__law_same T 4) (va_cons (ve_var 10) (va_cons (ve_comp (own := [("_law_at", 12)]) rfl sc_law.nd (vi_rng1 rfl T.z_range (ve_len rfl T.z_len (ve_var 6))) (blkOk_by (by kernel_rfl)) (fun _ _ _ _ _ => (vg_name 12 sc_law.nd)) (fun _ _ _ _ _ => (vts_one (vt_cv (cv_eq hr) (ve_at (ve_var 6) (ve_var 12)) (ve_var 4)))) (fun _ _ _ _ _ => (ve_at (ve_var 5) (ve_var 12)))) va_nil)))))
  (vss_one (vs_ret [] ve_bl))
  vss_nil)
  (vss_one (vs_app 10 [] ve_int)))))
  (vss_cons (vs_if [4, 6] (vt_not (vt_val (ve_callO hr (takes_of rfl rfl rfl rfl) (ok__law_same T 4) (va_cons (ve_callO hr (takes_of rfl rfl rfl rfl) (ok_least_alike T) (va_cons (ve_var 4) va_nil)) (va_cons (ve_at (ve_minT hr rfl rfl T.z_min (ve_comp (own := [("_law_other", 7)]) rfl sc_law.nd (vi_seq (ve_var 6)) (blkOk_by (by kernel_rfl)) (fun _ _ _ _ _ => (vg_name 7 sc_law.nd)) (fun _ _ _ _ _ => vts_nil) (fun _ _ _ _ _ => (ve_tup (va_cons (ve_callO hr takes0 (ok__law_shown T) (va_cons (ve_var 7) va_nil)) (va_cons (ve_var 7) va_nil)))))) ve_int) va_nil)))))
  (vss_one (vs_ret [] ve_bl))
  vss_nil)
  (vss_one (vs_if [2, 4] (vt_not (vt_val (ve_callO hr (takes_of rfl rfl rfl rfl) OL__law_refusals_right (va_cons (ve_var 2) (va_cons (ve_var 4) va_nil)))))
  (vss_one (vs_ret [] ve_bl))
  vss_nil)))))))))))
  (vss_one (vs_ret [] ve_bl)))
end
theorem tops_mk {w : World} {K : PySem.W.Frag} {h : Heap} {mg : Str → Option Value} (X : K.In h) (G : h.Ns mainGlobals mg)
    {f0 : Addr} {oc0 : Value} {od0 an0 : Option Addr} {osl0 : Array (Option Value)} {kV0 doc0 pm0 cdv0 ct0 : Value}
    {f1 : Addr} {oc1 : Value} {od1 an1 : Option Addr} {osl1 : Array (Option Value)} {kV1 doc1 pm1 cdv1 ct1 : Value}
    {f2 : Addr} {oc2 : Value} {od2 an2 : Option Addr} {osl2 : Array (Option Value)} {kV2 doc2 pm2 cdv2 ct2 : Value}
    {f3 : Addr} {oc3 : Value} {od3 an3 : Option Addr} {osl3 : Array (Option Value)} {kV3 doc3 pm3 cdv3 ct3 : Value}
    {f4 : Addr} {oc4 : Value} {od4 an4 : Option Addr} {osl4 : Array (Option Value)} {kV4 doc4 pm4 cdv4 ct4 : Value}
    {f5 : Addr} {oc5 : Value} {od5 an5 : Option Addr} {osl5 : Array (Option Value)} {kV5 doc5 pm5 cdv5 ct5 : Value}
    {f6 : Addr} {oc6 : Value} {od6 an6 : Option Addr} {osl6 : Array (Option Value)} {kV6 doc6 pm6 cdv6 ct6 : Value}
    {f7 : Addr} {oc7 : Value} {od7 an7 : Option Addr} {osl7 : Array (Option Value)} {kV7 doc7 pm7 cdv7 ct7 : Value}
    {f8 : Addr} {oc8 : Value} {od8 an8 : Option Addr} {osl8 : Array (Option Value)} {kV8 doc8 pm8 cdv8 ct8 : Value}
    {f9 : Addr} {oc9 : Value} {od9 an9 : Option Addr} {osl9 : Array (Option Value)} {kV9 doc9 pm9 cdv9 ct9 : Value}
    {f10 : Addr} {oc10 : Value} {od10 an10 : Option Addr} {osl10 : Array (Option Value)} {kV10 doc10 pm10 cdv10 ct10 : Value}
    {f11 : Addr} {oc11 : Value} {od11 an11 : Option Addr} {osl11 : Array (Option Value)} {kV11 doc11 pm11 cdv11 ct11 : Value}
    {f12 : Addr} {oc12 : Value} {od12 an12 : Option Addr} {osl12 : Array (Option Value)} {kV12 doc12 pm12 cdv12 ct12 : Value}
    {f13 : Addr} {oc13 : Value} {od13 an13 : Option Addr} {osl13 : Array (Option Value)} {kV13 doc13 pm13 cdv13 ct13 : Value}
    {f14 : Addr} {oc14 : Value} {od14 an14 : Option Addr} {osl14 : Array (Option Value)} {kV14 doc14 pm14 cdv14 ct14 : Value}
    {f15 : Addr} {oc15 : Value} {od15 an15 : Option Addr} {osl15 : Array (Option Value)} {kV15 doc15 pm15 cdv15 ct15 : Value}
    {f16 : Addr} {oc16 : Value} {od16 an16 : Option Addr} {osl16 : Array (Option Value)} {kV16 doc16 pm16 cdv16 ct16 : Value}
    {f17 : Addr} {oc17 : Value} {od17 an17 : Option Addr} {osl17 : Array (Option Value)} {kV17 doc17 pm17 cdv17 ct17 : Value}
    {f18 : Addr} {oc18 : Value} {od18 an18 : Option Addr} {osl18 : Array (Option Value)} {kV18 doc18 pm18 cdv18 ct18 : Value}
    {f19 : Addr} {oc19 : Value} {od19 an19 : Option Addr} {osl19 : Array (Option Value)} {kV19 doc19 pm19 cdv19 ct19 : Value}
    {f20 : Addr} {oc20 : Value} {od20 an20 : Option Addr} {osl20 : Array (Option Value)} {kV20 doc20 pm20 cdv20 ct20 : Value}
    {f21 : Addr} {oc21 : Value} {od21 an21 : Option Addr} {osl21 : Array (Option Value)} {kV21 doc21 pm21 cdv21 ct21 : Value}
    {f22 : Addr} {oc22 : Value} {od22 an22 : Option Addr} {osl22 : Array (Option Value)} {kV22 doc22 pm22 cdv22 ct22 : Value}
    {f23 : Addr} {oc23 : Value} {od23 an23 : Option Addr} {osl23 : Array (Option Value)} {kV23 doc23 pm23 cdv23 ct23 : Value}
    {f24 : Addr} {oc24 : Value} {od24 an24 : Option Addr} {osl24 : Array (Option Value)} {kV24 doc24 pm24 cdv24 ct24 : Value}
    {f25 : Addr} {oc25 : Value} {od25 an25 : Option Addr} {osl25 : Array (Option Value)} {kV25 doc25 pm25 cdv25 ct25 : Value}
    {f26 : Addr} {oc26 : Value} {od26 an26 : Option Addr} {osl26 : Array (Option Value)} {kV26 doc26 pm26 cdv26 ct26 : Value}
    {f27 : Addr} {oc27 : Value} {od27 an27 : Option Addr} {osl27 : Array (Option Value)} {kV27 doc27 pm27 cdv27 ct27 : Value}
    {f28 : Addr} {oc28 : Value} {od28 an28 : Option Addr} {osl28 : Array (Option Value)} {kV28 doc28 pm28 cdv28 ct28 : Value}
    {f29 : Addr} {oc29 : Value} {od29 an29 : Option Addr} {osl29 : Array (Option Value)} {kV29 doc29 pm29 cdv29 ct29 : Value}
    {f30 : Addr} {oc30 : Value} {od30 an30 : Option Addr} {osl30 : Array (Option Value)} {kV30 doc30 pm30 cdv30 ct30 : Value}
    {f31 : Addr} {oc31 : Value} {od31 an31 : Option Addr} {osl31 : Array (Option Value)} {kV31 doc31 pm31 ct31 : Value} {cdL31 : Addr}
    {d_SIGN : Addr} {n_SIGN : Nat} {tk_SIGN_0 tv_SIGN_0 tk_SIGN_1 tv_SIGN_1 tv_SIGN_2 : Tok}
    {d_SIZES : Addr} {n_SIZES : Nat} {t1 t2 t3 t4 u1 u2 u3 u4 : Tok}
    {C_NoFunction : Addr}
    {R0 R1 R2 R3 R4 R5 R6 R7 R8 RT : Addr}
    (a0 : PySem.W.nsIn K mainGlobals "is_whole" = some (some (.ref f0)))
    (l0 : K.lookup f0 = some ⟨oc0, od0, .func (PySem.W.fnOf "is_whole" "is_whole" (defArgs s_is_whole) (defBody s_is_whole) (defScope s_is_whole) .none kV0 doc0 pm0 an0 cdv0 ct0), osl0⟩)
    (c0 : PySem.W.codeIn K cdv0 "is_whole" = true)
    (k0 : PySem.W.keepIn K (.ref f0) = true)
    (a1 : PySem.W.nsIn K mainGlobals "is_answer" = some (some (.ref f1)))
    (l1 : K.lookup f1 = some ⟨oc1, od1, .func (PySem.W.fnOf "is_answer" "is_answer" (defArgs s_is_answer) (defBody s_is_answer) (defScope s_is_answer) .none kV1 doc1 pm1 an1 cdv1 ct1), osl1⟩)
    (c1 : PySem.W.codeIn K cdv1 "is_answer" = true)
    (k1 : PySem.W.keepIn K (.ref f1) = true)
    (a2 : PySem.W.nsIn K mainGlobals "is_function" = some (some (.ref f2)))
    (l2 : K.lookup f2 = some ⟨oc2, od2, .func (PySem.W.fnOf "is_function" "is_function" (defArgs s_is_function) (defBody s_is_function) (defScope s_is_function) .none kV2 doc2 pm2 an2 cdv2 ct2), osl2⟩)
    (c2 : PySem.W.codeIn K cdv2 "is_function" = true)
    (k2 : PySem.W.keepIn K (.ref f2) = true)
    (a3 : PySem.W.nsIn K mainGlobals "need_function" = some (some (.ref f3)))
    (l3 : K.lookup f3 = some ⟨oc3, od3, .func (PySem.W.fnOf "need_function" "need_function" (defArgs s_need_function) (defBody s_need_function) (defScope s_need_function) .none kV3 doc3 pm3 an3 cdv3 ct3), osl3⟩)
    (c3 : PySem.W.codeIn K cdv3 "need_function" = true)
    (k3 : PySem.W.keepIn K (.ref f3) = true)
    (a4 : PySem.W.nsIn K mainGlobals "switches_of" = some (some (.ref f4)))
    (l4 : K.lookup f4 = some ⟨oc4, od4, .func (PySem.W.fnOf "switches_of" "switches_of" (defArgs s_switches_of) (defBody s_switches_of) (defScope s_switches_of) .none kV4 doc4 pm4 an4 cdv4 ct4), osl4⟩)
    (c4 : PySem.W.codeIn K cdv4 "switches_of" = true)
    (k4 : PySem.W.keepIn K (.ref f4) = true)
    (a5 : PySem.W.nsIn K mainGlobals "bit_at" = some (some (.ref f5)))
    (l5 : K.lookup f5 = some ⟨oc5, od5, .func (PySem.W.fnOf "bit_at" "bit_at" (defArgs s_bit_at) (defBody s_bit_at) (defScope s_bit_at) .none kV5 doc5 pm5 an5 cdv5 ct5), osl5⟩)
    (c5 : PySem.W.codeIn K cdv5 "bit_at" = true)
    (k5 : PySem.W.keepIn K (.ref f5) = true)
    (a6 : PySem.W.nsIn K mainGlobals "led_point" = some (some (.ref f6)))
    (l6 : K.lookup f6 = some ⟨oc6, od6, .func (PySem.W.fnOf "led_point" "led_point" (defArgs s_led_point) (defBody s_led_point) (defScope s_led_point) .none kV6 doc6 pm6 an6 cdv6 ct6), osl6⟩)
    (c6 : PySem.W.codeIn K cdv6 "led_point" = true)
    (k6 : PySem.W.keepIn K (.ref f6) = true)
    (a7 : PySem.W.nsIn K mainGlobals "changed_by" = some (some (.ref f7)))
    (l7 : K.lookup f7 = some ⟨oc7, od7, .func (PySem.W.fnOf "changed_by" "changed_by" (defArgs s_changed_by) (defBody s_changed_by) (defScope s_changed_by) .none kV7 doc7 pm7 an7 cdv7 ct7), osl7⟩)
    (c7 : PySem.W.codeIn K cdv7 "changed_by" = true)
    (k7 : PySem.W.keepIn K (.ref f7) = true)
    (a8 : PySem.W.nsIn K mainGlobals "shown" = some (some (.ref f8)))
    (l8 : K.lookup f8 = some ⟨oc8, od8, .func (PySem.W.fnOf "shown" "shown" (defArgs s_shown) (defBody s_shown) (defScope s_shown) .none kV8 doc8 pm8 an8 cdv8 ct8), osl8⟩)
    (c8 : PySem.W.codeIn K cdv8 "shown" = true)
    (k8 : PySem.W.keepIn K (.ref f8) = true)
    (a9 : PySem.W.nsIn K mainGlobals "orders" = some (some (.ref f9)))
    (l9 : K.lookup f9 = some ⟨oc9, od9, .func (PySem.W.fnOf "orders" "orders" (defArgs s_orders) (defBody s_orders) (defScope s_orders) .none kV9 doc9 pm9 an9 cdv9 ct9), osl9⟩)
    (c9 : PySem.W.codeIn K cdv9 "orders" = true)
    (k9 : PySem.W.keepIn K (.ref f9) = true)
    (a10 : PySem.W.nsIn K mainGlobals "rows_of_bits" = some (some (.ref f10)))
    (l10 : K.lookup f10 = some ⟨oc10, od10, .func (PySem.W.fnOf "rows_of_bits" "rows_of_bits" (defArgs s_rows_of_bits) (defBody s_rows_of_bits) (defScope s_rows_of_bits) .none kV10 doc10 pm10 an10 cdv10 ct10), osl10⟩)
    (c10 : PySem.W.codeIn K cdv10 "rows_of_bits" = true)
    (k10 : PySem.W.keepIn K (.ref f10) = true)
    (a11 : PySem.W.nsIn K mainGlobals "all_changes" = some (some (.ref f11)))
    (l11 : K.lookup f11 = some ⟨oc11, od11, .func (PySem.W.fnOf "all_changes" "all_changes" (defArgs s_all_changes) (defBody s_all_changes) (defScope s_all_changes) .none kV11 doc11 pm11 an11 cdv11 ct11), osl11⟩)
    (c11 : PySem.W.codeIn K cdv11 "all_changes" = true)
    (k11 : PySem.W.keepIn K (.ref f11) = true)
    (a12 : PySem.W.nsIn K mainGlobals "change_to" = some (some (.ref f12)))
    (l12 : K.lookup f12 = some ⟨oc12, od12, .func (PySem.W.fnOf "change_to" "change_to" (defArgs s_change_to) (defBody s_change_to) (defScope s_change_to) .none kV12 doc12 pm12 an12 cdv12 ct12), osl12⟩)
    (c12 : PySem.W.codeIn K cdv12 "change_to" = true)
    (k12 : PySem.W.keepIn K (.ref f12) = true)
    (a13 : PySem.W.nsIn K mainGlobals "own_changes" = some (some (.ref f13)))
    (l13 : K.lookup f13 = some ⟨oc13, od13, .func (PySem.W.fnOf "own_changes" "own_changes" (defArgs s_own_changes) (defBody s_own_changes) (defScope s_own_changes) .none kV13 doc13 pm13 an13 cdv13 ct13), osl13⟩)
    (c13 : PySem.W.codeIn K cdv13 "own_changes" = true)
    (k13 : PySem.W.keepIn K (.ref f13) = true)
    (a14 : PySem.W.nsIn K mainGlobals "alike_to" = some (some (.ref f14)))
    (l14 : K.lookup f14 = some ⟨oc14, od14, .func (PySem.W.fnOf "alike_to" "alike_to" (defArgs s_alike_to) (defBody s_alike_to) (defScope s_alike_to) .none kV14 doc14 pm14 an14 cdv14 ct14), osl14⟩)
    (c14 : PySem.W.codeIn K cdv14 "alike_to" = true)
    (k14 : PySem.W.keepIn K (.ref f14) = true)
    (a15 : PySem.W.nsIn K mainGlobals "least_alike" = some (some (.ref f15)))
    (l15 : K.lookup f15 = some ⟨oc15, od15, .func (PySem.W.fnOf "least_alike" "least_alike" (defArgs s_least_alike) (defBody s_least_alike) (defScope s_least_alike) .none kV15 doc15 pm15 an15 cdv15 ct15), osl15⟩)
    (c15 : PySem.W.codeIn K cdv15 "least_alike" = true)
    (k15 : PySem.W.keepIn K (.ref f15) = true)
    (a16 : PySem.W.nsIn K mainGlobals "_law_take" = some (some (.ref f16)))
    (l16 : K.lookup f16 = some ⟨oc16, od16, .func (PySem.W.fnOf "_law_take" "_law_take" (defArgs s__law_take) (defBody s__law_take) (defScope s__law_take) .none kV16 doc16 pm16 an16 cdv16 ct16), osl16⟩)
    (c16 : PySem.W.codeIn K cdv16 "_law_take" = true)
    (k16 : PySem.W.keepIn K (.ref f16) = true)
    (a17 : PySem.W.nsIn K mainGlobals "_law_bad_function" = some (some (.ref f17)))
    (l17 : K.lookup f17 = some ⟨oc17, od17, .func (PySem.W.fnOf "_law_bad_function" "_law_bad_function" (defArgs s__law_bad_function) (defBody s__law_bad_function) (defScope s__law_bad_function) .none kV17 doc17 pm17 an17 cdv17 ct17), osl17⟩)
    (c17 : PySem.W.codeIn K cdv17 "_law_bad_function" = true)
    (k17 : PySem.W.keepIn K (.ref f17) = true)
    (a18 : PySem.W.nsIn K mainGlobals "_law_refused" = some (some (.ref f18)))
    (l18 : K.lookup f18 = some ⟨oc18, od18, .func (PySem.W.fnOf "_law_refused" "_law_refused" (defArgs s__law_refused) (defBody s__law_refused) (defScope s__law_refused) .none kV18 doc18 pm18 an18 cdv18 ct18), osl18⟩)
    (c18 : PySem.W.codeIn K cdv18 "_law_refused" = true)
    (k18 : PySem.W.keepIn K (.ref f18) = true)
    (a19 : PySem.W.nsIn K mainGlobals "_law_cell_at" = some (some (.ref f19)))
    (l19 : K.lookup f19 = some ⟨oc19, od19, .func (PySem.W.fnOf "_law_cell_at" "_law_cell_at" (defArgs s__law_cell_at) (defBody s__law_cell_at) (defScope s__law_cell_at) .none kV19 doc19 pm19 an19 cdv19 ct19), osl19⟩)
    (c19 : PySem.W.codeIn K cdv19 "_law_cell_at" = true)
    (k19 : PySem.W.keepIn K (.ref f19) = true)
    (a20 : PySem.W.nsIn K mainGlobals "_law_state" = some (some (.ref f20)))
    (l20 : K.lookup f20 = some ⟨oc20, od20, .func (PySem.W.fnOf "_law_state" "_law_state" (defArgs s__law_state) (defBody s__law_state) (defScope s__law_state) .none kV20 doc20 pm20 an20 cdv20 ct20), osl20⟩)
    (c20 : PySem.W.codeIn K cdv20 "_law_state" = true)
    (k20 : PySem.W.keepIn K (.ref f20) = true)
    (a21 : PySem.W.nsIn K mainGlobals "_law_function" = some (some (.ref f21)))
    (l21 : K.lookup f21 = some ⟨oc21, od21, .func (PySem.W.fnOf "_law_function" "_law_function" (defArgs s__law_function) (defBody s__law_function) (defScope s__law_function) .none kV21 doc21 pm21 an21 cdv21 ct21), osl21⟩)
    (c21 : PySem.W.codeIn K cdv21 "_law_function" = true)
    (k21 : PySem.W.keepIn K (.ref f21) = true)
    (a22 : PySem.W.nsIn K mainGlobals "_law_changes" = some (some (.ref f22)))
    (l22 : K.lookup f22 = some ⟨oc22, od22, .func (PySem.W.fnOf "_law_changes" "_law_changes" (defArgs s__law_changes) (defBody s__law_changes) (defScope s__law_changes) .none kV22 doc22 pm22 an22 cdv22 ct22), osl22⟩)
    (c22 : PySem.W.codeIn K cdv22 "_law_changes" = true)
    (k22 : PySem.W.keepIn K (.ref f22) = true)
    (a23 : PySem.W.nsIn K mainGlobals "_law_switches" = some (some (.ref f23)))
    (l23 : K.lookup f23 = some ⟨oc23, od23, .func (PySem.W.fnOf "_law_switches" "_law_switches" (defArgs s__law_switches) (defBody s__law_switches) (defScope s__law_switches) .none kV23 doc23 pm23 an23 cdv23 ct23), osl23⟩)
    (c23 : PySem.W.codeIn K cdv23 "_law_switches" = true)
    (k23 : PySem.W.keepIn K (.ref f23) = true)
    (a24 : PySem.W.nsIn K mainGlobals "_law_bits" = some (some (.ref f24)))
    (l24 : K.lookup f24 = some ⟨oc24, od24, .func (PySem.W.fnOf "_law_bits" "_law_bits" (defArgs s__law_bits) (defBody s__law_bits) (defScope s__law_bits) .none kV24 doc24 pm24 an24 cdv24 ct24), osl24⟩)
    (c24 : PySem.W.codeIn K cdv24 "_law_bits" = true)
    (k24 : PySem.W.keepIn K (.ref f24) = true)
    (a25 : PySem.W.nsIn K mainGlobals "_law_point" = some (some (.ref f25)))
    (l25 : K.lookup f25 = some ⟨oc25, od25, .func (PySem.W.fnOf "_law_point" "_law_point" (defArgs s__law_point) (defBody s__law_point) (defScope s__law_point) .none kV25 doc25 pm25 an25 cdv25 ct25), osl25⟩)
    (c25 : PySem.W.codeIn K cdv25 "_law_point" = true)
    (k25 : PySem.W.keepIn K (.ref f25) = true)
    (a26 : PySem.W.nsIn K mainGlobals "_law_changed" = some (some (.ref f26)))
    (l26 : K.lookup f26 = some ⟨oc26, od26, .func (PySem.W.fnOf "_law_changed" "_law_changed" (defArgs s__law_changed) (defBody s__law_changed) (defScope s__law_changed) .none kV26 doc26 pm26 an26 cdv26 ct26), osl26⟩)
    (c26 : PySem.W.codeIn K cdv26 "_law_changed" = true)
    (k26 : PySem.W.keepIn K (.ref f26) = true)
    (a27 : PySem.W.nsIn K mainGlobals "_law_order" = some (some (.ref f27)))
    (l27 : K.lookup f27 = some ⟨oc27, od27, .func (PySem.W.fnOf "_law_order" "_law_order" (defArgs s__law_order) (defBody s__law_order) (defScope s__law_order) .none kV27 doc27 pm27 an27 cdv27 ct27), osl27⟩)
    (c27 : PySem.W.codeIn K cdv27 "_law_order" = true)
    (k27 : PySem.W.keepIn K (.ref f27) = true)
    (a28 : PySem.W.nsIn K mainGlobals "_law_change" = some (some (.ref f28)))
    (l28 : K.lookup f28 = some ⟨oc28, od28, .func (PySem.W.fnOf "_law_change" "_law_change" (defArgs s__law_change) (defBody s__law_change) (defScope s__law_change) .none kV28 doc28 pm28 an28 cdv28 ct28), osl28⟩)
    (c28 : PySem.W.codeIn K cdv28 "_law_change" = true)
    (k28 : PySem.W.keepIn K (.ref f28) = true)
    (a29 : PySem.W.nsIn K mainGlobals "_law_same" = some (some (.ref f29)))
    (l29 : K.lookup f29 = some ⟨oc29, od29, .func (PySem.W.fnOf "_law_same" "_law_same" (defArgs s__law_same) (defBody s__law_same) (defScope s__law_same) .none kV29 doc29 pm29 an29 cdv29 ct29), osl29⟩)
    (c29 : PySem.W.codeIn K cdv29 "_law_same" = true)
    (k29 : PySem.W.keepIn K (.ref f29) = true)
    (a30 : PySem.W.nsIn K mainGlobals "_law_shown" = some (some (.ref f30)))
    (l30 : K.lookup f30 = some ⟨oc30, od30, .func (PySem.W.fnOf "_law_shown" "_law_shown" (defArgs s__law_shown) (defBody s__law_shown) (defScope s__law_shown) .none kV30 doc30 pm30 an30 cdv30 ct30), osl30⟩)
    (c30 : PySem.W.codeIn K cdv30 "_law_shown" = true)
    (k30 : PySem.W.keepIn K (.ref f30) = true)
    (a31 : PySem.W.nsIn K mainGlobals "_law_refusals_right" = some (some (.ref f31)))
    (l31 : K.lookup f31 = some ⟨oc31, od31, .func (PySem.W.fnOf "_law_refusals_right" "_law_refusals_right" (defArgs s__law_refusals_right) (defBody s__law_refusals_right) (defScope s__law_refusals_right) .none kV31 doc31 pm31 an31 (.ref cdL31) ct31), osl31⟩)
    (c31 : PySem.W.codeIn K (.ref cdL31) "_law_refusals_right" = true)
    (k31 : PySem.W.keepIn K (.ref f31) = true)
    (z_ValueError : PySem.W.nsIn K mainGlobals "ValueError" = some none)
    (z_all : PySem.W.nsIn K mainGlobals "all" = some none)
    (z_bool : PySem.W.nsIn K mainGlobals "bool" = some none)
    (z_int : PySem.W.nsIn K mainGlobals "int" = some none)
    (z_isinstance : PySem.W.nsIn K mainGlobals "isinstance" = some none)
    (z_len : PySem.W.nsIn K mainGlobals "len" = some none)
    (z_list : PySem.W.nsIn K mainGlobals "list" = some none)
    (z_max : PySem.W.nsIn K mainGlobals "max" = some none)
    (z_min : PySem.W.nsIn K mainGlobals "min" = some none)
    (z_range : PySem.W.nsIn K mainGlobals "range" = some none)
    (z_str : PySem.W.nsIn K mainGlobals "str" = some none)
    (z_tuple : PySem.W.nsIn K mainGlobals "tuple" = some none)
    (z_zip : PySem.W.nsIn K mainGlobals "zip" = some none)
    (a_SIGN : PySem.W.nsIn K mainGlobals "SIGN" = some (some (.ref d_SIGN)))
    (l_SIGN : K.lookup d_SIGN = some ⟨.type "dict", none, .dict #[⟨0, .int 0 tk_SIGN_0, .str "0" tv_SIGN_0⟩, ⟨1, .int 1 tk_SIGN_1, .str "1" tv_SIGN_1⟩, ⟨4238894112, .none, .str "-" tv_SIGN_2⟩] n_SIGN, #[]⟩)
    (s_SIGN : (d_SIGN == sysModules) = false)
    (a_SIZES : PySem.W.nsIn K mainGlobals "SIZES" = some (some (.ref d_SIZES)))
    (l_SIZES : K.lookup d_SIZES = some ⟨.type "dict", none, .dict #[⟨2, .int 2 t1, .int 1 u1⟩, ⟨4, .int 4 t2, .int 2 u2⟩, ⟨8, .int 8 t3, .int 3 u3⟩, ⟨16, .int 16 t4, .int 4 u4⟩] n_SIZES, #[]⟩)
    (s_SIZES : (d_SIZES == sysModules) = false)
    (xa_NoFunction : PySem.W.nsIn K mainGlobals "NoFunction" = some (some (.ref C_NoFunction)))
    (xq_NoFunction : PySem.W.excIn K C_NoFunction [.type "ValueError", .type "Exception", .type "BaseException", .type "object"] "ValueError.__new__" = true)
    (xk_NoFunction : PySem.W.keepIn K (.ref C_NoFunction) = true)
    (xb_NoFunction : PySem.W.subIn K (.ref C_NoFunction) (.type "BaseException") = some true)
    (xt_NoFunction : PySem.W.typeIn K (.ref C_NoFunction) = some (.type "type"))
    (ar0 : PySem.W.nsIn K mainGlobals "NoFunction" = some (some (.ref R0)))
    (ar1 : PySem.W.nsIn K mainGlobals "NoTerm" = some (some (.ref R1)))
    (ar2 : PySem.W.nsIn K mainGlobals "NoPoint" = some (some (.ref R2)))
    (ar3 : PySem.W.nsIn K mainGlobals "NoNumber" = some (some (.ref R3)))
    (ar4 : PySem.W.nsIn K mainGlobals "NoText" = some (some (.ref R4)))
    (ar5 : PySem.W.nsIn K mainGlobals "NoLine" = some (some (.ref R5)))
    (ar6 : PySem.W.nsIn K mainGlobals "NoDeed" = some (some (.ref R6)))
    (ar7 : PySem.W.nsIn K mainGlobals "NoForm" = some (some (.ref R7)))
    (ar8 : PySem.W.nsIn K mainGlobals "NoChange" = some (some (.ref R8)))
    (arT : PySem.W.nsIn K mainGlobals "TermError" = some (some (.ref RT)))
    (xq_ref : refOk K [R0, R1, R2, R3, R4, R5, R6, R7, R8] RT = true)
    (s_ref : [R0, R1, R2, R3, R4, R5, R6, R7, R8].Nodup)
    : Tops w K mg :=
  ⟨def_at (st := s_is_whole) X G a0 l0 c0 k0 fun _ _ _ _ _ _ us hl => match us, hl with | [_], _ => rfl,
   def_at (st := s_is_answer) X G a1 l1 c1 k1 fun _ _ _ _ _ _ us hl => match us, hl with | [_], _ => rfl,
   def_at (st := s_is_function) X G a2 l2 c2 k2 fun _ _ _ _ _ _ us hl => match us, hl with | [_], _ => rfl,
   def_at (st := s_need_function) X G a3 l3 c3 k3 fun _ _ _ _ _ _ us hl => match us, hl with | [_], _ => rfl,
   def_at (st := s_switches_of) X G a4 l4 c4 k4 fun _ _ _ _ _ _ us hl => match us, hl with | [_], _ => rfl,
   def_at (st := s_bit_at) X G a5 l5 c5 k5 fun _ _ _ _ _ _ us hl => match us, hl with | [_, _, _], _ => rfl,
   def_at (st := s_led_point) X G a6 l6 c6 k6 fun _ _ _ _ _ _ us hl => match us, hl with | [_, _, _], _ => rfl,
   def_at (st := s_changed_by) X G a7 l7 c7 k7 fun _ _ _ _ _ _ us hl => match us, hl with | [_, _], _ => rfl,
   def_at (st := s_shown) X G a8 l8 c8 k8 fun _ _ _ _ _ _ us hl => match us, hl with | [_], _ => rfl,
   def_at (st := s_orders) X G a9 l9 c9 k9 fun _ _ _ _ _ _ us hl => match us, hl with | [_], _ => rfl,
   def_at (st := s_rows_of_bits) X G a10 l10 c10 k10 fun _ _ _ _ _ _ us hl => match us, hl with | [_], _ => rfl,
   def_at (st := s_all_changes) X G a11 l11 c11 k11 fun _ _ _ _ _ _ us hl => match us, hl with | [_], _ => rfl,
   def_at (st := s_change_to) X G a12 l12 c12 k12 fun _ _ _ _ _ _ us hl => match us, hl with | [_, _], _ => rfl,
   def_at (st := s_own_changes) X G a13 l13 c13 k13 fun _ _ _ _ _ _ us hl => match us, hl with | [_], _ => rfl,
   def_at (st := s_alike_to) X G a14 l14 c14 k14 fun _ _ _ _ _ _ us hl => match us, hl with | [_], _ => rfl,
   def_at (st := s_least_alike) X G a15 l15 c15 k15 fun _ _ _ _ _ _ us hl => match us, hl with | [_], _ => rfl,
   def_at (st := s__law_take) X G a16 l16 c16 k16 fun _ _ _ _ _ _ us hl => match us, hl with | [_, _], _ => rfl,
   def_at (st := s__law_bad_function) X G a17 l17 c17 k17 fun _ _ _ _ _ _ us hl => match us, hl with | [_], _ => rfl,
   def_at (st := s__law_refused) X G a18 l18 c18 k18 fun _ _ _ _ _ _ us hl => match us, hl with | [_], _ => rfl,
   def_at (st := s__law_cell_at) X G a19 l19 c19 k19 fun _ _ _ _ _ _ us hl => match us, hl with | [_, _], _ => rfl,
   def_at (st := s__law_state) X G a20 l20 c20 k20 fun _ _ _ _ _ _ us hl => match us, hl with | [_, _], _ => rfl,
   def_at (st := s__law_function) X G a21 l21 c21 k21 fun _ _ _ _ _ _ us hl => match us, hl with | [_, _, _], _ => rfl,
   def_at (st := s__law_changes) X G a22 l22 c22 k22 fun _ _ _ _ _ _ us hl => match us, hl with | [_], _ => rfl,
   def_at (st := s__law_switches) X G a23 l23 c23 k23 fun _ _ _ _ _ _ us hl => match us, hl with | [_], _ => rfl,
   def_at (st := s__law_bits) X G a24 l24 c24 k24 fun _ _ _ _ _ _ us hl => match us, hl with | [_, _], _ => rfl,
   def_at (st := s__law_point) X G a25 l25 c25 k25 fun _ _ _ _ _ _ us hl => match us, hl with | [_], _ => rfl,
   def_at (st := s__law_changed) X G a26 l26 c26 k26 fun _ _ _ _ _ _ us hl => match us, hl with | [_, _], _ => rfl,
   def_at (st := s__law_order) X G a27 l27 c27 k27 fun _ _ _ _ _ _ us hl => match us, hl with | [_, _], _ => rfl,
   def_at (st := s__law_change) X G a28 l28 c28 k28 fun _ _ _ _ _ _ us hl => match us, hl with | [_, _], _ => rfl,
   def_at (st := s__law_same) X G a29 l29 c29 k29 fun _ _ _ _ _ _ us hl => match us, hl with | [_, _], _ => rfl,
   def_at (st := s__law_shown) X G a30 l30 c30 k30 fun _ _ _ _ _ _ us hl => match us, hl with | [_], _ => rfl,
   def_at (st := s__law_refusals_right) X G a31 l31 c31 k31 fun _ _ _ _ _ _ us hl => match us, hl with | [_, _], _ => rfl,
   PySem.W.mg_none_of X G z_ValueError,
   PySem.W.mg_none_of X G z_all,
   PySem.W.mg_none_of X G z_bool,
   PySem.W.mg_none_of X G z_int,
   PySem.W.mg_none_of X G z_isinstance,
   PySem.W.mg_none_of X G z_len,
   PySem.W.mg_none_of X G z_list,
   PySem.W.mg_none_of X G z_max,
   PySem.W.mg_none_of X G z_min,
   PySem.W.mg_none_of X G z_range,
   PySem.W.mg_none_of X G z_str,
   PySem.W.mg_none_of X G z_tuple,
   PySem.W.mg_none_of X G z_zip,
   kdat_at X G a_SIGN l_SIGN s_SIGN ⟨⟨_, rfl, (nk_lit rfl), (hash_int w 0 (by decide)), _, rfl, ⟨tv_SIGN_0, rfl⟩⟩, ⟨_, rfl, (nk_lit rfl), (hash_int w 1 (by decide)), _, rfl, ⟨tv_SIGN_1, rfl⟩⟩, ⟨_, rfl, rfl, (hash_non w), _, rfl, ⟨tv_SIGN_2, rfl⟩⟩, trivial⟩,
   sizes_at X G a_SIZES l_SIZES s_SIZES,
   exc_at X G xa_NoFunction xq_NoFunction xk_NoFunction xb_NoFunction xt_NoFunction,
   ref_at X G ar0 ar1 ar2 ar3 ar4 ar5 ar6 ar7 ar8 arT xq_ref s_ref⟩
theorem law_main {l : PySem.W.OpenLaw} {w : World} {K : PySem.W.Frag} {h : Heap} {mg : Str → Option Value} {fa : Addr} (X : K.In h) (G : h.Ns mainGlobals mg) (hfa : mg "law" = some (.ref fa))
    {f0 : Addr} {oc0 : Value} {od0 an0 : Option Addr} {osl0 : Array (Option Value)} {kV0 doc0 pm0 cdv0 ct0 : Value}
    {f1 : Addr} {oc1 : Value} {od1 an1 : Option Addr} {osl1 : Array (Option Value)} {kV1 doc1 pm1 cdv1 ct1 : Value}
    {f2 : Addr} {oc2 : Value} {od2 an2 : Option Addr} {osl2 : Array (Option Value)} {kV2 doc2 pm2 cdv2 ct2 : Value}
    {f3 : Addr} {oc3 : Value} {od3 an3 : Option Addr} {osl3 : Array (Option Value)} {kV3 doc3 pm3 cdv3 ct3 : Value}
    {f4 : Addr} {oc4 : Value} {od4 an4 : Option Addr} {osl4 : Array (Option Value)} {kV4 doc4 pm4 cdv4 ct4 : Value}
    {f5 : Addr} {oc5 : Value} {od5 an5 : Option Addr} {osl5 : Array (Option Value)} {kV5 doc5 pm5 cdv5 ct5 : Value}
    {f6 : Addr} {oc6 : Value} {od6 an6 : Option Addr} {osl6 : Array (Option Value)} {kV6 doc6 pm6 cdv6 ct6 : Value}
    {f7 : Addr} {oc7 : Value} {od7 an7 : Option Addr} {osl7 : Array (Option Value)} {kV7 doc7 pm7 cdv7 ct7 : Value}
    {f8 : Addr} {oc8 : Value} {od8 an8 : Option Addr} {osl8 : Array (Option Value)} {kV8 doc8 pm8 cdv8 ct8 : Value}
    {f9 : Addr} {oc9 : Value} {od9 an9 : Option Addr} {osl9 : Array (Option Value)} {kV9 doc9 pm9 cdv9 ct9 : Value}
    {f10 : Addr} {oc10 : Value} {od10 an10 : Option Addr} {osl10 : Array (Option Value)} {kV10 doc10 pm10 cdv10 ct10 : Value}
    {f11 : Addr} {oc11 : Value} {od11 an11 : Option Addr} {osl11 : Array (Option Value)} {kV11 doc11 pm11 cdv11 ct11 : Value}
    {f12 : Addr} {oc12 : Value} {od12 an12 : Option Addr} {osl12 : Array (Option Value)} {kV12 doc12 pm12 cdv12 ct12 : Value}
    {f13 : Addr} {oc13 : Value} {od13 an13 : Option Addr} {osl13 : Array (Option Value)} {kV13 doc13 pm13 cdv13 ct13 : Value}
    {f14 : Addr} {oc14 : Value} {od14 an14 : Option Addr} {osl14 : Array (Option Value)} {kV14 doc14 pm14 cdv14 ct14 : Value}
    {f15 : Addr} {oc15 : Value} {od15 an15 : Option Addr} {osl15 : Array (Option Value)} {kV15 doc15 pm15 cdv15 ct15 : Value}
    {f16 : Addr} {oc16 : Value} {od16 an16 : Option Addr} {osl16 : Array (Option Value)} {kV16 doc16 pm16 cdv16 ct16 : Value}
    {f17 : Addr} {oc17 : Value} {od17 an17 : Option Addr} {osl17 : Array (Option Value)} {kV17 doc17 pm17 cdv17 ct17 : Value}
    {f18 : Addr} {oc18 : Value} {od18 an18 : Option Addr} {osl18 : Array (Option Value)} {kV18 doc18 pm18 cdv18 ct18 : Value}
    {f19 : Addr} {oc19 : Value} {od19 an19 : Option Addr} {osl19 : Array (Option Value)} {kV19 doc19 pm19 cdv19 ct19 : Value}
    {f20 : Addr} {oc20 : Value} {od20 an20 : Option Addr} {osl20 : Array (Option Value)} {kV20 doc20 pm20 cdv20 ct20 : Value}
    {f21 : Addr} {oc21 : Value} {od21 an21 : Option Addr} {osl21 : Array (Option Value)} {kV21 doc21 pm21 cdv21 ct21 : Value}
    {f22 : Addr} {oc22 : Value} {od22 an22 : Option Addr} {osl22 : Array (Option Value)} {kV22 doc22 pm22 cdv22 ct22 : Value}
    {f23 : Addr} {oc23 : Value} {od23 an23 : Option Addr} {osl23 : Array (Option Value)} {kV23 doc23 pm23 cdv23 ct23 : Value}
    {f24 : Addr} {oc24 : Value} {od24 an24 : Option Addr} {osl24 : Array (Option Value)} {kV24 doc24 pm24 cdv24 ct24 : Value}
    {f25 : Addr} {oc25 : Value} {od25 an25 : Option Addr} {osl25 : Array (Option Value)} {kV25 doc25 pm25 cdv25 ct25 : Value}
    {f26 : Addr} {oc26 : Value} {od26 an26 : Option Addr} {osl26 : Array (Option Value)} {kV26 doc26 pm26 cdv26 ct26 : Value}
    {f27 : Addr} {oc27 : Value} {od27 an27 : Option Addr} {osl27 : Array (Option Value)} {kV27 doc27 pm27 cdv27 ct27 : Value}
    {f28 : Addr} {oc28 : Value} {od28 an28 : Option Addr} {osl28 : Array (Option Value)} {kV28 doc28 pm28 cdv28 ct28 : Value}
    {f29 : Addr} {oc29 : Value} {od29 an29 : Option Addr} {osl29 : Array (Option Value)} {kV29 doc29 pm29 cdv29 ct29 : Value}
    {f30 : Addr} {oc30 : Value} {od30 an30 : Option Addr} {osl30 : Array (Option Value)} {kV30 doc30 pm30 cdv30 ct30 : Value}
    {f31 : Addr} {oc31 : Value} {od31 an31 : Option Addr} {osl31 : Array (Option Value)} {kV31 doc31 pm31 ct31 : Value} {cdL31 : Addr}
    {d_SIGN : Addr} {n_SIGN : Nat} {tk_SIGN_0 tv_SIGN_0 tk_SIGN_1 tv_SIGN_1 tv_SIGN_2 : Tok}
    {d_SIZES : Addr} {n_SIZES : Nat} {t1 t2 t3 t4 u1 u2 u3 u4 : Tok}
    {C_NoFunction : Addr}
    {R0 R1 R2 R3 R4 R5 R6 R7 R8 RT : Addr}
    {fL : Addr} {ocL : Value} {odL anL : Option Addr} {oslL : Array (Option Value)} {kVL docL pmL ctL cdvL : Value}
    {PL31 : Addr} {coL31 : Value} {codL31 : Option Addr} {vsL31 : Array Value} {cslL31 : Array (Option Value)}
    (a0 : PySem.W.nsIn K mainGlobals "is_whole" = some (some (.ref f0)))
    (l0 : K.lookup f0 = some ⟨oc0, od0, .func (PySem.W.fnOf "is_whole" "is_whole" (defArgs s_is_whole) (defBody s_is_whole) (defScope s_is_whole) .none kV0 doc0 pm0 an0 cdv0 ct0), osl0⟩)
    (c0 : PySem.W.codeIn K cdv0 "is_whole" = true)
    (k0 : PySem.W.keepIn K (.ref f0) = true)
    (a1 : PySem.W.nsIn K mainGlobals "is_answer" = some (some (.ref f1)))
    (l1 : K.lookup f1 = some ⟨oc1, od1, .func (PySem.W.fnOf "is_answer" "is_answer" (defArgs s_is_answer) (defBody s_is_answer) (defScope s_is_answer) .none kV1 doc1 pm1 an1 cdv1 ct1), osl1⟩)
    (c1 : PySem.W.codeIn K cdv1 "is_answer" = true)
    (k1 : PySem.W.keepIn K (.ref f1) = true)
    (a2 : PySem.W.nsIn K mainGlobals "is_function" = some (some (.ref f2)))
    (l2 : K.lookup f2 = some ⟨oc2, od2, .func (PySem.W.fnOf "is_function" "is_function" (defArgs s_is_function) (defBody s_is_function) (defScope s_is_function) .none kV2 doc2 pm2 an2 cdv2 ct2), osl2⟩)
    (c2 : PySem.W.codeIn K cdv2 "is_function" = true)
    (k2 : PySem.W.keepIn K (.ref f2) = true)
    (a3 : PySem.W.nsIn K mainGlobals "need_function" = some (some (.ref f3)))
    (l3 : K.lookup f3 = some ⟨oc3, od3, .func (PySem.W.fnOf "need_function" "need_function" (defArgs s_need_function) (defBody s_need_function) (defScope s_need_function) .none kV3 doc3 pm3 an3 cdv3 ct3), osl3⟩)
    (c3 : PySem.W.codeIn K cdv3 "need_function" = true)
    (k3 : PySem.W.keepIn K (.ref f3) = true)
    (a4 : PySem.W.nsIn K mainGlobals "switches_of" = some (some (.ref f4)))
    (l4 : K.lookup f4 = some ⟨oc4, od4, .func (PySem.W.fnOf "switches_of" "switches_of" (defArgs s_switches_of) (defBody s_switches_of) (defScope s_switches_of) .none kV4 doc4 pm4 an4 cdv4 ct4), osl4⟩)
    (c4 : PySem.W.codeIn K cdv4 "switches_of" = true)
    (k4 : PySem.W.keepIn K (.ref f4) = true)
    (a5 : PySem.W.nsIn K mainGlobals "bit_at" = some (some (.ref f5)))
    (l5 : K.lookup f5 = some ⟨oc5, od5, .func (PySem.W.fnOf "bit_at" "bit_at" (defArgs s_bit_at) (defBody s_bit_at) (defScope s_bit_at) .none kV5 doc5 pm5 an5 cdv5 ct5), osl5⟩)
    (c5 : PySem.W.codeIn K cdv5 "bit_at" = true)
    (k5 : PySem.W.keepIn K (.ref f5) = true)
    (a6 : PySem.W.nsIn K mainGlobals "led_point" = some (some (.ref f6)))
    (l6 : K.lookup f6 = some ⟨oc6, od6, .func (PySem.W.fnOf "led_point" "led_point" (defArgs s_led_point) (defBody s_led_point) (defScope s_led_point) .none kV6 doc6 pm6 an6 cdv6 ct6), osl6⟩)
    (c6 : PySem.W.codeIn K cdv6 "led_point" = true)
    (k6 : PySem.W.keepIn K (.ref f6) = true)
    (a7 : PySem.W.nsIn K mainGlobals "changed_by" = some (some (.ref f7)))
    (l7 : K.lookup f7 = some ⟨oc7, od7, .func (PySem.W.fnOf "changed_by" "changed_by" (defArgs s_changed_by) (defBody s_changed_by) (defScope s_changed_by) .none kV7 doc7 pm7 an7 cdv7 ct7), osl7⟩)
    (c7 : PySem.W.codeIn K cdv7 "changed_by" = true)
    (k7 : PySem.W.keepIn K (.ref f7) = true)
    (a8 : PySem.W.nsIn K mainGlobals "shown" = some (some (.ref f8)))
    (l8 : K.lookup f8 = some ⟨oc8, od8, .func (PySem.W.fnOf "shown" "shown" (defArgs s_shown) (defBody s_shown) (defScope s_shown) .none kV8 doc8 pm8 an8 cdv8 ct8), osl8⟩)
    (c8 : PySem.W.codeIn K cdv8 "shown" = true)
    (k8 : PySem.W.keepIn K (.ref f8) = true)
    (a9 : PySem.W.nsIn K mainGlobals "orders" = some (some (.ref f9)))
    (l9 : K.lookup f9 = some ⟨oc9, od9, .func (PySem.W.fnOf "orders" "orders" (defArgs s_orders) (defBody s_orders) (defScope s_orders) .none kV9 doc9 pm9 an9 cdv9 ct9), osl9⟩)
    (c9 : PySem.W.codeIn K cdv9 "orders" = true)
    (k9 : PySem.W.keepIn K (.ref f9) = true)
    (a10 : PySem.W.nsIn K mainGlobals "rows_of_bits" = some (some (.ref f10)))
    (l10 : K.lookup f10 = some ⟨oc10, od10, .func (PySem.W.fnOf "rows_of_bits" "rows_of_bits" (defArgs s_rows_of_bits) (defBody s_rows_of_bits) (defScope s_rows_of_bits) .none kV10 doc10 pm10 an10 cdv10 ct10), osl10⟩)
    (c10 : PySem.W.codeIn K cdv10 "rows_of_bits" = true)
    (k10 : PySem.W.keepIn K (.ref f10) = true)
    (a11 : PySem.W.nsIn K mainGlobals "all_changes" = some (some (.ref f11)))
    (l11 : K.lookup f11 = some ⟨oc11, od11, .func (PySem.W.fnOf "all_changes" "all_changes" (defArgs s_all_changes) (defBody s_all_changes) (defScope s_all_changes) .none kV11 doc11 pm11 an11 cdv11 ct11), osl11⟩)
    (c11 : PySem.W.codeIn K cdv11 "all_changes" = true)
    (k11 : PySem.W.keepIn K (.ref f11) = true)
    (a12 : PySem.W.nsIn K mainGlobals "change_to" = some (some (.ref f12)))
    (l12 : K.lookup f12 = some ⟨oc12, od12, .func (PySem.W.fnOf "change_to" "change_to" (defArgs s_change_to) (defBody s_change_to) (defScope s_change_to) .none kV12 doc12 pm12 an12 cdv12 ct12), osl12⟩)
    (c12 : PySem.W.codeIn K cdv12 "change_to" = true)
    (k12 : PySem.W.keepIn K (.ref f12) = true)
    (a13 : PySem.W.nsIn K mainGlobals "own_changes" = some (some (.ref f13)))
    (l13 : K.lookup f13 = some ⟨oc13, od13, .func (PySem.W.fnOf "own_changes" "own_changes" (defArgs s_own_changes) (defBody s_own_changes) (defScope s_own_changes) .none kV13 doc13 pm13 an13 cdv13 ct13), osl13⟩)
    (c13 : PySem.W.codeIn K cdv13 "own_changes" = true)
    (k13 : PySem.W.keepIn K (.ref f13) = true)
    (a14 : PySem.W.nsIn K mainGlobals "alike_to" = some (some (.ref f14)))
    (l14 : K.lookup f14 = some ⟨oc14, od14, .func (PySem.W.fnOf "alike_to" "alike_to" (defArgs s_alike_to) (defBody s_alike_to) (defScope s_alike_to) .none kV14 doc14 pm14 an14 cdv14 ct14), osl14⟩)
    (c14 : PySem.W.codeIn K cdv14 "alike_to" = true)
    (k14 : PySem.W.keepIn K (.ref f14) = true)
    (a15 : PySem.W.nsIn K mainGlobals "least_alike" = some (some (.ref f15)))
    (l15 : K.lookup f15 = some ⟨oc15, od15, .func (PySem.W.fnOf "least_alike" "least_alike" (defArgs s_least_alike) (defBody s_least_alike) (defScope s_least_alike) .none kV15 doc15 pm15 an15 cdv15 ct15), osl15⟩)
    (c15 : PySem.W.codeIn K cdv15 "least_alike" = true)
    (k15 : PySem.W.keepIn K (.ref f15) = true)
    (a16 : PySem.W.nsIn K mainGlobals "_law_take" = some (some (.ref f16)))
    (l16 : K.lookup f16 = some ⟨oc16, od16, .func (PySem.W.fnOf "_law_take" "_law_take" (defArgs s__law_take) (defBody s__law_take) (defScope s__law_take) .none kV16 doc16 pm16 an16 cdv16 ct16), osl16⟩)
    (c16 : PySem.W.codeIn K cdv16 "_law_take" = true)
    (k16 : PySem.W.keepIn K (.ref f16) = true)
    (a17 : PySem.W.nsIn K mainGlobals "_law_bad_function" = some (some (.ref f17)))
    (l17 : K.lookup f17 = some ⟨oc17, od17, .func (PySem.W.fnOf "_law_bad_function" "_law_bad_function" (defArgs s__law_bad_function) (defBody s__law_bad_function) (defScope s__law_bad_function) .none kV17 doc17 pm17 an17 cdv17 ct17), osl17⟩)
    (c17 : PySem.W.codeIn K cdv17 "_law_bad_function" = true)
    (k17 : PySem.W.keepIn K (.ref f17) = true)
    (a18 : PySem.W.nsIn K mainGlobals "_law_refused" = some (some (.ref f18)))
    (l18 : K.lookup f18 = some ⟨oc18, od18, .func (PySem.W.fnOf "_law_refused" "_law_refused" (defArgs s__law_refused) (defBody s__law_refused) (defScope s__law_refused) .none kV18 doc18 pm18 an18 cdv18 ct18), osl18⟩)
    (c18 : PySem.W.codeIn K cdv18 "_law_refused" = true)
    (k18 : PySem.W.keepIn K (.ref f18) = true)
    (a19 : PySem.W.nsIn K mainGlobals "_law_cell_at" = some (some (.ref f19)))
    (l19 : K.lookup f19 = some ⟨oc19, od19, .func (PySem.W.fnOf "_law_cell_at" "_law_cell_at" (defArgs s__law_cell_at) (defBody s__law_cell_at) (defScope s__law_cell_at) .none kV19 doc19 pm19 an19 cdv19 ct19), osl19⟩)
    (c19 : PySem.W.codeIn K cdv19 "_law_cell_at" = true)
    (k19 : PySem.W.keepIn K (.ref f19) = true)
    (a20 : PySem.W.nsIn K mainGlobals "_law_state" = some (some (.ref f20)))
    (l20 : K.lookup f20 = some ⟨oc20, od20, .func (PySem.W.fnOf "_law_state" "_law_state" (defArgs s__law_state) (defBody s__law_state) (defScope s__law_state) .none kV20 doc20 pm20 an20 cdv20 ct20), osl20⟩)
    (c20 : PySem.W.codeIn K cdv20 "_law_state" = true)
    (k20 : PySem.W.keepIn K (.ref f20) = true)
    (a21 : PySem.W.nsIn K mainGlobals "_law_function" = some (some (.ref f21)))
    (l21 : K.lookup f21 = some ⟨oc21, od21, .func (PySem.W.fnOf "_law_function" "_law_function" (defArgs s__law_function) (defBody s__law_function) (defScope s__law_function) .none kV21 doc21 pm21 an21 cdv21 ct21), osl21⟩)
    (c21 : PySem.W.codeIn K cdv21 "_law_function" = true)
    (k21 : PySem.W.keepIn K (.ref f21) = true)
    (a22 : PySem.W.nsIn K mainGlobals "_law_changes" = some (some (.ref f22)))
    (l22 : K.lookup f22 = some ⟨oc22, od22, .func (PySem.W.fnOf "_law_changes" "_law_changes" (defArgs s__law_changes) (defBody s__law_changes) (defScope s__law_changes) .none kV22 doc22 pm22 an22 cdv22 ct22), osl22⟩)
    (c22 : PySem.W.codeIn K cdv22 "_law_changes" = true)
    (k22 : PySem.W.keepIn K (.ref f22) = true)
    (a23 : PySem.W.nsIn K mainGlobals "_law_switches" = some (some (.ref f23)))
    (l23 : K.lookup f23 = some ⟨oc23, od23, .func (PySem.W.fnOf "_law_switches" "_law_switches" (defArgs s__law_switches) (defBody s__law_switches) (defScope s__law_switches) .none kV23 doc23 pm23 an23 cdv23 ct23), osl23⟩)
    (c23 : PySem.W.codeIn K cdv23 "_law_switches" = true)
    (k23 : PySem.W.keepIn K (.ref f23) = true)
    (a24 : PySem.W.nsIn K mainGlobals "_law_bits" = some (some (.ref f24)))
    (l24 : K.lookup f24 = some ⟨oc24, od24, .func (PySem.W.fnOf "_law_bits" "_law_bits" (defArgs s__law_bits) (defBody s__law_bits) (defScope s__law_bits) .none kV24 doc24 pm24 an24 cdv24 ct24), osl24⟩)
    (c24 : PySem.W.codeIn K cdv24 "_law_bits" = true)
    (k24 : PySem.W.keepIn K (.ref f24) = true)
    (a25 : PySem.W.nsIn K mainGlobals "_law_point" = some (some (.ref f25)))
    (l25 : K.lookup f25 = some ⟨oc25, od25, .func (PySem.W.fnOf "_law_point" "_law_point" (defArgs s__law_point) (defBody s__law_point) (defScope s__law_point) .none kV25 doc25 pm25 an25 cdv25 ct25), osl25⟩)
    (c25 : PySem.W.codeIn K cdv25 "_law_point" = true)
    (k25 : PySem.W.keepIn K (.ref f25) = true)
    (a26 : PySem.W.nsIn K mainGlobals "_law_changed" = some (some (.ref f26)))
    (l26 : K.lookup f26 = some ⟨oc26, od26, .func (PySem.W.fnOf "_law_changed" "_law_changed" (defArgs s__law_changed) (defBody s__law_changed) (defScope s__law_changed) .none kV26 doc26 pm26 an26 cdv26 ct26), osl26⟩)
    (c26 : PySem.W.codeIn K cdv26 "_law_changed" = true)
    (k26 : PySem.W.keepIn K (.ref f26) = true)
    (a27 : PySem.W.nsIn K mainGlobals "_law_order" = some (some (.ref f27)))
    (l27 : K.lookup f27 = some ⟨oc27, od27, .func (PySem.W.fnOf "_law_order" "_law_order" (defArgs s__law_order) (defBody s__law_order) (defScope s__law_order) .none kV27 doc27 pm27 an27 cdv27 ct27), osl27⟩)
    (c27 : PySem.W.codeIn K cdv27 "_law_order" = true)
    (k27 : PySem.W.keepIn K (.ref f27) = true)
    (a28 : PySem.W.nsIn K mainGlobals "_law_change" = some (some (.ref f28)))
    (l28 : K.lookup f28 = some ⟨oc28, od28, .func (PySem.W.fnOf "_law_change" "_law_change" (defArgs s__law_change) (defBody s__law_change) (defScope s__law_change) .none kV28 doc28 pm28 an28 cdv28 ct28), osl28⟩)
    (c28 : PySem.W.codeIn K cdv28 "_law_change" = true)
    (k28 : PySem.W.keepIn K (.ref f28) = true)
    (a29 : PySem.W.nsIn K mainGlobals "_law_same" = some (some (.ref f29)))
    (l29 : K.lookup f29 = some ⟨oc29, od29, .func (PySem.W.fnOf "_law_same" "_law_same" (defArgs s__law_same) (defBody s__law_same) (defScope s__law_same) .none kV29 doc29 pm29 an29 cdv29 ct29), osl29⟩)
    (c29 : PySem.W.codeIn K cdv29 "_law_same" = true)
    (k29 : PySem.W.keepIn K (.ref f29) = true)
    (a30 : PySem.W.nsIn K mainGlobals "_law_shown" = some (some (.ref f30)))
    (l30 : K.lookup f30 = some ⟨oc30, od30, .func (PySem.W.fnOf "_law_shown" "_law_shown" (defArgs s__law_shown) (defBody s__law_shown) (defScope s__law_shown) .none kV30 doc30 pm30 an30 cdv30 ct30), osl30⟩)
    (c30 : PySem.W.codeIn K cdv30 "_law_shown" = true)
    (k30 : PySem.W.keepIn K (.ref f30) = true)
    (a31 : PySem.W.nsIn K mainGlobals "_law_refusals_right" = some (some (.ref f31)))
    (l31 : K.lookup f31 = some ⟨oc31, od31, .func (PySem.W.fnOf "_law_refusals_right" "_law_refusals_right" (defArgs s__law_refusals_right) (defBody s__law_refusals_right) (defScope s__law_refusals_right) .none kV31 doc31 pm31 an31 (.ref cdL31) ct31), osl31⟩)
    (c31 : PySem.W.codeIn K (.ref cdL31) "_law_refusals_right" = true)
    (k31 : PySem.W.keepIn K (.ref f31) = true)
    (z_ValueError : PySem.W.nsIn K mainGlobals "ValueError" = some none)
    (z_all : PySem.W.nsIn K mainGlobals "all" = some none)
    (z_bool : PySem.W.nsIn K mainGlobals "bool" = some none)
    (z_int : PySem.W.nsIn K mainGlobals "int" = some none)
    (z_isinstance : PySem.W.nsIn K mainGlobals "isinstance" = some none)
    (z_len : PySem.W.nsIn K mainGlobals "len" = some none)
    (z_list : PySem.W.nsIn K mainGlobals "list" = some none)
    (z_max : PySem.W.nsIn K mainGlobals "max" = some none)
    (z_min : PySem.W.nsIn K mainGlobals "min" = some none)
    (z_range : PySem.W.nsIn K mainGlobals "range" = some none)
    (z_str : PySem.W.nsIn K mainGlobals "str" = some none)
    (z_tuple : PySem.W.nsIn K mainGlobals "tuple" = some none)
    (z_zip : PySem.W.nsIn K mainGlobals "zip" = some none)
    (a_SIGN : PySem.W.nsIn K mainGlobals "SIGN" = some (some (.ref d_SIGN)))
    (l_SIGN : K.lookup d_SIGN = some ⟨.type "dict", none, .dict #[⟨0, .int 0 tk_SIGN_0, .str "0" tv_SIGN_0⟩, ⟨1, .int 1 tk_SIGN_1, .str "1" tv_SIGN_1⟩, ⟨4238894112, .none, .str "-" tv_SIGN_2⟩] n_SIGN, #[]⟩)
    (s_SIGN : (d_SIGN == sysModules) = false)
    (a_SIZES : PySem.W.nsIn K mainGlobals "SIZES" = some (some (.ref d_SIZES)))
    (l_SIZES : K.lookup d_SIZES = some ⟨.type "dict", none, .dict #[⟨2, .int 2 t1, .int 1 u1⟩, ⟨4, .int 4 t2, .int 2 u2⟩, ⟨8, .int 8 t3, .int 3 u3⟩, ⟨16, .int 16 t4, .int 4 u4⟩] n_SIZES, #[]⟩)
    (s_SIZES : (d_SIZES == sysModules) = false)
    (xa_NoFunction : PySem.W.nsIn K mainGlobals "NoFunction" = some (some (.ref C_NoFunction)))
    (xq_NoFunction : PySem.W.excIn K C_NoFunction [.type "ValueError", .type "Exception", .type "BaseException", .type "object"] "ValueError.__new__" = true)
    (xk_NoFunction : PySem.W.keepIn K (.ref C_NoFunction) = true)
    (xb_NoFunction : PySem.W.subIn K (.ref C_NoFunction) (.type "BaseException") = some true)
    (xt_NoFunction : PySem.W.typeIn K (.ref C_NoFunction) = some (.type "type"))
    (ar0 : PySem.W.nsIn K mainGlobals "NoFunction" = some (some (.ref R0)))
    (ar1 : PySem.W.nsIn K mainGlobals "NoTerm" = some (some (.ref R1)))
    (ar2 : PySem.W.nsIn K mainGlobals "NoPoint" = some (some (.ref R2)))
    (ar3 : PySem.W.nsIn K mainGlobals "NoNumber" = some (some (.ref R3)))
    (ar4 : PySem.W.nsIn K mainGlobals "NoText" = some (some (.ref R4)))
    (ar5 : PySem.W.nsIn K mainGlobals "NoLine" = some (some (.ref R5)))
    (ar6 : PySem.W.nsIn K mainGlobals "NoDeed" = some (some (.ref R6)))
    (ar7 : PySem.W.nsIn K mainGlobals "NoForm" = some (some (.ref R7)))
    (ar8 : PySem.W.nsIn K mainGlobals "NoChange" = some (some (.ref R8)))
    (arT : PySem.W.nsIn K mainGlobals "TermError" = some (some (.ref RT)))
    (xq_ref : refOk K [R0, R1, R2, R3, R4, R5, R6, R7, R8] RT = true)
    (s_ref : [R0, R1, R2, R3, R4, R5, R6, R7, R8].Nodup)
    (aL : PySem.W.nsIn K mainGlobals "law" = some (some (.ref fL)))
    (lL : K.lookup fL = some ⟨ocL, odL, .func (PySem.W.fnOf "law" "law" (defArgs s_law) (defBody s_law) (defScope s_law) .none kVL docL pmL anL cdvL ctL), oslL⟩) (cL : PySem.W.codeIn K cdvL "law" = true) (kL : PySem.W.keepIn K (.ref fL) = true)
    (lcL31 : K.lookup cdL31 = some ⟨coL31, codL31, .fields vsL31, cslL31⟩) (xpL31 : vsL31[11]? = some (.ref PL31)) (nTL31 : K.lookup PL31 = none) (xhL31 : PySem.W.codeHdIn K cdL31 PL31 = true) (yTL31 : h.get? PL31 = some { cls := .none, data := .fields #[] })
    (hlaw : ∀ ns : List Int, ∃ S, sem_law [.s ns] [] = .ok (bD true) S) :
    LamX.LawAtS l w K (L2.CX l.prog w) 9 63 "_law_script" mg fa h := by
  have e := hfa.symm.trans (PySem.W.mg_of X G aL)
  cases e
  have T := tops_mk (w := w) X G a0 l0 c0 k0 a1 l1 c1 k1 a2 l2 c2 k2 a3 l3 c3 k3 a4 l4 c4 k4 a5 l5 c5 k5 a6 l6 c6 k6 a7 l7 c7 k7 a8 l8 c8 k8 a9 l9 c9 k9 a10 l10 c10 k10 a11 l11 c11 k11 a12 l12 c12 k12 a13 l13 c13 k13 a14 l14 c14 k14 a15 l15 c15 k15 a16 l16 c16 k16 a17 l17 c17 k17 a18 l18 c18 k18 a19 l19 c19 k19 a20 l20 c20 k20 a21 l21 c21 k21 a22 l22 c22 k22 a23 l23 c23 k23 a24 l24 c24 k24 a25 l25 c25 k25 a26 l26 c26 k26 a27 l27 c27 k27 a28 l28 c28 k28 a29 l29 c29 k29 a30 l30 c30 k30 a31 l31 c31 k31 z_ValueError z_all z_bool z_int z_isinstance z_len z_list z_max z_min z_range z_str z_tuple z_zip a_SIGN l_SIGN s_SIGN a_SIZES l_SIZES s_SIZES xa_NoFunction xq_NoFunction xk_NoFunction xb_NoFunction xt_NoFunction ar0 ar1 ar2 ar3 ar4 ar5 ar6 ar7 ar8 arT xq_ref s_ref
  have hKL31 := tab_of_law a31 l31 lcL31 xpL31
  have hTK : tabsK K = [(PL31, (("_law_refusals_right" : Str) ++ ".<locals>.") ++ "<lambda>")] := by unfold tabsK ldsK; simp only [List.flatMap_cons, List.flatMap_nil, tabOf_of hKL31, List.append_nil, List.cons_append, List.nil_append]
  have UL31 : TabIn (tabsK K) PL31 ((("_law_refusals_right" : Str) ++ ".<locals>.") ++ "<lambda>") := tabIn_of (by rw [hTK]; simp) (by rw [hTK]; simp)
  have F := fun_mk (x := "law") (qual := "law") (st := s_law) lL cL kL
  have FL31 := fun_mk (x := "_law_refusals_right") (qual := "_law_refusals_right") (st := s__law_refusals_right) l31 c31 k31
  have BL31 := FL31.binds (ps := ["_law_state_here", "_law_one"]) fun _ _ _ _ _ _ us hl => match us, hl with | [_, _], _ => rfl
  exact law_at (cs := [(cdL31, PL31)]) (by rw [hTK]; rfl) (fun p hp => by simp only [List.mem_cons, List.not_mem_nil, or_false] at hp; rcases hp with rfl <;> first | exact yTL31) (fun p hp => by simp only [List.mem_cons, List.not_mem_nil, or_false] at hp; rcases hp with rfl <;> first | exact nTL31) (fun p hp => by simp only [List.mem_cons, List.not_mem_nil, or_false] at hp; rcases hp with rfl <;> first | exact PySem.W.codeHd_of_K X xhL31) (fun s u => .of_eq rfl) (fun base hK1 hN TB => ok_law T (ok__law_refusals_right T (TB (cdL31, PL31) (by simp)) UL31 l31 c31 (PySem.W.mg_of X G a31) k31 BL31) F) fun ns _ _ => hlaw ns
--LDS _law_refusals_right
--EXTRA lcL31 xpL31 nTL31 xhL31 yTL31
end PD

namespace PD
open PySem PySem.Spec PyProof.Rows L2
theorem e_isW (d : D) (S : Cs) : sem_is_whole [.d d] S = .ok (bD (isInt d)) S := by
  have h1 : dIsi "int" d = some (bD (isInt d || (match d with | .bool _ => true | _ => false))) := by cases d <;> rfl
  have h2 : dIsi "bool" d = some (bD (match d with | .bool _ => true | _ => false)) := by cases d <;> rfl
  simp only [sem_is_whole, b_is_whole, p_body, p_skip, p_seq, p_set, p_ret, p_retN, p_retV_s, p_retV_0, p_exp, p_if, p_raise, p_app, p_ext, p_setT, p_for, p_cell', nxt_nx, nxt_rt, nxt_exc, fin_nx, fin_rt, fin_exc, set_ok, set_exc, ret_ok, ret_exc, exp_ok, exp_exc, if_tt, if_ff, if_ok, if_exc, for_ok, for_exc, app_s, app_0, app_0o, ext_s, ext_0, cons_nx, cons_exc, setT_ok, cell_ok, pop_nx, pop_rt, unC_nil, unC_n, unC_d, unC_st, no_nil, no_n, no_a, mask_nil, mask_t, mask_f, dom_nil, dom_s, dom_n, start_0, start_s, setW_nil, setW_cons, ev_nil, ev_n, ev_a, ev_o, ev_own, frzE_nil, frzE_cons, frz1_s, frz1_0o, frz1_0a, frz1_0n, sNm_ap, sTp_ap, q_var0, q_varS, q_c, q_bin, bin1_a, bin1_o, bin1_e, bin2_a, bin2_o, bin2_e, q_un, un1_a, un1_o, q_call, call_n, call_c, call1_a, call1_o, call1_e, q_tup, allD_nil, allD_cons, tupE_ap, q_lst, lst_n, lst_c, lst1_ok, q_comp, comp_ok, q_and, and_tt, and_ff, asB_ok, asB_e, and_ok, and_fold, q_or, or_tt, or_ff, or_ok, or_fold, q_not, not_ok, not_e, q_ife, ife_tt, ife_ff, ife_ok, q_seq, q_rng1, q_rng2, q_enum, q_zip, srcS_a, srcS_o, src1_a, src1_o, src2_a, src2_o, of_some, q_sl, sl_nn, sl_n, sl_s, slo_nn, slo_n, slo_s, slLo_n, slLo_s, slHi_ok, slLo_n', slLo_s', slHi_ok', q_sm, sm1_a, sm2_a, sm2_o, on1_ap, onD1_ap, true_ap, gNm_ap, gTp_ap, setD_nil, setD_cons, wipe_nil, wipe_cons, max2_ap, rng1_n, rng1_l, rng1_1, Nat.reduceAdd, Nat.reduceSub, Nat.reduceLeDiff, List.length_cons, List.length_nil, List.length_map, List.length_range, List.replicate, List.set_cons_zero, List.set_cons_succ, List.map_cons, List.map_nil, List.cons_append, List.nil_append, Option.map_some, if_true, Bool.false_eq_true, if_false, Bool.not_true, Bool.not_false, o_add, o_sub, o_shr, o_band, o_lt, o_le, o_gt, o_ge, own0, own1, own2, own3, own4, own5, own6, own7, own8, own9, own10, own11, own12, seqD_lst, seqD_tup, seqD_eF, seqD_eG, i2n, isi_eF, isi_eG, isi_eT, gLen_eF, gLen_eG, gLen_lst, gLen_tup, dAll_m, dAny_m, all_tt, dInt_b, isi_int_none, isi_int_bool, isi_int_int, isi_int_str, isi_int_list, isi_int_tuple, isi_bool_none, isi_bool_bool, isi_bool_int, isi_bool_str, isi_bool_list, isi_bool_tuple, isi_str_none, isi_str_bool, isi_str_int, isi_str_str, isi_str_list, isi_str_tuple, isi_list_none, isi_list_bool, isi_list_int, isi_list_str, isi_list_list, isi_list_tuple, isi_tuple_none, isi_tuple_bool, isi_tuple_int, isi_tuple_str, isi_tuple_list, isi_tuple_tuple, isi2_tl_none, isi2_tl_bool, isi2_tl_int, isi2_tl_str, isi2_tl_list, isi2_tl_tuple, zip2, zipD_map, isi_int_dict, isi_bool_dict, isi_str_dict, isi_list_dict, isi_tuple_dict, isi2_tl_dict, dIsN, dNotN, p_setIx, setIx1_ok, setIx2_s, bin1_w, bin1o_some, toDs_nil, toDs_a, toDs_o, ret_nxt, rngD_map, Int.reduceToNat, p_appV, appV_ok', p_forB, forB_ok, sm1_T, List.getElem?_cons_succ, List.getElem?_cons_zero, q_chain, ch1_a, ch2_a, ch3_tt, ch3_ff, ch4_a, lt_TT, par_ap, par1_ok, par2_ok, srcS_e, src1_e, src2_e, comp_e, un1_e, lst1_e, and_e, or_e, q_sm0, sm01_a, sm01_T, smO_some, app_0w, h1, h2]
  cases d <;> rfl
theorem e_isA (d : D) (S : Cs) : sem_is_answer [.d d] S = .ok (bD (isAns d)) S := by
  cases d with
  | int i =>
    simp only [sem_is_answer, b_is_answer, p_body, p_skip, p_seq, p_set, p_ret, p_retN, p_retV_s, p_retV_0, p_exp, p_if, p_raise, p_app, p_ext, p_setT, p_for, p_cell', nxt_nx, nxt_rt, nxt_exc, fin_nx, fin_rt, fin_exc, set_ok, set_exc, ret_ok, ret_exc, exp_ok, exp_exc, if_tt, if_ff, if_ok, if_exc, for_ok, for_exc, app_s, app_0, app_0o, ext_s, ext_0, cons_nx, cons_exc, setT_ok, cell_ok, pop_nx, pop_rt, unC_nil, unC_n, unC_d, unC_st, no_nil, no_n, no_a, mask_nil, mask_t, mask_f, dom_nil, dom_s, dom_n, start_0, start_s, setW_nil, setW_cons, ev_nil, ev_n, ev_a, ev_o, ev_own, frzE_nil, frzE_cons, frz1_s, frz1_0o, frz1_0a, frz1_0n, sNm_ap, sTp_ap, q_var0, q_varS, q_c, q_bin, bin1_a, bin1_o, bin1_e, bin2_a, bin2_o, bin2_e, q_un, un1_a, un1_o, q_call, call_n, call_c, call1_a, call1_o, call1_e, q_tup, allD_nil, allD_cons, tupE_ap, q_lst, lst_n, lst_c, lst1_ok, q_comp, comp_ok, q_and, and_tt, and_ff, asB_ok, asB_e, and_ok, and_fold, q_or, or_tt, or_ff, or_ok, or_fold, q_not, not_ok, not_e, q_ife, ife_tt, ife_ff, ife_ok, q_seq, q_rng1, q_rng2, q_enum, q_zip, srcS_a, srcS_o, src1_a, src1_o, src2_a, src2_o, of_some, q_sl, sl_nn, sl_n, sl_s, slo_nn, slo_n, slo_s, slLo_n, slLo_s, slHi_ok, slLo_n', slLo_s', slHi_ok', q_sm, sm1_a, sm2_a, sm2_o, on1_ap, onD1_ap, true_ap, gNm_ap, gTp_ap, setD_nil, setD_cons, wipe_nil, wipe_cons, max2_ap, rng1_n, rng1_l, rng1_1, Nat.reduceAdd, Nat.reduceSub, Nat.reduceLeDiff, List.length_cons, List.length_nil, List.length_map, List.length_range, List.replicate, List.set_cons_zero, List.set_cons_succ, List.map_cons, List.map_nil, List.cons_append, List.nil_append, Option.map_some, if_true, Bool.false_eq_true, if_false, Bool.not_true, Bool.not_false, o_add, o_sub, o_shr, o_band, o_lt, o_le, o_gt, o_ge, own0, own1, own2, own3, own4, own5, own6, own7, own8, own9, own10, own11, own12, seqD_lst, seqD_tup, seqD_eF, seqD_eG, i2n, isi_eF, isi_eG, isi_eT, gLen_eF, gLen_eG, gLen_lst, gLen_tup, dAll_m, dAny_m, all_tt, dInt_b, isi_int_none, isi_int_bool, isi_int_int, isi_int_str, isi_int_list, isi_int_tuple, isi_bool_none, isi_bool_bool, isi_bool_int, isi_bool_str, isi_bool_list, isi_bool_tuple, isi_str_none, isi_str_bool, isi_str_int, isi_str_str, isi_str_list, isi_str_tuple, isi_list_none, isi_list_bool, isi_list_int, isi_list_str, isi_list_list, isi_list_tuple, isi_tuple_none, isi_tuple_bool, isi_tuple_int, isi_tuple_str, isi_tuple_list, isi_tuple_tuple, isi2_tl_none, isi2_tl_bool, isi2_tl_int, isi2_tl_str, isi2_tl_list, isi2_tl_tuple, zip2, zipD_map, isi_int_dict, isi_bool_dict, isi_str_dict, isi_list_dict, isi_tuple_dict, isi2_tl_dict, dIsN, dNotN, p_setIx, setIx1_ok, setIx2_s, bin1_w, bin1o_some, toDs_nil, toDs_a, toDs_o, ret_nxt, rngD_map, Int.reduceToNat, p_appV, appV_ok', p_forB, forB_ok, sm1_T, List.getElem?_cons_succ, List.getElem?_cons_zero, q_chain, ch1_a, ch2_a, ch3_tt, ch3_ff, ch4_a, lt_TT, par_ap, par1_ok, par2_ok, srcS_e, src1_e, src2_e, comp_e, un1_e, lst1_e, and_e, or_e, q_sm0, sm01_a, sm01_T, smO_some, app_0w, e_isW, isInt, o_in_tup (x := .int i) (ds := [.int 0, .int 1]) S rfl rfl]
    simp [inD, isAns, PyData.eqv]
  | _ => simp only [sem_is_answer, b_is_answer, p_body, p_skip, p_seq, p_set, p_ret, p_retN, p_retV_s, p_retV_0, p_exp, p_if, p_raise, p_app, p_ext, p_setT, p_for, p_cell', nxt_nx, nxt_rt, nxt_exc, fin_nx, fin_rt, fin_exc, set_ok, set_exc, ret_ok, ret_exc, exp_ok, exp_exc, if_tt, if_ff, if_ok, if_exc, for_ok, for_exc, app_s, app_0, app_0o, ext_s, ext_0, cons_nx, cons_exc, setT_ok, cell_ok, pop_nx, pop_rt, unC_nil, unC_n, unC_d, unC_st, no_nil, no_n, no_a, mask_nil, mask_t, mask_f, dom_nil, dom_s, dom_n, start_0, start_s, setW_nil, setW_cons, ev_nil, ev_n, ev_a, ev_o, ev_own, frzE_nil, frzE_cons, frz1_s, frz1_0o, frz1_0a, frz1_0n, sNm_ap, sTp_ap, q_var0, q_varS, q_c, q_bin, bin1_a, bin1_o, bin1_e, bin2_a, bin2_o, bin2_e, q_un, un1_a, un1_o, q_call, call_n, call_c, call1_a, call1_o, call1_e, q_tup, allD_nil, allD_cons, tupE_ap, q_lst, lst_n, lst_c, lst1_ok, q_comp, comp_ok, q_and, and_tt, and_ff, asB_ok, asB_e, and_ok, and_fold, q_or, or_tt, or_ff, or_ok, or_fold, q_not, not_ok, not_e, q_ife, ife_tt, ife_ff, ife_ok, q_seq, q_rng1, q_rng2, q_enum, q_zip, srcS_a, srcS_o, src1_a, src1_o, src2_a, src2_o, of_some, q_sl, sl_nn, sl_n, sl_s, slo_nn, slo_n, slo_s, slLo_n, slLo_s, slHi_ok, slLo_n', slLo_s', slHi_ok', q_sm, sm1_a, sm2_a, sm2_o, on1_ap, onD1_ap, true_ap, gNm_ap, gTp_ap, setD_nil, setD_cons, wipe_nil, wipe_cons, max2_ap, rng1_n, rng1_l, rng1_1, Nat.reduceAdd, Nat.reduceSub, Nat.reduceLeDiff, List.length_cons, List.length_nil, List.length_map, List.length_range, List.replicate, List.set_cons_zero, List.set_cons_succ, List.map_cons, List.map_nil, List.cons_append, List.nil_append, Option.map_some, if_true, Bool.false_eq_true, if_false, Bool.not_true, Bool.not_false, o_add, o_sub, o_shr, o_band, o_lt, o_le, o_gt, o_ge, own0, own1, own2, own3, own4, own5, own6, own7, own8, own9, own10, own11, own12, seqD_lst, seqD_tup, seqD_eF, seqD_eG, i2n, isi_eF, isi_eG, isi_eT, gLen_eF, gLen_eG, gLen_lst, gLen_tup, dAll_m, dAny_m, all_tt, dInt_b, isi_int_none, isi_int_bool, isi_int_int, isi_int_str, isi_int_list, isi_int_tuple, isi_bool_none, isi_bool_bool, isi_bool_int, isi_bool_str, isi_bool_list, isi_bool_tuple, isi_str_none, isi_str_bool, isi_str_int, isi_str_str, isi_str_list, isi_str_tuple, isi_list_none, isi_list_bool, isi_list_int, isi_list_str, isi_list_list, isi_list_tuple, isi_tuple_none, isi_tuple_bool, isi_tuple_int, isi_tuple_str, isi_tuple_list, isi_tuple_tuple, isi2_tl_none, isi2_tl_bool, isi2_tl_int, isi2_tl_str, isi2_tl_list, isi2_tl_tuple, zip2, zipD_map, isi_int_dict, isi_bool_dict, isi_str_dict, isi_list_dict, isi_tuple_dict, isi2_tl_dict, dIsN, dNotN, p_setIx, setIx1_ok, setIx2_s, bin1_w, bin1o_some, toDs_nil, toDs_a, toDs_o, ret_nxt, rngD_map, Int.reduceToNat, p_appV, appV_ok', p_forB, forB_ok, sm1_T, List.getElem?_cons_succ, List.getElem?_cons_zero, q_chain, ch1_a, ch2_a, ch3_tt, ch3_ff, ch4_a, lt_TT, par_ap, par1_ok, par2_ok, srcS_e, src1_e, src2_e, comp_e, un1_e, lst1_e, and_e, or_e, q_sm0, sm01_a, sm01_T, smO_some, app_0w, e_isW, isInt, isAns]
theorem e_isF (d : D) (S : Cs) : sem_is_function [.d d] S = .ok (bD (isFnD d)) S := by
  simp only [sem_is_function, b_is_function, p_body, p_skip, p_seq, p_set, p_ret, p_retN, p_retV_s, p_retV_0, p_exp, p_if, p_raise, p_app, p_ext, p_setT, p_for, p_cell', nxt_nx, nxt_rt, nxt_exc, fin_nx, fin_rt, fin_exc, set_ok, set_exc, ret_ok, ret_exc, exp_ok, exp_exc, if_tt, if_ff, if_ok, if_exc, for_ok, for_exc, app_s, app_0, app_0o, ext_s, ext_0, cons_nx, cons_exc, setT_ok, cell_ok, pop_nx, pop_rt, unC_nil, unC_n, unC_d, unC_st, no_nil, no_n, no_a, mask_nil, mask_t, mask_f, dom_nil, dom_s, dom_n, start_0, start_s, setW_nil, setW_cons, ev_nil, ev_n, ev_a, ev_o, ev_own, frzE_nil, frzE_cons, frz1_s, frz1_0o, frz1_0a, frz1_0n, sNm_ap, sTp_ap, q_var0, q_varS, q_c, q_bin, bin1_a, bin1_o, bin1_e, bin2_a, bin2_o, bin2_e, q_un, un1_a, un1_o, q_call, call_n, call_c, call1_a, call1_o, call1_e, q_tup, allD_nil, allD_cons, tupE_ap, q_lst, lst_n, lst_c, lst1_ok, q_comp, comp_ok, q_and, and_tt, and_ff, asB_ok, asB_e, and_ok, and_fold, q_or, or_tt, or_ff, or_ok, or_fold, q_not, not_ok, not_e, q_ife, ife_tt, ife_ff, ife_ok, q_seq, q_rng1, q_rng2, q_enum, q_zip, srcS_a, srcS_o, src1_a, src1_o, src2_a, src2_o, of_some, q_sl, sl_nn, sl_n, sl_s, slo_nn, slo_n, slo_s, slLo_n, slLo_s, slHi_ok, slLo_n', slLo_s', slHi_ok', q_sm, sm1_a, sm2_a, sm2_o, on1_ap, onD1_ap, true_ap, gNm_ap, gTp_ap, setD_nil, setD_cons, wipe_nil, wipe_cons, max2_ap, rng1_n, rng1_l, rng1_1, Nat.reduceAdd, Nat.reduceSub, Nat.reduceLeDiff, List.length_cons, List.length_nil, List.length_map, List.length_range, List.replicate, List.set_cons_zero, List.set_cons_succ, List.map_cons, List.map_nil, List.cons_append, List.nil_append, Option.map_some, if_true, Bool.false_eq_true, if_false, Bool.not_true, Bool.not_false, o_add, o_sub, o_shr, o_band, o_lt, o_le, o_gt, o_ge, own0, own1, own2, own3, own4, own5, own6, own7, own8, own9, own10, own11, own12, seqD_lst, seqD_tup, seqD_eF, seqD_eG, i2n, isi_eF, isi_eG, isi_eT, gLen_eF, gLen_eG, gLen_lst, gLen_tup, dAll_m, dAny_m, all_tt, dInt_b, isi_int_none, isi_int_bool, isi_int_int, isi_int_str, isi_int_list, isi_int_tuple, isi_bool_none, isi_bool_bool, isi_bool_int, isi_bool_str, isi_bool_list, isi_bool_tuple, isi_str_none, isi_str_bool, isi_str_int, isi_str_str, isi_str_list, isi_str_tuple, isi_list_none, isi_list_bool, isi_list_int, isi_list_str, isi_list_list, isi_list_tuple, isi_tuple_none, isi_tuple_bool, isi_tuple_int, isi_tuple_str, isi_tuple_list, isi_tuple_tuple, isi2_tl_none, isi2_tl_bool, isi2_tl_int, isi2_tl_str, isi2_tl_list, isi2_tl_tuple, zip2, zipD_map, isi_int_dict, isi_bool_dict, isi_str_dict, isi_list_dict, isi_tuple_dict, isi2_tl_dict, dIsN, dNotN, p_setIx, setIx1_ok, setIx2_s, bin1_w, bin1o_some, toDs_nil, toDs_a, toDs_o, ret_nxt, rngD_map, Int.reduceToNat, p_appV, appV_ok', p_forB, forB_ok, sm1_T, List.getElem?_cons_succ, List.getElem?_cons_zero, q_chain, ch1_a, ch2_a, ch3_tt, ch3_ff, ch4_a, lt_TT, par_ap, par1_ok, par2_ok, srcS_e, src1_e, src2_e, comp_e, un1_e, lst1_e, and_e, or_e, q_sm0, sm01_a, sm01_T, smO_some, app_0w]
  cases d with
  | tuple ds =>
    have hl : gLen [.d (.tuple ds)] S = .ok (iD ds.length) S := rfl
    have hc : compL (gNm 1) fTrue (fCall sem_is_answer [fVar 1]) [some (.d (.tuple ds)), none] ds S [] = .ok (ownD (ds.map fun d => .bool (isAns d))) S := by
      have := compL_m (g := gNm 1) (fe := fCall sem_is_answer [fVar 1]) (ρ := [some (.d (.tuple ds)), none]) (S := S) id (fun d => .bool (isAns d)) ds (fun d _ => ⟨_, rfl, by simp only [p_body, p_skip, p_seq, p_set, p_ret, p_retN, p_retV_s, p_retV_0, p_exp, p_if, p_raise, p_app, p_ext, p_setT, p_for, p_cell', nxt_nx, nxt_rt, nxt_exc, fin_nx, fin_rt, fin_exc, set_ok, set_exc, ret_ok, ret_exc, exp_ok, exp_exc, if_tt, if_ff, if_ok, if_exc, for_ok, for_exc, app_s, app_0, app_0o, ext_s, ext_0, cons_nx, cons_exc, setT_ok, cell_ok, pop_nx, pop_rt, unC_nil, unC_n, unC_d, unC_st, no_nil, no_n, no_a, mask_nil, mask_t, mask_f, dom_nil, dom_s, dom_n, start_0, start_s, setW_nil, setW_cons, ev_nil, ev_n, ev_a, ev_o, ev_own, frzE_nil, frzE_cons, frz1_s, frz1_0o, frz1_0a, frz1_0n, sNm_ap, sTp_ap, q_var0, q_varS, q_c, q_bin, bin1_a, bin1_o, bin1_e, bin2_a, bin2_o, bin2_e, q_un, un1_a, un1_o, q_call, call_n, call_c, call1_a, call1_o, call1_e, q_tup, allD_nil, allD_cons, tupE_ap, q_lst, lst_n, lst_c, lst1_ok, q_comp, comp_ok, q_and, and_tt, and_ff, asB_ok, asB_e, and_ok, and_fold, q_or, or_tt, or_ff, or_ok, or_fold, q_not, not_ok, not_e, q_ife, ife_tt, ife_ff, ife_ok, q_seq, q_rng1, q_rng2, q_enum, q_zip, srcS_a, srcS_o, src1_a, src1_o, src2_a, src2_o, of_some, q_sl, sl_nn, sl_n, sl_s, slo_nn, slo_n, slo_s, slLo_n, slLo_s, slHi_ok, slLo_n', slLo_s', slHi_ok', q_sm, sm1_a, sm2_a, sm2_o, on1_ap, onD1_ap, true_ap, gNm_ap, gTp_ap, setD_nil, setD_cons, wipe_nil, wipe_cons, max2_ap, rng1_n, rng1_l, rng1_1, Nat.reduceAdd, Nat.reduceSub, Nat.reduceLeDiff, List.length_cons, List.length_nil, List.length_map, List.length_range, List.replicate, List.set_cons_zero, List.set_cons_succ, List.map_cons, List.map_nil, List.cons_append, List.nil_append, Option.map_some, if_true, Bool.false_eq_true, if_false, Bool.not_true, Bool.not_false, o_add, o_sub, o_shr, o_band, o_lt, o_le, o_gt, o_ge, own0, own1, own2, own3, own4, own5, own6, own7, own8, own9, own10, own11, own12, seqD_lst, seqD_tup, seqD_eF, seqD_eG, i2n, isi_eF, isi_eG, isi_eT, gLen_eF, gLen_eG, gLen_lst, gLen_tup, dAll_m, dAny_m, all_tt, dInt_b, isi_int_none, isi_int_bool, isi_int_int, isi_int_str, isi_int_list, isi_int_tuple, isi_bool_none, isi_bool_bool, isi_bool_int, isi_bool_str, isi_bool_list, isi_bool_tuple, isi_str_none, isi_str_bool, isi_str_int, isi_str_str, isi_str_list, isi_str_tuple, isi_list_none, isi_list_bool, isi_list_int, isi_list_str, isi_list_list, isi_list_tuple, isi_tuple_none, isi_tuple_bool, isi_tuple_int, isi_tuple_str, isi_tuple_list, isi_tuple_tuple, isi2_tl_none, isi2_tl_bool, isi2_tl_int, isi2_tl_str, isi2_tl_list, isi2_tl_tuple, zip2, zipD_map, isi_int_dict, isi_bool_dict, isi_str_dict, isi_list_dict, isi_tuple_dict, isi2_tl_dict, dIsN, dNotN, p_setIx, setIx1_ok, setIx2_s, bin1_w, bin1o_some, toDs_nil, toDs_a, toDs_o, ret_nxt, rngD_map, Int.reduceToNat, p_appV, appV_ok', p_forB, forB_ok, sm1_T, List.getElem?_cons_succ, List.getElem?_cons_zero, q_chain, ch1_a, ch2_a, ch3_tt, ch3_ff, ch4_a, lt_TT, par_ap, par1_ok, par2_ok, srcS_e, src1_e, src2_e, comp_e, un1_e, lst1_e, and_e, or_e, q_sm0, sm01_a, sm01_T, smO_some, app_0w, e_isA, id]⟩)
      simpa using this
    simp only [p_body, p_skip, p_seq, p_set, p_ret, p_retN, p_retV_s, p_retV_0, p_exp, p_if, p_raise, p_app, p_ext, p_setT, p_for, p_cell', nxt_nx, nxt_rt, nxt_exc, fin_nx, fin_rt, fin_exc, set_ok, set_exc, ret_ok, ret_exc, exp_ok, exp_exc, if_tt, if_ff, if_ok, if_exc, for_ok, for_exc, app_s, app_0, app_0o, ext_s, ext_0, cons_nx, cons_exc, setT_ok, cell_ok, pop_nx, pop_rt, unC_nil, unC_n, unC_d, unC_st, no_nil, no_n, no_a, mask_nil, mask_t, mask_f, dom_nil, dom_s, dom_n, start_0, start_s, setW_nil, setW_cons, ev_nil, ev_n, ev_a, ev_o, ev_own, frzE_nil, frzE_cons, frz1_s, frz1_0o, frz1_0a, frz1_0n, sNm_ap, sTp_ap, q_var0, q_varS, q_c, q_bin, bin1_a, bin1_o, bin1_e, bin2_a, bin2_o, bin2_e, q_un, un1_a, un1_o, q_call, call_n, call_c, call1_a, call1_o, call1_e, q_tup, allD_nil, allD_cons, tupE_ap, q_lst, lst_n, lst_c, lst1_ok, q_comp, comp_ok, q_and, and_tt, and_ff, asB_ok, asB_e, and_ok, and_fold, q_or, or_tt, or_ff, or_ok, or_fold, q_not, not_ok, not_e, q_ife, ife_tt, ife_ff, ife_ok, q_seq, q_rng1, q_rng2, q_enum, q_zip, srcS_a, srcS_o, src1_a, src1_o, src2_a, src2_o, of_some, q_sl, sl_nn, sl_n, sl_s, slo_nn, slo_n, slo_s, slLo_n, slLo_s, slHi_ok, slLo_n', slLo_s', slHi_ok', q_sm, sm1_a, sm2_a, sm2_o, on1_ap, onD1_ap, true_ap, gNm_ap, gTp_ap, setD_nil, setD_cons, wipe_nil, wipe_cons, max2_ap, rng1_n, rng1_l, rng1_1, Nat.reduceAdd, Nat.reduceSub, Nat.reduceLeDiff, List.length_cons, List.length_nil, List.length_map, List.length_range, List.replicate, List.set_cons_zero, List.set_cons_succ, List.map_cons, List.map_nil, List.cons_append, List.nil_append, Option.map_some, if_true, Bool.false_eq_true, if_false, Bool.not_true, Bool.not_false, o_add, o_sub, o_shr, o_band, o_lt, o_le, o_gt, o_ge, own0, own1, own2, own3, own4, own5, own6, own7, own8, own9, own10, own11, own12, seqD_lst, seqD_tup, seqD_eF, seqD_eG, i2n, isi_eF, isi_eG, isi_eT, gLen_eF, gLen_eG, gLen_lst, gLen_tup, dAll_m, dAny_m, all_tt, dInt_b, isi_int_none, isi_int_bool, isi_int_int, isi_int_str, isi_int_list, isi_int_tuple, isi_bool_none, isi_bool_bool, isi_bool_int, isi_bool_str, isi_bool_list, isi_bool_tuple, isi_str_none, isi_str_bool, isi_str_int, isi_str_str, isi_str_list, isi_str_tuple, isi_list_none, isi_list_bool, isi_list_int, isi_list_str, isi_list_list, isi_list_tuple, isi_tuple_none, isi_tuple_bool, isi_tuple_int, isi_tuple_str, isi_tuple_list, isi_tuple_tuple, isi2_tl_none, isi2_tl_bool, isi2_tl_int, isi2_tl_str, isi2_tl_list, isi2_tl_tuple, zip2, zipD_map, isi_int_dict, isi_bool_dict, isi_str_dict, isi_list_dict, isi_tuple_dict, isi2_tl_dict, dIsN, dNotN, p_setIx, setIx1_ok, setIx2_s, bin1_w, bin1o_some, toDs_nil, toDs_a, toDs_o, ret_nxt, rngD_map, Int.reduceToNat, p_appV, appV_ok', p_forB, forB_ok, sm1_T, List.getElem?_cons_succ, List.getElem?_cons_zero, q_chain, ch1_a, ch2_a, ch3_tt, ch3_ff, ch4_a, lt_TT, par_ap, par1_ok, par2_ok, srcS_e, src1_e, src2_e, comp_e, un1_e, lst1_e, and_e, or_e, q_sm0, sm01_a, sm01_T, smO_some, app_0w, hl, dInKI, hc, isFnD, dAll_m]
  | _ => simp only [p_body, p_skip, p_seq, p_set, p_ret, p_retN, p_retV_s, p_retV_0, p_exp, p_if, p_raise, p_app, p_ext, p_setT, p_for, p_cell', nxt_nx, nxt_rt, nxt_exc, fin_nx, fin_rt, fin_exc, set_ok, set_exc, ret_ok, ret_exc, exp_ok, exp_exc, if_tt, if_ff, if_ok, if_exc, for_ok, for_exc, app_s, app_0, app_0o, ext_s, ext_0, cons_nx, cons_exc, setT_ok, cell_ok, pop_nx, pop_rt, unC_nil, unC_n, unC_d, unC_st, no_nil, no_n, no_a, mask_nil, mask_t, mask_f, dom_nil, dom_s, dom_n, start_0, start_s, setW_nil, setW_cons, ev_nil, ev_n, ev_a, ev_o, ev_own, frzE_nil, frzE_cons, frz1_s, frz1_0o, frz1_0a, frz1_0n, sNm_ap, sTp_ap, q_var0, q_varS, q_c, q_bin, bin1_a, bin1_o, bin1_e, bin2_a, bin2_o, bin2_e, q_un, un1_a, un1_o, q_call, call_n, call_c, call1_a, call1_o, call1_e, q_tup, allD_nil, allD_cons, tupE_ap, q_lst, lst_n, lst_c, lst1_ok, q_comp, comp_ok, q_and, and_tt, and_ff, asB_ok, asB_e, and_ok, and_fold, q_or, or_tt, or_ff, or_ok, or_fold, q_not, not_ok, not_e, q_ife, ife_tt, ife_ff, ife_ok, q_seq, q_rng1, q_rng2, q_enum, q_zip, srcS_a, srcS_o, src1_a, src1_o, src2_a, src2_o, of_some, q_sl, sl_nn, sl_n, sl_s, slo_nn, slo_n, slo_s, slLo_n, slLo_s, slHi_ok, slLo_n', slLo_s', slHi_ok', q_sm, sm1_a, sm2_a, sm2_o, on1_ap, onD1_ap, true_ap, gNm_ap, gTp_ap, setD_nil, setD_cons, wipe_nil, wipe_cons, max2_ap, rng1_n, rng1_l, rng1_1, Nat.reduceAdd, Nat.reduceSub, Nat.reduceLeDiff, List.length_cons, List.length_nil, List.length_map, List.length_range, List.replicate, List.set_cons_zero, List.set_cons_succ, List.map_cons, List.map_nil, List.cons_append, List.nil_append, Option.map_some, if_true, Bool.false_eq_true, if_false, Bool.not_true, Bool.not_false, o_add, o_sub, o_shr, o_band, o_lt, o_le, o_gt, o_ge, own0, own1, own2, own3, own4, own5, own6, own7, own8, own9, own10, own11, own12, seqD_lst, seqD_tup, seqD_eF, seqD_eG, i2n, isi_eF, isi_eG, isi_eT, gLen_eF, gLen_eG, gLen_lst, gLen_tup, dAll_m, dAny_m, all_tt, dInt_b, isi_int_none, isi_int_bool, isi_int_int, isi_int_str, isi_int_list, isi_int_tuple, isi_bool_none, isi_bool_bool, isi_bool_int, isi_bool_str, isi_bool_list, isi_bool_tuple, isi_str_none, isi_str_bool, isi_str_int, isi_str_str, isi_str_list, isi_str_tuple, isi_list_none, isi_list_bool, isi_list_int, isi_list_str, isi_list_list, isi_list_tuple, isi_tuple_none, isi_tuple_bool, isi_tuple_int, isi_tuple_str, isi_tuple_list, isi_tuple_tuple, isi2_tl_none, isi2_tl_bool, isi2_tl_int, isi2_tl_str, isi2_tl_list, isi2_tl_tuple, zip2, zipD_map, isi_int_dict, isi_bool_dict, isi_str_dict, isi_list_dict, isi_tuple_dict, isi2_tl_dict, dIsN, dNotN, p_setIx, setIx1_ok, setIx2_s, bin1_w, bin1o_some, toDs_nil, toDs_a, toDs_o, ret_nxt, rngD_map, Int.reduceToNat, p_appV, appV_ok', p_forB, forB_ok, sm1_T, List.getElem?_cons_succ, List.getElem?_cons_zero, q_chain, ch1_a, ch2_a, ch3_tt, ch3_ff, ch4_a, lt_TT, par_ap, par1_ok, par2_ok, srcS_e, src1_e, src2_e, comp_e, un1_e, lst1_e, and_e, or_e, q_sm0, sm01_a, sm01_T, smO_some, app_0w, isFnD]
theorem e_need_function {d : D} (h : isFnD d = true) (S : Cs) (hS : flatCs S = true) : sem_need_function [.d d] S = .ok nD S := by
  simp only [sem_need_function, b_need_function, p_body, p_skip, p_seq, p_set, p_ret, p_retN, p_retV_s, p_retV_0, p_exp, p_if, p_raise, p_app, p_ext, p_setT, p_for, p_cell', nxt_nx, nxt_rt, nxt_exc, fin_nx, fin_rt, fin_exc, set_ok, set_exc, ret_ok, ret_exc, exp_ok, exp_exc, if_tt, if_ff, if_ok, if_exc, for_ok, for_exc, app_s, app_0, app_0o, ext_s, ext_0, cons_nx, cons_exc, setT_ok, cell_ok, pop_nx, pop_rt, unC_nil, unC_n, unC_d, unC_st, no_nil, no_n, no_a, mask_nil, mask_t, mask_f, dom_nil, dom_s, dom_n, start_0, start_s, setW_nil, setW_cons, ev_nil, ev_n, ev_a, ev_o, ev_own, frzE_nil, frzE_cons, frz1_s, frz1_0o, frz1_0a, frz1_0n, sNm_ap, sTp_ap, q_var0, q_varS, q_c, q_bin, bin1_a, bin1_o, bin1_e, bin2_a, bin2_o, bin2_e, q_un, un1_a, un1_o, q_call, call_n, call_c, call1_a, call1_o, call1_e, q_tup, allD_nil, allD_cons, tupE_ap, q_lst, lst_n, lst_c, lst1_ok, q_comp, comp_ok, q_and, and_tt, and_ff, asB_ok, asB_e, and_ok, and_fold, q_or, or_tt, or_ff, or_ok, or_fold, q_not, not_ok, not_e, q_ife, ife_tt, ife_ff, ife_ok, q_seq, q_rng1, q_rng2, q_enum, q_zip, srcS_a, srcS_o, src1_a, src1_o, src2_a, src2_o, of_some, q_sl, sl_nn, sl_n, sl_s, slo_nn, slo_n, slo_s, slLo_n, slLo_s, slHi_ok, slLo_n', slLo_s', slHi_ok', q_sm, sm1_a, sm2_a, sm2_o, on1_ap, onD1_ap, true_ap, gNm_ap, gTp_ap, setD_nil, setD_cons, wipe_nil, wipe_cons, max2_ap, rng1_n, rng1_l, rng1_1, Nat.reduceAdd, Nat.reduceSub, Nat.reduceLeDiff, List.length_cons, List.length_nil, List.length_map, List.length_range, List.replicate, List.set_cons_zero, List.set_cons_succ, List.map_cons, List.map_nil, List.cons_append, List.nil_append, Option.map_some, if_true, Bool.false_eq_true, if_false, Bool.not_true, Bool.not_false, o_add, o_sub, o_shr, o_band, o_lt, o_le, o_gt, o_ge, own0, own1, own2, own3, own4, own5, own6, own7, own8, own9, own10, own11, own12, seqD_lst, seqD_tup, seqD_eF, seqD_eG, i2n, isi_eF, isi_eG, isi_eT, gLen_eF, gLen_eG, gLen_lst, gLen_tup, dAll_m, dAny_m, all_tt, dInt_b, isi_int_none, isi_int_bool, isi_int_int, isi_int_str, isi_int_list, isi_int_tuple, isi_bool_none, isi_bool_bool, isi_bool_int, isi_bool_str, isi_bool_list, isi_bool_tuple, isi_str_none, isi_str_bool, isi_str_int, isi_str_str, isi_str_list, isi_str_tuple, isi_list_none, isi_list_bool, isi_list_int, isi_list_str, isi_list_list, isi_list_tuple, isi_tuple_none, isi_tuple_bool, isi_tuple_int, isi_tuple_str, isi_tuple_list, isi_tuple_tuple, isi2_tl_none, isi2_tl_bool, isi2_tl_int, isi2_tl_str, isi2_tl_list, isi2_tl_tuple, zip2, zipD_map, isi_int_dict, isi_bool_dict, isi_str_dict, isi_list_dict, isi_tuple_dict, isi2_tl_dict, dIsN, dNotN, p_setIx, setIx1_ok, setIx2_s, bin1_w, bin1o_some, toDs_nil, toDs_a, toDs_o, ret_nxt, rngD_map, Int.reduceToNat, p_appV, appV_ok', p_forB, forB_ok, sm1_T, List.getElem?_cons_succ, List.getElem?_cons_zero, q_chain, ch1_a, ch2_a, ch3_tt, ch3_ff, ch4_a, lt_TT, par_ap, par1_ok, par2_ok, srcS_e, src1_e, src2_e, comp_e, un1_e, lst1_e, and_e, or_e, q_sm0, sm01_a, sm01_T, smO_some, app_0w, e_isF, h, hS]
theorem e_need_function0 {d : D} (h : isFnD d = false) (S : Cs) (hS : flatCs S = true) : sem_need_function [.d d] S = .exc "NoFunction" S := by
  simp only [sem_need_function, b_need_function, p_body, p_skip, p_seq, p_set, p_ret, p_retN, p_retV_s, p_retV_0, p_exp, p_if, p_raise, p_app, p_ext, p_setT, p_for, p_cell', nxt_nx, nxt_rt, nxt_exc, fin_nx, fin_rt, fin_exc, set_ok, set_exc, ret_ok, ret_exc, exp_ok, exp_exc, if_tt, if_ff, if_ok, if_exc, for_ok, for_exc, app_s, app_0, app_0o, ext_s, ext_0, cons_nx, cons_exc, setT_ok, cell_ok, pop_nx, pop_rt, unC_nil, unC_n, unC_d, unC_st, no_nil, no_n, no_a, mask_nil, mask_t, mask_f, dom_nil, dom_s, dom_n, start_0, start_s, setW_nil, setW_cons, ev_nil, ev_n, ev_a, ev_o, ev_own, frzE_nil, frzE_cons, frz1_s, frz1_0o, frz1_0a, frz1_0n, sNm_ap, sTp_ap, q_var0, q_varS, q_c, q_bin, bin1_a, bin1_o, bin1_e, bin2_a, bin2_o, bin2_e, q_un, un1_a, un1_o, q_call, call_n, call_c, call1_a, call1_o, call1_e, q_tup, allD_nil, allD_cons, tupE_ap, q_lst, lst_n, lst_c, lst1_ok, q_comp, comp_ok, q_and, and_tt, and_ff, asB_ok, asB_e, and_ok, and_fold, q_or, or_tt, or_ff, or_ok, or_fold, q_not, not_ok, not_e, q_ife, ife_tt, ife_ff, ife_ok, q_seq, q_rng1, q_rng2, q_enum, q_zip, srcS_a, srcS_o, src1_a, src1_o, src2_a, src2_o, of_some, q_sl, sl_nn, sl_n, sl_s, slo_nn, slo_n, slo_s, slLo_n, slLo_s, slHi_ok, slLo_n', slLo_s', slHi_ok', q_sm, sm1_a, sm2_a, sm2_o, on1_ap, onD1_ap, true_ap, gNm_ap, gTp_ap, setD_nil, setD_cons, wipe_nil, wipe_cons, max2_ap, rng1_n, rng1_l, rng1_1, Nat.reduceAdd, Nat.reduceSub, Nat.reduceLeDiff, List.length_cons, List.length_nil, List.length_map, List.length_range, List.replicate, List.set_cons_zero, List.set_cons_succ, List.map_cons, List.map_nil, List.cons_append, List.nil_append, Option.map_some, if_true, Bool.false_eq_true, if_false, Bool.not_true, Bool.not_false, o_add, o_sub, o_shr, o_band, o_lt, o_le, o_gt, o_ge, own0, own1, own2, own3, own4, own5, own6, own7, own8, own9, own10, own11, own12, seqD_lst, seqD_tup, seqD_eF, seqD_eG, i2n, isi_eF, isi_eG, isi_eT, gLen_eF, gLen_eG, gLen_lst, gLen_tup, dAll_m, dAny_m, all_tt, dInt_b, isi_int_none, isi_int_bool, isi_int_int, isi_int_str, isi_int_list, isi_int_tuple, isi_bool_none, isi_bool_bool, isi_bool_int, isi_bool_str, isi_bool_list, isi_bool_tuple, isi_str_none, isi_str_bool, isi_str_int, isi_str_str, isi_str_list, isi_str_tuple, isi_list_none, isi_list_bool, isi_list_int, isi_list_str, isi_list_list, isi_list_tuple, isi_tuple_none, isi_tuple_bool, isi_tuple_int, isi_tuple_str, isi_tuple_list, isi_tuple_tuple, isi2_tl_none, isi2_tl_bool, isi2_tl_int, isi2_tl_str, isi2_tl_list, isi2_tl_tuple, zip2, zipD_map, isi_int_dict, isi_bool_dict, isi_str_dict, isi_list_dict, isi_tuple_dict, isi2_tl_dict, dIsN, dNotN, p_setIx, setIx1_ok, setIx2_s, bin1_w, bin1o_some, toDs_nil, toDs_a, toDs_o, ret_nxt, rngD_map, Int.reduceToNat, p_appV, appV_ok', p_forB, forB_ok, sm1_T, List.getElem?_cons_succ, List.getElem?_cons_zero, q_chain, ch1_a, ch2_a, ch3_tt, ch3_ff, ch4_a, lt_TT, par_ap, par1_ok, par2_ok, srcS_e, src1_e, src2_e, comp_e, un1_e, lst1_e, and_e, or_e, q_sm0, sm01_a, sm01_T, smO_some, app_0w, e_isF, h, hS]
theorem e_switches_of {f : Fn} {n : Nat} (hf : f.length = 2 ^ n) (h1 : 1 ≤ n) (h4 : n ≤ 4) (S : Cs) : sem_switches_of [.d (eF f)] S = .ok (iD n) S := by
  simp only [sem_switches_of, b_switches_of, bodySem, startE, sRet, sRetV, sRetN, sSeq, sSet, sSkip, sExp, sIf, fSm, fC, fComp, iRng1, iSeq, iZip, iEnum, fVar, fCall, fBin, fUn, onD1, on1, evs_nil, evs_cons, frzE, ev, ev1_own, ev1_ownD, ev1_a, ev1_no, List.map_cons, List.map_nil, List.cons_append, List.nil_append, List.replicate, List.length_cons, List.length_nil, Nat.reduceAdd, Nat.reduceSub, bnd_a, bi_a, bi_own, bnd_own, List.getElem?_cons_zero, List.getElem?_cons_succ, rng1, SR.of, if_true, wipeE, List.set_cons_zero, List.set_cons_succ, rngD_map, i2n, and_self, setD, Option.map_some, gNm, gTp, o_add, o_sub, o_shr, o_band, o_lt, o_le, o_gt, o_ge, fTup, allD, zip2, zipD_map, Function.comp_def, List.map_map, own0, own1, own2, own3, own4, own5, own6, own7, own8, own9, own10, own11, own12, fLst, evsW, sFor, dom, seqD_lst, seqD_tup, Option.isSome, sNm, sTp, setW, frz1_s, frz1_0o, frz1_0a, frz1_0n, isi_int_none, isi_int_bool, isi_int_int, isi_int_str, isi_int_list, isi_int_tuple, isi_bool_none, isi_bool_bool, isi_bool_int, isi_bool_str, isi_bool_list, isi_bool_tuple, isi_str_none, isi_str_bool, isi_str_int, isi_str_str, isi_str_list, isi_str_tuple, isi_list_none, isi_list_bool, isi_list_int, isi_list_str, isi_list_list, isi_list_tuple, isi_tuple_none, isi_tuple_bool, isi_tuple_int, isi_tuple_str, isi_tuple_list, isi_tuple_tuple, isi2_tl_none, isi2_tl_bool, isi2_tl_int, isi2_tl_str, isi2_tl_list, isi2_tl_tuple, br_tt, br_ff, Bool.false_eq_true, if_false, seqD_eF, seqD_eG, isi_eF, isi_eG, isi_eT, gLen_eF, gLen_eG, gLen_lst, gLen_tup, dAll_m, dAny_m, all_tt, dInt_b, hf, dAtKI, kv_at h1 h4]
theorem e_bit_at {n k : Nat} (hk : k < n) (p : Nat) (S : Cs) : sem_bit_at [.d (.int (n : Nat)), .d (.int (p : Nat)), .d (.int (k : Nat))] S = .ok (iD ((p.testBit (n - 1 - k)).toNat : Nat)) S := by
  have e1 : ((n : Int) - 1 - (k : Int)) = ((n - 1 - k : Nat) : Int) := by omega
  simp only [sem_bit_at, b_bit_at, p_body, p_skip, p_seq, p_set, p_ret, p_retN, p_retV_s, p_retV_0, p_exp, p_if, p_raise, p_app, p_ext, p_setT, p_for, p_cell', nxt_nx, nxt_rt, nxt_exc, fin_nx, fin_rt, fin_exc, set_ok, set_exc, ret_ok, ret_exc, exp_ok, exp_exc, if_tt, if_ff, if_ok, if_exc, for_ok, for_exc, app_s, app_0, app_0o, ext_s, ext_0, cons_nx, cons_exc, setT_ok, cell_ok, pop_nx, pop_rt, unC_nil, unC_n, unC_d, unC_st, no_nil, no_n, no_a, mask_nil, mask_t, mask_f, dom_nil, dom_s, dom_n, start_0, start_s, setW_nil, setW_cons, ev_nil, ev_n, ev_a, ev_o, ev_own, frzE_nil, frzE_cons, frz1_s, frz1_0o, frz1_0a, frz1_0n, sNm_ap, sTp_ap, q_var0, q_varS, q_c, q_bin, bin1_a, bin1_o, bin1_e, bin2_a, bin2_o, bin2_e, q_un, un1_a, un1_o, q_call, call_n, call_c, call1_a, call1_o, call1_e, q_tup, allD_nil, allD_cons, tupE_ap, q_lst, lst_n, lst_c, lst1_ok, q_comp, comp_ok, q_and, and_tt, and_ff, asB_ok, asB_e, and_ok, and_fold, q_or, or_tt, or_ff, or_ok, or_fold, q_not, not_ok, not_e, q_ife, ife_tt, ife_ff, ife_ok, q_seq, q_rng1, q_rng2, q_enum, q_zip, srcS_a, srcS_o, src1_a, src1_o, src2_a, src2_o, of_some, q_sl, sl_nn, sl_n, sl_s, slo_nn, slo_n, slo_s, slLo_n, slLo_s, slHi_ok, slLo_n', slLo_s', slHi_ok', q_sm, sm1_a, sm2_a, sm2_o, on1_ap, onD1_ap, true_ap, gNm_ap, gTp_ap, setD_nil, setD_cons, wipe_nil, wipe_cons, max2_ap, rng1_n, rng1_l, rng1_1, Nat.reduceAdd, Nat.reduceSub, Nat.reduceLeDiff, List.length_cons, List.length_nil, List.length_map, List.length_range, List.replicate, List.set_cons_zero, List.set_cons_succ, List.map_cons, List.map_nil, List.cons_append, List.nil_append, Option.map_some, if_true, Bool.false_eq_true, if_false, Bool.not_true, Bool.not_false, o_add, o_sub, o_shr, o_band, o_lt, o_le, o_gt, o_ge, own0, own1, own2, own3, own4, own5, own6, own7, own8, own9, own10, own11, own12, seqD_lst, seqD_tup, seqD_eF, seqD_eG, i2n, isi_eF, isi_eG, isi_eT, gLen_eF, gLen_eG, gLen_lst, gLen_tup, dAll_m, dAny_m, all_tt, dInt_b, isi_int_none, isi_int_bool, isi_int_int, isi_int_str, isi_int_list, isi_int_tuple, isi_bool_none, isi_bool_bool, isi_bool_int, isi_bool_str, isi_bool_list, isi_bool_tuple, isi_str_none, isi_str_bool, isi_str_int, isi_str_str, isi_str_list, isi_str_tuple, isi_list_none, isi_list_bool, isi_list_int, isi_list_str, isi_list_list, isi_list_tuple, isi_tuple_none, isi_tuple_bool, isi_tuple_int, isi_tuple_str, isi_tuple_list, isi_tuple_tuple, isi2_tl_none, isi2_tl_bool, isi2_tl_int, isi2_tl_str, isi2_tl_list, isi2_tl_tuple, zip2, zipD_map, isi_int_dict, isi_bool_dict, isi_str_dict, isi_list_dict, isi_tuple_dict, isi2_tl_dict, dIsN, dNotN, p_setIx, setIx1_ok, setIx2_s, bin1_w, bin1o_some, toDs_nil, toDs_a, toDs_o, ret_nxt, rngD_map, Int.reduceToNat, p_appV, appV_ok', p_forB, forB_ok, sm1_T, List.getElem?_cons_succ, List.getElem?_cons_zero, q_chain, ch1_a, ch2_a, ch3_tt, ch3_ff, ch4_a, lt_TT, par_ap, par1_ok, par2_ok, srcS_e, src1_e, src2_e, comp_e, un1_e, lst1_e, and_e, or_e, q_sm0, sm01_a, sm01_T, smO_some, app_0w, e1, and1]
theorem xor_eB (a b : Bool) (S : Cs) : onD dBXor (.d (.int ((a.toNat : Nat) : Int))) (.d (eBt b)) S = .ok (iD (((a != b).toNat : Nat) : Int)) S := by
  show R.ok (iD (Builtin.bitXor ((a.toNat : Nat) : Int) ((b.toNat : Nat) : Int))) S = _
  rw [xor_b]
theorem bor_n (a b : Nat) (S : Cs) : onD dBOr (.d (.int (a : Nat))) (.d (.int (b : Nat))) S = .ok (iD ((a ||| b : Nat) : Int)) S := by
  show R.ok (iD (Builtin.bitOr (a : Int) (b : Int))) S = _
  rw [bOr_nat]
theorem e_led_point {n : Nat} (h4 : n ≤ 4) {c : Ch} (hc : okC n c) (p : Nat) (S : Cs) (hS : flatCs S = true) : sem_led_point [.d (.int (n : Nat)), .d (.int (p : Nat)), .d (eC c)] S = .ok (iD ((ledM n p c.o c.t : Nat) : Int)) S := by
  have s2 : dSl none (some 2) (eC c) = some (.a (.d (.tuple [.tuple (eNs c.o), .tuple (c.t.map eBt)]))) := rfl
  refine to_eq ?_
  simp only [sem_led_point, b_led_point, p_body, p_skip, p_seq, p_set, p_ret, p_retN, p_retV_s, p_retV_0, p_exp, p_if, p_raise, p_app, p_ext, p_setT, p_for, p_cell', nxt_nx, nxt_rt, nxt_exc, fin_nx, fin_rt, fin_exc, set_ok, set_exc, ret_ok, ret_exc, exp_ok, exp_exc, if_tt, if_ff, if_ok, if_exc, for_ok, for_exc, app_s, app_0, app_0o, ext_s, ext_0, cons_nx, cons_exc, setT_ok, cell_ok, pop_nx, pop_rt, unC_nil, unC_n, unC_d, unC_st, no_nil, no_n, no_a, mask_nil, mask_t, mask_f, dom_nil, dom_s, dom_n, start_0, start_s, setW_nil, setW_cons, ev_nil, ev_n, ev_a, ev_o, ev_own, frzE_nil, frzE_cons, frz1_s, frz1_0o, frz1_0a, frz1_0n, sNm_ap, sTp_ap, q_var0, q_varS, q_c, q_bin, bin1_a, bin1_o, bin1_e, bin2_a, bin2_o, bin2_e, q_un, un1_a, un1_o, q_call, call_n, call_c, call1_a, call1_o, call1_e, q_tup, allD_nil, allD_cons, tupE_ap, q_lst, lst_n, lst_c, lst1_ok, q_comp, comp_ok, q_and, and_tt, and_ff, asB_ok, asB_e, and_ok, and_fold, q_or, or_tt, or_ff, or_ok, or_fold, q_not, not_ok, not_e, q_ife, ife_tt, ife_ff, ife_ok, q_seq, q_rng1, q_rng2, q_enum, q_zip, srcS_a, srcS_o, src1_a, src1_o, src2_a, src2_o, of_some, q_sl, sl_nn, sl_n, sl_s, slo_nn, slo_n, slo_s, slLo_n, slLo_s, slHi_ok, slLo_n', slLo_s', slHi_ok', q_sm, sm1_a, sm2_a, sm2_o, on1_ap, onD1_ap, true_ap, gNm_ap, gTp_ap, setD_nil, setD_cons, wipe_nil, wipe_cons, max2_ap, rng1_n, rng1_l, rng1_1, Nat.reduceAdd, Nat.reduceSub, Nat.reduceLeDiff, List.length_cons, List.length_nil, List.length_map, List.length_range, List.replicate, List.set_cons_zero, List.set_cons_succ, List.map_cons, List.map_nil, List.cons_append, List.nil_append, Option.map_some, if_true, Bool.false_eq_true, if_false, Bool.not_true, Bool.not_false, o_add, o_sub, o_shr, o_band, o_lt, o_le, o_gt, o_ge, own0, own1, own2, own3, own4, own5, own6, own7, own8, own9, own10, own11, own12, seqD_lst, seqD_tup, seqD_eF, seqD_eG, i2n, isi_eF, isi_eG, isi_eT, gLen_eF, gLen_eG, gLen_lst, gLen_tup, dAll_m, dAny_m, all_tt, dInt_b, isi_int_none, isi_int_bool, isi_int_int, isi_int_str, isi_int_list, isi_int_tuple, isi_bool_none, isi_bool_bool, isi_bool_int, isi_bool_str, isi_bool_list, isi_bool_tuple, isi_str_none, isi_str_bool, isi_str_int, isi_str_str, isi_str_list, isi_str_tuple, isi_list_none, isi_list_bool, isi_list_int, isi_list_str, isi_list_list, isi_list_tuple, isi_tuple_none, isi_tuple_bool, isi_tuple_int, isi_tuple_str, isi_tuple_list, isi_tuple_tuple, isi2_tl_none, isi2_tl_bool, isi2_tl_int, isi2_tl_str, isi2_tl_list, isi2_tl_tuple, zip2, zipD_map, isi_int_dict, isi_bool_dict, isi_str_dict, isi_list_dict, isi_tuple_dict, isi2_tl_dict, dIsN, dNotN, p_setIx, setIx1_ok, setIx2_s, bin1_w, bin1o_some, toDs_nil, toDs_a, toDs_o, ret_nxt, rngD_map, Int.reduceToNat, p_appV, appV_ok', p_forB, forB_ok, sm1_T, List.getElem?_cons_succ, List.getElem?_cons_zero, q_chain, ch1_a, ch2_a, ch3_tt, ch3_ff, ch4_a, lt_TT, par_ap, par1_ok, par2_ok, srcS_e, src1_e, src2_e, comp_e, un1_e, lst1_e, and_e, or_e, q_sm0, sm01_a, sm01_T, smO_some, app_0w, s2, rng1_n n (by omega), to_fin]
  refine for_allS (fun (i : Nat) => PyData.int (i : Int)) (fun pre ρ S1 => S1 = S ∧ ρ = [some (.a (.d (.int (n : Nat)))), some (.a (.d (.int (p : Nat)))), some (.a (.d (eC c))), some (iD ((pre.foldl (ledS n p c.o c.t) 0 : Nat) : Int)), none, some (.a (.d (.tuple (eNs c.o)))), some (.a (.d (.tuple (c.t.map eBt))))]) ⟨rfl, rfl⟩ ?_ ?_
  · rintro pre k post e ρ S1 ⟨rfl, rfl⟩
    have hk : k < n := List.mem_range.mp (by rw [e]; simp)
    have ho := hc.ol hk
    have e2 : ((n : Int) - 1 - ((c.o.getD k 0 : Nat) : Int)) = ((n - 1 - c.o.getD k 0 : Nat) : Int) := by omega
    have hsh := shl_g ((p.testBit (n - 1 - k) != c.t.getD k false).toNat) (n - 1 - c.o.getD k 0) (by cases (p.testBit (n - 1 - k) != c.t.getD k false) <;> decide) (by omega) S1
    refine ⟨_, rfl, ?_⟩
    have hor := bor_n (pre.foldl (ledS n p c.o c.t) 0) ((p.testBit (n - 1 - k) != c.t.getD k false).toNat * 2 ^ (n - 1 - c.o.getD k 0)) S1
    generalize hgv : onD dBOr = bo at hor ⊢
    simp only [p_body, p_skip, p_seq, p_set, p_ret, p_retN, p_retV_s, p_retV_0, p_exp, p_if, p_raise, p_app, p_ext, p_setT, p_for, p_cell', nxt_nx, nxt_rt, nxt_exc, fin_nx, fin_rt, fin_exc, set_ok, set_exc, ret_ok, ret_exc, exp_ok, exp_exc, if_tt, if_ff, if_ok, if_exc, for_ok, for_exc, app_s, app_0, app_0o, ext_s, ext_0, cons_nx, cons_exc, setT_ok, cell_ok, pop_nx, pop_rt, unC_nil, unC_n, unC_d, unC_st, no_nil, no_n, no_a, mask_nil, mask_t, mask_f, dom_nil, dom_s, dom_n, start_0, start_s, setW_nil, setW_cons, ev_nil, ev_n, ev_a, ev_o, ev_own, frzE_nil, frzE_cons, frz1_s, frz1_0o, frz1_0a, frz1_0n, sNm_ap, sTp_ap, q_var0, q_varS, q_c, q_bin, bin1_a, bin1_o, bin1_e, bin2_a, bin2_o, bin2_e, q_un, un1_a, un1_o, q_call, call_n, call_c, call1_a, call1_o, call1_e, q_tup, allD_nil, allD_cons, tupE_ap, q_lst, lst_n, lst_c, lst1_ok, q_comp, comp_ok, q_and, and_tt, and_ff, asB_ok, asB_e, and_ok, and_fold, q_or, or_tt, or_ff, or_ok, or_fold, q_not, not_ok, not_e, q_ife, ife_tt, ife_ff, ife_ok, q_seq, q_rng1, q_rng2, q_enum, q_zip, srcS_a, srcS_o, src1_a, src1_o, src2_a, src2_o, of_some, q_sl, sl_nn, sl_n, sl_s, slo_nn, slo_n, slo_s, slLo_n, slLo_s, slHi_ok, slLo_n', slLo_s', slHi_ok', q_sm, sm1_a, sm2_a, sm2_o, on1_ap, onD1_ap, true_ap, gNm_ap, gTp_ap, setD_nil, setD_cons, wipe_nil, wipe_cons, max2_ap, rng1_n, rng1_l, rng1_1, Nat.reduceAdd, Nat.reduceSub, Nat.reduceLeDiff, List.length_cons, List.length_nil, List.length_map, List.length_range, List.replicate, List.set_cons_zero, List.set_cons_succ, List.map_cons, List.map_nil, List.cons_append, List.nil_append, Option.map_some, if_true, Bool.false_eq_true, if_false, Bool.not_true, Bool.not_false, o_add, o_sub, o_shr, o_band, o_lt, o_le, o_gt, o_ge, own0, own1, own2, own3, own4, own5, own6, own7, own8, own9, own10, own11, own12, seqD_lst, seqD_tup, seqD_eF, seqD_eG, i2n, isi_eF, isi_eG, isi_eT, gLen_eF, gLen_eG, gLen_lst, gLen_tup, dAll_m, dAny_m, all_tt, dInt_b, isi_int_none, isi_int_bool, isi_int_int, isi_int_str, isi_int_list, isi_int_tuple, isi_bool_none, isi_bool_bool, isi_bool_int, isi_bool_str, isi_bool_list, isi_bool_tuple, isi_str_none, isi_str_bool, isi_str_int, isi_str_str, isi_str_list, isi_str_tuple, isi_list_none, isi_list_bool, isi_list_int, isi_list_str, isi_list_list, isi_list_tuple, isi_tuple_none, isi_tuple_bool, isi_tuple_int, isi_tuple_str, isi_tuple_list, isi_tuple_tuple, isi2_tl_none, isi2_tl_bool, isi2_tl_int, isi2_tl_str, isi2_tl_list, isi2_tl_tuple, zip2, zipD_map, isi_int_dict, isi_bool_dict, isi_str_dict, isi_list_dict, isi_tuple_dict, isi2_tl_dict, dIsN, dNotN, p_setIx, setIx1_ok, setIx2_s, bin1_w, bin1o_some, toDs_nil, toDs_a, toDs_o, ret_nxt, rngD_map, Int.reduceToNat, p_appV, appV_ok', p_forB, forB_ok, sm1_T, List.getElem?_cons_succ, List.getElem?_cons_zero, q_chain, ch1_a, ch2_a, ch3_tt, ch3_ff, ch4_a, lt_TT, par_ap, par1_ok, par2_ok, srcS_e, src1_e, src2_e, comp_e, un1_e, lst1_e, and_e, or_e, q_sm0, sm01_a, sm01_T, smO_some, app_0w, e_bit_at hk p S1, turn_at hc hk, ord_at hc hk, xor_eB, e2, hsh, hor, to_nx]
    refine ⟨trivial, ?_⟩
    rw [List.foldl_append]
    rfl
  · rintro ρ S1 ⟨rfl, rfl⟩
    exact ⟨rfl, rfl⟩
theorem xor_aO (a b : Bool) (S : Cs) : onD dBXor (.d (aO (some b))) (.d (eBt a)) S = .ok (.a (.d (aO (some (b != a))))) S := by
  cases a <;> cases b <;> rfl
theorem e_changed_by {f : Fn} {n : Nat} (hf : f.length = 2 ^ n) (h1 : 1 ≤ n) (h4 : n ≤ 4) {c : Ch} (hc : okC n c) (S : Cs) (hS : flatCs S = true) : sem_changed_by [.d (eF f), .d (eC c)] S = .ok (.a (.d (eF (cgF n c f)))) S := by
  have b2 : 2 ^ n ≤ 16 := Nat.pow_le_pow_right (n := 2) (by decide) h4
  have i2 : dIx (.d (eC c)) (.d (.int 2)) S = .ok (.a (.d (eBt c.a))) S := rfl
  have hfx : ∀ p, p < f.length → dIx (.d (eF f)) (.d (.int (ledM n p c.o c.t : Nat))) S = .ok (.a (.d (aO (f.getD (ledM n p c.o c.t) none)))) S := fun p hp => by
    have := (led_ok h4 hc (p := p) (by omega)).2.1
    exact o_ix_tup aO (getD_some (by omega) none) S
  refine to_eq ?_
  simp only [sem_changed_by, b_changed_by, p_body, p_skip, p_seq, p_set, p_ret, p_retN, p_retV_s, p_retV_0, p_exp, p_if, p_raise, p_app, p_ext, p_setT, p_for, p_cell', nxt_nx, nxt_rt, nxt_exc, fin_nx, fin_rt, fin_exc, set_ok, set_exc, ret_ok, ret_exc, exp_ok, exp_exc, if_tt, if_ff, if_ok, if_exc, for_ok, for_exc, app_s, app_0, app_0o, ext_s, ext_0, cons_nx, cons_exc, setT_ok, cell_ok, pop_nx, pop_rt, unC_nil, unC_n, unC_d, unC_st, no_nil, no_n, no_a, mask_nil, mask_t, mask_f, dom_nil, dom_s, dom_n, start_0, start_s, setW_nil, setW_cons, ev_nil, ev_n, ev_a, ev_o, ev_own, frzE_nil, frzE_cons, frz1_s, frz1_0o, frz1_0a, frz1_0n, sNm_ap, sTp_ap, q_var0, q_varS, q_c, q_bin, bin1_a, bin1_o, bin1_e, bin2_a, bin2_o, bin2_e, q_un, un1_a, un1_o, q_call, call_n, call_c, call1_a, call1_o, call1_e, q_tup, allD_nil, allD_cons, tupE_ap, q_lst, lst_n, lst_c, lst1_ok, q_comp, comp_ok, q_and, and_tt, and_ff, asB_ok, asB_e, and_ok, and_fold, q_or, or_tt, or_ff, or_ok, or_fold, q_not, not_ok, not_e, q_ife, ife_tt, ife_ff, ife_ok, q_seq, q_rng1, q_rng2, q_enum, q_zip, srcS_a, srcS_o, src1_a, src1_o, src2_a, src2_o, of_some, q_sl, sl_nn, sl_n, sl_s, slo_nn, slo_n, slo_s, slLo_n, slLo_s, slHi_ok, slLo_n', slLo_s', slHi_ok', q_sm, sm1_a, sm2_a, sm2_o, on1_ap, onD1_ap, true_ap, gNm_ap, gTp_ap, setD_nil, setD_cons, wipe_nil, wipe_cons, max2_ap, rng1_n, rng1_l, rng1_1, Nat.reduceAdd, Nat.reduceSub, Nat.reduceLeDiff, List.length_cons, List.length_nil, List.length_map, List.length_range, List.replicate, List.set_cons_zero, List.set_cons_succ, List.map_cons, List.map_nil, List.cons_append, List.nil_append, Option.map_some, if_true, Bool.false_eq_true, if_false, Bool.not_true, Bool.not_false, o_add, o_sub, o_shr, o_band, o_lt, o_le, o_gt, o_ge, own0, own1, own2, own3, own4, own5, own6, own7, own8, own9, own10, own11, own12, seqD_lst, seqD_tup, seqD_eF, seqD_eG, i2n, isi_eF, isi_eG, isi_eT, gLen_eF, gLen_eG, gLen_lst, gLen_tup, dAll_m, dAny_m, all_tt, dInt_b, isi_int_none, isi_int_bool, isi_int_int, isi_int_str, isi_int_list, isi_int_tuple, isi_bool_none, isi_bool_bool, isi_bool_int, isi_bool_str, isi_bool_list, isi_bool_tuple, isi_str_none, isi_str_bool, isi_str_int, isi_str_str, isi_str_list, isi_str_tuple, isi_list_none, isi_list_bool, isi_list_int, isi_list_str, isi_list_list, isi_list_tuple, isi_tuple_none, isi_tuple_bool, isi_tuple_int, isi_tuple_str, isi_tuple_list, isi_tuple_tuple, isi2_tl_none, isi2_tl_bool, isi2_tl_int, isi2_tl_str, isi2_tl_list, isi2_tl_tuple, zip2, zipD_map, isi_int_dict, isi_bool_dict, isi_str_dict, isi_list_dict, isi_tuple_dict, isi2_tl_dict, dIsN, dNotN, p_setIx, setIx1_ok, setIx2_s, bin1_w, bin1o_some, toDs_nil, toDs_a, toDs_o, ret_nxt, rngD_map, Int.reduceToNat, p_appV, appV_ok', p_forB, forB_ok, sm1_T, List.getElem?_cons_succ, List.getElem?_cons_zero, q_chain, ch1_a, ch2_a, ch3_tt, ch3_ff, ch4_a, lt_TT, par_ap, par1_ok, par2_ok, srcS_e, src1_e, src2_e, comp_e, un1_e, lst1_e, and_e, or_e, q_sm0, sm01_a, sm01_T, smO_some, app_0w, e_switches_of hf h1 h4, rng1_n f.length (by omega), to_fin]
  refine for_allS (fun (i : Nat) => PyData.int (i : Int)) (fun pre ρ S1 => S1 = S ∧ ρ = [some (.a (.d (eF f))), some (.a (.d (eC c))), some (.a (.d (.int (n : Nat)))), some (ownD ((pre.map fun p => cgA c.a (f.getD (ledM n p c.o c.t) none)).map aO)), none, none]) ⟨rfl, rfl⟩ ?_ ?_
  · rintro pre p post e ρ S1 ⟨rfl, rfl⟩
    have hp : p < f.length := List.mem_range.mp (by rw [e]; simp)
    have hpl : pre.length < 1000000 := by have := congrArg List.length e; simp at this; omega
    refine ⟨_, rfl, ?_⟩
    have hn := hfx p hp
    cases hx : f.getD (ledM n p c.o c.t) none with
    | none =>
      rw [hx] at hn
      have ha : aO none = .none := rfl
      rw [ha] at hn
      simp only [p_body, p_skip, p_seq, p_set, p_ret, p_retN, p_retV_s, p_retV_0, p_exp, p_if, p_raise, p_app, p_ext, p_setT, p_for, p_cell', nxt_nx, nxt_rt, nxt_exc, fin_nx, fin_rt, fin_exc, set_ok, set_exc, ret_ok, ret_exc, exp_ok, exp_exc, if_tt, if_ff, if_ok, if_exc, for_ok, for_exc, app_s, app_0, app_0o, ext_s, ext_0, cons_nx, cons_exc, setT_ok, cell_ok, pop_nx, pop_rt, unC_nil, unC_n, unC_d, unC_st, no_nil, no_n, no_a, mask_nil, mask_t, mask_f, dom_nil, dom_s, dom_n, start_0, start_s, setW_nil, setW_cons, ev_nil, ev_n, ev_a, ev_o, ev_own, frzE_nil, frzE_cons, frz1_s, frz1_0o, frz1_0a, frz1_0n, sNm_ap, sTp_ap, q_var0, q_varS, q_c, q_bin, bin1_a, bin1_o, bin1_e, bin2_a, bin2_o, bin2_e, q_un, un1_a, un1_o, q_call, call_n, call_c, call1_a, call1_o, call1_e, q_tup, allD_nil, allD_cons, tupE_ap, q_lst, lst_n, lst_c, lst1_ok, q_comp, comp_ok, q_and, and_tt, and_ff, asB_ok, asB_e, and_ok, and_fold, q_or, or_tt, or_ff, or_ok, or_fold, q_not, not_ok, not_e, q_ife, ife_tt, ife_ff, ife_ok, q_seq, q_rng1, q_rng2, q_enum, q_zip, srcS_a, srcS_o, src1_a, src1_o, src2_a, src2_o, of_some, q_sl, sl_nn, sl_n, sl_s, slo_nn, slo_n, slo_s, slLo_n, slLo_s, slHi_ok, slLo_n', slLo_s', slHi_ok', q_sm, sm1_a, sm2_a, sm2_o, on1_ap, onD1_ap, true_ap, gNm_ap, gTp_ap, setD_nil, setD_cons, wipe_nil, wipe_cons, max2_ap, rng1_n, rng1_l, rng1_1, Nat.reduceAdd, Nat.reduceSub, Nat.reduceLeDiff, List.length_cons, List.length_nil, List.length_map, List.length_range, List.replicate, List.set_cons_zero, List.set_cons_succ, List.map_cons, List.map_nil, List.cons_append, List.nil_append, Option.map_some, if_true, Bool.false_eq_true, if_false, Bool.not_true, Bool.not_false, o_add, o_sub, o_shr, o_band, o_lt, o_le, o_gt, o_ge, own0, own1, own2, own3, own4, own5, own6, own7, own8, own9, own10, own11, own12, seqD_lst, seqD_tup, seqD_eF, seqD_eG, i2n, isi_eF, isi_eG, isi_eT, gLen_eF, gLen_eG, gLen_lst, gLen_tup, dAll_m, dAny_m, all_tt, dInt_b, isi_int_none, isi_int_bool, isi_int_int, isi_int_str, isi_int_list, isi_int_tuple, isi_bool_none, isi_bool_bool, isi_bool_int, isi_bool_str, isi_bool_list, isi_bool_tuple, isi_str_none, isi_str_bool, isi_str_int, isi_str_str, isi_str_list, isi_str_tuple, isi_list_none, isi_list_bool, isi_list_int, isi_list_str, isi_list_list, isi_list_tuple, isi_tuple_none, isi_tuple_bool, isi_tuple_int, isi_tuple_str, isi_tuple_list, isi_tuple_tuple, isi2_tl_none, isi2_tl_bool, isi2_tl_int, isi2_tl_str, isi2_tl_list, isi2_tl_tuple, zip2, zipD_map, isi_int_dict, isi_bool_dict, isi_str_dict, isi_list_dict, isi_tuple_dict, isi2_tl_dict, dIsN, dNotN, p_setIx, setIx1_ok, setIx2_s, bin1_w, bin1o_some, toDs_nil, toDs_a, toDs_o, ret_nxt, rngD_map, Int.reduceToNat, p_appV, appV_ok', p_forB, forB_ok, sm1_T, List.getElem?_cons_succ, List.getElem?_cons_zero, q_chain, ch1_a, ch2_a, ch3_tt, ch3_ff, ch4_a, lt_TT, par_ap, par1_ok, par2_ok, srcS_e, src1_e, src2_e, comp_e, un1_e, lst1_e, and_e, or_e, q_sm0, sm01_a, sm01_T, smO_some, app_0w, e_led_point h4 hc p S1 hS, hn, hpl, to_nx]
      rw [List.map_append, List.map_append, List.map_cons, List.map_nil, hx]
      first | exact ⟨rfl, rfl⟩ | exact ⟨trivial, rfl⟩
    | some b =>
      rw [hx] at hn
      obtain ⟨v, hv⟩ : ∃ v : Int, aO (some b) = .int v := ⟨_, rfl⟩
      have hxo := xor_aO c.a b S1
      rw [hv] at hn hxo
      simp only [p_body, p_skip, p_seq, p_set, p_ret, p_retN, p_retV_s, p_retV_0, p_exp, p_if, p_raise, p_app, p_ext, p_setT, p_for, p_cell', nxt_nx, nxt_rt, nxt_exc, fin_nx, fin_rt, fin_exc, set_ok, set_exc, ret_ok, ret_exc, exp_ok, exp_exc, if_tt, if_ff, if_ok, if_exc, for_ok, for_exc, app_s, app_0, app_0o, ext_s, ext_0, cons_nx, cons_exc, setT_ok, cell_ok, pop_nx, pop_rt, unC_nil, unC_n, unC_d, unC_st, no_nil, no_n, no_a, mask_nil, mask_t, mask_f, dom_nil, dom_s, dom_n, start_0, start_s, setW_nil, setW_cons, ev_nil, ev_n, ev_a, ev_o, ev_own, frzE_nil, frzE_cons, frz1_s, frz1_0o, frz1_0a, frz1_0n, sNm_ap, sTp_ap, q_var0, q_varS, q_c, q_bin, bin1_a, bin1_o, bin1_e, bin2_a, bin2_o, bin2_e, q_un, un1_a, un1_o, q_call, call_n, call_c, call1_a, call1_o, call1_e, q_tup, allD_nil, allD_cons, tupE_ap, q_lst, lst_n, lst_c, lst1_ok, q_comp, comp_ok, q_and, and_tt, and_ff, asB_ok, asB_e, and_ok, and_fold, q_or, or_tt, or_ff, or_ok, or_fold, q_not, not_ok, not_e, q_ife, ife_tt, ife_ff, ife_ok, q_seq, q_rng1, q_rng2, q_enum, q_zip, srcS_a, srcS_o, src1_a, src1_o, src2_a, src2_o, of_some, q_sl, sl_nn, sl_n, sl_s, slo_nn, slo_n, slo_s, slLo_n, slLo_s, slHi_ok, slLo_n', slLo_s', slHi_ok', q_sm, sm1_a, sm2_a, sm2_o, on1_ap, onD1_ap, true_ap, gNm_ap, gTp_ap, setD_nil, setD_cons, wipe_nil, wipe_cons, max2_ap, rng1_n, rng1_l, rng1_1, Nat.reduceAdd, Nat.reduceSub, Nat.reduceLeDiff, List.length_cons, List.length_nil, List.length_map, List.length_range, List.replicate, List.set_cons_zero, List.set_cons_succ, List.map_cons, List.map_nil, List.cons_append, List.nil_append, Option.map_some, if_true, Bool.false_eq_true, if_false, Bool.not_true, Bool.not_false, o_add, o_sub, o_shr, o_band, o_lt, o_le, o_gt, o_ge, own0, own1, own2, own3, own4, own5, own6, own7, own8, own9, own10, own11, own12, seqD_lst, seqD_tup, seqD_eF, seqD_eG, i2n, isi_eF, isi_eG, isi_eT, gLen_eF, gLen_eG, gLen_lst, gLen_tup, dAll_m, dAny_m, all_tt, dInt_b, isi_int_none, isi_int_bool, isi_int_int, isi_int_str, isi_int_list, isi_int_tuple, isi_bool_none, isi_bool_bool, isi_bool_int, isi_bool_str, isi_bool_list, isi_bool_tuple, isi_str_none, isi_str_bool, isi_str_int, isi_str_str, isi_str_list, isi_str_tuple, isi_list_none, isi_list_bool, isi_list_int, isi_list_str, isi_list_list, isi_list_tuple, isi_tuple_none, isi_tuple_bool, isi_tuple_int, isi_tuple_str, isi_tuple_list, isi_tuple_tuple, isi2_tl_none, isi2_tl_bool, isi2_tl_int, isi2_tl_str, isi2_tl_list, isi2_tl_tuple, zip2, zipD_map, isi_int_dict, isi_bool_dict, isi_str_dict, isi_list_dict, isi_tuple_dict, isi2_tl_dict, dIsN, dNotN, p_setIx, setIx1_ok, setIx2_s, bin1_w, bin1o_some, toDs_nil, toDs_a, toDs_o, ret_nxt, rngD_map, Int.reduceToNat, p_appV, appV_ok', p_forB, forB_ok, sm1_T, List.getElem?_cons_succ, List.getElem?_cons_zero, q_chain, ch1_a, ch2_a, ch3_tt, ch3_ff, ch4_a, lt_TT, par_ap, par1_ok, par2_ok, srcS_e, src1_e, src2_e, comp_e, un1_e, lst1_e, and_e, or_e, q_sm0, sm01_a, sm01_T, smO_some, app_0w, e_led_point h4 hc p S1 hS, hn, i2, hxo, hpl, to_nx]
      rw [List.map_append, List.map_append, List.map_cons, List.map_nil, hx]
      first | exact ⟨rfl, rfl⟩ | exact ⟨trivial, rfl⟩
  · rintro ρ S1 ⟨rfl, rfl⟩
    have htup : ∀ l : Fn, dTup (.list (l.map aO)) = some (.a (.d (eF l))) := fun _ => rfl
    simp only [p_body, p_skip, p_seq, p_set, p_ret, p_retN, p_retV_s, p_retV_0, p_exp, p_if, p_raise, p_app, p_ext, p_setT, p_for, p_cell', nxt_nx, nxt_rt, nxt_exc, fin_nx, fin_rt, fin_exc, set_ok, set_exc, ret_ok, ret_exc, exp_ok, exp_exc, if_tt, if_ff, if_ok, if_exc, for_ok, for_exc, app_s, app_0, app_0o, ext_s, ext_0, cons_nx, cons_exc, setT_ok, cell_ok, pop_nx, pop_rt, unC_nil, unC_n, unC_d, unC_st, no_nil, no_n, no_a, mask_nil, mask_t, mask_f, dom_nil, dom_s, dom_n, start_0, start_s, setW_nil, setW_cons, ev_nil, ev_n, ev_a, ev_o, ev_own, frzE_nil, frzE_cons, frz1_s, frz1_0o, frz1_0a, frz1_0n, sNm_ap, sTp_ap, q_var0, q_varS, q_c, q_bin, bin1_a, bin1_o, bin1_e, bin2_a, bin2_o, bin2_e, q_un, un1_a, un1_o, q_call, call_n, call_c, call1_a, call1_o, call1_e, q_tup, allD_nil, allD_cons, tupE_ap, q_lst, lst_n, lst_c, lst1_ok, q_comp, comp_ok, q_and, and_tt, and_ff, asB_ok, asB_e, and_ok, and_fold, q_or, or_tt, or_ff, or_ok, or_fold, q_not, not_ok, not_e, q_ife, ife_tt, ife_ff, ife_ok, q_seq, q_rng1, q_rng2, q_enum, q_zip, srcS_a, srcS_o, src1_a, src1_o, src2_a, src2_o, of_some, q_sl, sl_nn, sl_n, sl_s, slo_nn, slo_n, slo_s, slLo_n, slLo_s, slHi_ok, slLo_n', slLo_s', slHi_ok', q_sm, sm1_a, sm2_a, sm2_o, on1_ap, onD1_ap, true_ap, gNm_ap, gTp_ap, setD_nil, setD_cons, wipe_nil, wipe_cons, max2_ap, rng1_n, rng1_l, rng1_1, Nat.reduceAdd, Nat.reduceSub, Nat.reduceLeDiff, List.length_cons, List.length_nil, List.length_map, List.length_range, List.replicate, List.set_cons_zero, List.set_cons_succ, List.map_cons, List.map_nil, List.cons_append, List.nil_append, Option.map_some, if_true, Bool.false_eq_true, if_false, Bool.not_true, Bool.not_false, o_add, o_sub, o_shr, o_band, o_lt, o_le, o_gt, o_ge, own0, own1, own2, own3, own4, own5, own6, own7, own8, own9, own10, own11, own12, seqD_lst, seqD_tup, seqD_eF, seqD_eG, i2n, isi_eF, isi_eG, isi_eT, gLen_eF, gLen_eG, gLen_lst, gLen_tup, dAll_m, dAny_m, all_tt, dInt_b, isi_int_none, isi_int_bool, isi_int_int, isi_int_str, isi_int_list, isi_int_tuple, isi_bool_none, isi_bool_bool, isi_bool_int, isi_bool_str, isi_bool_list, isi_bool_tuple, isi_str_none, isi_str_bool, isi_str_int, isi_str_str, isi_str_list, isi_str_tuple, isi_list_none, isi_list_bool, isi_list_int, isi_list_str, isi_list_list, isi_list_tuple, isi_tuple_none, isi_tuple_bool, isi_tuple_int, isi_tuple_str, isi_tuple_list, isi_tuple_tuple, isi2_tl_none, isi2_tl_bool, isi2_tl_int, isi2_tl_str, isi2_tl_list, isi2_tl_tuple, zip2, zipD_map, isi_int_dict, isi_bool_dict, isi_str_dict, isi_list_dict, isi_tuple_dict, isi2_tl_dict, dIsN, dNotN, p_setIx, setIx1_ok, setIx2_s, bin1_w, bin1o_some, toDs_nil, toDs_a, toDs_o, ret_nxt, rngD_map, Int.reduceToNat, p_appV, appV_ok', p_forB, forB_ok, sm1_T, List.getElem?_cons_succ, List.getElem?_cons_zero, q_chain, ch1_a, ch2_a, ch3_tt, ch3_ff, ch4_a, lt_TT, par_ap, par1_ok, par2_ok, srcS_e, src1_e, src2_e, comp_e, un1_e, lst1_e, and_e, or_e, q_sm0, sm01_a, sm01_T, smO_some, app_0w, htup, to_rt]
    exact ⟨rfl, trivial⟩
theorem sign_of (a : Option Bool) : dAtK [(.int 0, .str "0"), (.int 1, .str "1"), (.none, .str "-")] (aO a) = some (sD (tS [sgO a])) := by
  cases a with
  | none => rfl
  | some b => cases b <;> rfl
theorem e_shown (f : Fn) (h : f.length ≤ 1000) (S : Cs) : sem_shown [.d (eF f)] S = .ok (.a (.d (eT f))) S := by
  have hc : compL (gNm 1) fTrue (fUn (onD1 (dAtK [(.int 0, .str "0"), (.int 1, .str "1"), (.none, .str "-")])) (fVar 1)) [some (.d (eF f)), none] (f.map aO) S [] = .ok (ownD (f.map fun a => .str (tS [sgO a]))) S := by
    rw [compL_m aO (fun a => .str (tS [sgO a])) f]
    intro a ha
    exact ⟨_, rfl, by simp only [p_body, p_skip, p_seq, p_set, p_ret, p_retN, p_retV_s, p_retV_0, p_exp, p_if, p_raise, p_app, p_ext, p_setT, p_for, p_cell', nxt_nx, nxt_rt, nxt_exc, fin_nx, fin_rt, fin_exc, set_ok, set_exc, ret_ok, ret_exc, exp_ok, exp_exc, if_tt, if_ff, if_ok, if_exc, for_ok, for_exc, app_s, app_0, app_0o, ext_s, ext_0, cons_nx, cons_exc, setT_ok, cell_ok, pop_nx, pop_rt, unC_nil, unC_n, unC_d, unC_st, no_nil, no_n, no_a, mask_nil, mask_t, mask_f, dom_nil, dom_s, dom_n, start_0, start_s, setW_nil, setW_cons, ev_nil, ev_n, ev_a, ev_o, ev_own, frzE_nil, frzE_cons, frz1_s, frz1_0o, frz1_0a, frz1_0n, sNm_ap, sTp_ap, q_var0, q_varS, q_c, q_bin, bin1_a, bin1_o, bin1_e, bin2_a, bin2_o, bin2_e, q_un, un1_a, un1_o, q_call, call_n, call_c, call1_a, call1_o, call1_e, q_tup, allD_nil, allD_cons, tupE_ap, q_lst, lst_n, lst_c, lst1_ok, q_comp, comp_ok, q_and, and_tt, and_ff, asB_ok, asB_e, and_ok, and_fold, q_or, or_tt, or_ff, or_ok, or_fold, q_not, not_ok, not_e, q_ife, ife_tt, ife_ff, ife_ok, q_seq, q_rng1, q_rng2, q_enum, q_zip, srcS_a, srcS_o, src1_a, src1_o, src2_a, src2_o, of_some, q_sl, sl_nn, sl_n, sl_s, slo_nn, slo_n, slo_s, slLo_n, slLo_s, slHi_ok, slLo_n', slLo_s', slHi_ok', q_sm, sm1_a, sm2_a, sm2_o, on1_ap, onD1_ap, true_ap, gNm_ap, gTp_ap, setD_nil, setD_cons, wipe_nil, wipe_cons, max2_ap, rng1_n, rng1_l, rng1_1, Nat.reduceAdd, Nat.reduceSub, Nat.reduceLeDiff, List.length_cons, List.length_nil, List.length_map, List.length_range, List.replicate, List.set_cons_zero, List.set_cons_succ, List.map_cons, List.map_nil, List.cons_append, List.nil_append, Option.map_some, if_true, Bool.false_eq_true, if_false, Bool.not_true, Bool.not_false, o_add, o_sub, o_shr, o_band, o_lt, o_le, o_gt, o_ge, own0, own1, own2, own3, own4, own5, own6, own7, own8, own9, own10, own11, own12, seqD_lst, seqD_tup, seqD_eF, seqD_eG, i2n, isi_eF, isi_eG, isi_eT, gLen_eF, gLen_eG, gLen_lst, gLen_tup, dAll_m, dAny_m, all_tt, dInt_b, isi_int_none, isi_int_bool, isi_int_int, isi_int_str, isi_int_list, isi_int_tuple, isi_bool_none, isi_bool_bool, isi_bool_int, isi_bool_str, isi_bool_list, isi_bool_tuple, isi_str_none, isi_str_bool, isi_str_int, isi_str_str, isi_str_list, isi_str_tuple, isi_list_none, isi_list_bool, isi_list_int, isi_list_str, isi_list_list, isi_list_tuple, isi_tuple_none, isi_tuple_bool, isi_tuple_int, isi_tuple_str, isi_tuple_list, isi_tuple_tuple, isi2_tl_none, isi2_tl_bool, isi2_tl_int, isi2_tl_str, isi2_tl_list, isi2_tl_tuple, zip2, zipD_map, isi_int_dict, isi_bool_dict, isi_str_dict, isi_list_dict, isi_tuple_dict, isi2_tl_dict, dIsN, dNotN, p_setIx, setIx1_ok, setIx2_s, bin1_w, bin1o_some, toDs_nil, toDs_a, toDs_o, ret_nxt, rngD_map, Int.reduceToNat, p_appV, appV_ok', p_forB, forB_ok, sm1_T, List.getElem?_cons_succ, List.getElem?_cons_zero, q_chain, ch1_a, ch2_a, ch3_tt, ch3_ff, ch4_a, lt_TT, par_ap, par1_ok, par2_ok, srcS_e, src1_e, src2_e, comp_e, un1_e, lst1_e, and_e, or_e, q_sm0, sm01_a, sm01_T, smO_some, app_0w, sign_of]⟩
  simp only [sem_shown, b_shown, p_body, p_skip, p_seq, p_set, p_ret, p_retN, p_retV_s, p_retV_0, p_exp, p_if, p_raise, p_app, p_ext, p_setT, p_for, p_cell', nxt_nx, nxt_rt, nxt_exc, fin_nx, fin_rt, fin_exc, set_ok, set_exc, ret_ok, ret_exc, exp_ok, exp_exc, if_tt, if_ff, if_ok, if_exc, for_ok, for_exc, app_s, app_0, app_0o, ext_s, ext_0, cons_nx, cons_exc, setT_ok, cell_ok, pop_nx, pop_rt, unC_nil, unC_n, unC_d, unC_st, no_nil, no_n, no_a, mask_nil, mask_t, mask_f, dom_nil, dom_s, dom_n, start_0, start_s, setW_nil, setW_cons, ev_nil, ev_n, ev_a, ev_o, ev_own, frzE_nil, frzE_cons, frz1_s, frz1_0o, frz1_0a, frz1_0n, sNm_ap, sTp_ap, q_var0, q_varS, q_c, q_bin, bin1_a, bin1_o, bin1_e, bin2_a, bin2_o, bin2_e, q_un, un1_a, un1_o, q_call, call_n, call_c, call1_a, call1_o, call1_e, q_tup, allD_nil, allD_cons, tupE_ap, q_lst, lst_n, lst_c, lst1_ok, q_comp, comp_ok, q_and, and_tt, and_ff, asB_ok, asB_e, and_ok, and_fold, q_or, or_tt, or_ff, or_ok, or_fold, q_not, not_ok, not_e, q_ife, ife_tt, ife_ff, ife_ok, q_seq, q_rng1, q_rng2, q_enum, q_zip, srcS_a, srcS_o, src1_a, src1_o, src2_a, src2_o, of_some, q_sl, sl_nn, sl_n, sl_s, slo_nn, slo_n, slo_s, slLo_n, slLo_s, slHi_ok, slLo_n', slLo_s', slHi_ok', q_sm, sm1_a, sm2_a, sm2_o, on1_ap, onD1_ap, true_ap, gNm_ap, gTp_ap, setD_nil, setD_cons, wipe_nil, wipe_cons, max2_ap, rng1_n, rng1_l, rng1_1, Nat.reduceAdd, Nat.reduceSub, Nat.reduceLeDiff, List.length_cons, List.length_nil, List.length_map, List.length_range, List.replicate, List.set_cons_zero, List.set_cons_succ, List.map_cons, List.map_nil, List.cons_append, List.nil_append, Option.map_some, if_true, Bool.false_eq_true, if_false, Bool.not_true, Bool.not_false, o_add, o_sub, o_shr, o_band, o_lt, o_le, o_gt, o_ge, own0, own1, own2, own3, own4, own5, own6, own7, own8, own9, own10, own11, own12, seqD_lst, seqD_tup, seqD_eF, seqD_eG, i2n, isi_eF, isi_eG, isi_eT, gLen_eF, gLen_eG, gLen_lst, gLen_tup, dAll_m, dAny_m, all_tt, dInt_b, isi_int_none, isi_int_bool, isi_int_int, isi_int_str, isi_int_list, isi_int_tuple, isi_bool_none, isi_bool_bool, isi_bool_int, isi_bool_str, isi_bool_list, isi_bool_tuple, isi_str_none, isi_str_bool, isi_str_int, isi_str_str, isi_str_list, isi_str_tuple, isi_list_none, isi_list_bool, isi_list_int, isi_list_str, isi_list_list, isi_list_tuple, isi_tuple_none, isi_tuple_bool, isi_tuple_int, isi_tuple_str, isi_tuple_list, isi_tuple_tuple, isi2_tl_none, isi2_tl_bool, isi2_tl_int, isi2_tl_str, isi2_tl_list, isi2_tl_tuple, zip2, zipD_map, isi_int_dict, isi_bool_dict, isi_str_dict, isi_list_dict, isi_tuple_dict, isi2_tl_dict, dIsN, dNotN, p_setIx, setIx1_ok, setIx2_s, bin1_w, bin1o_some, toDs_nil, toDs_a, toDs_o, ret_nxt, rngD_map, Int.reduceToNat, p_appV, appV_ok', p_forB, forB_ok, sm1_T, List.getElem?_cons_succ, List.getElem?_cons_zero, q_chain, ch1_a, ch2_a, ch3_tt, ch3_ff, ch4_a, lt_TT, par_ap, par1_ok, par2_ok, srcS_e, src1_e, src2_e, comp_e, un1_e, lst1_e, and_e, or_e, q_sm0, sm01_a, sm01_T, smO_some, app_0w, hc, dJoin0 (fun a => sgO a) f h]
  rfl
theorem e_ac1 (S : Cs) : sem_all_changes [.d (.int (1 : Nat))] S = .ok (ownD ((chsM 1).map eC)) S := by kernel_rfl
theorem e_ac2 (S : Cs) : sem_all_changes [.d (.int (2 : Nat))] S = .ok (ownD ((chsM 2).map eC)) S := by kernel_rfl
theorem e_ac3 (S : Cs) : sem_all_changes [.d (.int (3 : Nat))] S = .ok (ownD ((chsM 3).map eC)) S := by kernel_rfl
theorem e_ac4 (S : Cs) : sem_all_changes [.d (.int (4 : Nat))] S = .ok (ownD ((chsM 4).map eC)) S := by kernel_rfl
theorem e_all_changes {n : Nat} (h1 : 1 ≤ n) (h4 : n ≤ 4) (S : Cs) : sem_all_changes [.d (.int (n : Nat))] S = .ok (ownD ((chsM n).map eC)) S := by
  have : n = 1 ∨ n = 2 ∨ n = 3 ∨ n = 4 := by omega
  rcases this with rfl | rfl | rfl | rfl
  · exact e_ac1 S
  · exact e_ac2 S
  · exact e_ac3 S
  · exact e_ac4 S
theorem e_change_to {f g : Fn} {n : Nat} (hf : f.length = 2 ^ n) (hg : g.length = 2 ^ n) (h1 : 1 ≤ n) (h4 : n ≤ 4) (S : Cs) (hS : flatCs S = true) : sem_change_to [.d (eF f), .d (eF g)] S = .ok (.a (.d (dueM n f g))) S := by
  have hne : onD dNe (.d (.int ((2 ^ n : Nat) : Int))) (.d (.int ((2 ^ n : Nat) : Int))) S = .ok (bD false) S := ne_int _ S
  refine to_eq ?_
  simp only [sem_change_to, b_change_to, p_body, p_skip, p_seq, p_set, p_ret, p_retN, p_retV_s, p_retV_0, p_exp, p_if, p_raise, p_app, p_ext, p_setT, p_for, p_cell', nxt_nx, nxt_rt, nxt_exc, fin_nx, fin_rt, fin_exc, set_ok, set_exc, ret_ok, ret_exc, exp_ok, exp_exc, if_tt, if_ff, if_ok, if_exc, for_ok, for_exc, app_s, app_0, app_0o, ext_s, ext_0, cons_nx, cons_exc, setT_ok, cell_ok, pop_nx, pop_rt, unC_nil, unC_n, unC_d, unC_st, no_nil, no_n, no_a, mask_nil, mask_t, mask_f, dom_nil, dom_s, dom_n, start_0, start_s, setW_nil, setW_cons, ev_nil, ev_n, ev_a, ev_o, ev_own, frzE_nil, frzE_cons, frz1_s, frz1_0o, frz1_0a, frz1_0n, sNm_ap, sTp_ap, q_var0, q_varS, q_c, q_bin, bin1_a, bin1_o, bin1_e, bin2_a, bin2_o, bin2_e, q_un, un1_a, un1_o, q_call, call_n, call_c, call1_a, call1_o, call1_e, q_tup, allD_nil, allD_cons, tupE_ap, q_lst, lst_n, lst_c, lst1_ok, q_comp, comp_ok, q_and, and_tt, and_ff, asB_ok, asB_e, and_ok, and_fold, q_or, or_tt, or_ff, or_ok, or_fold, q_not, not_ok, not_e, q_ife, ife_tt, ife_ff, ife_ok, q_seq, q_rng1, q_rng2, q_enum, q_zip, srcS_a, srcS_o, src1_a, src1_o, src2_a, src2_o, of_some, q_sl, sl_nn, sl_n, sl_s, slo_nn, slo_n, slo_s, slLo_n, slLo_s, slHi_ok, slLo_n', slLo_s', slHi_ok', q_sm, sm1_a, sm2_a, sm2_o, on1_ap, onD1_ap, true_ap, gNm_ap, gTp_ap, setD_nil, setD_cons, wipe_nil, wipe_cons, max2_ap, rng1_n, rng1_l, rng1_1, Nat.reduceAdd, Nat.reduceSub, Nat.reduceLeDiff, List.length_cons, List.length_nil, List.length_map, List.length_range, List.replicate, List.set_cons_zero, List.set_cons_succ, List.map_cons, List.map_nil, List.cons_append, List.nil_append, Option.map_some, if_true, Bool.false_eq_true, if_false, Bool.not_true, Bool.not_false, o_add, o_sub, o_shr, o_band, o_lt, o_le, o_gt, o_ge, own0, own1, own2, own3, own4, own5, own6, own7, own8, own9, own10, own11, own12, seqD_lst, seqD_tup, seqD_eF, seqD_eG, i2n, isi_eF, isi_eG, isi_eT, gLen_eF, gLen_eG, gLen_lst, gLen_tup, dAll_m, dAny_m, all_tt, dInt_b, isi_int_none, isi_int_bool, isi_int_int, isi_int_str, isi_int_list, isi_int_tuple, isi_bool_none, isi_bool_bool, isi_bool_int, isi_bool_str, isi_bool_list, isi_bool_tuple, isi_str_none, isi_str_bool, isi_str_int, isi_str_str, isi_str_list, isi_str_tuple, isi_list_none, isi_list_bool, isi_list_int, isi_list_str, isi_list_list, isi_list_tuple, isi_tuple_none, isi_tuple_bool, isi_tuple_int, isi_tuple_str, isi_tuple_list, isi_tuple_tuple, isi2_tl_none, isi2_tl_bool, isi2_tl_int, isi2_tl_str, isi2_tl_list, isi2_tl_tuple, zip2, zipD_map, isi_int_dict, isi_bool_dict, isi_str_dict, isi_list_dict, isi_tuple_dict, isi2_tl_dict, dIsN, dNotN, p_setIx, setIx1_ok, setIx2_s, bin1_w, bin1o_some, toDs_nil, toDs_a, toDs_o, ret_nxt, rngD_map, Int.reduceToNat, p_appV, appV_ok', p_forB, forB_ok, sm1_T, List.getElem?_cons_succ, List.getElem?_cons_zero, q_chain, ch1_a, ch2_a, ch3_tt, ch3_ff, ch4_a, lt_TT, par_ap, par1_ok, par2_ok, srcS_e, src1_e, src2_e, comp_e, un1_e, lst1_e, and_e, or_e, q_sm0, sm01_a, sm01_T, smO_some, app_0w, e_need_function (isFn_eF hf h1 h4) S hS, e_need_function (isFn_eF hg h1 h4) S hS, hS, hf, hg, hne, e_switches_of hf h1 h4, e_all_changes h1 h4, to_fin]
  refine for_allS eC (fun pre ρ S1 => S1 = S ∧ ρ = [some (.a (.d (eF f))), some (.a (.d (eF g))), none] ∧ pre.filter (fun c => cgF n c f == g) = []) ⟨rfl, rfl, rfl⟩ ?_ ?_
  · rintro pre c post e ρ S1 ⟨rfl, rfl, hp⟩
    have hc : okC n c := chs_ok h4 (by rw [e]; simp)
    refine ⟨_, rfl, ?_⟩
    simp only [p_body, p_skip, p_seq, p_set, p_ret, p_retN, p_retV_s, p_retV_0, p_exp, p_if, p_raise, p_app, p_ext, p_setT, p_for, p_cell', nxt_nx, nxt_rt, nxt_exc, fin_nx, fin_rt, fin_exc, set_ok, set_exc, ret_ok, ret_exc, exp_ok, exp_exc, if_tt, if_ff, if_ok, if_exc, for_ok, for_exc, app_s, app_0, app_0o, ext_s, ext_0, cons_nx, cons_exc, setT_ok, cell_ok, pop_nx, pop_rt, unC_nil, unC_n, unC_d, unC_st, no_nil, no_n, no_a, mask_nil, mask_t, mask_f, dom_nil, dom_s, dom_n, start_0, start_s, setW_nil, setW_cons, ev_nil, ev_n, ev_a, ev_o, ev_own, frzE_nil, frzE_cons, frz1_s, frz1_0o, frz1_0a, frz1_0n, sNm_ap, sTp_ap, q_var0, q_varS, q_c, q_bin, bin1_a, bin1_o, bin1_e, bin2_a, bin2_o, bin2_e, q_un, un1_a, un1_o, q_call, call_n, call_c, call1_a, call1_o, call1_e, q_tup, allD_nil, allD_cons, tupE_ap, q_lst, lst_n, lst_c, lst1_ok, q_comp, comp_ok, q_and, and_tt, and_ff, asB_ok, asB_e, and_ok, and_fold, q_or, or_tt, or_ff, or_ok, or_fold, q_not, not_ok, not_e, q_ife, ife_tt, ife_ff, ife_ok, q_seq, q_rng1, q_rng2, q_enum, q_zip, srcS_a, srcS_o, src1_a, src1_o, src2_a, src2_o, of_some, q_sl, sl_nn, sl_n, sl_s, slo_nn, slo_n, slo_s, slLo_n, slLo_s, slHi_ok, slLo_n', slLo_s', slHi_ok', q_sm, sm1_a, sm2_a, sm2_o, on1_ap, onD1_ap, true_ap, gNm_ap, gTp_ap, setD_nil, setD_cons, wipe_nil, wipe_cons, max2_ap, rng1_n, rng1_l, rng1_1, Nat.reduceAdd, Nat.reduceSub, Nat.reduceLeDiff, List.length_cons, List.length_nil, List.length_map, List.length_range, List.replicate, List.set_cons_zero, List.set_cons_succ, List.map_cons, List.map_nil, List.cons_append, List.nil_append, Option.map_some, if_true, Bool.false_eq_true, if_false, Bool.not_true, Bool.not_false, o_add, o_sub, o_shr, o_band, o_lt, o_le, o_gt, o_ge, own0, own1, own2, own3, own4, own5, own6, own7, own8, own9, own10, own11, own12, seqD_lst, seqD_tup, seqD_eF, seqD_eG, i2n, isi_eF, isi_eG, isi_eT, gLen_eF, gLen_eG, gLen_lst, gLen_tup, dAll_m, dAny_m, all_tt, dInt_b, isi_int_none, isi_int_bool, isi_int_int, isi_int_str, isi_int_list, isi_int_tuple, isi_bool_none, isi_bool_bool, isi_bool_int, isi_bool_str, isi_bool_list, isi_bool_tuple, isi_str_none, isi_str_bool, isi_str_int, isi_str_str, isi_str_list, isi_str_tuple, isi_list_none, isi_list_bool, isi_list_int, isi_list_str, isi_list_list, isi_list_tuple, isi_tuple_none, isi_tuple_bool, isi_tuple_int, isi_tuple_str, isi_tuple_list, isi_tuple_tuple, isi2_tl_none, isi2_tl_bool, isi2_tl_int, isi2_tl_str, isi2_tl_list, isi2_tl_tuple, zip2, zipD_map, isi_int_dict, isi_bool_dict, isi_str_dict, isi_list_dict, isi_tuple_dict, isi2_tl_dict, dIsN, dNotN, p_setIx, setIx1_ok, setIx2_s, bin1_w, bin1o_some, toDs_nil, toDs_a, toDs_o, ret_nxt, rngD_map, Int.reduceToNat, p_appV, appV_ok', p_forB, forB_ok, sm1_T, List.getElem?_cons_succ, List.getElem?_cons_zero, q_chain, ch1_a, ch2_a, ch3_tt, ch3_ff, ch4_a, lt_TT, par_ap, par1_ok, par2_ok, srcS_e, src1_e, src2_e, comp_e, un1_e, lst1_e, and_e, or_e, q_sm0, sm01_a, sm01_T, smO_some, app_0w, e_changed_by hf h1 h4 hc S1 hS, eq_eF, hS, to_ifte, to_nx, to_rt]
    cases hq : cgF n c f == g with
    | true =>
      rw [if_pos rfl]
      refine ⟨?_, trivial⟩
      have : toM n f g = c :: post.filter (fun c => cgF n c f == g) := by
        unfold toM
        rw [e, List.filter_append, hp, List.nil_append, List.filter_cons_of_pos (by exact hq)]
      unfold dueM
      rw [this]
    | false =>
      rw [if_neg (by simp)]
      refine ⟨trivial, trivial, ?_⟩
      rw [List.filter_append, hp, List.nil_append, List.filter_cons_of_neg (by simp only [hq]; simp)]
      rfl
  · rintro ρ S1 ⟨rfl, rfl, hp⟩
    simp only [p_body, p_skip, p_seq, p_set, p_ret, p_retN, p_retV_s, p_retV_0, p_exp, p_if, p_raise, p_app, p_ext, p_setT, p_for, p_cell', nxt_nx, nxt_rt, nxt_exc, fin_nx, fin_rt, fin_exc, set_ok, set_exc, ret_ok, ret_exc, exp_ok, exp_exc, if_tt, if_ff, if_ok, if_exc, for_ok, for_exc, app_s, app_0, app_0o, ext_s, ext_0, cons_nx, cons_exc, setT_ok, cell_ok, pop_nx, pop_rt, unC_nil, unC_n, unC_d, unC_st, no_nil, no_n, no_a, mask_nil, mask_t, mask_f, dom_nil, dom_s, dom_n, start_0, start_s, setW_nil, setW_cons, ev_nil, ev_n, ev_a, ev_o, ev_own, frzE_nil, frzE_cons, frz1_s, frz1_0o, frz1_0a, frz1_0n, sNm_ap, sTp_ap, q_var0, q_varS, q_c, q_bin, bin1_a, bin1_o, bin1_e, bin2_a, bin2_o, bin2_e, q_un, un1_a, un1_o, q_call, call_n, call_c, call1_a, call1_o, call1_e, q_tup, allD_nil, allD_cons, tupE_ap, q_lst, lst_n, lst_c, lst1_ok, q_comp, comp_ok, q_and, and_tt, and_ff, asB_ok, asB_e, and_ok, and_fold, q_or, or_tt, or_ff, or_ok, or_fold, q_not, not_ok, not_e, q_ife, ife_tt, ife_ff, ife_ok, q_seq, q_rng1, q_rng2, q_enum, q_zip, srcS_a, srcS_o, src1_a, src1_o, src2_a, src2_o, of_some, q_sl, sl_nn, sl_n, sl_s, slo_nn, slo_n, slo_s, slLo_n, slLo_s, slHi_ok, slLo_n', slLo_s', slHi_ok', q_sm, sm1_a, sm2_a, sm2_o, on1_ap, onD1_ap, true_ap, gNm_ap, gTp_ap, setD_nil, setD_cons, wipe_nil, wipe_cons, max2_ap, rng1_n, rng1_l, rng1_1, Nat.reduceAdd, Nat.reduceSub, Nat.reduceLeDiff, List.length_cons, List.length_nil, List.length_map, List.length_range, List.replicate, List.set_cons_zero, List.set_cons_succ, List.map_cons, List.map_nil, List.cons_append, List.nil_append, Option.map_some, if_true, Bool.false_eq_true, if_false, Bool.not_true, Bool.not_false, o_add, o_sub, o_shr, o_band, o_lt, o_le, o_gt, o_ge, own0, own1, own2, own3, own4, own5, own6, own7, own8, own9, own10, own11, own12, seqD_lst, seqD_tup, seqD_eF, seqD_eG, i2n, isi_eF, isi_eG, isi_eT, gLen_eF, gLen_eG, gLen_lst, gLen_tup, dAll_m, dAny_m, all_tt, dInt_b, isi_int_none, isi_int_bool, isi_int_int, isi_int_str, isi_int_list, isi_int_tuple, isi_bool_none, isi_bool_bool, isi_bool_int, isi_bool_str, isi_bool_list, isi_bool_tuple, isi_str_none, isi_str_bool, isi_str_int, isi_str_str, isi_str_list, isi_str_tuple, isi_list_none, isi_list_bool, isi_list_int, isi_list_str, isi_list_list, isi_list_tuple, isi_tuple_none, isi_tuple_bool, isi_tuple_int, isi_tuple_str, isi_tuple_list, isi_tuple_tuple, isi2_tl_none, isi2_tl_bool, isi2_tl_int, isi2_tl_str, isi2_tl_list, isi2_tl_tuple, zip2, zipD_map, isi_int_dict, isi_bool_dict, isi_str_dict, isi_list_dict, isi_tuple_dict, isi2_tl_dict, dIsN, dNotN, p_setIx, setIx1_ok, setIx2_s, bin1_w, bin1o_some, toDs_nil, toDs_a, toDs_o, ret_nxt, rngD_map, Int.reduceToNat, p_appV, appV_ok', p_forB, forB_ok, sm1_T, List.getElem?_cons_succ, List.getElem?_cons_zero, q_chain, ch1_a, ch2_a, ch3_tt, ch3_ff, ch4_a, lt_TT, par_ap, par1_ok, par2_ok, srcS_e, src1_e, src2_e, comp_e, un1_e, lst1_e, and_e, or_e, q_sm0, sm01_a, sm01_T, smO_some, app_0w, to_rt]
    refine ⟨?_, trivial⟩
    have : toM n f g = [] := hp
    unfold dueM
    rw [this]
theorem e_change_to0 {d e : D} (h : isFnD d = false) (S : Cs) (hS : flatCs S = true) : sem_change_to [.d d, .d e] S = .exc "NoFunction" S := by
  simp only [sem_change_to, b_change_to, p_body, p_skip, p_seq, p_set, p_ret, p_retN, p_retV_s, p_retV_0, p_exp, p_if, p_raise, p_app, p_ext, p_setT, p_for, p_cell', nxt_nx, nxt_rt, nxt_exc, fin_nx, fin_rt, fin_exc, set_ok, set_exc, ret_ok, ret_exc, exp_ok, exp_exc, if_tt, if_ff, if_ok, if_exc, for_ok, for_exc, app_s, app_0, app_0o, ext_s, ext_0, cons_nx, cons_exc, setT_ok, cell_ok, pop_nx, pop_rt, unC_nil, unC_n, unC_d, unC_st, no_nil, no_n, no_a, mask_nil, mask_t, mask_f, dom_nil, dom_s, dom_n, start_0, start_s, setW_nil, setW_cons, ev_nil, ev_n, ev_a, ev_o, ev_own, frzE_nil, frzE_cons, frz1_s, frz1_0o, frz1_0a, frz1_0n, sNm_ap, sTp_ap, q_var0, q_varS, q_c, q_bin, bin1_a, bin1_o, bin1_e, bin2_a, bin2_o, bin2_e, q_un, un1_a, un1_o, q_call, call_n, call_c, call1_a, call1_o, call1_e, q_tup, allD_nil, allD_cons, tupE_ap, q_lst, lst_n, lst_c, lst1_ok, q_comp, comp_ok, q_and, and_tt, and_ff, asB_ok, asB_e, and_ok, and_fold, q_or, or_tt, or_ff, or_ok, or_fold, q_not, not_ok, not_e, q_ife, ife_tt, ife_ff, ife_ok, q_seq, q_rng1, q_rng2, q_enum, q_zip, srcS_a, srcS_o, src1_a, src1_o, src2_a, src2_o, of_some, q_sl, sl_nn, sl_n, sl_s, slo_nn, slo_n, slo_s, slLo_n, slLo_s, slHi_ok, slLo_n', slLo_s', slHi_ok', q_sm, sm1_a, sm2_a, sm2_o, on1_ap, onD1_ap, true_ap, gNm_ap, gTp_ap, setD_nil, setD_cons, wipe_nil, wipe_cons, max2_ap, rng1_n, rng1_l, rng1_1, Nat.reduceAdd, Nat.reduceSub, Nat.reduceLeDiff, List.length_cons, List.length_nil, List.length_map, List.length_range, List.replicate, List.set_cons_zero, List.set_cons_succ, List.map_cons, List.map_nil, List.cons_append, List.nil_append, Option.map_some, if_true, Bool.false_eq_true, if_false, Bool.not_true, Bool.not_false, o_add, o_sub, o_shr, o_band, o_lt, o_le, o_gt, o_ge, own0, own1, own2, own3, own4, own5, own6, own7, own8, own9, own10, own11, own12, seqD_lst, seqD_tup, seqD_eF, seqD_eG, i2n, isi_eF, isi_eG, isi_eT, gLen_eF, gLen_eG, gLen_lst, gLen_tup, dAll_m, dAny_m, all_tt, dInt_b, isi_int_none, isi_int_bool, isi_int_int, isi_int_str, isi_int_list, isi_int_tuple, isi_bool_none, isi_bool_bool, isi_bool_int, isi_bool_str, isi_bool_list, isi_bool_tuple, isi_str_none, isi_str_bool, isi_str_int, isi_str_str, isi_str_list, isi_str_tuple, isi_list_none, isi_list_bool, isi_list_int, isi_list_str, isi_list_list, isi_list_tuple, isi_tuple_none, isi_tuple_bool, isi_tuple_int, isi_tuple_str, isi_tuple_list, isi_tuple_tuple, isi2_tl_none, isi2_tl_bool, isi2_tl_int, isi2_tl_str, isi2_tl_list, isi2_tl_tuple, zip2, zipD_map, isi_int_dict, isi_bool_dict, isi_str_dict, isi_list_dict, isi_tuple_dict, isi2_tl_dict, dIsN, dNotN, p_setIx, setIx1_ok, setIx2_s, bin1_w, bin1o_some, toDs_nil, toDs_a, toDs_o, ret_nxt, rngD_map, Int.reduceToNat, p_appV, appV_ok', p_forB, forB_ok, sm1_T, List.getElem?_cons_succ, List.getElem?_cons_zero, q_chain, ch1_a, ch2_a, ch3_tt, ch3_ff, ch4_a, lt_TT, par_ap, par1_ok, par2_ok, srcS_e, src1_e, src2_e, comp_e, un1_e, lst1_e, and_e, or_e, q_sm0, sm01_a, sm01_T, smO_some, app_0w, e_need_function0 h S hS]
theorem e_change_to1 {d e : D} (hd : isFnD d = true) (h : isFnD e = false) (S : Cs) (hS : flatCs S = true) : sem_change_to [.d d, .d e] S = .exc "NoFunction" S := by
  simp only [sem_change_to, b_change_to, p_body, p_skip, p_seq, p_set, p_ret, p_retN, p_retV_s, p_retV_0, p_exp, p_if, p_raise, p_app, p_ext, p_setT, p_for, p_cell', nxt_nx, nxt_rt, nxt_exc, fin_nx, fin_rt, fin_exc, set_ok, set_exc, ret_ok, ret_exc, exp_ok, exp_exc, if_tt, if_ff, if_ok, if_exc, for_ok, for_exc, app_s, app_0, app_0o, ext_s, ext_0, cons_nx, cons_exc, setT_ok, cell_ok, pop_nx, pop_rt, unC_nil, unC_n, unC_d, unC_st, no_nil, no_n, no_a, mask_nil, mask_t, mask_f, dom_nil, dom_s, dom_n, start_0, start_s, setW_nil, setW_cons, ev_nil, ev_n, ev_a, ev_o, ev_own, frzE_nil, frzE_cons, frz1_s, frz1_0o, frz1_0a, frz1_0n, sNm_ap, sTp_ap, q_var0, q_varS, q_c, q_bin, bin1_a, bin1_o, bin1_e, bin2_a, bin2_o, bin2_e, q_un, un1_a, un1_o, q_call, call_n, call_c, call1_a, call1_o, call1_e, q_tup, allD_nil, allD_cons, tupE_ap, q_lst, lst_n, lst_c, lst1_ok, q_comp, comp_ok, q_and, and_tt, and_ff, asB_ok, asB_e, and_ok, and_fold, q_or, or_tt, or_ff, or_ok, or_fold, q_not, not_ok, not_e, q_ife, ife_tt, ife_ff, ife_ok, q_seq, q_rng1, q_rng2, q_enum, q_zip, srcS_a, srcS_o, src1_a, src1_o, src2_a, src2_o, of_some, q_sl, sl_nn, sl_n, sl_s, slo_nn, slo_n, slo_s, slLo_n, slLo_s, slHi_ok, slLo_n', slLo_s', slHi_ok', q_sm, sm1_a, sm2_a, sm2_o, on1_ap, onD1_ap, true_ap, gNm_ap, gTp_ap, setD_nil, setD_cons, wipe_nil, wipe_cons, max2_ap, rng1_n, rng1_l, rng1_1, Nat.reduceAdd, Nat.reduceSub, Nat.reduceLeDiff, List.length_cons, List.length_nil, List.length_map, List.length_range, List.replicate, List.set_cons_zero, List.set_cons_succ, List.map_cons, List.map_nil, List.cons_append, List.nil_append, Option.map_some, if_true, Bool.false_eq_true, if_false, Bool.not_true, Bool.not_false, o_add, o_sub, o_shr, o_band, o_lt, o_le, o_gt, o_ge, own0, own1, own2, own3, own4, own5, own6, own7, own8, own9, own10, own11, own12, seqD_lst, seqD_tup, seqD_eF, seqD_eG, i2n, isi_eF, isi_eG, isi_eT, gLen_eF, gLen_eG, gLen_lst, gLen_tup, dAll_m, dAny_m, all_tt, dInt_b, isi_int_none, isi_int_bool, isi_int_int, isi_int_str, isi_int_list, isi_int_tuple, isi_bool_none, isi_bool_bool, isi_bool_int, isi_bool_str, isi_bool_list, isi_bool_tuple, isi_str_none, isi_str_bool, isi_str_int, isi_str_str, isi_str_list, isi_str_tuple, isi_list_none, isi_list_bool, isi_list_int, isi_list_str, isi_list_list, isi_list_tuple, isi_tuple_none, isi_tuple_bool, isi_tuple_int, isi_tuple_str, isi_tuple_list, isi_tuple_tuple, isi2_tl_none, isi2_tl_bool, isi2_tl_int, isi2_tl_str, isi2_tl_list, isi2_tl_tuple, zip2, zipD_map, isi_int_dict, isi_bool_dict, isi_str_dict, isi_list_dict, isi_tuple_dict, isi2_tl_dict, dIsN, dNotN, p_setIx, setIx1_ok, setIx2_s, bin1_w, bin1o_some, toDs_nil, toDs_a, toDs_o, ret_nxt, rngD_map, Int.reduceToNat, p_appV, appV_ok', p_forB, forB_ok, sm1_T, List.getElem?_cons_succ, List.getElem?_cons_zero, q_chain, ch1_a, ch2_a, ch3_tt, ch3_ff, ch4_a, lt_TT, par_ap, par1_ok, par2_ok, srcS_e, src1_e, src2_e, comp_e, un1_e, lst1_e, and_e, or_e, q_sm0, sm01_a, sm01_T, smO_some, app_0w, e_need_function hd S hS, hS, e_need_function0 h S hS]
theorem e_change_to2 {f g : Fn} (hf : isFnD (eF f) = true) (hg : isFnD (eF g) = true) (hl : f.length ≠ g.length) (S : Cs) (hS : flatCs S = true) : sem_change_to [.d (eF f), .d (eF g)] S = .exc "NoFunction" S := by
  have hne : onD dNe (.d (.int ((f.length : Nat) : Int))) (.d (.int ((g.length : Nat) : Int))) S = .ok (bD true) S := by
    rw [o_ne S (eqOk_flat rfl rfl)]
    have : PyData.eqv (.int ((f.length : Nat) : Int)) (.int ((g.length : Nat) : Int)) = false := by
      rw [Bool.eq_false_iff]
      intro z
      have := (eqv_plain _ _ rfl rfl).mp z
      injection this with this
      omega
    rw [this]
    rfl
  simp only [sem_change_to, b_change_to, p_body, p_skip, p_seq, p_set, p_ret, p_retN, p_retV_s, p_retV_0, p_exp, p_if, p_raise, p_app, p_ext, p_setT, p_for, p_cell', nxt_nx, nxt_rt, nxt_exc, fin_nx, fin_rt, fin_exc, set_ok, set_exc, ret_ok, ret_exc, exp_ok, exp_exc, if_tt, if_ff, if_ok, if_exc, for_ok, for_exc, app_s, app_0, app_0o, ext_s, ext_0, cons_nx, cons_exc, setT_ok, cell_ok, pop_nx, pop_rt, unC_nil, unC_n, unC_d, unC_st, no_nil, no_n, no_a, mask_nil, mask_t, mask_f, dom_nil, dom_s, dom_n, start_0, start_s, setW_nil, setW_cons, ev_nil, ev_n, ev_a, ev_o, ev_own, frzE_nil, frzE_cons, frz1_s, frz1_0o, frz1_0a, frz1_0n, sNm_ap, sTp_ap, q_var0, q_varS, q_c, q_bin, bin1_a, bin1_o, bin1_e, bin2_a, bin2_o, bin2_e, q_un, un1_a, un1_o, q_call, call_n, call_c, call1_a, call1_o, call1_e, q_tup, allD_nil, allD_cons, tupE_ap, q_lst, lst_n, lst_c, lst1_ok, q_comp, comp_ok, q_and, and_tt, and_ff, asB_ok, asB_e, and_ok, and_fold, q_or, or_tt, or_ff, or_ok, or_fold, q_not, not_ok, not_e, q_ife, ife_tt, ife_ff, ife_ok, q_seq, q_rng1, q_rng2, q_enum, q_zip, srcS_a, srcS_o, src1_a, src1_o, src2_a, src2_o, of_some, q_sl, sl_nn, sl_n, sl_s, slo_nn, slo_n, slo_s, slLo_n, slLo_s, slHi_ok, slLo_n', slLo_s', slHi_ok', q_sm, sm1_a, sm2_a, sm2_o, on1_ap, onD1_ap, true_ap, gNm_ap, gTp_ap, setD_nil, setD_cons, wipe_nil, wipe_cons, max2_ap, rng1_n, rng1_l, rng1_1, Nat.reduceAdd, Nat.reduceSub, Nat.reduceLeDiff, List.length_cons, List.length_nil, List.length_map, List.length_range, List.replicate, List.set_cons_zero, List.set_cons_succ, List.map_cons, List.map_nil, List.cons_append, List.nil_append, Option.map_some, if_true, Bool.false_eq_true, if_false, Bool.not_true, Bool.not_false, o_add, o_sub, o_shr, o_band, o_lt, o_le, o_gt, o_ge, own0, own1, own2, own3, own4, own5, own6, own7, own8, own9, own10, own11, own12, seqD_lst, seqD_tup, seqD_eF, seqD_eG, i2n, isi_eF, isi_eG, isi_eT, gLen_eF, gLen_eG, gLen_lst, gLen_tup, dAll_m, dAny_m, all_tt, dInt_b, isi_int_none, isi_int_bool, isi_int_int, isi_int_str, isi_int_list, isi_int_tuple, isi_bool_none, isi_bool_bool, isi_bool_int, isi_bool_str, isi_bool_list, isi_bool_tuple, isi_str_none, isi_str_bool, isi_str_int, isi_str_str, isi_str_list, isi_str_tuple, isi_list_none, isi_list_bool, isi_list_int, isi_list_str, isi_list_list, isi_list_tuple, isi_tuple_none, isi_tuple_bool, isi_tuple_int, isi_tuple_str, isi_tuple_list, isi_tuple_tuple, isi2_tl_none, isi2_tl_bool, isi2_tl_int, isi2_tl_str, isi2_tl_list, isi2_tl_tuple, zip2, zipD_map, isi_int_dict, isi_bool_dict, isi_str_dict, isi_list_dict, isi_tuple_dict, isi2_tl_dict, dIsN, dNotN, p_setIx, setIx1_ok, setIx2_s, bin1_w, bin1o_some, toDs_nil, toDs_a, toDs_o, ret_nxt, rngD_map, Int.reduceToNat, p_appV, appV_ok', p_forB, forB_ok, sm1_T, List.getElem?_cons_succ, List.getElem?_cons_zero, q_chain, ch1_a, ch2_a, ch3_tt, ch3_ff, ch4_a, lt_TT, par_ap, par1_ok, par2_ok, srcS_e, src1_e, src2_e, comp_e, un1_e, lst1_e, and_e, or_e, q_sm0, sm01_a, sm01_T, smO_some, app_0w, e_need_function hf S hS, e_need_function hg S hS, hS, hne]
theorem e_own_changes {f : Fn} {n : Nat} (hf : f.length = 2 ^ n) (h1 : 1 ≤ n) (h4 : n ≤ 4) (S : Cs) (hS : flatCs S = true) : sem_own_changes [.d (eF f)] S = .ok (ownD ((toM n f f).map eC)) S := by
  have hc : compL (gNm 1) (fBin (onD dEq) (fCall sem_changed_by [(fVar 0), (fVar 1)]) (fVar 0)) (fVar 1) [some (.d (eF f)), none] ((chsM n).map eC) S [] = .ok (ownD ((toM n f f).map eC)) S := by
    refine compL_f eC (fun c => cgF n c f == f) eC (chsM n) fun c hc => ⟨_, rfl, ?_, fun _ => ?_⟩
    · simp only [p_body, p_skip, p_seq, p_set, p_ret, p_retN, p_retV_s, p_retV_0, p_exp, p_if, p_raise, p_app, p_ext, p_setT, p_for, p_cell', nxt_nx, nxt_rt, nxt_exc, fin_nx, fin_rt, fin_exc, set_ok, set_exc, ret_ok, ret_exc, exp_ok, exp_exc, if_tt, if_ff, if_ok, if_exc, for_ok, for_exc, app_s, app_0, app_0o, ext_s, ext_0, cons_nx, cons_exc, setT_ok, cell_ok, pop_nx, pop_rt, unC_nil, unC_n, unC_d, unC_st, no_nil, no_n, no_a, mask_nil, mask_t, mask_f, dom_nil, dom_s, dom_n, start_0, start_s, setW_nil, setW_cons, ev_nil, ev_n, ev_a, ev_o, ev_own, frzE_nil, frzE_cons, frz1_s, frz1_0o, frz1_0a, frz1_0n, sNm_ap, sTp_ap, q_var0, q_varS, q_c, q_bin, bin1_a, bin1_o, bin1_e, bin2_a, bin2_o, bin2_e, q_un, un1_a, un1_o, q_call, call_n, call_c, call1_a, call1_o, call1_e, q_tup, allD_nil, allD_cons, tupE_ap, q_lst, lst_n, lst_c, lst1_ok, q_comp, comp_ok, q_and, and_tt, and_ff, asB_ok, asB_e, and_ok, and_fold, q_or, or_tt, or_ff, or_ok, or_fold, q_not, not_ok, not_e, q_ife, ife_tt, ife_ff, ife_ok, q_seq, q_rng1, q_rng2, q_enum, q_zip, srcS_a, srcS_o, src1_a, src1_o, src2_a, src2_o, of_some, q_sl, sl_nn, sl_n, sl_s, slo_nn, slo_n, slo_s, slLo_n, slLo_s, slHi_ok, slLo_n', slLo_s', slHi_ok', q_sm, sm1_a, sm2_a, sm2_o, on1_ap, onD1_ap, true_ap, gNm_ap, gTp_ap, setD_nil, setD_cons, wipe_nil, wipe_cons, max2_ap, rng1_n, rng1_l, rng1_1, Nat.reduceAdd, Nat.reduceSub, Nat.reduceLeDiff, List.length_cons, List.length_nil, List.length_map, List.length_range, List.replicate, List.set_cons_zero, List.set_cons_succ, List.map_cons, List.map_nil, List.cons_append, List.nil_append, Option.map_some, if_true, Bool.false_eq_true, if_false, Bool.not_true, Bool.not_false, o_add, o_sub, o_shr, o_band, o_lt, o_le, o_gt, o_ge, own0, own1, own2, own3, own4, own5, own6, own7, own8, own9, own10, own11, own12, seqD_lst, seqD_tup, seqD_eF, seqD_eG, i2n, isi_eF, isi_eG, isi_eT, gLen_eF, gLen_eG, gLen_lst, gLen_tup, dAll_m, dAny_m, all_tt, dInt_b, isi_int_none, isi_int_bool, isi_int_int, isi_int_str, isi_int_list, isi_int_tuple, isi_bool_none, isi_bool_bool, isi_bool_int, isi_bool_str, isi_bool_list, isi_bool_tuple, isi_str_none, isi_str_bool, isi_str_int, isi_str_str, isi_str_list, isi_str_tuple, isi_list_none, isi_list_bool, isi_list_int, isi_list_str, isi_list_list, isi_list_tuple, isi_tuple_none, isi_tuple_bool, isi_tuple_int, isi_tuple_str, isi_tuple_list, isi_tuple_tuple, isi2_tl_none, isi2_tl_bool, isi2_tl_int, isi2_tl_str, isi2_tl_list, isi2_tl_tuple, zip2, zipD_map, isi_int_dict, isi_bool_dict, isi_str_dict, isi_list_dict, isi_tuple_dict, isi2_tl_dict, dIsN, dNotN, p_setIx, setIx1_ok, setIx2_s, bin1_w, bin1o_some, toDs_nil, toDs_a, toDs_o, ret_nxt, rngD_map, Int.reduceToNat, p_appV, appV_ok', p_forB, forB_ok, sm1_T, List.getElem?_cons_succ, List.getElem?_cons_zero, q_chain, ch1_a, ch2_a, ch3_tt, ch3_ff, ch4_a, lt_TT, par_ap, par1_ok, par2_ok, srcS_e, src1_e, src2_e, comp_e, un1_e, lst1_e, and_e, or_e, q_sm0, sm01_a, sm01_T, smO_some, app_0w, e_changed_by hf h1 h4 (chs_ok h4 hc) S hS, eq_eF]
    · simp only [p_body, p_skip, p_seq, p_set, p_ret, p_retN, p_retV_s, p_retV_0, p_exp, p_if, p_raise, p_app, p_ext, p_setT, p_for, p_cell', nxt_nx, nxt_rt, nxt_exc, fin_nx, fin_rt, fin_exc, set_ok, set_exc, ret_ok, ret_exc, exp_ok, exp_exc, if_tt, if_ff, if_ok, if_exc, for_ok, for_exc, app_s, app_0, app_0o, ext_s, ext_0, cons_nx, cons_exc, setT_ok, cell_ok, pop_nx, pop_rt, unC_nil, unC_n, unC_d, unC_st, no_nil, no_n, no_a, mask_nil, mask_t, mask_f, dom_nil, dom_s, dom_n, start_0, start_s, setW_nil, setW_cons, ev_nil, ev_n, ev_a, ev_o, ev_own, frzE_nil, frzE_cons, frz1_s, frz1_0o, frz1_0a, frz1_0n, sNm_ap, sTp_ap, q_var0, q_varS, q_c, q_bin, bin1_a, bin1_o, bin1_e, bin2_a, bin2_o, bin2_e, q_un, un1_a, un1_o, q_call, call_n, call_c, call1_a, call1_o, call1_e, q_tup, allD_nil, allD_cons, tupE_ap, q_lst, lst_n, lst_c, lst1_ok, q_comp, comp_ok, q_and, and_tt, and_ff, asB_ok, asB_e, and_ok, and_fold, q_or, or_tt, or_ff, or_ok, or_fold, q_not, not_ok, not_e, q_ife, ife_tt, ife_ff, ife_ok, q_seq, q_rng1, q_rng2, q_enum, q_zip, srcS_a, srcS_o, src1_a, src1_o, src2_a, src2_o, of_some, q_sl, sl_nn, sl_n, sl_s, slo_nn, slo_n, slo_s, slLo_n, slLo_s, slHi_ok, slLo_n', slLo_s', slHi_ok', q_sm, sm1_a, sm2_a, sm2_o, on1_ap, onD1_ap, true_ap, gNm_ap, gTp_ap, setD_nil, setD_cons, wipe_nil, wipe_cons, max2_ap, rng1_n, rng1_l, rng1_1, Nat.reduceAdd, Nat.reduceSub, Nat.reduceLeDiff, List.length_cons, List.length_nil, List.length_map, List.length_range, List.replicate, List.set_cons_zero, List.set_cons_succ, List.map_cons, List.map_nil, List.cons_append, List.nil_append, Option.map_some, if_true, Bool.false_eq_true, if_false, Bool.not_true, Bool.not_false, o_add, o_sub, o_shr, o_band, o_lt, o_le, o_gt, o_ge, own0, own1, own2, own3, own4, own5, own6, own7, own8, own9, own10, own11, own12, seqD_lst, seqD_tup, seqD_eF, seqD_eG, i2n, isi_eF, isi_eG, isi_eT, gLen_eF, gLen_eG, gLen_lst, gLen_tup, dAll_m, dAny_m, all_tt, dInt_b, isi_int_none, isi_int_bool, isi_int_int, isi_int_str, isi_int_list, isi_int_tuple, isi_bool_none, isi_bool_bool, isi_bool_int, isi_bool_str, isi_bool_list, isi_bool_tuple, isi_str_none, isi_str_bool, isi_str_int, isi_str_str, isi_str_list, isi_str_tuple, isi_list_none, isi_list_bool, isi_list_int, isi_list_str, isi_list_list, isi_list_tuple, isi_tuple_none, isi_tuple_bool, isi_tuple_int, isi_tuple_str, isi_tuple_list, isi_tuple_tuple, isi2_tl_none, isi2_tl_bool, isi2_tl_int, isi2_tl_str, isi2_tl_list, isi2_tl_tuple, zip2, zipD_map, isi_int_dict, isi_bool_dict, isi_str_dict, isi_list_dict, isi_tuple_dict, isi2_tl_dict, dIsN, dNotN, p_setIx, setIx1_ok, setIx2_s, bin1_w, bin1o_some, toDs_nil, toDs_a, toDs_o, ret_nxt, rngD_map, Int.reduceToNat, p_appV, appV_ok', p_forB, forB_ok, sm1_T, List.getElem?_cons_succ, List.getElem?_cons_zero, q_chain, ch1_a, ch2_a, ch3_tt, ch3_ff, ch4_a, lt_TT, par_ap, par1_ok, par2_ok, srcS_e, src1_e, src2_e, comp_e, un1_e, lst1_e, and_e, or_e, q_sm0, sm01_a, sm01_T, smO_some, app_0w]
  simp only [sem_own_changes, b_own_changes, p_body, p_skip, p_seq, p_set, p_ret, p_retN, p_retV_s, p_retV_0, p_exp, p_if, p_raise, p_app, p_ext, p_setT, p_for, p_cell', nxt_nx, nxt_rt, nxt_exc, fin_nx, fin_rt, fin_exc, set_ok, set_exc, ret_ok, ret_exc, exp_ok, exp_exc, if_tt, if_ff, if_ok, if_exc, for_ok, for_exc, app_s, app_0, app_0o, ext_s, ext_0, cons_nx, cons_exc, setT_ok, cell_ok, pop_nx, pop_rt, unC_nil, unC_n, unC_d, unC_st, no_nil, no_n, no_a, mask_nil, mask_t, mask_f, dom_nil, dom_s, dom_n, start_0, start_s, setW_nil, setW_cons, ev_nil, ev_n, ev_a, ev_o, ev_own, frzE_nil, frzE_cons, frz1_s, frz1_0o, frz1_0a, frz1_0n, sNm_ap, sTp_ap, q_var0, q_varS, q_c, q_bin, bin1_a, bin1_o, bin1_e, bin2_a, bin2_o, bin2_e, q_un, un1_a, un1_o, q_call, call_n, call_c, call1_a, call1_o, call1_e, q_tup, allD_nil, allD_cons, tupE_ap, q_lst, lst_n, lst_c, lst1_ok, q_comp, comp_ok, q_and, and_tt, and_ff, asB_ok, asB_e, and_ok, and_fold, q_or, or_tt, or_ff, or_ok, or_fold, q_not, not_ok, not_e, q_ife, ife_tt, ife_ff, ife_ok, q_seq, q_rng1, q_rng2, q_enum, q_zip, srcS_a, srcS_o, src1_a, src1_o, src2_a, src2_o, of_some, q_sl, sl_nn, sl_n, sl_s, slo_nn, slo_n, slo_s, slLo_n, slLo_s, slHi_ok, slLo_n', slLo_s', slHi_ok', q_sm, sm1_a, sm2_a, sm2_o, on1_ap, onD1_ap, true_ap, gNm_ap, gTp_ap, setD_nil, setD_cons, wipe_nil, wipe_cons, max2_ap, rng1_n, rng1_l, rng1_1, Nat.reduceAdd, Nat.reduceSub, Nat.reduceLeDiff, List.length_cons, List.length_nil, List.length_map, List.length_range, List.replicate, List.set_cons_zero, List.set_cons_succ, List.map_cons, List.map_nil, List.cons_append, List.nil_append, Option.map_some, if_true, Bool.false_eq_true, if_false, Bool.not_true, Bool.not_false, o_add, o_sub, o_shr, o_band, o_lt, o_le, o_gt, o_ge, own0, own1, own2, own3, own4, own5, own6, own7, own8, own9, own10, own11, own12, seqD_lst, seqD_tup, seqD_eF, seqD_eG, i2n, isi_eF, isi_eG, isi_eT, gLen_eF, gLen_eG, gLen_lst, gLen_tup, dAll_m, dAny_m, all_tt, dInt_b, isi_int_none, isi_int_bool, isi_int_int, isi_int_str, isi_int_list, isi_int_tuple, isi_bool_none, isi_bool_bool, isi_bool_int, isi_bool_str, isi_bool_list, isi_bool_tuple, isi_str_none, isi_str_bool, isi_str_int, isi_str_str, isi_str_list, isi_str_tuple, isi_list_none, isi_list_bool, isi_list_int, isi_list_str, isi_list_list, isi_list_tuple, isi_tuple_none, isi_tuple_bool, isi_tuple_int, isi_tuple_str, isi_tuple_list, isi_tuple_tuple, isi2_tl_none, isi2_tl_bool, isi2_tl_int, isi2_tl_str, isi2_tl_list, isi2_tl_tuple, zip2, zipD_map, isi_int_dict, isi_bool_dict, isi_str_dict, isi_list_dict, isi_tuple_dict, isi2_tl_dict, dIsN, dNotN, p_setIx, setIx1_ok, setIx2_s, bin1_w, bin1o_some, toDs_nil, toDs_a, toDs_o, ret_nxt, rngD_map, Int.reduceToNat, p_appV, appV_ok', p_forB, forB_ok, sm1_T, List.getElem?_cons_succ, List.getElem?_cons_zero, q_chain, ch1_a, ch2_a, ch3_tt, ch3_ff, ch4_a, lt_TT, par_ap, par1_ok, par2_ok, srcS_e, src1_e, src2_e, comp_e, un1_e, lst1_e, and_e, or_e, q_sm0, sm01_a, sm01_T, smO_some, app_0w, e_need_function (isFn_eF hf h1 h4) S hS, hS, e_switches_of hf h1 h4, e_all_changes h1 h4, hc]
theorem e_own_changes0 {d : D} (h : isFnD d = false) (S : Cs) (hS : flatCs S = true) : sem_own_changes [.d d] S = .exc "NoFunction" S := by
  simp only [sem_own_changes, b_own_changes, p_body, p_skip, p_seq, p_set, p_ret, p_retN, p_retV_s, p_retV_0, p_exp, p_if, p_raise, p_app, p_ext, p_setT, p_for, p_cell', nxt_nx, nxt_rt, nxt_exc, fin_nx, fin_rt, fin_exc, set_ok, set_exc, ret_ok, ret_exc, exp_ok, exp_exc, if_tt, if_ff, if_ok, if_exc, for_ok, for_exc, app_s, app_0, app_0o, ext_s, ext_0, cons_nx, cons_exc, setT_ok, cell_ok, pop_nx, pop_rt, unC_nil, unC_n, unC_d, unC_st, no_nil, no_n, no_a, mask_nil, mask_t, mask_f, dom_nil, dom_s, dom_n, start_0, start_s, setW_nil, setW_cons, ev_nil, ev_n, ev_a, ev_o, ev_own, frzE_nil, frzE_cons, frz1_s, frz1_0o, frz1_0a, frz1_0n, sNm_ap, sTp_ap, q_var0, q_varS, q_c, q_bin, bin1_a, bin1_o, bin1_e, bin2_a, bin2_o, bin2_e, q_un, un1_a, un1_o, q_call, call_n, call_c, call1_a, call1_o, call1_e, q_tup, allD_nil, allD_cons, tupE_ap, q_lst, lst_n, lst_c, lst1_ok, q_comp, comp_ok, q_and, and_tt, and_ff, asB_ok, asB_e, and_ok, and_fold, q_or, or_tt, or_ff, or_ok, or_fold, q_not, not_ok, not_e, q_ife, ife_tt, ife_ff, ife_ok, q_seq, q_rng1, q_rng2, q_enum, q_zip, srcS_a, srcS_o, src1_a, src1_o, src2_a, src2_o, of_some, q_sl, sl_nn, sl_n, sl_s, slo_nn, slo_n, slo_s, slLo_n, slLo_s, slHi_ok, slLo_n', slLo_s', slHi_ok', q_sm, sm1_a, sm2_a, sm2_o, on1_ap, onD1_ap, true_ap, gNm_ap, gTp_ap, setD_nil, setD_cons, wipe_nil, wipe_cons, max2_ap, rng1_n, rng1_l, rng1_1, Nat.reduceAdd, Nat.reduceSub, Nat.reduceLeDiff, List.length_cons, List.length_nil, List.length_map, List.length_range, List.replicate, List.set_cons_zero, List.set_cons_succ, List.map_cons, List.map_nil, List.cons_append, List.nil_append, Option.map_some, if_true, Bool.false_eq_true, if_false, Bool.not_true, Bool.not_false, o_add, o_sub, o_shr, o_band, o_lt, o_le, o_gt, o_ge, own0, own1, own2, own3, own4, own5, own6, own7, own8, own9, own10, own11, own12, seqD_lst, seqD_tup, seqD_eF, seqD_eG, i2n, isi_eF, isi_eG, isi_eT, gLen_eF, gLen_eG, gLen_lst, gLen_tup, dAll_m, dAny_m, all_tt, dInt_b, isi_int_none, isi_int_bool, isi_int_int, isi_int_str, isi_int_list, isi_int_tuple, isi_bool_none, isi_bool_bool, isi_bool_int, isi_bool_str, isi_bool_list, isi_bool_tuple, isi_str_none, isi_str_bool, isi_str_int, isi_str_str, isi_str_list, isi_str_tuple, isi_list_none, isi_list_bool, isi_list_int, isi_list_str, isi_list_list, isi_list_tuple, isi_tuple_none, isi_tuple_bool, isi_tuple_int, isi_tuple_str, isi_tuple_list, isi_tuple_tuple, isi2_tl_none, isi2_tl_bool, isi2_tl_int, isi2_tl_str, isi2_tl_list, isi2_tl_tuple, zip2, zipD_map, isi_int_dict, isi_bool_dict, isi_str_dict, isi_list_dict, isi_tuple_dict, isi2_tl_dict, dIsN, dNotN, p_setIx, setIx1_ok, setIx2_s, bin1_w, bin1o_some, toDs_nil, toDs_a, toDs_o, ret_nxt, rngD_map, Int.reduceToNat, p_appV, appV_ok', p_forB, forB_ok, sm1_T, List.getElem?_cons_succ, List.getElem?_cons_zero, q_chain, ch1_a, ch2_a, ch3_tt, ch3_ff, ch4_a, lt_TT, par_ap, par1_ok, par2_ok, srcS_e, src1_e, src2_e, comp_e, un1_e, lst1_e, and_e, or_e, q_sm0, sm01_a, sm01_T, smO_some, app_0w, e_need_function0 h S hS]
theorem e_alike_to {f : Fn} {n : Nat} (hf : f.length = 2 ^ n) (h1 : 1 ≤ n) (h4 : n ≤ 4) (S : Cs) : sem_alike_to [.d (eF f)] S = .ok (.a (.e (.dff ((alkF n f).map fkF)))) S := by
  have b1 : ∀ (T : Cs) (o2 : Option A), fCallH sem_switches_of [(fVar 0)] [some (.d (eF f)), some (.e (.fnc S.length)), o2] T = .ok (iD n) T := by
    intro T o2
    show hideR (sem_switches_of [.d (eF f)] []) T = _
    rw [e_switches_of hf h1 h4]
    rfl
  have b2 : ∀ (T : Cs) (o2 : Option A), iSeq (fCallH sem_all_changes [(fCallH sem_switches_of [(fVar 0)])]) [some (.d (eF f)), some (.e (.fnc S.length)), o2] T = .ok ((chsM n).map eC) T := by
    intro T o2
    have e : fCallH sem_all_changes [(fCallH sem_switches_of [(fVar 0)])] [some (.d (eF f)), some (.e (.fnc S.length)), o2] T = .ok (ownD ((chsM n).map eC)) T := by
      show (fCallH sem_switches_of [(fVar 0)] _ T).bnd _ = _
      rw [b1]
      show hideR (sem_all_changes [.d (.int n)] []) T = _
      rw [e_all_changes h1 h4]
      rfl
    simp only [p_body, p_skip, p_seq, p_set, p_ret, p_retN, p_retV_s, p_retV_0, p_exp, p_if, p_raise, p_app, p_ext, p_setT, p_for, p_cell', nxt_nx, nxt_rt, nxt_exc, fin_nx, fin_rt, fin_exc, set_ok, set_exc, ret_ok, ret_exc, exp_ok, exp_exc, if_tt, if_ff, if_ok, if_exc, for_ok, for_exc, app_s, app_0, app_0o, ext_s, ext_0, cons_nx, cons_exc, setT_ok, cell_ok, pop_nx, pop_rt, unC_nil, unC_n, unC_d, unC_st, no_nil, no_n, no_a, mask_nil, mask_t, mask_f, dom_nil, dom_s, dom_n, start_0, start_s, setW_nil, setW_cons, ev_nil, ev_n, ev_a, ev_o, ev_own, frzE_nil, frzE_cons, frz1_s, frz1_0o, frz1_0a, frz1_0n, sNm_ap, sTp_ap, q_var0, q_varS, q_c, q_bin, bin1_a, bin1_o, bin1_e, bin2_a, bin2_o, bin2_e, q_un, un1_a, un1_o, q_call, call_n, call_c, call1_a, call1_o, call1_e, q_tup, allD_nil, allD_cons, tupE_ap, q_lst, lst_n, lst_c, lst1_ok, q_comp, comp_ok, q_and, and_tt, and_ff, asB_ok, asB_e, and_ok, and_fold, q_or, or_tt, or_ff, or_ok, or_fold, q_not, not_ok, not_e, q_ife, ife_tt, ife_ff, ife_ok, q_seq, q_rng1, q_rng2, q_enum, q_zip, srcS_a, srcS_o, src1_a, src1_o, src2_a, src2_o, of_some, q_sl, sl_nn, sl_n, sl_s, slo_nn, slo_n, slo_s, slLo_n, slLo_s, slHi_ok, slLo_n', slLo_s', slHi_ok', q_sm, sm1_a, sm2_a, sm2_o, on1_ap, onD1_ap, true_ap, gNm_ap, gTp_ap, setD_nil, setD_cons, wipe_nil, wipe_cons, max2_ap, rng1_n, rng1_l, rng1_1, Nat.reduceAdd, Nat.reduceSub, Nat.reduceLeDiff, List.length_cons, List.length_nil, List.length_map, List.length_range, List.replicate, List.set_cons_zero, List.set_cons_succ, List.map_cons, List.map_nil, List.cons_append, List.nil_append, Option.map_some, if_true, Bool.false_eq_true, if_false, Bool.not_true, Bool.not_false, o_add, o_sub, o_shr, o_band, o_lt, o_le, o_gt, o_ge, own0, own1, own2, own3, own4, own5, own6, own7, own8, own9, own10, own11, own12, seqD_lst, seqD_tup, seqD_eF, seqD_eG, i2n, isi_eF, isi_eG, isi_eT, gLen_eF, gLen_eG, gLen_lst, gLen_tup, dAll_m, dAny_m, all_tt, dInt_b, isi_int_none, isi_int_bool, isi_int_int, isi_int_str, isi_int_list, isi_int_tuple, isi_bool_none, isi_bool_bool, isi_bool_int, isi_bool_str, isi_bool_list, isi_bool_tuple, isi_str_none, isi_str_bool, isi_str_int, isi_str_str, isi_str_list, isi_str_tuple, isi_list_none, isi_list_bool, isi_list_int, isi_list_str, isi_list_list, isi_list_tuple, isi_tuple_none, isi_tuple_bool, isi_tuple_int, isi_tuple_str, isi_tuple_list, isi_tuple_tuple, isi2_tl_none, isi2_tl_bool, isi2_tl_int, isi2_tl_str, isi2_tl_list, isi2_tl_tuple, zip2, zipD_map, isi_int_dict, isi_bool_dict, isi_str_dict, isi_list_dict, isi_tuple_dict, isi2_tl_dict, dIsN, dNotN, p_setIx, setIx1_ok, setIx2_s, bin1_w, bin1o_some, toDs_nil, toDs_a, toDs_o, ret_nxt, rngD_map, Int.reduceToNat, p_appV, appV_ok', p_forB, forB_ok, sm1_T, List.getElem?_cons_succ, List.getElem?_cons_zero, q_chain, ch1_a, ch2_a, ch3_tt, ch3_ff, ch4_a, lt_TT, par_ap, par1_ok, par2_ok, srcS_e, src1_e, src2_e, comp_e, un1_e, lst1_e, and_e, or_e, q_sm0, sm01_a, sm01_T, smO_some, app_0w, e]
  have hin : forL (sNm 2) (sPutF 1 [] (fCallH sem_changed_by [(fVar 0), (fVar 2)])) (dom [some (.a (.d (eF f))), some (.a (.e (.fnc S.length))), none]) ((chsM n).map eC) [some (.a (.d (eF f))), some (.a (.e (.fnc S.length))), none] (S ++ [fksD ((([] : List Ch).map fun c => cgF n c f).foldl addF [] |>.map fkF)]) = .nx [some (.a (.d (eF f))), some (.a (.e (.fnc S.length))), none] (S ++ [fksD ((([] ++ chsM n).map fun c => cgF n c f).foldl addF [] |>.map fkF)]) := by
    refine forL_preK eC _ (fun q => S ++ [fksD ((q.map fun c => cgF n c f).foldl addF [] |>.map fkF)]) (chsM n) [] fun q c r e => ?_
    have hc : okC n c := chs_ok h4 (by rw [show chsM n = [] ++ chsM n from rfl, e]; simp)
    have hlen : q.length ≤ 768 := by
      have h7 := chs_len n (by omega)
      have := congrArg List.length e
      simp at this
      omega
    obtain ⟨gs, hgs⟩ : ∃ gs, gs = (q.map fun c => cgF n c f).foldl addF [] := ⟨_, rfl⟩
    have hg : (gs.map fkF).length < 1000000 := by
      have := fold_len (l := q.map fun c => cgF n c f) (fs := [])
      rw [List.length_map, hgs]
      simp at this
      omega
    refine ⟨_, [some (.a (.d (eF f))), some (.a (.e (.fnc S.length))), some (.a (.d (eC c)))], rfl, ?_, rfl⟩
    have b3 : fCallH sem_changed_by [(fVar 0), (fVar 2)] [some (.d (eF f)), some (.e (.fnc S.length)), some (.d (eC c))] (S ++ [fksD (gs.map fkF)]) = .ok (.a (.d (eF (cgF n c f)))) (S ++ [fksD (gs.map fkF)]) := by
      show hideR (sem_changed_by [.d (eF f), .d (eC c)] []) _ = _
      rw [e_changed_by hf h1 h4 hc [] rfl]
      rfl
    have hx : (S ++ [fksD (gs.map fkF)])[S.length]? = some (fksD (gs.map fkF)) := by
      rw [List.getElem?_append_right (Nat.le_refl _), Nat.sub_self]
      rfl
    have hs : (S ++ [fksD (gs.map fkF)]).set S.length (fksD ((addF gs (cgF n c f)).map fkF)) = S ++ [fksD ((addF gs (cgF n c f)).map fkF)] := by
      rw [List.set_append_right _ _ (Nat.le_refl _), Nat.sub_self]
      rfl
    rw [List.map_append, List.foldl_append, ← hgs]
    show (match fCallH sem_changed_by [(fVar 0), (fVar 2)] [some (.d (eF f)), some (.e (.fnc S.length)), some (.d (eC c))] (S ++ [fksD (gs.map fkF)]) with
      | .ok (.a (.d d)) S1 => (match ofD d with
        | some key => (match S1[S.length]? with
          | some ds => (match ksOf ds with
            | some ks => if ks.length < 1000000 then Fl.nx [some (.a (.d (eF f))), some (.a (.e (.fnc S.length))), some (.a (.d (eC c)))] (S1.set S.length (fksD (addK ks key))) else .stuck
            | none => .stuck)
          | none => .stuck)
        | none => .stuck)
      | _ => .stuck) = _
    rw [b3]
    simp only
    rw [ofD_F]
    simp only
    rw [hx]
    simp only
    rw [ksOf_fks]
    simp only
    rw [if_pos hg, addK_F, hs]
    rfl
  have hfor : sFor [] (iSeq (fCallH sem_all_changes [(fCallH sem_switches_of [(fVar 0)])])) (sNm 2) (sPutF 1 [] (fCallH sem_changed_by [(fVar 0), (fVar 2)])) [some (.a (.d (eF f))), some (.a (.e (.fnc S.length))), none] (S ++ [[]]) = .nx [some (.a (.d (eF f))), some (.a (.e (.fnc S.length))), none] (S ++ [fksD ((alkF n f).map fkF)]) := by
    rw [p_for]
    show forS (iSeq (fCallH sem_all_changes [(fCallH sem_switches_of [(fVar 0)])]) [some (.d (eF f)), some (.e (.fnc S.length)), none] (S ++ [[]])) _ _ _ = _
    rw [b2, for_ok]
    exact hin
  have hx : (S ++ [fksD ((alkF n f).map fkF)])[S.length]? = some (fksD ((alkF n f).map fkF)) := by
    rw [List.getElem?_append_right (Nat.le_refl _), Nat.sub_self]
    rfl
  have hd : (S ++ [fksD ((alkF n f).map fkF)]).dropLast = S := by simp
  have hcell : b_alike_to [some (.a (.d (eF f))), none, none] S = .rt (.a (.e (.dff ((alkF n f).map fkF)))) S := by
    unfold b_alike_to sCellF
    rw [if_pos (by rfl)]
    have hh : sSeq (sFor [] (iSeq (fCallH sem_all_changes [(fCallH sem_switches_of [(fVar 0)])])) (sNm 2) (sPutF 1 [] (fCallH sem_changed_by [(fVar 0), (fVar 2)]))) (sRetV 1) ((PD.frzE [] [some (.a (.d (eF f))), none, none]).set 1 (some (.a (.e (.fnc S.length))))) (S ++ [[]]) = .rt (.a (.e (.fnc S.length))) (S ++ [fksD ((alkF n f).map fkF)]) := by
      rw [p_seq]
      show ((sFor [] _ _ _ [some (.a (.d (eF f))), some (.a (.e (.fnc S.length))), none] (S ++ [[]])).nxt _) = _
      rw [hfor]
      rfl
    rw [hh]
    simp only
    rw [if_pos trivial, hx]
    simp only
    rw [ksOf_fks]
    simp only
    rw [hd]
  show bodySem _ b_alike_to [.d (eF f)] S = _
  rw [p_body]
  show (b_alike_to [some (.a (.d (eF f))), none, none] S).fin = _
  rw [hcell]
  rfl
def lstF (n : Nat) (f : Fn) : Fn := match ledL n f with
  | [] => []
  | g :: gs => minG g gs
theorem led_ne {n : Nat} (h4 : n ≤ 4) (f : Fn) : ∃ g gs, ledL n f = g :: gs := by
  have := chs_ne0 n (by omega)
  unfold ledL
  cases h : chsM n with
  | nil => rw [h] at this; cases this
  | cons c cs => exact ⟨_, _, rfl⟩
theorem min_alk {n : Nat} (h4 : n ≤ 4) (f : Fn) : ∃ g gs, alkF n f = g :: gs ∧ minG g gs = lstF n f := by
  obtain ⟨g, gs, e⟩ := led_ne h4 f
  cases h : alkF n f with
  | nil =>
    have := (alk_mem (n := n) (f := f) (g := g)).mpr (by rw [e]; simp)
    rw [h] at this
    cases this
  | cons x xs =>
    refine ⟨x, xs, rfl, ?_⟩
    unfold lstF
    rw [e]
    refine minG_mem fun y => ?_
    rw [← h, ← e, alk_mem]
theorem e_least_alike {f : Fn} {n : Nat} (hf : f.length = 2 ^ n) (h1 : 1 ≤ n) (h4 : n ≤ 4) (S : Cs) (hS : flatCs S = true) : sem_least_alike [.d (eF f)] S = .ok (.a (.d (eF (lstF n f)))) S := by
  have b2 : 2 ^ n ≤ 16 := Nat.pow_le_pow_right (n := 2) (by decide) h4
  obtain ⟨g, gs, e1, e2⟩ := min_alk h4 f
  have hl : ((alkF n f).map fkF).length ≤ 1000000 := by
    have := fold_len (l := ledL n f) (fs := [])
    have h7 := chs_len n (by omega)
    rw [List.length_map]
    unfold alkF
    unfold ledL at this ⊢
    rw [List.length_map] at this
    simp at this
    omega
  have hk : fksD ((alkF n f).map fkF) = (alkF n f).map eF := by
    unfold fksD
    rw [List.map_map]
    exact List.map_congr_left fun x _ => fkD_F x
  have hsrc : iDff (fCall sem_alike_to [(fVar 0)]) [some (.d (eF f)), none] S = .ok ((alkF n f).map eF) S := by
    have e : fCall sem_alike_to [(fVar 0)] [some (.d (eF f)), none] S = .ok (.a (.e (.dff ((alkF n f).map fkF)))) S := by
      simp only [p_body, p_skip, p_seq, p_set, p_ret, p_retN, p_retV_s, p_retV_0, p_exp, p_if, p_raise, p_app, p_ext, p_setT, p_for, p_cell', nxt_nx, nxt_rt, nxt_exc, fin_nx, fin_rt, fin_exc, set_ok, set_exc, ret_ok, ret_exc, exp_ok, exp_exc, if_tt, if_ff, if_ok, if_exc, for_ok, for_exc, app_s, app_0, app_0o, ext_s, ext_0, cons_nx, cons_exc, setT_ok, cell_ok, pop_nx, pop_rt, unC_nil, unC_n, unC_d, unC_st, no_nil, no_n, no_a, mask_nil, mask_t, mask_f, dom_nil, dom_s, dom_n, start_0, start_s, setW_nil, setW_cons, ev_nil, ev_n, ev_a, ev_o, ev_own, frzE_nil, frzE_cons, frz1_s, frz1_0o, frz1_0a, frz1_0n, sNm_ap, sTp_ap, q_var0, q_varS, q_c, q_bin, bin1_a, bin1_o, bin1_e, bin2_a, bin2_o, bin2_e, q_un, un1_a, un1_o, q_call, call_n, call_c, call1_a, call1_o, call1_e, q_tup, allD_nil, allD_cons, tupE_ap, q_lst, lst_n, lst_c, lst1_ok, q_comp, comp_ok, q_and, and_tt, and_ff, asB_ok, asB_e, and_ok, and_fold, q_or, or_tt, or_ff, or_ok, or_fold, q_not, not_ok, not_e, q_ife, ife_tt, ife_ff, ife_ok, q_seq, q_rng1, q_rng2, q_enum, q_zip, srcS_a, srcS_o, src1_a, src1_o, src2_a, src2_o, of_some, q_sl, sl_nn, sl_n, sl_s, slo_nn, slo_n, slo_s, slLo_n, slLo_s, slHi_ok, slLo_n', slLo_s', slHi_ok', q_sm, sm1_a, sm2_a, sm2_o, on1_ap, onD1_ap, true_ap, gNm_ap, gTp_ap, setD_nil, setD_cons, wipe_nil, wipe_cons, max2_ap, rng1_n, rng1_l, rng1_1, Nat.reduceAdd, Nat.reduceSub, Nat.reduceLeDiff, List.length_cons, List.length_nil, List.length_map, List.length_range, List.replicate, List.set_cons_zero, List.set_cons_succ, List.map_cons, List.map_nil, List.cons_append, List.nil_append, Option.map_some, if_true, Bool.false_eq_true, if_false, Bool.not_true, Bool.not_false, o_add, o_sub, o_shr, o_band, o_lt, o_le, o_gt, o_ge, own0, own1, own2, own3, own4, own5, own6, own7, own8, own9, own10, own11, own12, seqD_lst, seqD_tup, seqD_eF, seqD_eG, i2n, isi_eF, isi_eG, isi_eT, gLen_eF, gLen_eG, gLen_lst, gLen_tup, dAll_m, dAny_m, all_tt, dInt_b, isi_int_none, isi_int_bool, isi_int_int, isi_int_str, isi_int_list, isi_int_tuple, isi_bool_none, isi_bool_bool, isi_bool_int, isi_bool_str, isi_bool_list, isi_bool_tuple, isi_str_none, isi_str_bool, isi_str_int, isi_str_str, isi_str_list, isi_str_tuple, isi_list_none, isi_list_bool, isi_list_int, isi_list_str, isi_list_list, isi_list_tuple, isi_tuple_none, isi_tuple_bool, isi_tuple_int, isi_tuple_str, isi_tuple_list, isi_tuple_tuple, isi2_tl_none, isi2_tl_bool, isi2_tl_int, isi2_tl_str, isi2_tl_list, isi2_tl_tuple, zip2, zipD_map, isi_int_dict, isi_bool_dict, isi_str_dict, isi_list_dict, isi_tuple_dict, isi2_tl_dict, dIsN, dNotN, p_setIx, setIx1_ok, setIx2_s, bin1_w, bin1o_some, toDs_nil, toDs_a, toDs_o, ret_nxt, rngD_map, Int.reduceToNat, p_appV, appV_ok', p_forB, forB_ok, sm1_T, List.getElem?_cons_succ, List.getElem?_cons_zero, q_chain, ch1_a, ch2_a, ch3_tt, ch3_ff, ch4_a, lt_TT, par_ap, par1_ok, par2_ok, srcS_e, src1_e, src2_e, comp_e, un1_e, lst1_e, and_e, or_e, q_sm0, sm01_a, sm01_T, smO_some, app_0w, e_alike_to hf h1 h4 S]
    unfold iDff
    rw [e]
    show (if ((alkF n f).map fkF).length ≤ 1000000 then SR.ok (fksD ((alkF n f).map fkF)) S else .stuck) = _
    rw [if_pos hl, hk]
  have hc : compL (gNm 1) fTrue (fTup [(fCall sem_shown [(fVar 1)]), (fVar 1)]) [some (.d (eF f)), none] ((alkF n f).map eF) S [] = .ok (ownD ((alkF n f).map pT)) S := by
    refine compL_m eF pT (alkF n f) fun x hx => ⟨_, rfl, ?_⟩
    have hxl : x.length ≤ 1000 := by
      obtain ⟨c, hc, rfl⟩ := List.mem_map.mp (alk_mem.mp hx)
      rw [cgF_len]
      omega
    simp only [p_body, p_skip, p_seq, p_set, p_ret, p_retN, p_retV_s, p_retV_0, p_exp, p_if, p_raise, p_app, p_ext, p_setT, p_for, p_cell', nxt_nx, nxt_rt, nxt_exc, fin_nx, fin_rt, fin_exc, set_ok, set_exc, ret_ok, ret_exc, exp_ok, exp_exc, if_tt, if_ff, if_ok, if_exc, for_ok, for_exc, app_s, app_0, app_0o, ext_s, ext_0, cons_nx, cons_exc, setT_ok, cell_ok, pop_nx, pop_rt, unC_nil, unC_n, unC_d, unC_st, no_nil, no_n, no_a, mask_nil, mask_t, mask_f, dom_nil, dom_s, dom_n, start_0, start_s, setW_nil, setW_cons, ev_nil, ev_n, ev_a, ev_o, ev_own, frzE_nil, frzE_cons, frz1_s, frz1_0o, frz1_0a, frz1_0n, sNm_ap, sTp_ap, q_var0, q_varS, q_c, q_bin, bin1_a, bin1_o, bin1_e, bin2_a, bin2_o, bin2_e, q_un, un1_a, un1_o, q_call, call_n, call_c, call1_a, call1_o, call1_e, q_tup, allD_nil, allD_cons, tupE_ap, q_lst, lst_n, lst_c, lst1_ok, q_comp, comp_ok, q_and, and_tt, and_ff, asB_ok, asB_e, and_ok, and_fold, q_or, or_tt, or_ff, or_ok, or_fold, q_not, not_ok, not_e, q_ife, ife_tt, ife_ff, ife_ok, q_seq, q_rng1, q_rng2, q_enum, q_zip, srcS_a, srcS_o, src1_a, src1_o, src2_a, src2_o, of_some, q_sl, sl_nn, sl_n, sl_s, slo_nn, slo_n, slo_s, slLo_n, slLo_s, slHi_ok, slLo_n', slLo_s', slHi_ok', q_sm, sm1_a, sm2_a, sm2_o, on1_ap, onD1_ap, true_ap, gNm_ap, gTp_ap, setD_nil, setD_cons, wipe_nil, wipe_cons, max2_ap, rng1_n, rng1_l, rng1_1, Nat.reduceAdd, Nat.reduceSub, Nat.reduceLeDiff, List.length_cons, List.length_nil, List.length_map, List.length_range, List.replicate, List.set_cons_zero, List.set_cons_succ, List.map_cons, List.map_nil, List.cons_append, List.nil_append, Option.map_some, if_true, Bool.false_eq_true, if_false, Bool.not_true, Bool.not_false, o_add, o_sub, o_shr, o_band, o_lt, o_le, o_gt, o_ge, own0, own1, own2, own3, own4, own5, own6, own7, own8, own9, own10, own11, own12, seqD_lst, seqD_tup, seqD_eF, seqD_eG, i2n, isi_eF, isi_eG, isi_eT, gLen_eF, gLen_eG, gLen_lst, gLen_tup, dAll_m, dAny_m, all_tt, dInt_b, isi_int_none, isi_int_bool, isi_int_int, isi_int_str, isi_int_list, isi_int_tuple, isi_bool_none, isi_bool_bool, isi_bool_int, isi_bool_str, isi_bool_list, isi_bool_tuple, isi_str_none, isi_str_bool, isi_str_int, isi_str_str, isi_str_list, isi_str_tuple, isi_list_none, isi_list_bool, isi_list_int, isi_list_str, isi_list_list, isi_list_tuple, isi_tuple_none, isi_tuple_bool, isi_tuple_int, isi_tuple_str, isi_tuple_list, isi_tuple_tuple, isi2_tl_none, isi2_tl_bool, isi2_tl_int, isi2_tl_str, isi2_tl_list, isi2_tl_tuple, zip2, zipD_map, isi_int_dict, isi_bool_dict, isi_str_dict, isi_list_dict, isi_tuple_dict, isi2_tl_dict, dIsN, dNotN, p_setIx, setIx1_ok, setIx2_s, bin1_w, bin1o_some, toDs_nil, toDs_a, toDs_o, ret_nxt, rngD_map, Int.reduceToNat, p_appV, appV_ok', p_forB, forB_ok, sm1_T, List.getElem?_cons_succ, List.getElem?_cons_zero, q_chain, ch1_a, ch2_a, ch3_tt, ch3_ff, ch4_a, lt_TT, par_ap, par1_ok, par2_ok, srcS_e, src1_e, src2_e, comp_e, un1_e, lst1_e, and_e, or_e, q_sm0, sm01_a, sm01_T, smO_some, app_0w, e_shown x hxl]
    rfl
  have hm := dMinT_p g gs
  rw [e2, ← e1] at hm
  have hp : dIx (.d (pT (lstF n f))) (.d (.int 1)) S = .ok (.a (.d (eF (lstF n f)))) S := rfl
  simp only [sem_least_alike, b_least_alike, p_body, p_skip, p_seq, p_set, p_ret, p_retN, p_retV_s, p_retV_0, p_exp, p_if, p_raise, p_app, p_ext, p_setT, p_for, p_cell', nxt_nx, nxt_rt, nxt_exc, fin_nx, fin_rt, fin_exc, set_ok, set_exc, ret_ok, ret_exc, exp_ok, exp_exc, if_tt, if_ff, if_ok, if_exc, for_ok, for_exc, app_s, app_0, app_0o, ext_s, ext_0, cons_nx, cons_exc, setT_ok, cell_ok, pop_nx, pop_rt, unC_nil, unC_n, unC_d, unC_st, no_nil, no_n, no_a, mask_nil, mask_t, mask_f, dom_nil, dom_s, dom_n, start_0, start_s, setW_nil, setW_cons, ev_nil, ev_n, ev_a, ev_o, ev_own, frzE_nil, frzE_cons, frz1_s, frz1_0o, frz1_0a, frz1_0n, sNm_ap, sTp_ap, q_var0, q_varS, q_c, q_bin, bin1_a, bin1_o, bin1_e, bin2_a, bin2_o, bin2_e, q_un, un1_a, un1_o, q_call, call_n, call_c, call1_a, call1_o, call1_e, q_tup, allD_nil, allD_cons, tupE_ap, q_lst, lst_n, lst_c, lst1_ok, q_comp, comp_ok, q_and, and_tt, and_ff, asB_ok, asB_e, and_ok, and_fold, q_or, or_tt, or_ff, or_ok, or_fold, q_not, not_ok, not_e, q_ife, ife_tt, ife_ff, ife_ok, q_seq, q_rng1, q_rng2, q_enum, q_zip, srcS_a, srcS_o, src1_a, src1_o, src2_a, src2_o, of_some, q_sl, sl_nn, sl_n, sl_s, slo_nn, slo_n, slo_s, slLo_n, slLo_s, slHi_ok, slLo_n', slLo_s', slHi_ok', q_sm, sm1_a, sm2_a, sm2_o, on1_ap, onD1_ap, true_ap, gNm_ap, gTp_ap, setD_nil, setD_cons, wipe_nil, wipe_cons, max2_ap, rng1_n, rng1_l, rng1_1, Nat.reduceAdd, Nat.reduceSub, Nat.reduceLeDiff, List.length_cons, List.length_nil, List.length_map, List.length_range, List.replicate, List.set_cons_zero, List.set_cons_succ, List.map_cons, List.map_nil, List.cons_append, List.nil_append, Option.map_some, if_true, Bool.false_eq_true, if_false, Bool.not_true, Bool.not_false, o_add, o_sub, o_shr, o_band, o_lt, o_le, o_gt, o_ge, own0, own1, own2, own3, own4, own5, own6, own7, own8, own9, own10, own11, own12, seqD_lst, seqD_tup, seqD_eF, seqD_eG, i2n, isi_eF, isi_eG, isi_eT, gLen_eF, gLen_eG, gLen_lst, gLen_tup, dAll_m, dAny_m, all_tt, dInt_b, isi_int_none, isi_int_bool, isi_int_int, isi_int_str, isi_int_list, isi_int_tuple, isi_bool_none, isi_bool_bool, isi_bool_int, isi_bool_str, isi_bool_list, isi_bool_tuple, isi_str_none, isi_str_bool, isi_str_int, isi_str_str, isi_str_list, isi_str_tuple, isi_list_none, isi_list_bool, isi_list_int, isi_list_str, isi_list_list, isi_list_tuple, isi_tuple_none, isi_tuple_bool, isi_tuple_int, isi_tuple_str, isi_tuple_list, isi_tuple_tuple, isi2_tl_none, isi2_tl_bool, isi2_tl_int, isi2_tl_str, isi2_tl_list, isi2_tl_tuple, zip2, zipD_map, isi_int_dict, isi_bool_dict, isi_str_dict, isi_list_dict, isi_tuple_dict, isi2_tl_dict, dIsN, dNotN, p_setIx, setIx1_ok, setIx2_s, bin1_w, bin1o_some, toDs_nil, toDs_a, toDs_o, ret_nxt, rngD_map, Int.reduceToNat, p_appV, appV_ok', p_forB, forB_ok, sm1_T, List.getElem?_cons_succ, List.getElem?_cons_zero, q_chain, ch1_a, ch2_a, ch3_tt, ch3_ff, ch4_a, lt_TT, par_ap, par1_ok, par2_ok, srcS_e, src1_e, src2_e, comp_e, un1_e, lst1_e, and_e, or_e, q_sm0, sm01_a, sm01_T, smO_some, app_0w, e_need_function (isFn_eF hf h1 h4) S hS, hS, hsrc, hc, hm, hp]
theorem e_least_alike0 {d : D} (h : isFnD d = false) (S : Cs) (hS : flatCs S = true) : sem_least_alike [.d d] S = .exc "NoFunction" S := by
  simp only [sem_least_alike, b_least_alike, p_body, p_skip, p_seq, p_set, p_ret, p_retN, p_retV_s, p_retV_0, p_exp, p_if, p_raise, p_app, p_ext, p_setT, p_for, p_cell', nxt_nx, nxt_rt, nxt_exc, fin_nx, fin_rt, fin_exc, set_ok, set_exc, ret_ok, ret_exc, exp_ok, exp_exc, if_tt, if_ff, if_ok, if_exc, for_ok, for_exc, app_s, app_0, app_0o, ext_s, ext_0, cons_nx, cons_exc, setT_ok, cell_ok, pop_nx, pop_rt, unC_nil, unC_n, unC_d, unC_st, no_nil, no_n, no_a, mask_nil, mask_t, mask_f, dom_nil, dom_s, dom_n, start_0, start_s, setW_nil, setW_cons, ev_nil, ev_n, ev_a, ev_o, ev_own, frzE_nil, frzE_cons, frz1_s, frz1_0o, frz1_0a, frz1_0n, sNm_ap, sTp_ap, q_var0, q_varS, q_c, q_bin, bin1_a, bin1_o, bin1_e, bin2_a, bin2_o, bin2_e, q_un, un1_a, un1_o, q_call, call_n, call_c, call1_a, call1_o, call1_e, q_tup, allD_nil, allD_cons, tupE_ap, q_lst, lst_n, lst_c, lst1_ok, q_comp, comp_ok, q_and, and_tt, and_ff, asB_ok, asB_e, and_ok, and_fold, q_or, or_tt, or_ff, or_ok, or_fold, q_not, not_ok, not_e, q_ife, ife_tt, ife_ff, ife_ok, q_seq, q_rng1, q_rng2, q_enum, q_zip, srcS_a, srcS_o, src1_a, src1_o, src2_a, src2_o, of_some, q_sl, sl_nn, sl_n, sl_s, slo_nn, slo_n, slo_s, slLo_n, slLo_s, slHi_ok, slLo_n', slLo_s', slHi_ok', q_sm, sm1_a, sm2_a, sm2_o, on1_ap, onD1_ap, true_ap, gNm_ap, gTp_ap, setD_nil, setD_cons, wipe_nil, wipe_cons, max2_ap, rng1_n, rng1_l, rng1_1, Nat.reduceAdd, Nat.reduceSub, Nat.reduceLeDiff, List.length_cons, List.length_nil, List.length_map, List.length_range, List.replicate, List.set_cons_zero, List.set_cons_succ, List.map_cons, List.map_nil, List.cons_append, List.nil_append, Option.map_some, if_true, Bool.false_eq_true, if_false, Bool.not_true, Bool.not_false, o_add, o_sub, o_shr, o_band, o_lt, o_le, o_gt, o_ge, own0, own1, own2, own3, own4, own5, own6, own7, own8, own9, own10, own11, own12, seqD_lst, seqD_tup, seqD_eF, seqD_eG, i2n, isi_eF, isi_eG, isi_eT, gLen_eF, gLen_eG, gLen_lst, gLen_tup, dAll_m, dAny_m, all_tt, dInt_b, isi_int_none, isi_int_bool, isi_int_int, isi_int_str, isi_int_list, isi_int_tuple, isi_bool_none, isi_bool_bool, isi_bool_int, isi_bool_str, isi_bool_list, isi_bool_tuple, isi_str_none, isi_str_bool, isi_str_int, isi_str_str, isi_str_list, isi_str_tuple, isi_list_none, isi_list_bool, isi_list_int, isi_list_str, isi_list_list, isi_list_tuple, isi_tuple_none, isi_tuple_bool, isi_tuple_int, isi_tuple_str, isi_tuple_list, isi_tuple_tuple, isi2_tl_none, isi2_tl_bool, isi2_tl_int, isi2_tl_str, isi2_tl_list, isi2_tl_tuple, zip2, zipD_map, isi_int_dict, isi_bool_dict, isi_str_dict, isi_list_dict, isi_tuple_dict, isi2_tl_dict, dIsN, dNotN, p_setIx, setIx1_ok, setIx2_s, bin1_w, bin1o_some, toDs_nil, toDs_a, toDs_o, ret_nxt, rngD_map, Int.reduceToNat, p_appV, appV_ok', p_forB, forB_ok, sm1_T, List.getElem?_cons_succ, List.getElem?_cons_zero, q_chain, ch1_a, ch2_a, ch3_tt, ch3_ff, ch4_a, lt_TT, par_ap, par1_ok, par2_ok, srcS_e, src1_e, src2_e, comp_e, un1_e, lst1_e, and_e, or_e, q_sm0, sm01_a, sm01_T, smO_some, app_0w, e_need_function0 h S hS]
theorem e_law_take {S : Cs} (h : St S) (m : Nat) (hm : 0 < m) (hm2 : m < 1073741824) : ∃ (r : Nat) (S1 : Cs), sem__law_take [.c 0, .d (.int m)] S = .ok (iD r) S1 ∧ r < m ∧ St S1 := by
  obtain ⟨z, b, rfl, hz, hb⟩ := h
  have hm' : (0 : Int) < (m : Int) := by omega
  have x0 : ∀ (z : Int) (b : Bool), dIx (.c 0) (.d (.int 0)) [[.int z, .bool b]] = .ok (iD z) [[.int z, .bool b]] := fun _ _ => rfl
  have x1 : ∀ (z : Int) (b : Bool), dIx (.c 0) (.d (.int 1)) [[.int z, .bool b]] = .ok (bD b) [[.int z, .bool b]] := fun _ _ => rfl
  have fl : ∀ (z : Int) (b : Bool), flatCs [[.int z, .bool b]] = true := fun _ _ => rfl
  have i0 : ixN 2 0 = some 0 := rfl
  cases b with
  | true =>
    refine ⟨(z % m).toNat, [[.int (z / m), .bool true]], ?_, ?_, z / m, true, rfl, ?_, fun z => by cases z⟩
    · simp only [sem__law_take, b__law_take, bodySem, startE, sRet, sRetV, sRetN, sSeq, sSet, sSkip, sExp, sIf, fSm, fC, fComp, iRng1, iSeq, iZip, iEnum, fVar, fCall, fBin, fUn, onD1, on1, evs_nil, evs_cons, frzE, ev, ev1_own, ev1_ownD, ev1_a, ev1_no, List.map_cons, List.map_nil, List.cons_append, List.nil_append, List.replicate, List.length_cons, List.length_nil, Nat.reduceAdd, Nat.reduceSub, bnd_a, bi_a, bi_own, bnd_own, List.getElem?_cons_zero, List.getElem?_cons_succ, rng1, SR.of, if_true, wipeE, List.set_cons_zero, List.set_cons_succ, rngD_map, i2n, and_self, setD, Option.map_some, gNm, gTp, o_add, o_sub, o_shr, o_band, o_lt, o_le, o_gt, o_ge, fTup, allD, zip2, zipD_map, Function.comp_def, List.map_map, own0, own1, own2, own3, own4, own5, own6, own7, own8, own9, own10, own11, own12, fLst, evsW, sFor, dom, seqD_lst, seqD_tup, Option.isSome, sNm, sTp, setW, frz1_s, frz1_0o, frz1_0a, frz1_0n, isi_int_none, isi_int_bool, isi_int_int, isi_int_str, isi_int_list, isi_int_tuple, isi_bool_none, isi_bool_bool, isi_bool_int, isi_bool_str, isi_bool_list, isi_bool_tuple, isi_str_none, isi_str_bool, isi_str_int, isi_str_str, isi_str_list, isi_str_tuple, isi_list_none, isi_list_bool, isi_list_int, isi_list_str, isi_list_list, isi_list_tuple, isi_tuple_none, isi_tuple_bool, isi_tuple_int, isi_tuple_str, isi_tuple_list, isi_tuple_tuple, isi2_tl_none, isi2_tl_bool, isi2_tl_int, isi2_tl_str, isi2_tl_list, isi2_tl_tuple, br_tt, br_ff, Bool.false_eq_true, if_false, seqD_eF, seqD_eG, isi_eF, isi_eG, isi_eT, gLen_eF, gLen_eG, gLen_lst, gLen_tup, dAll_m, dAny_m, all_tt, dInt_b, x0, x1, fl, o_mod _ _ _ hm', o_div _ _ _ (show (0 : Int) < (m : Int) ∧ (m : Int) < 1073741824 by omega), sSetIx, i0]
      rw [Int.toNat_of_nonneg (Int.emod_nonneg _ (by omega))]
    · have := Int.emod_lt_of_pos z hm'
      have := Int.emod_nonneg z (show (m : Int) ≠ 0 by omega)
      omega
    · exact Int.ediv_nonneg hz (by omega)
  | false =>
    have hb := hb rfl
    have q1 := Int.emod_nonneg (z * 48271 + 29) (show (2147483647 : Int) ≠ 0 by decide)
    have q2 := Int.emod_lt_of_pos (z * 48271 + 29) (show (0 : Int) < 2147483647 by decide)
    generalize hz1 : (z * 48271 + 29) % 2147483647 = z1 at q1 q2
    have q3 := Int.emod_nonneg (z1 * z1 + 39373 * z1 + 7) (show (2147483629 : Int) ≠ 0 by decide)
    have q4 := Int.emod_lt_of_pos (z1 * z1 + 39373 * z1 + 7) (show (0 : Int) < 2147483629 by decide)
    generalize hs : (z1 * z1 + 39373 * z1 + 7) % 2147483629 = s at q3 q4
    have q5 := Int.emod_nonneg (s * s + 16807 * s) (show (2147483587 : Int) ≠ 0 by decide)
    generalize hs2 : (s * s + 16807 * s) % 2147483587 = s2 at q5
    have m1 : ∀ S, onD dMul (.d (.int z)) (.d (.int 48271)) S = .ok (iD (z * 48271)) S := fun S => o_mul _ _ S (by omega)
    have m2 : ∀ S, onD dMul (.d (.int z1)) (.d (.int z1)) S = .ok (iD (z1 * z1)) S := fun S => o_mul _ _ S (by omega)
    have m3 : ∀ S, onD dMul (.d (.int 39373)) (.d (.int z1)) S = .ok (iD (39373 * z1)) S := fun S => o_mul _ _ S (by omega)
    have m4 : ∀ S, onD dMul (.d (.int s)) (.d (.int s)) S = .ok (iD (s * s)) S := fun S => o_mul _ _ S (by omega)
    have m5 : ∀ S, onD dMul (.d (.int 16807)) (.d (.int s)) S = .ok (iD (16807 * s)) S := fun S => o_mul _ _ S (by omega)
    refine ⟨(s2 / 8 % m).toNat, [[.int z1, .bool false]], ?_, ?_, z1, false, rfl, q1, fun _ => q2⟩
    · simp only [sem__law_take, b__law_take, bodySem, startE, sRet, sRetV, sRetN, sSeq, sSet, sSkip, sExp, sIf, fSm, fC, fComp, iRng1, iSeq, iZip, iEnum, fVar, fCall, fBin, fUn, onD1, on1, evs_nil, evs_cons, frzE, ev, ev1_own, ev1_ownD, ev1_a, ev1_no, List.map_cons, List.map_nil, List.cons_append, List.nil_append, List.replicate, List.length_cons, List.length_nil, Nat.reduceAdd, Nat.reduceSub, bnd_a, bi_a, bi_own, bnd_own, List.getElem?_cons_zero, List.getElem?_cons_succ, rng1, SR.of, if_true, wipeE, List.set_cons_zero, List.set_cons_succ, rngD_map, i2n, and_self, setD, Option.map_some, gNm, gTp, o_add, o_sub, o_shr, o_band, o_lt, o_le, o_gt, o_ge, fTup, allD, zip2, zipD_map, Function.comp_def, List.map_map, own0, own1, own2, own3, own4, own5, own6, own7, own8, own9, own10, own11, own12, fLst, evsW, sFor, dom, seqD_lst, seqD_tup, Option.isSome, sNm, sTp, setW, frz1_s, frz1_0o, frz1_0a, frz1_0n, isi_int_none, isi_int_bool, isi_int_int, isi_int_str, isi_int_list, isi_int_tuple, isi_bool_none, isi_bool_bool, isi_bool_int, isi_bool_str, isi_bool_list, isi_bool_tuple, isi_str_none, isi_str_bool, isi_str_int, isi_str_str, isi_str_list, isi_str_tuple, isi_list_none, isi_list_bool, isi_list_int, isi_list_str, isi_list_list, isi_list_tuple, isi_tuple_none, isi_tuple_bool, isi_tuple_int, isi_tuple_str, isi_tuple_list, isi_tuple_tuple, isi2_tl_none, isi2_tl_bool, isi2_tl_int, isi2_tl_str, isi2_tl_list, isi2_tl_tuple, br_tt, br_ff, Bool.false_eq_true, if_false, seqD_eF, seqD_eG, isi_eF, isi_eG, isi_eT, gLen_eF, gLen_eG, gLen_lst, gLen_tup, dAll_m, dAny_m, all_tt, dInt_b, x0, x1, fl, i0, sSetIx, m1, m2, m3, m4, m5, hz1, hs, hs2, o_mod _ _ _ hm', o_mod _ _ _ (show (0 : Int) < 2147483647 by decide), o_mod _ _ _ (show (0 : Int) < 2147483629 by decide), o_mod _ _ _ (show (0 : Int) < 2147483587 by decide), o_div _ _ _ (show (0 : Int) < 8 ∧ (8 : Int) < 1073741824 by decide)]
      rw [Int.toNat_of_nonneg (Int.emod_nonneg _ (by omega))]
    · have := Int.emod_lt_of_pos (s2 / 8) hm'
      have := Int.emod_nonneg (s2 / 8) (show (m : Int) ≠ 0 by omega)
      omega
def tup32 : D := .tuple (List.replicate 32 (.int 0))
theorem none13 {r : Nat} (h : r < 13) (S : Cs) : ∃ d : D, dIx (.d (.list [.none, .tuple [], .tuple [.int 0], .tuple [.int 0, .int 1, .int 0], .tuple [.int 0, .int 2], .tuple [.int 0, .bool true], .list [.int 0, .int 1], tup32, .str (Str.ofString "01"), .tuple [.str (Str.ofString "0"), .str (Str.ofString "1")], .dict [], .int 1, .tuple [.int 0, .int 1, .none]])) (.d (.int r)) S = .ok (.a (.d d)) S ∧ isFnD d = false := by
  have : r = 0 ∨ r = 1 ∨ r = 2 ∨ r = 3 ∨ r = 4 ∨ r = 5 ∨ r = 6 ∨ r = 7 ∨ r = 8 ∨ r = 9 ∨ r = 10 ∨ r = 11 ∨ r = 12 := by omega
  rcases this with rfl | rfl | rfl | rfl | rfl | rfl | rfl | rfl | rfl | rfl | rfl | rfl | rfl <;> exact ⟨_, rfl, by decide⟩
theorem mul32 (S : Cs) : onD dMul (.d (.tuple [.int 0])) (.d (.int 32)) S = .ok (.a (.d tup32)) S := by
  refine onD_of ?_ S
  unfold dMul
  simp only
  rw [if_pos (by simp)]
  rfl
theorem e_law_bad_function {S : Cs} (h : St S) : ∃ (d : D) (S1 : Cs), sem__law_bad_function [.c 0] S = .ok (.a (.d d)) S1 ∧ isFnD d = false ∧ St S1 := by
  obtain ⟨r, S1, e1, l1, h1⟩ := e_law_take h 13 (by decide) (by decide)
  have e1' : sem__law_take [A.c 0, A.d (PyData.int 13)] S = .ok (iD r) S1 := e1
  obtain ⟨d, e2, hd⟩ := none13 l1 S1
  refine ⟨d, S1, ?_, hd, h1⟩
  have hw : W.toDs [.a (.d .none), .a (.d (.tuple [])), .a (.d (.tuple [.int 0])), .a (.d (.tuple [.int 0, .int 1, .int 0])), .a (.d (.tuple [.int 0, .int 2])), .a (.d (.tuple [.int 0, .bool true])), ownD [.int 0, .int 1], .a (.d tup32), .a (.d (.str (Str.ofString "01"))), .a (.d (.tuple [.str (Str.ofString "0"), .str (Str.ofString "1")])), .a (.d (.dict [])), .a (.d (.int 1)), .a (.d (.tuple [.int 0, .int 1, .none]))] = some [.none, .tuple [], .tuple [.int 0], .tuple [.int 0, .int 1, .int 0], .tuple [.int 0, .int 2], .tuple [.int 0, .bool true], .list [.int 0, .int 1], tup32, .str (Str.ofString "01"), .tuple [.str (Str.ofString "0"), .str (Str.ofString "1")], .dict [], .int 1, .tuple [.int 0, .int 1, .none]] := by
    simp only [toDs_a, toDs_o, toDs_nil, Option.map_some]
  have hq : ∀ ρ S, fDct ρ S = .ok (.a (.d (.dict []))) S := fun _ _ => rfl
  simp only [sem__law_bad_function, b__law_bad_function, p_body, p_skip, p_seq, p_set, p_ret, p_retN, p_retV_s, p_retV_0, p_exp, p_if, p_raise, p_app, p_ext, p_setT, p_for, p_cell', nxt_nx, nxt_rt, nxt_exc, fin_nx, fin_rt, fin_exc, set_ok, set_exc, ret_ok, ret_exc, exp_ok, exp_exc, if_tt, if_ff, if_ok, if_exc, for_ok, for_exc, app_s, app_0, app_0o, ext_s, ext_0, cons_nx, cons_exc, setT_ok, cell_ok, pop_nx, pop_rt, unC_nil, unC_n, unC_d, unC_st, no_nil, no_n, no_a, mask_nil, mask_t, mask_f, dom_nil, dom_s, dom_n, start_0, start_s, setW_nil, setW_cons, ev_nil, ev_n, ev_a, ev_o, ev_own, frzE_nil, frzE_cons, frz1_s, frz1_0o, frz1_0a, frz1_0n, sNm_ap, sTp_ap, q_var0, q_varS, q_c, q_bin, bin1_a, bin1_o, bin1_e, bin2_a, bin2_o, bin2_e, q_un, un1_a, un1_o, q_call, call_n, call_c, call1_a, call1_o, call1_e, q_tup, allD_nil, allD_cons, tupE_ap, q_lst, lst_n, lst_c, lst1_ok, q_comp, comp_ok, q_and, and_tt, and_ff, asB_ok, asB_e, and_ok, and_fold, q_or, or_tt, or_ff, or_ok, or_fold, q_not, not_ok, not_e, q_ife, ife_tt, ife_ff, ife_ok, q_seq, q_rng1, q_rng2, q_enum, q_zip, srcS_a, srcS_o, src1_a, src1_o, src2_a, src2_o, of_some, q_sl, sl_nn, sl_n, sl_s, slo_nn, slo_n, slo_s, slLo_n, slLo_s, slHi_ok, slLo_n', slLo_s', slHi_ok', q_sm, sm1_a, sm2_a, sm2_o, on1_ap, onD1_ap, true_ap, gNm_ap, gTp_ap, setD_nil, setD_cons, wipe_nil, wipe_cons, max2_ap, rng1_n, rng1_l, rng1_1, Nat.reduceAdd, Nat.reduceSub, Nat.reduceLeDiff, List.length_cons, List.length_nil, List.length_map, List.length_range, List.replicate, List.set_cons_zero, List.set_cons_succ, List.map_cons, List.map_nil, List.cons_append, List.nil_append, Option.map_some, if_true, Bool.false_eq_true, if_false, Bool.not_true, Bool.not_false, o_add, o_sub, o_shr, o_band, o_lt, o_le, o_gt, o_ge, own0, own1, own2, own3, own4, own5, own6, own7, own8, own9, own10, own11, own12, seqD_lst, seqD_tup, seqD_eF, seqD_eG, i2n, isi_eF, isi_eG, isi_eT, gLen_eF, gLen_eG, gLen_lst, gLen_tup, dAll_m, dAny_m, all_tt, dInt_b, isi_int_none, isi_int_bool, isi_int_int, isi_int_str, isi_int_list, isi_int_tuple, isi_bool_none, isi_bool_bool, isi_bool_int, isi_bool_str, isi_bool_list, isi_bool_tuple, isi_str_none, isi_str_bool, isi_str_int, isi_str_str, isi_str_list, isi_str_tuple, isi_list_none, isi_list_bool, isi_list_int, isi_list_str, isi_list_list, isi_list_tuple, isi_tuple_none, isi_tuple_bool, isi_tuple_int, isi_tuple_str, isi_tuple_list, isi_tuple_tuple, isi2_tl_none, isi2_tl_bool, isi2_tl_int, isi2_tl_str, isi2_tl_list, isi2_tl_tuple, zip2, zipD_map, isi_int_dict, isi_bool_dict, isi_str_dict, isi_list_dict, isi_tuple_dict, isi2_tl_dict, dIsN, dNotN, p_setIx, setIx1_ok, setIx2_s, bin1_w, bin1o_some, toDs_nil, toDs_a, toDs_o, ret_nxt, rngD_map, Int.reduceToNat, p_appV, appV_ok', p_forB, forB_ok, sm1_T, List.getElem?_cons_succ, List.getElem?_cons_zero, q_chain, ch1_a, ch2_a, ch3_tt, ch3_ff, ch4_a, lt_TT, par_ap, par1_ok, par2_ok, srcS_e, src1_e, src2_e, comp_e, un1_e, lst1_e, and_e, or_e, q_sm0, sm01_a, sm01_T, smO_some, app_0w, mul32, hq, frz1_0w hw, e1', e2]
theorem e_law_cell_at (ns : List Int) (k : Nat) (S : Cs) (hS : flatCs S = true) : ∃ z : Int, sem__law_cell_at [.s ns, .d (.int k)] S = .ok (iD z) S := by
  have g : gLen [.s ns] S = .ok (iD ns.length) S := rfl
  by_cases hk : k < ns.length
  · have hi : dIx (.s ns) (.d (.int k)) S = .ok (iD ns[k]) S := by
      unfold dIx
      simp only [atI_n (List.getElem?_eq_getElem hk)]
    refine ⟨ns[k], ?_⟩
    simp only [sem__law_cell_at, b__law_cell_at, bodySem, startE, sRet, sRetV, sRetN, sSeq, sSet, sSkip, sExp, sIf, fSm, fC, fComp, iRng1, iSeq, iZip, iEnum, fVar, fCall, fBin, fUn, onD1, on1, evs_nil, evs_cons, frzE, ev, ev1_own, ev1_ownD, ev1_a, ev1_no, List.map_cons, List.map_nil, List.cons_append, List.nil_append, List.replicate, List.length_cons, List.length_nil, Nat.reduceAdd, Nat.reduceSub, bnd_a, bi_a, bi_own, bnd_own, List.getElem?_cons_zero, List.getElem?_cons_succ, rng1, SR.of, if_true, wipeE, List.set_cons_zero, List.set_cons_succ, rngD_map, i2n, and_self, setD, Option.map_some, gNm, gTp, o_add, o_sub, o_shr, o_band, o_lt, o_le, o_gt, o_ge, fTup, allD, zip2, zipD_map, Function.comp_def, List.map_map, own0, own1, own2, own3, own4, own5, own6, own7, own8, own9, own10, own11, own12, fLst, evsW, sFor, dom, seqD_lst, seqD_tup, Option.isSome, sNm, sTp, setW, frz1_s, frz1_0o, frz1_0a, frz1_0n, isi_int_none, isi_int_bool, isi_int_int, isi_int_str, isi_int_list, isi_int_tuple, isi_bool_none, isi_bool_bool, isi_bool_int, isi_bool_str, isi_bool_list, isi_bool_tuple, isi_str_none, isi_str_bool, isi_str_int, isi_str_str, isi_str_list, isi_str_tuple, isi_list_none, isi_list_bool, isi_list_int, isi_list_str, isi_list_list, isi_list_tuple, isi_tuple_none, isi_tuple_bool, isi_tuple_int, isi_tuple_str, isi_tuple_list, isi_tuple_tuple, isi2_tl_none, isi2_tl_bool, isi2_tl_int, isi2_tl_str, isi2_tl_list, isi2_tl_tuple, br_tt, br_ff, Bool.false_eq_true, if_false, seqD_eF, seqD_eG, isi_eF, isi_eG, isi_eT, gLen_eF, gLen_eG, gLen_lst, gLen_tup, dAll_m, dAny_m, all_tt, dInt_b, g, hS, decide_eq_true (show (k : Int) < (ns.length : Int) by omega), hi]
  · refine ⟨0, ?_⟩
    simp only [sem__law_cell_at, b__law_cell_at, bodySem, startE, sRet, sRetV, sRetN, sSeq, sSet, sSkip, sExp, sIf, fSm, fC, fComp, iRng1, iSeq, iZip, iEnum, fVar, fCall, fBin, fUn, onD1, on1, evs_nil, evs_cons, frzE, ev, ev1_own, ev1_ownD, ev1_a, ev1_no, List.map_cons, List.map_nil, List.cons_append, List.nil_append, List.replicate, List.length_cons, List.length_nil, Nat.reduceAdd, Nat.reduceSub, bnd_a, bi_a, bi_own, bnd_own, List.getElem?_cons_zero, List.getElem?_cons_succ, rng1, SR.of, if_true, wipeE, List.set_cons_zero, List.set_cons_succ, rngD_map, i2n, and_self, setD, Option.map_some, gNm, gTp, o_add, o_sub, o_shr, o_band, o_lt, o_le, o_gt, o_ge, fTup, allD, zip2, zipD_map, Function.comp_def, List.map_map, own0, own1, own2, own3, own4, own5, own6, own7, own8, own9, own10, own11, own12, fLst, evsW, sFor, dom, seqD_lst, seqD_tup, Option.isSome, sNm, sTp, setW, frz1_s, frz1_0o, frz1_0a, frz1_0n, isi_int_none, isi_int_bool, isi_int_int, isi_int_str, isi_int_list, isi_int_tuple, isi_bool_none, isi_bool_bool, isi_bool_int, isi_bool_str, isi_bool_list, isi_bool_tuple, isi_str_none, isi_str_bool, isi_str_int, isi_str_str, isi_str_list, isi_str_tuple, isi_list_none, isi_list_bool, isi_list_int, isi_list_str, isi_list_list, isi_list_tuple, isi_tuple_none, isi_tuple_bool, isi_tuple_int, isi_tuple_str, isi_tuple_list, isi_tuple_tuple, isi2_tl_none, isi2_tl_bool, isi2_tl_int, isi2_tl_str, isi2_tl_list, isi2_tl_tuple, br_tt, br_ff, Bool.false_eq_true, if_false, seqD_eF, seqD_eG, isi_eF, isi_eG, isi_eT, gLen_eF, gLen_eG, gLen_lst, gLen_tup, dAll_m, dAny_m, all_tt, dInt_b, g, hS, decide_eq_false (show ¬ (k : Int) < (ns.length : Int) by omega)]
theorem e_law_state (ns : List Int) (k : Nat) (S : Cs) (hS : flatCs S = true) : ∃ (z : Int) (b : Bool), sem__law_state [.s ns, .d (.int k)] S = .ok (ownD [.int z, .bool b]) S ∧ 0 ≤ z ∧ (b = false → z < 2147483647) := by
  obtain ⟨z, e⟩ := e_law_cell_at ns k S hS
  have hp : ∀ S, onD dPow (.d (.int 10)) (.d (.int 18)) S = .ok (iD 1000000000000000000) S := fun S => o_pow _ _ S (by decide)
  by_cases hz : 1000000000000000000 ≤ z
  · refine ⟨z - 1000000000000000000, true, ?_, by omega, fun h => by cases h⟩
    simp only [sem__law_state, b__law_state, bodySem, startE, sRet, sRetV, sRetN, sSeq, sSet, sSkip, sExp, sIf, fSm, fC, fComp, iRng1, iSeq, iZip, iEnum, fVar, fCall, fBin, fUn, onD1, on1, evs_nil, evs_cons, frzE, ev, ev1_own, ev1_ownD, ev1_a, ev1_no, List.map_cons, List.map_nil, List.cons_append, List.nil_append, List.replicate, List.length_cons, List.length_nil, Nat.reduceAdd, Nat.reduceSub, bnd_a, bi_a, bi_own, bnd_own, List.getElem?_cons_zero, List.getElem?_cons_succ, rng1, SR.of, if_true, wipeE, List.set_cons_zero, List.set_cons_succ, rngD_map, i2n, and_self, setD, Option.map_some, gNm, gTp, o_add, o_sub, o_shr, o_band, o_lt, o_le, o_gt, o_ge, fTup, allD, zip2, zipD_map, Function.comp_def, List.map_map, own0, own1, own2, own3, own4, own5, own6, own7, own8, own9, own10, own11, own12, fLst, evsW, sFor, dom, seqD_lst, seqD_tup, Option.isSome, sNm, sTp, setW, frz1_s, frz1_0o, frz1_0a, frz1_0n, isi_int_none, isi_int_bool, isi_int_int, isi_int_str, isi_int_list, isi_int_tuple, isi_bool_none, isi_bool_bool, isi_bool_int, isi_bool_str, isi_bool_list, isi_bool_tuple, isi_str_none, isi_str_bool, isi_str_int, isi_str_str, isi_str_list, isi_str_tuple, isi_list_none, isi_list_bool, isi_list_int, isi_list_str, isi_list_list, isi_list_tuple, isi_tuple_none, isi_tuple_bool, isi_tuple_int, isi_tuple_str, isi_tuple_list, isi_tuple_tuple, isi2_tl_none, isi2_tl_bool, isi2_tl_int, isi2_tl_str, isi2_tl_list, isi2_tl_tuple, br_tt, br_ff, Bool.false_eq_true, if_false, seqD_eF, seqD_eG, isi_eF, isi_eG, isi_eT, gLen_eF, gLen_eG, gLen_lst, gLen_tup, dAll_m, dAny_m, all_tt, dInt_b, e, hp, hS, decide_eq_true hz]
  · refine ⟨z % 2147483647, false, ?_, Int.emod_nonneg _ (by decide), fun _ => Int.emod_lt_of_pos _ (by decide)⟩
    simp only [sem__law_state, b__law_state, bodySem, startE, sRet, sRetV, sRetN, sSeq, sSet, sSkip, sExp, sIf, fSm, fC, fComp, iRng1, iSeq, iZip, iEnum, fVar, fCall, fBin, fUn, onD1, on1, evs_nil, evs_cons, frzE, ev, ev1_own, ev1_ownD, ev1_a, ev1_no, List.map_cons, List.map_nil, List.cons_append, List.nil_append, List.replicate, List.length_cons, List.length_nil, Nat.reduceAdd, Nat.reduceSub, bnd_a, bi_a, bi_own, bnd_own, List.getElem?_cons_zero, List.getElem?_cons_succ, rng1, SR.of, if_true, wipeE, List.set_cons_zero, List.set_cons_succ, rngD_map, i2n, and_self, setD, Option.map_some, gNm, gTp, o_add, o_sub, o_shr, o_band, o_lt, o_le, o_gt, o_ge, fTup, allD, zip2, zipD_map, Function.comp_def, List.map_map, own0, own1, own2, own3, own4, own5, own6, own7, own8, own9, own10, own11, own12, fLst, evsW, sFor, dom, seqD_lst, seqD_tup, Option.isSome, sNm, sTp, setW, frz1_s, frz1_0o, frz1_0a, frz1_0n, isi_int_none, isi_int_bool, isi_int_int, isi_int_str, isi_int_list, isi_int_tuple, isi_bool_none, isi_bool_bool, isi_bool_int, isi_bool_str, isi_bool_list, isi_bool_tuple, isi_str_none, isi_str_bool, isi_str_int, isi_str_str, isi_str_list, isi_str_tuple, isi_list_none, isi_list_bool, isi_list_int, isi_list_str, isi_list_list, isi_list_tuple, isi_tuple_none, isi_tuple_bool, isi_tuple_int, isi_tuple_str, isi_tuple_list, isi_tuple_tuple, isi2_tl_none, isi2_tl_bool, isi2_tl_int, isi2_tl_str, isi2_tl_list, isi2_tl_tuple, br_tt, br_ff, Bool.false_eq_true, if_false, seqD_eF, seqD_eG, isi_eF, isi_eG, isi_eT, gLen_eF, gLen_eG, gLen_lst, gLen_tup, dAll_m, dAny_m, all_tt, dInt_b, e, hp, hS, decide_eq_false hz, o_mod _ _ _ (show (0 : Int) < 2147483647 by decide)]
theorem e_law_function3F {S : Cs} (h : St S) (n : Nat) (hn : n ≤ 10) (fr : Bool) : ∃ (f : Fn) (S1 : Cs), sem__law_function [.c 0, .d (.int n), .d (.bool fr)] S = .ok (.a (.d (eF f))) S1 ∧ f.length = 2 ^ n ∧ St S1 ∧ (fr = false → ∀ a ∈ f, a ≠ none) := by
  obtain ⟨r1, S1, e1, l1, h1⟩ := e_law_take h 3 (by decide) (by decide)
  obtain ⟨r2, S2, e2, l2, h2⟩ := e_law_take h1 3 (by decide) (by decide)
  have p1 := pick (l := [2, 4, 6]) (r := r1) l1 S1
  generalize hod : ([2, 4, 6] : List Int)[r1]'l1 = od at p1
  have n2 : 2 ^ n ≤ 2 ^ 10 := Nat.pow_le_pow_right (by decide) hn
  have b1 : ((2 ^ n : Nat) : Int) ≤ 1000000 ∧ -1000000 ≤ ((2 ^ n : Nat) : Int) := by
    generalize 2 ^ n = q at n2 ⊢
    omega
  obtain ⟨rs, e3, hrs⟩ : ∃ rs : Int, onD dMul (.d (.int r2)) (.d (aO (some fr))) S2 = .ok (iD rs) S2 ∧ (fr = false → rs = 0) := ⟨_, o_mul _ _ S2 (.inl (by omega)), by rintro rfl; simp⟩
  obtain ⟨ρ2, S3, e4, hJ⟩ := forL_cnt (g := sNm 6) (body := (sSeq (sSet 7 [] (fCall (on1 dInt) [(fBin (onD dLt) (fCall sem__law_take [(fVar 0), (fC (.int 8))]) (fVar 3))]))
  (sSeq (sIf [4] (fBin (onD dLt) (fCall sem__law_take [(fVar 0), (fC (.int 5))]) (fVar 4))
  (sSet 7 [] (fC .none))
  sSkip)
  (sApp 5 [7] (fVar 7))))) (dm := [true, true, true, true, true, true, false, false]) (fun k ρ S => St S ∧ ∃ l : Fn, l.length = k ∧ (fr = false → ∀ a ∈ l, a ≠ none) ∧ ρ = [some (.a (.c 0)), some (.a (.d (.int n))), some (.a (.d (.bool fr))), some (iD od), some (iD rs), some (ownD (l.map aO)), none, none]) (2 ^ n) ((List.range (2 ^ n)).map fun (i : Nat) => PyData.int i) 0
    [some (.a (.c 0)), some (.a (.d (.int n))), some (.a (.d (.bool fr))), some (iD od), some (iD rs), some (ownD []), none, none] S2 (by simp) ⟨h2, [], rfl, fun _ a ha => absurd ha (by simp), rfl⟩ (by
      rintro x hx k ρ S hk ⟨hS, l, hl, hfr, rfl⟩
      obtain ⟨i, hi, rfl⟩ := List.mem_map.mp hx
      obtain ⟨r3, S3, e3, l3, h3⟩ := e_law_take hS 8 (by decide) (by decide)
      obtain ⟨r4, S4, e4, l4, h4⟩ := e_law_take h3 5 (by decide) (by decide)
      have e3' : sem__law_take [A.c 0, A.d (PyData.int 8)] S = .ok (iD r3) S3 := e3
      have e4' : sem__law_take [A.c 0, A.d (PyData.int 5)] S3 = .ok (iD r4) S4 := e4
      have hlen : (l.map aO).length < 1000000 := by rw [List.length_map]; omega
      by_cases hc : (r4 : Int) < rs
      · refine ⟨_, [some (.a (.c 0)), some (.a (.d (.int n))), some (.a (.d (.bool fr))), some (iD od), some (iD rs), some (ownD ((l ++ [none]).map aO)), some (.a (.d (.int i))), some (.a (.d (aO none)))], S4, rfl, ?_, h4, l ++ [none], by simp [hl], fun hf => absurd (hrs hf) (by omega), rfl⟩
        simp only [bodySem, startE, sRet, sRetV, sRetN, sSeq, sSet, sSkip, sExp, sIf, fSm, fC, fComp, iRng1, iSeq, iZip, iEnum, fVar, fCall, fBin, fUn, onD1, on1, evs_nil, evs_cons, frzE, ev, ev1_own, ev1_ownD, ev1_a, ev1_no, List.map_cons, List.map_nil, List.cons_append, List.nil_append, List.replicate, List.length_cons, List.length_nil, Nat.reduceAdd, Nat.reduceSub, bnd_a, bi_a, bi_own, bnd_own, List.getElem?_cons_zero, List.getElem?_cons_succ, rng1, SR.of, if_true, wipeE, List.set_cons_zero, List.set_cons_succ, rngD_map, i2n, and_self, setD, Option.map_some, gNm, gTp, o_add, o_sub, o_shr, o_band, o_lt, o_le, o_gt, o_ge, fTup, allD, zip2, zipD_map, Function.comp_def, List.map_map, own0, own1, own2, own3, own4, own5, own6, own7, own8, own9, own10, own11, own12, fLst, evsW, sFor, dom, seqD_lst, seqD_tup, Option.isSome, sNm, sTp, setW, frz1_s, frz1_0o, frz1_0a, frz1_0n, isi_int_none, isi_int_bool, isi_int_int, isi_int_str, isi_int_list, isi_int_tuple, isi_bool_none, isi_bool_bool, isi_bool_int, isi_bool_str, isi_bool_list, isi_bool_tuple, isi_str_none, isi_str_bool, isi_str_int, isi_str_str, isi_str_list, isi_str_tuple, isi_list_none, isi_list_bool, isi_list_int, isi_list_str, isi_list_list, isi_list_tuple, isi_tuple_none, isi_tuple_bool, isi_tuple_int, isi_tuple_str, isi_tuple_list, isi_tuple_tuple, isi2_tl_none, isi2_tl_bool, isi2_tl_int, isi2_tl_str, isi2_tl_list, isi2_tl_tuple, br_tt, br_ff, Bool.false_eq_true, if_false, seqD_eF, seqD_eG, isi_eF, isi_eG, isi_eT, gLen_eF, gLen_eG, gLen_lst, gLen_tup, dAll_m, dAny_m, all_tt, dInt_b, e3', e4', h4.flat, decide_eq_true hc]
        rw [x_app (a := l.map aO) (d := aO none) (S1 := S4) rfl rfl hlen]
        simp only [bodySem, startE, sRet, sRetV, sRetN, sSeq, sSet, sSkip, sExp, sIf, fSm, fC, fComp, iRng1, iSeq, iZip, iEnum, fVar, fCall, fBin, fUn, onD1, on1, evs_nil, evs_cons, frzE, ev, ev1_own, ev1_ownD, ev1_a, ev1_no, List.map_cons, List.map_nil, List.cons_append, List.nil_append, List.replicate, List.length_cons, List.length_nil, Nat.reduceAdd, Nat.reduceSub, bnd_a, bi_a, bi_own, bnd_own, List.getElem?_cons_zero, List.getElem?_cons_succ, rng1, SR.of, if_true, wipeE, List.set_cons_zero, List.set_cons_succ, rngD_map, i2n, and_self, setD, Option.map_some, gNm, gTp, o_add, o_sub, o_shr, o_band, o_lt, o_le, o_gt, o_ge, fTup, allD, zip2, zipD_map, Function.comp_def, List.map_map, own0, own1, own2, own3, own4, own5, own6, own7, own8, own9, own10, own11, own12, fLst, evsW, sFor, dom, seqD_lst, seqD_tup, Option.isSome, sNm, sTp, setW, frz1_s, frz1_0o, frz1_0a, frz1_0n, isi_int_none, isi_int_bool, isi_int_int, isi_int_str, isi_int_list, isi_int_tuple, isi_bool_none, isi_bool_bool, isi_bool_int, isi_bool_str, isi_bool_list, isi_bool_tuple, isi_str_none, isi_str_bool, isi_str_int, isi_str_str, isi_str_list, isi_str_tuple, isi_list_none, isi_list_bool, isi_list_int, isi_list_str, isi_list_list, isi_list_tuple, isi_tuple_none, isi_tuple_bool, isi_tuple_int, isi_tuple_str, isi_tuple_list, isi_tuple_tuple, isi2_tl_none, isi2_tl_bool, isi2_tl_int, isi2_tl_str, isi2_tl_list, isi2_tl_tuple, br_tt, br_ff, Bool.false_eq_true, if_false, seqD_eF, seqD_eG, isi_eF, isi_eG, isi_eT, gLen_eF, gLen_eG, gLen_lst, gLen_tup, dAll_m, dAny_m, all_tt, dInt_b, List.map_append]
        rfl
      · refine ⟨_, [some (.a (.c 0)), some (.a (.d (.int n))), some (.a (.d (.bool fr))), some (iD od), some (iD rs), some (ownD ((l ++ [some (decide ((r3 : Int) < od))]).map aO)), some (.a (.d (.int i))), some (.a (.d (aO (some (decide ((r3 : Int) < od))))))], S4, rfl, ?_, h4, l ++ [some (decide ((r3 : Int) < od))], by simp [hl], fun hf a ha => by
          rcases List.mem_append.mp ha with h | h
          · exact hfr hf a h
          · rw [List.mem_singleton.mp h]; simp, rfl⟩
        simp only [bodySem, startE, sRet, sRetV, sRetN, sSeq, sSet, sSkip, sExp, sIf, fSm, fC, fComp, iRng1, iSeq, iZip, iEnum, fVar, fCall, fBin, fUn, onD1, on1, evs_nil, evs_cons, frzE, ev, ev1_own, ev1_ownD, ev1_a, ev1_no, List.map_cons, List.map_nil, List.cons_append, List.nil_append, List.replicate, List.length_cons, List.length_nil, Nat.reduceAdd, Nat.reduceSub, bnd_a, bi_a, bi_own, bnd_own, List.getElem?_cons_zero, List.getElem?_cons_succ, rng1, SR.of, if_true, wipeE, List.set_cons_zero, List.set_cons_succ, rngD_map, i2n, and_self, setD, Option.map_some, gNm, gTp, o_add, o_sub, o_shr, o_band, o_lt, o_le, o_gt, o_ge, fTup, allD, zip2, zipD_map, Function.comp_def, List.map_map, own0, own1, own2, own3, own4, own5, own6, own7, own8, own9, own10, own11, own12, fLst, evsW, sFor, dom, seqD_lst, seqD_tup, Option.isSome, sNm, sTp, setW, frz1_s, frz1_0o, frz1_0a, frz1_0n, isi_int_none, isi_int_bool, isi_int_int, isi_int_str, isi_int_list, isi_int_tuple, isi_bool_none, isi_bool_bool, isi_bool_int, isi_bool_str, isi_bool_list, isi_bool_tuple, isi_str_none, isi_str_bool, isi_str_int, isi_str_str, isi_str_list, isi_str_tuple, isi_list_none, isi_list_bool, isi_list_int, isi_list_str, isi_list_list, isi_list_tuple, isi_tuple_none, isi_tuple_bool, isi_tuple_int, isi_tuple_str, isi_tuple_list, isi_tuple_tuple, isi2_tl_none, isi2_tl_bool, isi2_tl_int, isi2_tl_str, isi2_tl_list, isi2_tl_tuple, br_tt, br_ff, Bool.false_eq_true, if_false, seqD_eF, seqD_eG, isi_eF, isi_eG, isi_eT, gLen_eF, gLen_eG, gLen_lst, gLen_tup, dAll_m, dAny_m, all_tt, dInt_b, e3', e4', h4.flat, decide_eq_false hc]
        rw [x_app (a := l.map aO) (d := aO (some (decide ((r3 : Int) < od)))) (S1 := S4) rfl rfl hlen]
        simp only [bodySem, startE, sRet, sRetV, sRetN, sSeq, sSet, sSkip, sExp, sIf, fSm, fC, fComp, iRng1, iSeq, iZip, iEnum, fVar, fCall, fBin, fUn, onD1, on1, evs_nil, evs_cons, frzE, ev, ev1_own, ev1_ownD, ev1_a, ev1_no, List.map_cons, List.map_nil, List.cons_append, List.nil_append, List.replicate, List.length_cons, List.length_nil, Nat.reduceAdd, Nat.reduceSub, bnd_a, bi_a, bi_own, bnd_own, List.getElem?_cons_zero, List.getElem?_cons_succ, rng1, SR.of, if_true, wipeE, List.set_cons_zero, List.set_cons_succ, rngD_map, i2n, and_self, setD, Option.map_some, gNm, gTp, o_add, o_sub, o_shr, o_band, o_lt, o_le, o_gt, o_ge, fTup, allD, zip2, zipD_map, Function.comp_def, List.map_map, own0, own1, own2, own3, own4, own5, own6, own7, own8, own9, own10, own11, own12, fLst, evsW, sFor, dom, seqD_lst, seqD_tup, Option.isSome, sNm, sTp, setW, frz1_s, frz1_0o, frz1_0a, frz1_0n, isi_int_none, isi_int_bool, isi_int_int, isi_int_str, isi_int_list, isi_int_tuple, isi_bool_none, isi_bool_bool, isi_bool_int, isi_bool_str, isi_bool_list, isi_bool_tuple, isi_str_none, isi_str_bool, isi_str_int, isi_str_str, isi_str_list, isi_str_tuple, isi_list_none, isi_list_bool, isi_list_int, isi_list_str, isi_list_list, isi_list_tuple, isi_tuple_none, isi_tuple_bool, isi_tuple_int, isi_tuple_str, isi_tuple_list, isi_tuple_tuple, isi2_tl_none, isi2_tl_bool, isi2_tl_int, isi2_tl_str, isi2_tl_list, isi2_tl_tuple, br_tt, br_ff, Bool.false_eq_true, if_false, seqD_eF, seqD_eG, isi_eF, isi_eG, isi_eT, gLen_eF, gLen_eG, gLen_lst, gLen_tup, dAll_m, dAny_m, all_tt, dInt_b, List.map_append])
  obtain ⟨h3, l, hl, hfr, rfl⟩ := hJ
  simp only [List.length_map, List.length_range, Nat.zero_add] at hl
  refine ⟨l, S3, ?_, hl, h3, hfr⟩
  have e1' : sem__law_take [A.c 0, A.d (PyData.int 3)] S = .ok (iD r1) S1 := e1
  have e2' : sem__law_take [A.c 0, A.d (PyData.int 3)] S1 = .ok (iD r2) S2 := e2
  simp only [List.map_cons, List.map_nil] at p1
  simp only [sem__law_function, b__law_function, bodySem, startE, sRet, sRetV, sRetN, sSeq, sSet, sSkip, sExp, sIf, fSm, fC, fComp, iRng1, iSeq, iZip, iEnum, fVar, fCall, fBin, fUn, onD1, on1, evs_nil, evs_cons, frzE, ev, ev1_own, ev1_ownD, ev1_a, ev1_no, List.map_cons, List.map_nil, List.cons_append, List.nil_append, List.replicate, List.length_cons, List.length_nil, Nat.reduceAdd, Nat.reduceSub, bnd_a, bi_a, bi_own, bnd_own, List.getElem?_cons_zero, List.getElem?_cons_succ, rng1, SR.of, if_true, wipeE, List.set_cons_zero, List.set_cons_succ, rngD_map, i2n, and_self, setD, Option.map_some, gNm, gTp, o_add, o_sub, o_shr, o_band, o_lt, o_le, o_gt, o_ge, fTup, allD, zip2, zipD_map, Function.comp_def, List.map_map, own0, own1, own2, own3, own4, own5, own6, own7, own8, own9, own10, own11, own12, fLst, evsW, sFor, dom, seqD_lst, seqD_tup, Option.isSome, sNm, sTp, setW, frz1_s, frz1_0o, frz1_0a, frz1_0n, isi_int_none, isi_int_bool, isi_int_int, isi_int_str, isi_int_list, isi_int_tuple, isi_bool_none, isi_bool_bool, isi_bool_int, isi_bool_str, isi_bool_list, isi_bool_tuple, isi_str_none, isi_str_bool, isi_str_int, isi_str_str, isi_str_list, isi_str_tuple, isi_list_none, isi_list_bool, isi_list_int, isi_list_str, isi_list_list, isi_list_tuple, isi_tuple_none, isi_tuple_bool, isi_tuple_int, isi_tuple_str, isi_tuple_list, isi_tuple_tuple, isi2_tl_none, isi2_tl_bool, isi2_tl_int, isi2_tl_str, isi2_tl_list, isi2_tl_tuple, br_tt, br_ff, Bool.false_eq_true, if_false, seqD_eF, seqD_eG, isi_eF, isi_eG, isi_eT, gLen_eF, gLen_eG, gLen_lst, gLen_tup, dAll_m, dAny_m, all_tt, dInt_b, e1', p1, e2', e3, o_shl _ n (by omega : n ≤ 60), b1, e4, dTup]
  rfl

theorem e_law_function3 {S : Cs} (h : St S) (n : Nat) (hn : n ≤ 10) (fr : Bool) : ∃ (f : Fn) (S1 : Cs), sem__law_function [.c 0, .d (.int n), .d (.bool fr)] S = .ok (.a (.d (eF f))) S1 ∧ f.length = 2 ^ n ∧ St S1 := by
  obtain ⟨f, S1, a, b, c, _⟩ := e_law_function3F h n hn fr
  exact ⟨f, S1, a, b, c⟩
theorem e_lc1 (S : Cs) : sem__law_changes [.d (.int (1 : Nat))] S = .ok (ownD ((chsM 1).map eC)) S := by kernel_rfl
theorem e_lc2 (S : Cs) : sem__law_changes [.d (.int (2 : Nat))] S = .ok (ownD ((chsM 2).map eC)) S := by kernel_rfl
theorem e_lc3 (S : Cs) : sem__law_changes [.d (.int (3 : Nat))] S = .ok (ownD ((chsM 3).map eC)) S := by kernel_rfl
theorem e_lc4 (S : Cs) : sem__law_changes [.d (.int (4 : Nat))] S = .ok (ownD ((chsM 4).map eC)) S := by kernel_rfl
theorem e_law_changes {n : Nat} (h1 : 1 ≤ n) (h4 : n ≤ 4) (S : Cs) : sem__law_changes [.d (.int (n : Nat))] S = .ok (ownD ((chsM n).map eC)) S := by
  have : n = 1 ∨ n = 2 ∨ n = 3 ∨ n = 4 := by omega
  rcases this with rfl | rfl | rfl | rfl
  · exact e_lc1 S
  · exact e_lc2 S
  · exact e_lc3 S
  · exact e_lc4 S
theorem e_law_switches {f : Fn} {n : Nat} (hf : f.length = 2 ^ n) (h1 : 1 ≤ n) (h4 : n ≤ 4) (S : Cs) : sem__law_switches [.d (eF f)] S = .ok (iD n) S := by
  simp only [sem__law_switches, b__law_switches, bodySem, startE, sRet, sRetV, sRetN, sSeq, sSet, sSkip, sExp, sIf, fSm, fC, fComp, iRng1, iSeq, iZip, iEnum, fVar, fCall, fBin, fUn, onD1, on1, evs_nil, evs_cons, frzE, ev, ev1_own, ev1_ownD, ev1_a, ev1_no, List.map_cons, List.map_nil, List.cons_append, List.nil_append, List.replicate, List.length_cons, List.length_nil, Nat.reduceAdd, Nat.reduceSub, bnd_a, bi_a, bi_own, bnd_own, List.getElem?_cons_zero, List.getElem?_cons_succ, rng1, SR.of, if_true, wipeE, List.set_cons_zero, List.set_cons_succ, rngD_map, i2n, and_self, setD, Option.map_some, gNm, gTp, o_add, o_sub, o_shr, o_band, o_lt, o_le, o_gt, o_ge, fTup, allD, zip2, zipD_map, Function.comp_def, List.map_map, own0, own1, own2, own3, own4, own5, own6, own7, own8, own9, own10, own11, own12, fLst, evsW, sFor, dom, seqD_lst, seqD_tup, Option.isSome, sNm, sTp, setW, frz1_s, frz1_0o, frz1_0a, frz1_0n, isi_int_none, isi_int_bool, isi_int_int, isi_int_str, isi_int_list, isi_int_tuple, isi_bool_none, isi_bool_bool, isi_bool_int, isi_bool_str, isi_bool_list, isi_bool_tuple, isi_str_none, isi_str_bool, isi_str_int, isi_str_str, isi_str_list, isi_str_tuple, isi_list_none, isi_list_bool, isi_list_int, isi_list_str, isi_list_list, isi_list_tuple, isi_tuple_none, isi_tuple_bool, isi_tuple_int, isi_tuple_str, isi_tuple_list, isi_tuple_tuple, isi2_tl_none, isi2_tl_bool, isi2_tl_int, isi2_tl_str, isi2_tl_list, isi2_tl_tuple, br_tt, br_ff, Bool.false_eq_true, if_false, seqD_eF, seqD_eG, isi_eF, isi_eG, isi_eT, gLen_eF, gLen_eG, gLen_lst, gLen_tup, dAll_m, dAny_m, all_tt, dInt_b, hf, dAtKI, kv_at h1 h4]
theorem e_law_bits {n : Nat} (hn : n ≤ 100) (p : Nat) (S : Cs) : sem__law_bits [.d (.int (n : Nat)), .d (.int (p : Nat))] S = .ok (ownD ((List.range n).map fun k => eBt (p.testBit (n - 1 - k)))) S := by
  have hc : compL (gNm 2) fTrue (fBin (onD dBAnd) (fBin (onD dShr) (fVar 1) (fBin (onD dSub) (fBin (onD dSub) (fVar 0) (fC (.int 1))) (fVar 2))) (fC (.int 1))) [some (.d (.int (n : Nat))), some (.d (.int (p : Nat))), none] ((List.range n).map fun (i : Nat) => PyData.int (i : Int)) S [] = .ok (ownD ((List.range n).map fun k => eBt (p.testBit (n - 1 - k)))) S := by
    rw [compL_m (fun (i : Nat) => PyData.int (i : Int)) (fun k => eBt (p.testBit (n - 1 - k))) (List.range n)]
    intro k hk
    have hk := List.mem_range.mp hk
    have e1 : ((n : Int) - 1 - (k : Int)) = ((n - 1 - k : Nat) : Int) := by omega
    refine ⟨_, rfl, ?_⟩
    simp only [p_body, p_skip, p_seq, p_set, p_ret, p_retN, p_retV_s, p_retV_0, p_exp, p_if, p_raise, p_app, p_ext, p_setT, p_for, p_cell', nxt_nx, nxt_rt, nxt_exc, fin_nx, fin_rt, fin_exc, set_ok, set_exc, ret_ok, ret_exc, exp_ok, exp_exc, if_tt, if_ff, if_ok, if_exc, for_ok, for_exc, app_s, app_0, app_0o, ext_s, ext_0, cons_nx, cons_exc, setT_ok, cell_ok, pop_nx, pop_rt, unC_nil, unC_n, unC_d, unC_st, no_nil, no_n, no_a, mask_nil, mask_t, mask_f, dom_nil, dom_s, dom_n, start_0, start_s, setW_nil, setW_cons, ev_nil, ev_n, ev_a, ev_o, ev_own, frzE_nil, frzE_cons, frz1_s, frz1_0o, frz1_0a, frz1_0n, sNm_ap, sTp_ap, q_var0, q_varS, q_c, q_bin, bin1_a, bin1_o, bin1_e, bin2_a, bin2_o, bin2_e, q_un, un1_a, un1_o, q_call, call_n, call_c, call1_a, call1_o, call1_e, q_tup, allD_nil, allD_cons, tupE_ap, q_lst, lst_n, lst_c, lst1_ok, q_comp, comp_ok, q_and, and_tt, and_ff, asB_ok, asB_e, and_ok, and_fold, q_or, or_tt, or_ff, or_ok, or_fold, q_not, not_ok, not_e, q_ife, ife_tt, ife_ff, ife_ok, q_seq, q_rng1, q_rng2, q_enum, q_zip, srcS_a, srcS_o, src1_a, src1_o, src2_a, src2_o, of_some, q_sl, sl_nn, sl_n, sl_s, slo_nn, slo_n, slo_s, slLo_n, slLo_s, slHi_ok, slLo_n', slLo_s', slHi_ok', q_sm, sm1_a, sm2_a, sm2_o, on1_ap, onD1_ap, true_ap, gNm_ap, gTp_ap, setD_nil, setD_cons, wipe_nil, wipe_cons, max2_ap, rng1_n, rng1_l, rng1_1, Nat.reduceAdd, Nat.reduceSub, Nat.reduceLeDiff, List.length_cons, List.length_nil, List.length_map, List.length_range, List.replicate, List.set_cons_zero, List.set_cons_succ, List.map_cons, List.map_nil, List.cons_append, List.nil_append, Option.map_some, if_true, Bool.false_eq_true, if_false, Bool.not_true, Bool.not_false, o_add, o_sub, o_shr, o_band, o_lt, o_le, o_gt, o_ge, own0, own1, own2, own3, own4, own5, own6, own7, own8, own9, own10, own11, own12, seqD_lst, seqD_tup, seqD_eF, seqD_eG, i2n, isi_eF, isi_eG, isi_eT, gLen_eF, gLen_eG, gLen_lst, gLen_tup, dAll_m, dAny_m, all_tt, dInt_b, isi_int_none, isi_int_bool, isi_int_int, isi_int_str, isi_int_list, isi_int_tuple, isi_bool_none, isi_bool_bool, isi_bool_int, isi_bool_str, isi_bool_list, isi_bool_tuple, isi_str_none, isi_str_bool, isi_str_int, isi_str_str, isi_str_list, isi_str_tuple, isi_list_none, isi_list_bool, isi_list_int, isi_list_str, isi_list_list, isi_list_tuple, isi_tuple_none, isi_tuple_bool, isi_tuple_int, isi_tuple_str, isi_tuple_list, isi_tuple_tuple, isi2_tl_none, isi2_tl_bool, isi2_tl_int, isi2_tl_str, isi2_tl_list, isi2_tl_tuple, zip2, zipD_map, isi_int_dict, isi_bool_dict, isi_str_dict, isi_list_dict, isi_tuple_dict, isi2_tl_dict, dIsN, dNotN, p_setIx, setIx1_ok, setIx2_s, bin1_w, bin1o_some, toDs_nil, toDs_a, toDs_o, ret_nxt, rngD_map, Int.reduceToNat, p_appV, appV_ok', p_forB, forB_ok, sm1_T, List.getElem?_cons_succ, List.getElem?_cons_zero, q_chain, ch1_a, ch2_a, ch3_tt, ch3_ff, ch4_a, lt_TT, par_ap, par1_ok, par2_ok, srcS_e, src1_e, src2_e, comp_e, un1_e, lst1_e, and_e, or_e, q_sm0, sm01_a, sm01_T, smO_some, app_0w, e1, and1]
    rfl
  simp only [sem__law_bits, b__law_bits, p_body, p_skip, p_seq, p_set, p_ret, p_retN, p_retV_s, p_retV_0, p_exp, p_if, p_raise, p_app, p_ext, p_setT, p_for, p_cell', nxt_nx, nxt_rt, nxt_exc, fin_nx, fin_rt, fin_exc, set_ok, set_exc, ret_ok, ret_exc, exp_ok, exp_exc, if_tt, if_ff, if_ok, if_exc, for_ok, for_exc, app_s, app_0, app_0o, ext_s, ext_0, cons_nx, cons_exc, setT_ok, cell_ok, pop_nx, pop_rt, unC_nil, unC_n, unC_d, unC_st, no_nil, no_n, no_a, mask_nil, mask_t, mask_f, dom_nil, dom_s, dom_n, start_0, start_s, setW_nil, setW_cons, ev_nil, ev_n, ev_a, ev_o, ev_own, frzE_nil, frzE_cons, frz1_s, frz1_0o, frz1_0a, frz1_0n, sNm_ap, sTp_ap, q_var0, q_varS, q_c, q_bin, bin1_a, bin1_o, bin1_e, bin2_a, bin2_o, bin2_e, q_un, un1_a, un1_o, q_call, call_n, call_c, call1_a, call1_o, call1_e, q_tup, allD_nil, allD_cons, tupE_ap, q_lst, lst_n, lst_c, lst1_ok, q_comp, comp_ok, q_and, and_tt, and_ff, asB_ok, asB_e, and_ok, and_fold, q_or, or_tt, or_ff, or_ok, or_fold, q_not, not_ok, not_e, q_ife, ife_tt, ife_ff, ife_ok, q_seq, q_rng1, q_rng2, q_enum, q_zip, srcS_a, srcS_o, src1_a, src1_o, src2_a, src2_o, of_some, q_sl, sl_nn, sl_n, sl_s, slo_nn, slo_n, slo_s, slLo_n, slLo_s, slHi_ok, slLo_n', slLo_s', slHi_ok', q_sm, sm1_a, sm2_a, sm2_o, on1_ap, onD1_ap, true_ap, gNm_ap, gTp_ap, setD_nil, setD_cons, wipe_nil, wipe_cons, max2_ap, rng1_n, rng1_l, rng1_1, Nat.reduceAdd, Nat.reduceSub, Nat.reduceLeDiff, List.length_cons, List.length_nil, List.length_map, List.length_range, List.replicate, List.set_cons_zero, List.set_cons_succ, List.map_cons, List.map_nil, List.cons_append, List.nil_append, Option.map_some, if_true, Bool.false_eq_true, if_false, Bool.not_true, Bool.not_false, o_add, o_sub, o_shr, o_band, o_lt, o_le, o_gt, o_ge, own0, own1, own2, own3, own4, own5, own6, own7, own8, own9, own10, own11, own12, seqD_lst, seqD_tup, seqD_eF, seqD_eG, i2n, isi_eF, isi_eG, isi_eT, gLen_eF, gLen_eG, gLen_lst, gLen_tup, dAll_m, dAny_m, all_tt, dInt_b, isi_int_none, isi_int_bool, isi_int_int, isi_int_str, isi_int_list, isi_int_tuple, isi_bool_none, isi_bool_bool, isi_bool_int, isi_bool_str, isi_bool_list, isi_bool_tuple, isi_str_none, isi_str_bool, isi_str_int, isi_str_str, isi_str_list, isi_str_tuple, isi_list_none, isi_list_bool, isi_list_int, isi_list_str, isi_list_list, isi_list_tuple, isi_tuple_none, isi_tuple_bool, isi_tuple_int, isi_tuple_str, isi_tuple_list, isi_tuple_tuple, isi2_tl_none, isi2_tl_bool, isi2_tl_int, isi2_tl_str, isi2_tl_list, isi2_tl_tuple, zip2, zipD_map, isi_int_dict, isi_bool_dict, isi_str_dict, isi_list_dict, isi_tuple_dict, isi2_tl_dict, dIsN, dNotN, p_setIx, setIx1_ok, setIx2_s, bin1_w, bin1o_some, toDs_nil, toDs_a, toDs_o, ret_nxt, rngD_map, Int.reduceToNat, p_appV, appV_ok', p_forB, forB_ok, sm1_T, List.getElem?_cons_succ, List.getElem?_cons_zero, q_chain, ch1_a, ch2_a, ch3_tt, ch3_ff, ch4_a, lt_TT, par_ap, par1_ok, par2_ok, srcS_e, src1_e, src2_e, comp_e, un1_e, lst1_e, and_e, or_e, q_sm0, sm01_a, sm01_T, smO_some, app_0w, rng1_n n (by omega), hc]
theorem e_law_point (l : List Bool) (hl : l.length ≤ 30) (S : Cs) : sem__law_point [.d (.list (l.map eBt))] S = .ok (iD ((ptM l : Nat) : Int)) S := by
  refine to_eq ?_
  simp only [sem__law_point, b__law_point, p_body, p_skip, p_seq, p_set, p_ret, p_retN, p_retV_s, p_retV_0, p_exp, p_if, p_raise, p_app, p_ext, p_setT, p_for, p_cell', nxt_nx, nxt_rt, nxt_exc, fin_nx, fin_rt, fin_exc, set_ok, set_exc, ret_ok, ret_exc, exp_ok, exp_exc, if_tt, if_ff, if_ok, if_exc, for_ok, for_exc, app_s, app_0, app_0o, ext_s, ext_0, cons_nx, cons_exc, setT_ok, cell_ok, pop_nx, pop_rt, unC_nil, unC_n, unC_d, unC_st, no_nil, no_n, no_a, mask_nil, mask_t, mask_f, dom_nil, dom_s, dom_n, start_0, start_s, setW_nil, setW_cons, ev_nil, ev_n, ev_a, ev_o, ev_own, frzE_nil, frzE_cons, frz1_s, frz1_0o, frz1_0a, frz1_0n, sNm_ap, sTp_ap, q_var0, q_varS, q_c, q_bin, bin1_a, bin1_o, bin1_e, bin2_a, bin2_o, bin2_e, q_un, un1_a, un1_o, q_call, call_n, call_c, call1_a, call1_o, call1_e, q_tup, allD_nil, allD_cons, tupE_ap, q_lst, lst_n, lst_c, lst1_ok, q_comp, comp_ok, q_and, and_tt, and_ff, asB_ok, asB_e, and_ok, and_fold, q_or, or_tt, or_ff, or_ok, or_fold, q_not, not_ok, not_e, q_ife, ife_tt, ife_ff, ife_ok, q_seq, q_rng1, q_rng2, q_enum, q_zip, srcS_a, srcS_o, src1_a, src1_o, src2_a, src2_o, of_some, q_sl, sl_nn, sl_n, sl_s, slo_nn, slo_n, slo_s, slLo_n, slLo_s, slHi_ok, slLo_n', slLo_s', slHi_ok', q_sm, sm1_a, sm2_a, sm2_o, on1_ap, onD1_ap, true_ap, gNm_ap, gTp_ap, setD_nil, setD_cons, wipe_nil, wipe_cons, max2_ap, rng1_n, rng1_l, rng1_1, Nat.reduceAdd, Nat.reduceSub, Nat.reduceLeDiff, List.length_cons, List.length_nil, List.length_map, List.length_range, List.replicate, List.set_cons_zero, List.set_cons_succ, List.map_cons, List.map_nil, List.cons_append, List.nil_append, Option.map_some, if_true, Bool.false_eq_true, if_false, Bool.not_true, Bool.not_false, o_add, o_sub, o_shr, o_band, o_lt, o_le, o_gt, o_ge, own0, own1, own2, own3, own4, own5, own6, own7, own8, own9, own10, own11, own12, seqD_lst, seqD_tup, seqD_eF, seqD_eG, i2n, isi_eF, isi_eG, isi_eT, gLen_eF, gLen_eG, gLen_lst, gLen_tup, dAll_m, dAny_m, all_tt, dInt_b, isi_int_none, isi_int_bool, isi_int_int, isi_int_str, isi_int_list, isi_int_tuple, isi_bool_none, isi_bool_bool, isi_bool_int, isi_bool_str, isi_bool_list, isi_bool_tuple, isi_str_none, isi_str_bool, isi_str_int, isi_str_str, isi_str_list, isi_str_tuple, isi_list_none, isi_list_bool, isi_list_int, isi_list_str, isi_list_list, isi_list_tuple, isi_tuple_none, isi_tuple_bool, isi_tuple_int, isi_tuple_str, isi_tuple_list, isi_tuple_tuple, isi2_tl_none, isi2_tl_bool, isi2_tl_int, isi2_tl_str, isi2_tl_list, isi2_tl_tuple, zip2, zipD_map, isi_int_dict, isi_bool_dict, isi_str_dict, isi_list_dict, isi_tuple_dict, isi2_tl_dict, dIsN, dNotN, p_setIx, setIx1_ok, setIx2_s, bin1_w, bin1o_some, toDs_nil, toDs_a, toDs_o, ret_nxt, rngD_map, Int.reduceToNat, p_appV, appV_ok', p_forB, forB_ok, sm1_T, List.getElem?_cons_succ, List.getElem?_cons_zero, q_chain, ch1_a, ch2_a, ch3_tt, ch3_ff, ch4_a, lt_TT, par_ap, par1_ok, par2_ok, srcS_e, src1_e, src2_e, comp_e, un1_e, lst1_e, and_e, or_e, q_sm0, sm01_a, sm01_T, smO_some, app_0w, to_fin]
  refine for_allS eBt (fun pre ρ S1 => S1 = S ∧ ρ = [some (.a (.d (.list (l.map eBt)))), some (iD ((ptM pre : Nat) : Int)), none] ∧ ptM pre < 2 ^ pre.length) ⟨rfl, rfl, by decide⟩ ?_ ?_
  · rintro pre b post e ρ S1 ⟨rfl, rfl, hlt⟩
    have hpl : pre.length ≤ 30 := by rw [e] at hl; simp at hl; omega
    have h30 : 2 ^ pre.length ≤ 2 ^ 30 := Nat.pow_le_pow_right (by decide) hpl
    have hs : ptM (pre ++ [b]) = 2 * ptM pre + b.toNat := by unfold ptM; rw [List.foldl_append]; rfl
    have hb : b.toNat ≤ 1 := by cases b <;> decide
    refine ⟨_, rfl, ?_⟩
    have hm := o_mul 2 ((ptM pre : Nat) : Int) S1 (.inl ⟨by decide, by decide⟩)
    have ha : onD dAdd (.d (.int (2 * ((ptM pre : Nat) : Int)))) (.d (eBt b)) S1 = .ok (iD ((ptM (pre ++ [b]) : Nat) : Int)) S1 := by
      rw [hs]
      show R.ok (iD _) S1 = _
      have e : ((2 * ptM pre + b.toNat : Nat) : Int) = 2 * ((ptM pre : Nat) : Int) + ((b.toNat : Nat) : Int) := by omega
      rw [e]
    simp only [p_body, p_skip, p_seq, p_set, p_ret, p_retN, p_retV_s, p_retV_0, p_exp, p_if, p_raise, p_app, p_ext, p_setT, p_for, p_cell', nxt_nx, nxt_rt, nxt_exc, fin_nx, fin_rt, fin_exc, set_ok, set_exc, ret_ok, ret_exc, exp_ok, exp_exc, if_tt, if_ff, if_ok, if_exc, for_ok, for_exc, app_s, app_0, app_0o, ext_s, ext_0, cons_nx, cons_exc, setT_ok, cell_ok, pop_nx, pop_rt, unC_nil, unC_n, unC_d, unC_st, no_nil, no_n, no_a, mask_nil, mask_t, mask_f, dom_nil, dom_s, dom_n, start_0, start_s, setW_nil, setW_cons, ev_nil, ev_n, ev_a, ev_o, ev_own, frzE_nil, frzE_cons, frz1_s, frz1_0o, frz1_0a, frz1_0n, sNm_ap, sTp_ap, q_var0, q_varS, q_c, q_bin, bin1_a, bin1_o, bin1_e, bin2_a, bin2_o, bin2_e, q_un, un1_a, un1_o, q_call, call_n, call_c, call1_a, call1_o, call1_e, q_tup, allD_nil, allD_cons, tupE_ap, q_lst, lst_n, lst_c, lst1_ok, q_comp, comp_ok, q_and, and_tt, and_ff, asB_ok, asB_e, and_ok, and_fold, q_or, or_tt, or_ff, or_ok, or_fold, q_not, not_ok, not_e, q_ife, ife_tt, ife_ff, ife_ok, q_seq, q_rng1, q_rng2, q_enum, q_zip, srcS_a, srcS_o, src1_a, src1_o, src2_a, src2_o, of_some, q_sl, sl_nn, sl_n, sl_s, slo_nn, slo_n, slo_s, slLo_n, slLo_s, slHi_ok, slLo_n', slLo_s', slHi_ok', q_sm, sm1_a, sm2_a, sm2_o, on1_ap, onD1_ap, true_ap, gNm_ap, gTp_ap, setD_nil, setD_cons, wipe_nil, wipe_cons, max2_ap, rng1_n, rng1_l, rng1_1, Nat.reduceAdd, Nat.reduceSub, Nat.reduceLeDiff, List.length_cons, List.length_nil, List.length_map, List.length_range, List.replicate, List.set_cons_zero, List.set_cons_succ, List.map_cons, List.map_nil, List.cons_append, List.nil_append, Option.map_some, if_true, Bool.false_eq_true, if_false, Bool.not_true, Bool.not_false, o_add, o_sub, o_shr, o_band, o_lt, o_le, o_gt, o_ge, own0, own1, own2, own3, own4, own5, own6, own7, own8, own9, own10, own11, own12, seqD_lst, seqD_tup, seqD_eF, seqD_eG, i2n, isi_eF, isi_eG, isi_eT, gLen_eF, gLen_eG, gLen_lst, gLen_tup, dAll_m, dAny_m, all_tt, dInt_b, isi_int_none, isi_int_bool, isi_int_int, isi_int_str, isi_int_list, isi_int_tuple, isi_bool_none, isi_bool_bool, isi_bool_int, isi_bool_str, isi_bool_list, isi_bool_tuple, isi_str_none, isi_str_bool, isi_str_int, isi_str_str, isi_str_list, isi_str_tuple, isi_list_none, isi_list_bool, isi_list_int, isi_list_str, isi_list_list, isi_list_tuple, isi_tuple_none, isi_tuple_bool, isi_tuple_int, isi_tuple_str, isi_tuple_list, isi_tuple_tuple, isi2_tl_none, isi2_tl_bool, isi2_tl_int, isi2_tl_str, isi2_tl_list, isi2_tl_tuple, zip2, zipD_map, isi_int_dict, isi_bool_dict, isi_str_dict, isi_list_dict, isi_tuple_dict, isi2_tl_dict, dIsN, dNotN, p_setIx, setIx1_ok, setIx2_s, bin1_w, bin1o_some, toDs_nil, toDs_a, toDs_o, ret_nxt, rngD_map, Int.reduceToNat, p_appV, appV_ok', p_forB, forB_ok, sm1_T, List.getElem?_cons_succ, List.getElem?_cons_zero, q_chain, ch1_a, ch2_a, ch3_tt, ch3_ff, ch4_a, lt_TT, par_ap, par1_ok, par2_ok, srcS_e, src1_e, src2_e, comp_e, un1_e, lst1_e, and_e, or_e, q_sm0, sm01_a, sm01_T, smO_some, app_0w, hm, ha, to_nx]
    refine ⟨trivial, trivial, ?_⟩
    rw [hs, List.length_append, List.length_singleton, Nat.pow_succ]
    omega
  · rintro ρ S1 ⟨rfl, rfl, _⟩
    exact ⟨rfl, rfl⟩
theorem add_m3 (a b : Bool) (S : Cs) : onD dMod (.d (.int (((a.toNat : Nat) : Int) + ((b.toNat : Nat) : Int)))) (.d (.int 2)) S = .ok (.a (.d (eBt (a != b)))) S := by
  cases a <;> cases b <;> rfl
theorem e_law_changed {f : Fn} {n : Nat} (hf : f.length = 2 ^ n) (h1 : 1 ≤ n) (h4 : n ≤ 4) {c : Ch} (hc : okC n c) (S : Cs) (hS : flatCs S = true) : sem__law_changed [.d (eF f), .d (eC c)] S = .ok (.a (.d (eF (cgF n c f)))) S := by
  have b2 : 2 ^ n ≤ 16 := Nat.pow_le_pow_right (n := 2) (by decide) h4
  have hmul : onD dMul (.d (.list [.int 0])) (.d (.int (n : Nat))) S = .ok (ownD ((List.replicate n false).map eBt)) S := by
    refine onD_of ?_ S
    unfold dMul
    simp only
    rw [if_pos ⟨by omega, by omega, by simp⟩, Int.toNat_natCast]
    congr 2
    have : n = 1 ∨ n = 2 ∨ n = 3 ∨ n = 4 := by omega
    rcases this with rfl | rfl | rfl | rfl <;> rfl
  have hfx : ∀ p, p < f.length → dIx (.d (eF f)) (.d (.int (ledM n p c.o c.t : Nat))) S = .ok (.a (.d (aO (f.getD (ledM n p c.o c.t) none)))) S := fun p hp => by
    have := (led_ok h4 hc (p := p) (by omega)).2.1
    exact o_ix_tup aO (getD_some (by omega) none) S
  have hset : ∀ (ρ : Ev) (S : Cs), setTS (.ok (.a (.d (eC c))) S) [5, 6, 7] ρ = .nx (setW [5, 6, 7] [.tuple (eNs c.o), .tuple (c.t.map eBt), eBt c.a] ρ) S := fun _ _ => rfl
  refine to_eq ?_
  simp only [sem__law_changed, b__law_changed, p_body, p_skip, p_seq, p_set, p_ret, p_retN, p_retV_s, p_retV_0, p_exp, p_if, p_raise, p_app, p_ext, p_setT, p_for, p_cell', nxt_nx, nxt_rt, nxt_exc, fin_nx, fin_rt, fin_exc, set_ok, set_exc, ret_ok, ret_exc, exp_ok, exp_exc, if_tt, if_ff, if_ok, if_exc, for_ok, for_exc, app_s, app_0, app_0o, ext_s, ext_0, cons_nx, cons_exc, setT_ok, cell_ok, pop_nx, pop_rt, unC_nil, unC_n, unC_d, unC_st, no_nil, no_n, no_a, mask_nil, mask_t, mask_f, dom_nil, dom_s, dom_n, start_0, start_s, setW_nil, setW_cons, ev_nil, ev_n, ev_a, ev_o, ev_own, frzE_nil, frzE_cons, frz1_s, frz1_0o, frz1_0a, frz1_0n, sNm_ap, sTp_ap, q_var0, q_varS, q_c, q_bin, bin1_a, bin1_o, bin1_e, bin2_a, bin2_o, bin2_e, q_un, un1_a, un1_o, q_call, call_n, call_c, call1_a, call1_o, call1_e, q_tup, allD_nil, allD_cons, tupE_ap, q_lst, lst_n, lst_c, lst1_ok, q_comp, comp_ok, q_and, and_tt, and_ff, asB_ok, asB_e, and_ok, and_fold, q_or, or_tt, or_ff, or_ok, or_fold, q_not, not_ok, not_e, q_ife, ife_tt, ife_ff, ife_ok, q_seq, q_rng1, q_rng2, q_enum, q_zip, srcS_a, srcS_o, src1_a, src1_o, src2_a, src2_o, of_some, q_sl, sl_nn, sl_n, sl_s, slo_nn, slo_n, slo_s, slLo_n, slLo_s, slHi_ok, slLo_n', slLo_s', slHi_ok', q_sm, sm1_a, sm2_a, sm2_o, on1_ap, onD1_ap, true_ap, gNm_ap, gTp_ap, setD_nil, setD_cons, wipe_nil, wipe_cons, max2_ap, rng1_n, rng1_l, rng1_1, Nat.reduceAdd, Nat.reduceSub, Nat.reduceLeDiff, List.length_cons, List.length_nil, List.length_map, List.length_range, List.replicate, List.set_cons_zero, List.set_cons_succ, List.map_cons, List.map_nil, List.cons_append, List.nil_append, Option.map_some, if_true, Bool.false_eq_true, if_false, Bool.not_true, Bool.not_false, o_add, o_sub, o_shr, o_band, o_lt, o_le, o_gt, o_ge, own0, own1, own2, own3, own4, own5, own6, own7, own8, own9, own10, own11, own12, seqD_lst, seqD_tup, seqD_eF, seqD_eG, i2n, isi_eF, isi_eG, isi_eT, gLen_eF, gLen_eG, gLen_lst, gLen_tup, dAll_m, dAny_m, all_tt, dInt_b, isi_int_none, isi_int_bool, isi_int_int, isi_int_str, isi_int_list, isi_int_tuple, isi_bool_none, isi_bool_bool, isi_bool_int, isi_bool_str, isi_bool_list, isi_bool_tuple, isi_str_none, isi_str_bool, isi_str_int, isi_str_str, isi_str_list, isi_str_tuple, isi_list_none, isi_list_bool, isi_list_int, isi_list_str, isi_list_list, isi_list_tuple, isi_tuple_none, isi_tuple_bool, isi_tuple_int, isi_tuple_str, isi_tuple_list, isi_tuple_tuple, isi2_tl_none, isi2_tl_bool, isi2_tl_int, isi2_tl_str, isi2_tl_list, isi2_tl_tuple, zip2, zipD_map, isi_int_dict, isi_bool_dict, isi_str_dict, isi_list_dict, isi_tuple_dict, isi2_tl_dict, dIsN, dNotN, p_setIx, setIx1_ok, setIx2_s, bin1_w, bin1o_some, toDs_nil, toDs_a, toDs_o, ret_nxt, rngD_map, Int.reduceToNat, p_appV, appV_ok', p_forB, forB_ok, sm1_T, List.getElem?_cons_succ, List.getElem?_cons_zero, q_chain, ch1_a, ch2_a, ch3_tt, ch3_ff, ch4_a, lt_TT, par_ap, par1_ok, par2_ok, srcS_e, src1_e, src2_e, comp_e, un1_e, lst1_e, and_e, or_e, q_sm0, sm01_a, sm01_T, smO_some, app_0w, hset, e_law_switches hf h1 h4, rng1_n f.length (by omega), to_fin]
  refine for_allS (fun (i : Nat) => PyData.int (i : Int)) (fun pre ρ S1 => S1 = S ∧ ρ = [some (.a (.d (eF f))), some (.a (.d (eC c))), some (.a (.d (.int (n : Nat)))), some (ownD ((pre.map fun p => cgA c.a (f.getD (ledM n p c.o c.t) none)).map aO)), none, some (.a (.d (.tuple (eNs c.o)))), some (.a (.d (.tuple (c.t.map eBt)))), some (.a (.d (eBt c.a))), none, none, none, none]) ⟨rfl, rfl⟩ ?_ ?_
  · rintro pre p post e ρ S1 ⟨rfl, rfl⟩
    have hp : p < f.length := List.mem_range.mp (by rw [e]; simp)
    have hpl : pre.length < 1000000 := by have := congrArg List.length e; simp at this; omega
    refine ⟨_, rfl, ?_⟩
    simp only [p_body, p_skip, p_seq, p_set, p_ret, p_retN, p_retV_s, p_retV_0, p_exp, p_if, p_raise, p_app, p_ext, p_setT, p_for, p_cell', nxt_nx, nxt_rt, nxt_exc, fin_nx, fin_rt, fin_exc, set_ok, set_exc, ret_ok, ret_exc, exp_ok, exp_exc, if_tt, if_ff, if_ok, if_exc, for_ok, for_exc, app_s, app_0, app_0o, ext_s, ext_0, cons_nx, cons_exc, setT_ok, cell_ok, pop_nx, pop_rt, unC_nil, unC_n, unC_d, unC_st, no_nil, no_n, no_a, mask_nil, mask_t, mask_f, dom_nil, dom_s, dom_n, start_0, start_s, setW_nil, setW_cons, ev_nil, ev_n, ev_a, ev_o, ev_own, frzE_nil, frzE_cons, frz1_s, frz1_0o, frz1_0a, frz1_0n, sNm_ap, sTp_ap, q_var0, q_varS, q_c, q_bin, bin1_a, bin1_o, bin1_e, bin2_a, bin2_o, bin2_e, q_un, un1_a, un1_o, q_call, call_n, call_c, call1_a, call1_o, call1_e, q_tup, allD_nil, allD_cons, tupE_ap, q_lst, lst_n, lst_c, lst1_ok, q_comp, comp_ok, q_and, and_tt, and_ff, asB_ok, asB_e, and_ok, and_fold, q_or, or_tt, or_ff, or_ok, or_fold, q_not, not_ok, not_e, q_ife, ife_tt, ife_ff, ife_ok, q_seq, q_rng1, q_rng2, q_enum, q_zip, srcS_a, srcS_o, src1_a, src1_o, src2_a, src2_o, of_some, q_sl, sl_nn, sl_n, sl_s, slo_nn, slo_n, slo_s, slLo_n, slLo_s, slHi_ok, slLo_n', slLo_s', slHi_ok', q_sm, sm1_a, sm2_a, sm2_o, on1_ap, onD1_ap, true_ap, gNm_ap, gTp_ap, setD_nil, setD_cons, wipe_nil, wipe_cons, max2_ap, rng1_n, rng1_l, rng1_1, Nat.reduceAdd, Nat.reduceSub, Nat.reduceLeDiff, List.length_cons, List.length_nil, List.length_map, List.length_range, List.replicate, List.set_cons_zero, List.set_cons_succ, List.map_cons, List.map_nil, List.cons_append, List.nil_append, Option.map_some, if_true, Bool.false_eq_true, if_false, Bool.not_true, Bool.not_false, o_add, o_sub, o_shr, o_band, o_lt, o_le, o_gt, o_ge, own0, own1, own2, own3, own4, own5, own6, own7, own8, own9, own10, own11, own12, seqD_lst, seqD_tup, seqD_eF, seqD_eG, i2n, isi_eF, isi_eG, isi_eT, gLen_eF, gLen_eG, gLen_lst, gLen_tup, dAll_m, dAny_m, all_tt, dInt_b, isi_int_none, isi_int_bool, isi_int_int, isi_int_str, isi_int_list, isi_int_tuple, isi_bool_none, isi_bool_bool, isi_bool_int, isi_bool_str, isi_bool_list, isi_bool_tuple, isi_str_none, isi_str_bool, isi_str_int, isi_str_str, isi_str_list, isi_str_tuple, isi_list_none, isi_list_bool, isi_list_int, isi_list_str, isi_list_list, isi_list_tuple, isi_tuple_none, isi_tuple_bool, isi_tuple_int, isi_tuple_str, isi_tuple_list, isi_tuple_tuple, isi2_tl_none, isi2_tl_bool, isi2_tl_int, isi2_tl_str, isi2_tl_list, isi2_tl_tuple, zip2, zipD_map, isi_int_dict, isi_bool_dict, isi_str_dict, isi_list_dict, isi_tuple_dict, isi2_tl_dict, dIsN, dNotN, p_setIx, setIx1_ok, setIx2_s, bin1_w, bin1o_some, toDs_nil, toDs_a, toDs_o, ret_nxt, rngD_map, Int.reduceToNat, p_appV, appV_ok', p_forB, forB_ok, sm1_T, List.getElem?_cons_succ, List.getElem?_cons_zero, q_chain, ch1_a, ch2_a, ch3_tt, ch3_ff, ch4_a, lt_TT, par_ap, par1_ok, par2_ok, srcS_e, src1_e, src2_e, comp_e, un1_e, lst1_e, and_e, or_e, q_sm0, sm01_a, sm01_T, smO_some, app_0w, e_law_bits (n := n) (Nat.le_trans h4 (by decide)), hmul, rng1_n n (by omega)]
    obtain ⟨B, hB⟩ : ∃ B : List D, B = (List.range n).map fun k => eBt (p.testBit (n - 1 - k)) := ⟨_, rfl⟩
    rw [← hB]
    refine for_allS (fun (i : Nat) => PyData.int (i : Int)) (fun pre2 ρ S2 => S2 = S1 ∧ ∃ x3, (x3 = ownD B ∨ x3 = .a (.d (.list B))) ∧ ρ = [some (.a (.d (eF f))), some (.a (.d (eC c))), some (.a (.d (.int (n : Nat)))), some (ownD ((pre.map fun p => cgA c.a (f.getD (ledM n p c.o c.t) none)).map aO)), some (.a (.d (.int (p : Nat)))), some (.a (.d (.tuple (eNs c.o)))), some (.a (.d (.tuple (c.t.map eBt)))), some (.a (.d (eBt c.a))), some x3, some (ownD ((pre2.foldl (oldS n p c.o c.t) (List.replicate n false)).map eBt)), none, none] ∧ (pre2.foldl (oldS n p c.o c.t) (List.replicate n false)).length = n) ⟨rfl, _, .inl rfl, rfl, by simp⟩ ?_ ?_
    · rintro pre2 k post2 e2 ρ S2 ⟨rfl, x3, hx3, rfl, hlen⟩
      have hk : k < n := List.mem_range.mp (by rw [e2]; simp)
      have ho := hc.ol hk
      have hz : ∀ l : Ev, frz1 0 (some x3 :: l) = some (.a (.d (.list B))) :: l := by
        intro l
        rcases hx3 with rfl | rfl
        · exact frz1_0o _ _
        · exact frz1_0a _ _
      have hbk : dIx (.d (.list B)) (.d (.int (k : Nat))) S2 = .ok (.a (.d (eBt (p.testBit (n - 1 - k))))) S2 := by
        rw [hB]
        exact o_ix_lst (fun k => eBt (p.testBit (n - 1 - k))) (by simp [hk]) S2
      have hadd : onD dAdd (.d (eBt (p.testBit (n - 1 - k)))) (.d (eBt (c.t.getD k false))) S2 = .ok (iD ((((p.testBit (n - 1 - k)).toNat : Nat) : Int) + (((c.t.getD k false).toNat : Nat) : Int))) S2 := rfl
      refine ⟨_, rfl, ?_⟩
      simp only [p_body, p_skip, p_seq, p_set, p_ret, p_retN, p_retV_s, p_retV_0, p_exp, p_if, p_raise, p_app, p_ext, p_setT, p_for, p_cell', nxt_nx, nxt_rt, nxt_exc, fin_nx, fin_rt, fin_exc, set_ok, set_exc, ret_ok, ret_exc, exp_ok, exp_exc, if_tt, if_ff, if_ok, if_exc, for_ok, for_exc, app_s, app_0, app_0o, ext_s, ext_0, cons_nx, cons_exc, setT_ok, cell_ok, pop_nx, pop_rt, unC_nil, unC_n, unC_d, unC_st, no_nil, no_n, no_a, mask_nil, mask_t, mask_f, dom_nil, dom_s, dom_n, start_0, start_s, setW_nil, setW_cons, ev_nil, ev_n, ev_a, ev_o, ev_own, frzE_nil, frzE_cons, frz1_s, frz1_0o, frz1_0a, frz1_0n, sNm_ap, sTp_ap, q_var0, q_varS, q_c, q_bin, bin1_a, bin1_o, bin1_e, bin2_a, bin2_o, bin2_e, q_un, un1_a, un1_o, q_call, call_n, call_c, call1_a, call1_o, call1_e, q_tup, allD_nil, allD_cons, tupE_ap, q_lst, lst_n, lst_c, lst1_ok, q_comp, comp_ok, q_and, and_tt, and_ff, asB_ok, asB_e, and_ok, and_fold, q_or, or_tt, or_ff, or_ok, or_fold, q_not, not_ok, not_e, q_ife, ife_tt, ife_ff, ife_ok, q_seq, q_rng1, q_rng2, q_enum, q_zip, srcS_a, srcS_o, src1_a, src1_o, src2_a, src2_o, of_some, q_sl, sl_nn, sl_n, sl_s, slo_nn, slo_n, slo_s, slLo_n, slLo_s, slHi_ok, slLo_n', slLo_s', slHi_ok', q_sm, sm1_a, sm2_a, sm2_o, on1_ap, onD1_ap, true_ap, gNm_ap, gTp_ap, setD_nil, setD_cons, wipe_nil, wipe_cons, max2_ap, rng1_n, rng1_l, rng1_1, Nat.reduceAdd, Nat.reduceSub, Nat.reduceLeDiff, List.length_cons, List.length_nil, List.length_map, List.length_range, List.replicate, List.set_cons_zero, List.set_cons_succ, List.map_cons, List.map_nil, List.cons_append, List.nil_append, Option.map_some, if_true, Bool.false_eq_true, if_false, Bool.not_true, Bool.not_false, o_add, o_sub, o_shr, o_band, o_lt, o_le, o_gt, o_ge, own0, own1, own2, own3, own4, own5, own6, own7, own8, own9, own10, own11, own12, seqD_lst, seqD_tup, seqD_eF, seqD_eG, i2n, isi_eF, isi_eG, isi_eT, gLen_eF, gLen_eG, gLen_lst, gLen_tup, dAll_m, dAny_m, all_tt, dInt_b, isi_int_none, isi_int_bool, isi_int_int, isi_int_str, isi_int_list, isi_int_tuple, isi_bool_none, isi_bool_bool, isi_bool_int, isi_bool_str, isi_bool_list, isi_bool_tuple, isi_str_none, isi_str_bool, isi_str_int, isi_str_str, isi_str_list, isi_str_tuple, isi_list_none, isi_list_bool, isi_list_int, isi_list_str, isi_list_list, isi_list_tuple, isi_tuple_none, isi_tuple_bool, isi_tuple_int, isi_tuple_str, isi_tuple_list, isi_tuple_tuple, isi2_tl_none, isi2_tl_bool, isi2_tl_int, isi2_tl_str, isi2_tl_list, isi2_tl_tuple, zip2, zipD_map, isi_int_dict, isi_bool_dict, isi_str_dict, isi_list_dict, isi_tuple_dict, isi2_tl_dict, dIsN, dNotN, p_setIx, setIx1_ok, setIx2_s, bin1_w, bin1o_some, toDs_nil, toDs_a, toDs_o, ret_nxt, rngD_map, Int.reduceToNat, p_appV, appV_ok', p_forB, forB_ok, sm1_T, List.getElem?_cons_succ, List.getElem?_cons_zero, q_chain, ch1_a, ch2_a, ch3_tt, ch3_ff, ch4_a, lt_TT, par_ap, par1_ok, par2_ok, srcS_e, src1_e, src2_e, comp_e, un1_e, lst1_e, and_e, or_e, q_sm0, sm01_a, sm01_T, smO_some, app_0w, hz, hbk, turn_at hc hk, ord_at hc hk, hadd, add_m3, setIx2_0 (show c.o.getD k 0 < ((pre2.foldl (oldS n p c.o c.t) (List.replicate n false)).map eBt).length by rw [List.length_map, hlen]; exact ho), to_nx]
      refine ⟨trivial, _, .inr rfl, ?_, ?_⟩
      · rw [List.foldl_append, ← List.map_set]
        rfl
      · rw [List.foldl_append]
        show (List.set _ _ _).length = n
        rw [List.length_set, hlen]
    · rintro ρ S2 ⟨rfl, x3, hx3, rfl, hlen⟩
      have hpt := e_law_point ((List.range n).foldl (oldS n p c.o c.t) (List.replicate n false)) (by omega) S2
      have hled : ptM ((List.range n).foldl (oldS n p c.o c.t) (List.replicate n false)) = ledM n p c.o c.t := ((led_ok h4 hc (by omega)).1).symm
      rw [hled] at hpt
      have hev : ∀ l : Ev, ev (some x3 :: l) = ev1 (some x3) :: ev l := fun _ => rfl
      have hn := hfx p hp
      cases hx : f.getD (ledM n p c.o c.t) none with
      | none =>
        rw [hx] at hn
        have ha : aO none = .none := rfl
        rw [ha] at hn
        simp only [p_body, p_skip, p_seq, p_set, p_ret, p_retN, p_retV_s, p_retV_0, p_exp, p_if, p_raise, p_app, p_ext, p_setT, p_for, p_cell', nxt_nx, nxt_rt, nxt_exc, fin_nx, fin_rt, fin_exc, set_ok, set_exc, ret_ok, ret_exc, exp_ok, exp_exc, if_tt, if_ff, if_ok, if_exc, for_ok, for_exc, app_s, app_0, app_0o, ext_s, ext_0, cons_nx, cons_exc, setT_ok, cell_ok, pop_nx, pop_rt, unC_nil, unC_n, unC_d, unC_st, no_nil, no_n, no_a, mask_nil, mask_t, mask_f, dom_nil, dom_s, dom_n, start_0, start_s, setW_nil, setW_cons, ev_nil, ev_n, ev_a, ev_o, ev_own, frzE_nil, frzE_cons, frz1_s, frz1_0o, frz1_0a, frz1_0n, sNm_ap, sTp_ap, q_var0, q_varS, q_c, q_bin, bin1_a, bin1_o, bin1_e, bin2_a, bin2_o, bin2_e, q_un, un1_a, un1_o, q_call, call_n, call_c, call1_a, call1_o, call1_e, q_tup, allD_nil, allD_cons, tupE_ap, q_lst, lst_n, lst_c, lst1_ok, q_comp, comp_ok, q_and, and_tt, and_ff, asB_ok, asB_e, and_ok, and_fold, q_or, or_tt, or_ff, or_ok, or_fold, q_not, not_ok, not_e, q_ife, ife_tt, ife_ff, ife_ok, q_seq, q_rng1, q_rng2, q_enum, q_zip, srcS_a, srcS_o, src1_a, src1_o, src2_a, src2_o, of_some, q_sl, sl_nn, sl_n, sl_s, slo_nn, slo_n, slo_s, slLo_n, slLo_s, slHi_ok, slLo_n', slLo_s', slHi_ok', q_sm, sm1_a, sm2_a, sm2_o, on1_ap, onD1_ap, true_ap, gNm_ap, gTp_ap, setD_nil, setD_cons, wipe_nil, wipe_cons, max2_ap, rng1_n, rng1_l, rng1_1, Nat.reduceAdd, Nat.reduceSub, Nat.reduceLeDiff, List.length_cons, List.length_nil, List.length_map, List.length_range, List.replicate, List.set_cons_zero, List.set_cons_succ, List.map_cons, List.map_nil, List.cons_append, List.nil_append, Option.map_some, if_true, Bool.false_eq_true, if_false, Bool.not_true, Bool.not_false, o_add, o_sub, o_shr, o_band, o_lt, o_le, o_gt, o_ge, own0, own1, own2, own3, own4, own5, own6, own7, own8, own9, own10, own11, own12, seqD_lst, seqD_tup, seqD_eF, seqD_eG, i2n, isi_eF, isi_eG, isi_eT, gLen_eF, gLen_eG, gLen_lst, gLen_tup, dAll_m, dAny_m, all_tt, dInt_b, isi_int_none, isi_int_bool, isi_int_int, isi_int_str, isi_int_list, isi_int_tuple, isi_bool_none, isi_bool_bool, isi_bool_int, isi_bool_str, isi_bool_list, isi_bool_tuple, isi_str_none, isi_str_bool, isi_str_int, isi_str_str, isi_str_list, isi_str_tuple, isi_list_none, isi_list_bool, isi_list_int, isi_list_str, isi_list_list, isi_list_tuple, isi_tuple_none, isi_tuple_bool, isi_tuple_int, isi_tuple_str, isi_tuple_list, isi_tuple_tuple, isi2_tl_none, isi2_tl_bool, isi2_tl_int, isi2_tl_str, isi2_tl_list, isi2_tl_tuple, zip2, zipD_map, isi_int_dict, isi_bool_dict, isi_str_dict, isi_list_dict, isi_tuple_dict, isi2_tl_dict, dIsN, dNotN, p_setIx, setIx1_ok, setIx2_s, bin1_w, bin1o_some, toDs_nil, toDs_a, toDs_o, ret_nxt, rngD_map, Int.reduceToNat, p_appV, appV_ok', p_forB, forB_ok, sm1_T, List.getElem?_cons_succ, List.getElem?_cons_zero, q_chain, ch1_a, ch2_a, ch3_tt, ch3_ff, ch4_a, lt_TT, par_ap, par1_ok, par2_ok, srcS_e, src1_e, src2_e, comp_e, un1_e, lst1_e, and_e, or_e, q_sm0, sm01_a, sm01_T, smO_some, app_0w, hev, hpt, hn, hpl, to_nx]
        rw [List.map_append, List.map_append, List.map_cons, List.map_nil, hx]
        first | exact ⟨rfl, rfl⟩ | exact ⟨trivial, rfl⟩
      | some b =>
        rw [hx] at hn
        obtain ⟨v, hv, hxo⟩ : ∃ v : Int, aO (some b) = .int v ∧ ∃ u : Int, onD dAdd (.d (.int v)) (.d (eBt c.a)) S2 = .ok (iD u) S2 ∧ onD dMod (.d (.int u)) (.d (.int 2)) S2 = .ok (.a (.d (aO (some (b != c.a))))) S2 := by
          cases b <;> cases c.a <;> exact ⟨_, rfl, _, rfl, rfl⟩
        obtain ⟨u, hu1, hu2⟩ := hxo
        rw [hv] at hn
        simp only [p_body, p_skip, p_seq, p_set, p_ret, p_retN, p_retV_s, p_retV_0, p_exp, p_if, p_raise, p_app, p_ext, p_setT, p_for, p_cell', nxt_nx, nxt_rt, nxt_exc, fin_nx, fin_rt, fin_exc, set_ok, set_exc, ret_ok, ret_exc, exp_ok, exp_exc, if_tt, if_ff, if_ok, if_exc, for_ok, for_exc, app_s, app_0, app_0o, ext_s, ext_0, cons_nx, cons_exc, setT_ok, cell_ok, pop_nx, pop_rt, unC_nil, unC_n, unC_d, unC_st, no_nil, no_n, no_a, mask_nil, mask_t, mask_f, dom_nil, dom_s, dom_n, start_0, start_s, setW_nil, setW_cons, ev_nil, ev_n, ev_a, ev_o, ev_own, frzE_nil, frzE_cons, frz1_s, frz1_0o, frz1_0a, frz1_0n, sNm_ap, sTp_ap, q_var0, q_varS, q_c, q_bin, bin1_a, bin1_o, bin1_e, bin2_a, bin2_o, bin2_e, q_un, un1_a, un1_o, q_call, call_n, call_c, call1_a, call1_o, call1_e, q_tup, allD_nil, allD_cons, tupE_ap, q_lst, lst_n, lst_c, lst1_ok, q_comp, comp_ok, q_and, and_tt, and_ff, asB_ok, asB_e, and_ok, and_fold, q_or, or_tt, or_ff, or_ok, or_fold, q_not, not_ok, not_e, q_ife, ife_tt, ife_ff, ife_ok, q_seq, q_rng1, q_rng2, q_enum, q_zip, srcS_a, srcS_o, src1_a, src1_o, src2_a, src2_o, of_some, q_sl, sl_nn, sl_n, sl_s, slo_nn, slo_n, slo_s, slLo_n, slLo_s, slHi_ok, slLo_n', slLo_s', slHi_ok', q_sm, sm1_a, sm2_a, sm2_o, on1_ap, onD1_ap, true_ap, gNm_ap, gTp_ap, setD_nil, setD_cons, wipe_nil, wipe_cons, max2_ap, rng1_n, rng1_l, rng1_1, Nat.reduceAdd, Nat.reduceSub, Nat.reduceLeDiff, List.length_cons, List.length_nil, List.length_map, List.length_range, List.replicate, List.set_cons_zero, List.set_cons_succ, List.map_cons, List.map_nil, List.cons_append, List.nil_append, Option.map_some, if_true, Bool.false_eq_true, if_false, Bool.not_true, Bool.not_false, o_add, o_sub, o_shr, o_band, o_lt, o_le, o_gt, o_ge, own0, own1, own2, own3, own4, own5, own6, own7, own8, own9, own10, own11, own12, seqD_lst, seqD_tup, seqD_eF, seqD_eG, i2n, isi_eF, isi_eG, isi_eT, gLen_eF, gLen_eG, gLen_lst, gLen_tup, dAll_m, dAny_m, all_tt, dInt_b, isi_int_none, isi_int_bool, isi_int_int, isi_int_str, isi_int_list, isi_int_tuple, isi_bool_none, isi_bool_bool, isi_bool_int, isi_bool_str, isi_bool_list, isi_bool_tuple, isi_str_none, isi_str_bool, isi_str_int, isi_str_str, isi_str_list, isi_str_tuple, isi_list_none, isi_list_bool, isi_list_int, isi_list_str, isi_list_list, isi_list_tuple, isi_tuple_none, isi_tuple_bool, isi_tuple_int, isi_tuple_str, isi_tuple_list, isi_tuple_tuple, isi2_tl_none, isi2_tl_bool, isi2_tl_int, isi2_tl_str, isi2_tl_list, isi2_tl_tuple, zip2, zipD_map, isi_int_dict, isi_bool_dict, isi_str_dict, isi_list_dict, isi_tuple_dict, isi2_tl_dict, dIsN, dNotN, p_setIx, setIx1_ok, setIx2_s, bin1_w, bin1o_some, toDs_nil, toDs_a, toDs_o, ret_nxt, rngD_map, Int.reduceToNat, p_appV, appV_ok', p_forB, forB_ok, sm1_T, List.getElem?_cons_succ, List.getElem?_cons_zero, q_chain, ch1_a, ch2_a, ch3_tt, ch3_ff, ch4_a, lt_TT, par_ap, par1_ok, par2_ok, srcS_e, src1_e, src2_e, comp_e, un1_e, lst1_e, and_e, or_e, q_sm0, sm01_a, sm01_T, smO_some, app_0w, hev, hpt, hn, hu1, hu2, hpl, to_nx]
        rw [List.map_append, List.map_append, List.map_cons, List.map_nil, hx]
        first | exact ⟨rfl, rfl⟩ | exact ⟨trivial, rfl⟩
  · rintro ρ S1 ⟨rfl, rfl⟩
    have htup : ∀ l : Fn, dTup (.list (l.map aO)) = some (.a (.d (eF l))) := fun _ => rfl
    simp only [p_body, p_skip, p_seq, p_set, p_ret, p_retN, p_retV_s, p_retV_0, p_exp, p_if, p_raise, p_app, p_ext, p_setT, p_for, p_cell', nxt_nx, nxt_rt, nxt_exc, fin_nx, fin_rt, fin_exc, set_ok, set_exc, ret_ok, ret_exc, exp_ok, exp_exc, if_tt, if_ff, if_ok, if_exc, for_ok, for_exc, app_s, app_0, app_0o, ext_s, ext_0, cons_nx, cons_exc, setT_ok, cell_ok, pop_nx, pop_rt, unC_nil, unC_n, unC_d, unC_st, no_nil, no_n, no_a, mask_nil, mask_t, mask_f, dom_nil, dom_s, dom_n, start_0, start_s, setW_nil, setW_cons, ev_nil, ev_n, ev_a, ev_o, ev_own, frzE_nil, frzE_cons, frz1_s, frz1_0o, frz1_0a, frz1_0n, sNm_ap, sTp_ap, q_var0, q_varS, q_c, q_bin, bin1_a, bin1_o, bin1_e, bin2_a, bin2_o, bin2_e, q_un, un1_a, un1_o, q_call, call_n, call_c, call1_a, call1_o, call1_e, q_tup, allD_nil, allD_cons, tupE_ap, q_lst, lst_n, lst_c, lst1_ok, q_comp, comp_ok, q_and, and_tt, and_ff, asB_ok, asB_e, and_ok, and_fold, q_or, or_tt, or_ff, or_ok, or_fold, q_not, not_ok, not_e, q_ife, ife_tt, ife_ff, ife_ok, q_seq, q_rng1, q_rng2, q_enum, q_zip, srcS_a, srcS_o, src1_a, src1_o, src2_a, src2_o, of_some, q_sl, sl_nn, sl_n, sl_s, slo_nn, slo_n, slo_s, slLo_n, slLo_s, slHi_ok, slLo_n', slLo_s', slHi_ok', q_sm, sm1_a, sm2_a, sm2_o, on1_ap, onD1_ap, true_ap, gNm_ap, gTp_ap, setD_nil, setD_cons, wipe_nil, wipe_cons, max2_ap, rng1_n, rng1_l, rng1_1, Nat.reduceAdd, Nat.reduceSub, Nat.reduceLeDiff, List.length_cons, List.length_nil, List.length_map, List.length_range, List.replicate, List.set_cons_zero, List.set_cons_succ, List.map_cons, List.map_nil, List.cons_append, List.nil_append, Option.map_some, if_true, Bool.false_eq_true, if_false, Bool.not_true, Bool.not_false, o_add, o_sub, o_shr, o_band, o_lt, o_le, o_gt, o_ge, own0, own1, own2, own3, own4, own5, own6, own7, own8, own9, own10, own11, own12, seqD_lst, seqD_tup, seqD_eF, seqD_eG, i2n, isi_eF, isi_eG, isi_eT, gLen_eF, gLen_eG, gLen_lst, gLen_tup, dAll_m, dAny_m, all_tt, dInt_b, isi_int_none, isi_int_bool, isi_int_int, isi_int_str, isi_int_list, isi_int_tuple, isi_bool_none, isi_bool_bool, isi_bool_int, isi_bool_str, isi_bool_list, isi_bool_tuple, isi_str_none, isi_str_bool, isi_str_int, isi_str_str, isi_str_list, isi_str_tuple, isi_list_none, isi_list_bool, isi_list_int, isi_list_str, isi_list_list, isi_list_tuple, isi_tuple_none, isi_tuple_bool, isi_tuple_int, isi_tuple_str, isi_tuple_list, isi_tuple_tuple, isi2_tl_none, isi2_tl_bool, isi2_tl_int, isi2_tl_str, isi2_tl_list, isi2_tl_tuple, zip2, zipD_map, isi_int_dict, isi_bool_dict, isi_str_dict, isi_list_dict, isi_tuple_dict, isi2_tl_dict, dIsN, dNotN, p_setIx, setIx1_ok, setIx2_s, bin1_w, bin1o_some, toDs_nil, toDs_a, toDs_o, ret_nxt, rngD_map, Int.reduceToNat, p_appV, appV_ok', p_forB, forB_ok, sm1_T, List.getElem?_cons_succ, List.getElem?_cons_zero, q_chain, ch1_a, ch2_a, ch3_tt, ch3_ff, ch4_a, lt_TT, par_ap, par1_ok, par2_ok, srcS_e, src1_e, src2_e, comp_e, un1_e, lst1_e, and_e, or_e, q_sm0, sm01_a, sm01_T, smO_some, app_0w, htup, to_rt]
    exact ⟨rfl, trivial⟩
theorem e_law_order {S : Cs} (h : St S) {n : Nat} (hn : n ≤ 100) : ∃ (o : List Nat) (S1 : Cs), sem__law_order [.c 0, .d (.int (n : Nat))] S = .ok (.a (.d (.tuple (eNs o)))) S1 ∧ o.Perm (List.range n) ∧ St S1 := by
  have key : R.To (sem__law_order [.c 0, .d (.int (n : Nat))] S) fun w S1 => ∃ o : List Nat, w = .a (.d (.tuple (eNs o))) ∧ o.Perm (List.range n) ∧ St S1 := by
    simp only [sem__law_order, b__law_order, p_body, p_skip, p_seq, p_set, p_ret, p_retN, p_retV_s, p_retV_0, p_exp, p_if, p_raise, p_app, p_ext, p_setT, p_for, p_cell', nxt_nx, nxt_rt, nxt_exc, fin_nx, fin_rt, fin_exc, set_ok, set_exc, ret_ok, ret_exc, exp_ok, exp_exc, if_tt, if_ff, if_ok, if_exc, for_ok, for_exc, app_s, app_0, app_0o, ext_s, ext_0, cons_nx, cons_exc, setT_ok, cell_ok, pop_nx, pop_rt, unC_nil, unC_n, unC_d, unC_st, no_nil, no_n, no_a, mask_nil, mask_t, mask_f, dom_nil, dom_s, dom_n, start_0, start_s, setW_nil, setW_cons, ev_nil, ev_n, ev_a, ev_o, ev_own, frzE_nil, frzE_cons, frz1_s, frz1_0o, frz1_0a, frz1_0n, sNm_ap, sTp_ap, q_var0, q_varS, q_c, q_bin, bin1_a, bin1_o, bin1_e, bin2_a, bin2_o, bin2_e, q_un, un1_a, un1_o, q_call, call_n, call_c, call1_a, call1_o, call1_e, q_tup, allD_nil, allD_cons, tupE_ap, q_lst, lst_n, lst_c, lst1_ok, q_comp, comp_ok, q_and, and_tt, and_ff, asB_ok, asB_e, and_ok, and_fold, q_or, or_tt, or_ff, or_ok, or_fold, q_not, not_ok, not_e, q_ife, ife_tt, ife_ff, ife_ok, q_seq, q_rng1, q_rng2, q_enum, q_zip, srcS_a, srcS_o, src1_a, src1_o, src2_a, src2_o, of_some, q_sl, sl_nn, sl_n, sl_s, slo_nn, slo_n, slo_s, slLo_n, slLo_s, slHi_ok, slLo_n', slLo_s', slHi_ok', q_sm, sm1_a, sm2_a, sm2_o, on1_ap, onD1_ap, true_ap, gNm_ap, gTp_ap, setD_nil, setD_cons, wipe_nil, wipe_cons, max2_ap, rng1_n, rng1_l, rng1_1, Nat.reduceAdd, Nat.reduceSub, Nat.reduceLeDiff, List.length_cons, List.length_nil, List.length_map, List.length_range, List.replicate, List.set_cons_zero, List.set_cons_succ, List.map_cons, List.map_nil, List.cons_append, List.nil_append, Option.map_some, if_true, Bool.false_eq_true, if_false, Bool.not_true, Bool.not_false, o_add, o_sub, o_shr, o_band, o_lt, o_le, o_gt, o_ge, own0, own1, own2, own3, own4, own5, own6, own7, own8, own9, own10, own11, own12, seqD_lst, seqD_tup, seqD_eF, seqD_eG, i2n, isi_eF, isi_eG, isi_eT, gLen_eF, gLen_eG, gLen_lst, gLen_tup, dAll_m, dAny_m, all_tt, dInt_b, isi_int_none, isi_int_bool, isi_int_int, isi_int_str, isi_int_list, isi_int_tuple, isi_bool_none, isi_bool_bool, isi_bool_int, isi_bool_str, isi_bool_list, isi_bool_tuple, isi_str_none, isi_str_bool, isi_str_int, isi_str_str, isi_str_list, isi_str_tuple, isi_list_none, isi_list_bool, isi_list_int, isi_list_str, isi_list_list, isi_list_tuple, isi_tuple_none, isi_tuple_bool, isi_tuple_int, isi_tuple_str, isi_tuple_list, isi_tuple_tuple, isi2_tl_none, isi2_tl_bool, isi2_tl_int, isi2_tl_str, isi2_tl_list, isi2_tl_tuple, zip2, zipD_map, isi_int_dict, isi_bool_dict, isi_str_dict, isi_list_dict, isi_tuple_dict, isi2_tl_dict, dIsN, dNotN, p_setIx, setIx1_ok, setIx2_s, bin1_w, bin1o_some, toDs_nil, toDs_a, toDs_o, ret_nxt, rngD_map, Int.reduceToNat, p_appV, appV_ok', p_forB, forB_ok, sm1_T, List.getElem?_cons_succ, List.getElem?_cons_zero, q_chain, ch1_a, ch2_a, ch3_tt, ch3_ff, ch4_a, lt_TT, par_ap, par1_ok, par2_ok, srcS_e, src1_e, src2_e, comp_e, un1_e, lst1_e, and_e, or_e, q_sm0, sm01_a, sm01_T, smO_some, app_0w, lisRg_n n (by omega), to_fin, p_while, to_nxt]
    refine while_to (fun r ρ S1 => St S1 ∧ ∃ (L G : List Nat), r = L.length ∧ (G ++ L).Perm (List.range n) ∧ ρ = [some (.a (.c 0)), some (.a (.d (.int (n : Nat)))), some (ownD (eNs L)), some (ownD (eNs G))]) ?_ 1000 n _ _ ⟨h, List.range n, [], by simp, by simp, rfl⟩ (by omega)
    rintro r ρ S1 ⟨hS, L, G, hr, hp, rfl⟩
    have hlen : G.length + L.length = n := by have := hp.length_eq; rw [List.length_append, List.length_range] at this; exact this
    have hne := ne_nil L S1
    refine ⟨!L.isEmpty, S1, by simp only [p_body, p_skip, p_seq, p_set, p_ret, p_retN, p_retV_s, p_retV_0, p_exp, p_if, p_raise, p_app, p_ext, p_setT, p_for, p_cell', nxt_nx, nxt_rt, nxt_exc, fin_nx, fin_rt, fin_exc, set_ok, set_exc, ret_ok, ret_exc, exp_ok, exp_exc, if_tt, if_ff, if_ok, if_exc, for_ok, for_exc, app_s, app_0, app_0o, ext_s, ext_0, cons_nx, cons_exc, setT_ok, cell_ok, pop_nx, pop_rt, unC_nil, unC_n, unC_d, unC_st, no_nil, no_n, no_a, mask_nil, mask_t, mask_f, dom_nil, dom_s, dom_n, start_0, start_s, setW_nil, setW_cons, ev_nil, ev_n, ev_a, ev_o, ev_own, frzE_nil, frzE_cons, frz1_s, frz1_0o, frz1_0a, frz1_0n, sNm_ap, sTp_ap, q_var0, q_varS, q_c, q_bin, bin1_a, bin1_o, bin1_e, bin2_a, bin2_o, bin2_e, q_un, un1_a, un1_o, q_call, call_n, call_c, call1_a, call1_o, call1_e, q_tup, allD_nil, allD_cons, tupE_ap, q_lst, lst_n, lst_c, lst1_ok, q_comp, comp_ok, q_and, and_tt, and_ff, asB_ok, asB_e, and_ok, and_fold, q_or, or_tt, or_ff, or_ok, or_fold, q_not, not_ok, not_e, q_ife, ife_tt, ife_ff, ife_ok, q_seq, q_rng1, q_rng2, q_enum, q_zip, srcS_a, srcS_o, src1_a, src1_o, src2_a, src2_o, of_some, q_sl, sl_nn, sl_n, sl_s, slo_nn, slo_n, slo_s, slLo_n, slLo_s, slHi_ok, slLo_n', slLo_s', slHi_ok', q_sm, sm1_a, sm2_a, sm2_o, on1_ap, onD1_ap, true_ap, gNm_ap, gTp_ap, setD_nil, setD_cons, wipe_nil, wipe_cons, max2_ap, rng1_n, rng1_l, rng1_1, Nat.reduceAdd, Nat.reduceSub, Nat.reduceLeDiff, List.length_cons, List.length_nil, List.length_map, List.length_range, List.replicate, List.set_cons_zero, List.set_cons_succ, List.map_cons, List.map_nil, List.cons_append, List.nil_append, Option.map_some, if_true, Bool.false_eq_true, if_false, Bool.not_true, Bool.not_false, o_add, o_sub, o_shr, o_band, o_lt, o_le, o_gt, o_ge, own0, own1, own2, own3, own4, own5, own6, own7, own8, own9, own10, own11, own12, seqD_lst, seqD_tup, seqD_eF, seqD_eG, i2n, isi_eF, isi_eG, isi_eT, gLen_eF, gLen_eG, gLen_lst, gLen_tup, dAll_m, dAny_m, all_tt, dInt_b, isi_int_none, isi_int_bool, isi_int_int, isi_int_str, isi_int_list, isi_int_tuple, isi_bool_none, isi_bool_bool, isi_bool_int, isi_bool_str, isi_bool_list, isi_bool_tuple, isi_str_none, isi_str_bool, isi_str_int, isi_str_str, isi_str_list, isi_str_tuple, isi_list_none, isi_list_bool, isi_list_int, isi_list_str, isi_list_list, isi_list_tuple, isi_tuple_none, isi_tuple_bool, isi_tuple_int, isi_tuple_str, isi_tuple_list, isi_tuple_tuple, isi2_tl_none, isi2_tl_bool, isi2_tl_int, isi2_tl_str, isi2_tl_list, isi2_tl_tuple, zip2, zipD_map, isi_int_dict, isi_bool_dict, isi_str_dict, isi_list_dict, isi_tuple_dict, isi2_tl_dict, dIsN, dNotN, p_setIx, setIx1_ok, setIx2_s, bin1_w, bin1o_some, toDs_nil, toDs_a, toDs_o, ret_nxt, rngD_map, Int.reduceToNat, p_appV, appV_ok', p_forB, forB_ok, sm1_T, List.getElem?_cons_succ, List.getElem?_cons_zero, q_chain, ch1_a, ch2_a, ch3_tt, ch3_ff, ch4_a, lt_TT, par_ap, par1_ok, par2_ok, srcS_e, src1_e, src2_e, comp_e, un1_e, lst1_e, and_e, or_e, q_sm0, sm01_a, sm01_T, smO_some, app_0w]; exact hne, hS.flat, fun hb => ?_, fun hb => ?_⟩
    · have hL : L = [] := by cases L with
        | nil => rfl
        | cons _ _ => cases hb
      subst hL
      rw [List.append_nil] at hp
      have htup : dTup (.list (eNs G)) = some (.a (.d (.tuple (eNs G)))) := rfl
      simp only [p_body, p_skip, p_seq, p_set, p_ret, p_retN, p_retV_s, p_retV_0, p_exp, p_if, p_raise, p_app, p_ext, p_setT, p_for, p_cell', nxt_nx, nxt_rt, nxt_exc, fin_nx, fin_rt, fin_exc, set_ok, set_exc, ret_ok, ret_exc, exp_ok, exp_exc, if_tt, if_ff, if_ok, if_exc, for_ok, for_exc, app_s, app_0, app_0o, ext_s, ext_0, cons_nx, cons_exc, setT_ok, cell_ok, pop_nx, pop_rt, unC_nil, unC_n, unC_d, unC_st, no_nil, no_n, no_a, mask_nil, mask_t, mask_f, dom_nil, dom_s, dom_n, start_0, start_s, setW_nil, setW_cons, ev_nil, ev_n, ev_a, ev_o, ev_own, frzE_nil, frzE_cons, frz1_s, frz1_0o, frz1_0a, frz1_0n, sNm_ap, sTp_ap, q_var0, q_varS, q_c, q_bin, bin1_a, bin1_o, bin1_e, bin2_a, bin2_o, bin2_e, q_un, un1_a, un1_o, q_call, call_n, call_c, call1_a, call1_o, call1_e, q_tup, allD_nil, allD_cons, tupE_ap, q_lst, lst_n, lst_c, lst1_ok, q_comp, comp_ok, q_and, and_tt, and_ff, asB_ok, asB_e, and_ok, and_fold, q_or, or_tt, or_ff, or_ok, or_fold, q_not, not_ok, not_e, q_ife, ife_tt, ife_ff, ife_ok, q_seq, q_rng1, q_rng2, q_enum, q_zip, srcS_a, srcS_o, src1_a, src1_o, src2_a, src2_o, of_some, q_sl, sl_nn, sl_n, sl_s, slo_nn, slo_n, slo_s, slLo_n, slLo_s, slHi_ok, slLo_n', slLo_s', slHi_ok', q_sm, sm1_a, sm2_a, sm2_o, on1_ap, onD1_ap, true_ap, gNm_ap, gTp_ap, setD_nil, setD_cons, wipe_nil, wipe_cons, max2_ap, rng1_n, rng1_l, rng1_1, Nat.reduceAdd, Nat.reduceSub, Nat.reduceLeDiff, List.length_cons, List.length_nil, List.length_map, List.length_range, List.replicate, List.set_cons_zero, List.set_cons_succ, List.map_cons, List.map_nil, List.cons_append, List.nil_append, Option.map_some, if_true, Bool.false_eq_true, if_false, Bool.not_true, Bool.not_false, o_add, o_sub, o_shr, o_band, o_lt, o_le, o_gt, o_ge, own0, own1, own2, own3, own4, own5, own6, own7, own8, own9, own10, own11, own12, seqD_lst, seqD_tup, seqD_eF, seqD_eG, i2n, isi_eF, isi_eG, isi_eT, gLen_eF, gLen_eG, gLen_lst, gLen_tup, dAll_m, dAny_m, all_tt, dInt_b, isi_int_none, isi_int_bool, isi_int_int, isi_int_str, isi_int_list, isi_int_tuple, isi_bool_none, isi_bool_bool, isi_bool_int, isi_bool_str, isi_bool_list, isi_bool_tuple, isi_str_none, isi_str_bool, isi_str_int, isi_str_str, isi_str_list, isi_str_tuple, isi_list_none, isi_list_bool, isi_list_int, isi_list_str, isi_list_list, isi_list_tuple, isi_tuple_none, isi_tuple_bool, isi_tuple_int, isi_tuple_str, isi_tuple_list, isi_tuple_tuple, isi2_tl_none, isi2_tl_bool, isi2_tl_int, isi2_tl_str, isi2_tl_list, isi2_tl_tuple, zip2, zipD_map, isi_int_dict, isi_bool_dict, isi_str_dict, isi_list_dict, isi_tuple_dict, isi2_tl_dict, dIsN, dNotN, p_setIx, setIx1_ok, setIx2_s, bin1_w, bin1o_some, toDs_nil, toDs_a, toDs_o, ret_nxt, rngD_map, Int.reduceToNat, p_appV, appV_ok', p_forB, forB_ok, sm1_T, List.getElem?_cons_succ, List.getElem?_cons_zero, q_chain, ch1_a, ch2_a, ch3_tt, ch3_ff, ch4_a, lt_TT, par_ap, par1_ok, par2_ok, srcS_e, src1_e, src2_e, comp_e, un1_e, lst1_e, and_e, or_e, q_sm0, sm01_a, sm01_T, smO_some, app_0w, htup, to_rt]
      exact ⟨G, rfl, hp, hS⟩
    · have hL0 : 0 < L.length := by cases L with
        | nil => cases hb
        | cons _ _ => simp
      obtain ⟨m, S3, e3, l3, h3⟩ := e_law_take hS L.length hL0 (by omega)
      have hgl : gLen [.d (.list (eNs L))] S1 = .ok (iD (L.length : Nat)) S1 := by
        show R.ok (iD (eNs L).length) S1 = _
        rw [List.length_map]
      rw [appPop_g (fun (i : Nat) => PyData.int (i : Int)) (m := m) l3 (by omega) (by omega) h3.flat (by simp only [p_body, p_skip, p_seq, p_set, p_ret, p_retN, p_retV_s, p_retV_0, p_exp, p_if, p_raise, p_app, p_ext, p_setT, p_for, p_cell', nxt_nx, nxt_rt, nxt_exc, fin_nx, fin_rt, fin_exc, set_ok, set_exc, ret_ok, ret_exc, exp_ok, exp_exc, if_tt, if_ff, if_ok, if_exc, for_ok, for_exc, app_s, app_0, app_0o, ext_s, ext_0, cons_nx, cons_exc, setT_ok, cell_ok, pop_nx, pop_rt, unC_nil, unC_n, unC_d, unC_st, no_nil, no_n, no_a, mask_nil, mask_t, mask_f, dom_nil, dom_s, dom_n, start_0, start_s, setW_nil, setW_cons, ev_nil, ev_n, ev_a, ev_o, ev_own, frzE_nil, frzE_cons, frz1_s, frz1_0o, frz1_0a, frz1_0n, sNm_ap, sTp_ap, q_var0, q_varS, q_c, q_bin, bin1_a, bin1_o, bin1_e, bin2_a, bin2_o, bin2_e, q_un, un1_a, un1_o, q_call, call_n, call_c, call1_a, call1_o, call1_e, q_tup, allD_nil, allD_cons, tupE_ap, q_lst, lst_n, lst_c, lst1_ok, q_comp, comp_ok, q_and, and_tt, and_ff, asB_ok, asB_e, and_ok, and_fold, q_or, or_tt, or_ff, or_ok, or_fold, q_not, not_ok, not_e, q_ife, ife_tt, ife_ff, ife_ok, q_seq, q_rng1, q_rng2, q_enum, q_zip, srcS_a, srcS_o, src1_a, src1_o, src2_a, src2_o, of_some, q_sl, sl_nn, sl_n, sl_s, slo_nn, slo_n, slo_s, slLo_n, slLo_s, slHi_ok, slLo_n', slLo_s', slHi_ok', q_sm, sm1_a, sm2_a, sm2_o, on1_ap, onD1_ap, true_ap, gNm_ap, gTp_ap, setD_nil, setD_cons, wipe_nil, wipe_cons, max2_ap, rng1_n, rng1_l, rng1_1, Nat.reduceAdd, Nat.reduceSub, Nat.reduceLeDiff, List.length_cons, List.length_nil, List.length_map, List.length_range, List.replicate, List.set_cons_zero, List.set_cons_succ, List.map_cons, List.map_nil, List.cons_append, List.nil_append, Option.map_some, if_true, Bool.false_eq_true, if_false, Bool.not_true, Bool.not_false, o_add, o_sub, o_shr, o_band, o_lt, o_le, o_gt, o_ge, own0, own1, own2, own3, own4, own5, own6, own7, own8, own9, own10, own11, own12, seqD_lst, seqD_tup, seqD_eF, seqD_eG, i2n, isi_eF, isi_eG, isi_eT, gLen_eF, gLen_eG, gLen_lst, gLen_tup, dAll_m, dAny_m, all_tt, dInt_b, isi_int_none, isi_int_bool, isi_int_int, isi_int_str, isi_int_list, isi_int_tuple, isi_bool_none, isi_bool_bool, isi_bool_int, isi_bool_str, isi_bool_list, isi_bool_tuple, isi_str_none, isi_str_bool, isi_str_int, isi_str_str, isi_str_list, isi_str_tuple, isi_list_none, isi_list_bool, isi_list_int, isi_list_str, isi_list_list, isi_list_tuple, isi_tuple_none, isi_tuple_bool, isi_tuple_int, isi_tuple_str, isi_tuple_list, isi_tuple_tuple, isi2_tl_none, isi2_tl_bool, isi2_tl_int, isi2_tl_str, isi2_tl_list, isi2_tl_tuple, zip2, zipD_map, isi_int_dict, isi_bool_dict, isi_str_dict, isi_list_dict, isi_tuple_dict, isi2_tl_dict, dIsN, dNotN, p_setIx, setIx1_ok, setIx2_s, bin1_w, bin1o_some, toDs_nil, toDs_a, toDs_o, ret_nxt, rngD_map, Int.reduceToNat, p_appV, appV_ok', p_forB, forB_ok, sm1_T, List.getElem?_cons_succ, List.getElem?_cons_zero, q_chain, ch1_a, ch2_a, ch3_tt, ch3_ff, ch4_a, lt_TT, par_ap, par1_ok, par2_ok, srcS_e, src1_e, src2_e, comp_e, un1_e, lst1_e, and_e, or_e, q_sm0, sm01_a, sm01_T, smO_some, app_0w, hgl, e3])]
      simp only [to_nx]
      refine ⟨(L.eraseIdx m).length, ?_, h3, L.eraseIdx m, G ++ [L[m]], rfl, perm_popG l3 hp, rfl⟩
      rw [List.length_eraseIdx_of_lt l3]
      omega
  obtain ⟨w, S1, e, o, rfl, a, b⟩ := key.get
  exact ⟨o, S1, e, a, b⟩
theorem e_law_change {S : Cs} (h : St S) {n : Nat} (hn : n ≤ 100) : ∃ (c : Ch) (S1 : Cs), sem__law_change [.c 0, .d (.int (n : Nat))] S = .ok (.a (.d (eC c))) S1 ∧ okC n c ∧ St S1 := by
  obtain ⟨o, S1, e1, ho, h1⟩ := e_law_order h hn
  have key : R.To (compL (gNm 2) fTrue (fCall sem__law_take [(fVar 0), (fC (.int 2))]) [some (.c 0), some (.d (.int (n : Nat))), none] ((List.range n).map fun (i : Nat) => PyData.int (i : Int)) S1 []) fun w S1 => ∃ t : List Bool, w = ownD (t.map eBt) ∧ t.length = n ∧ St S1 := by
    refine comp_to (fun acc S => ∃ t : List Bool, acc = t.map eBt ∧ St S) ⟨[], rfl, h1⟩ ?_ ?_
    · rintro x hx acc S1 ⟨t, rfl, hS⟩
      obtain ⟨r, S2, e2, l2, h2⟩ := e_law_take hS 2 (by decide) (by decide)
      have e2' : sem__law_take [A.c 0, A.d (PyData.int 2)] S1 = .ok (iD r) S2 := e2
      refine ⟨_, rfl, ?_⟩
      simp only [p_body, p_skip, p_seq, p_set, p_ret, p_retN, p_retV_s, p_retV_0, p_exp, p_if, p_raise, p_app, p_ext, p_setT, p_for, p_cell', nxt_nx, nxt_rt, nxt_exc, fin_nx, fin_rt, fin_exc, set_ok, set_exc, ret_ok, ret_exc, exp_ok, exp_exc, if_tt, if_ff, if_ok, if_exc, for_ok, for_exc, app_s, app_0, app_0o, ext_s, ext_0, cons_nx, cons_exc, setT_ok, cell_ok, pop_nx, pop_rt, unC_nil, unC_n, unC_d, unC_st, no_nil, no_n, no_a, mask_nil, mask_t, mask_f, dom_nil, dom_s, dom_n, start_0, start_s, setW_nil, setW_cons, ev_nil, ev_n, ev_a, ev_o, ev_own, frzE_nil, frzE_cons, frz1_s, frz1_0o, frz1_0a, frz1_0n, sNm_ap, sTp_ap, q_var0, q_varS, q_c, q_bin, bin1_a, bin1_o, bin1_e, bin2_a, bin2_o, bin2_e, q_un, un1_a, un1_o, q_call, call_n, call_c, call1_a, call1_o, call1_e, q_tup, allD_nil, allD_cons, tupE_ap, q_lst, lst_n, lst_c, lst1_ok, q_comp, comp_ok, q_and, and_tt, and_ff, asB_ok, asB_e, and_ok, and_fold, q_or, or_tt, or_ff, or_ok, or_fold, q_not, not_ok, not_e, q_ife, ife_tt, ife_ff, ife_ok, q_seq, q_rng1, q_rng2, q_enum, q_zip, srcS_a, srcS_o, src1_a, src1_o, src2_a, src2_o, of_some, q_sl, sl_nn, sl_n, sl_s, slo_nn, slo_n, slo_s, slLo_n, slLo_s, slHi_ok, slLo_n', slLo_s', slHi_ok', q_sm, sm1_a, sm2_a, sm2_o, on1_ap, onD1_ap, true_ap, gNm_ap, gTp_ap, setD_nil, setD_cons, wipe_nil, wipe_cons, max2_ap, rng1_n, rng1_l, rng1_1, Nat.reduceAdd, Nat.reduceSub, Nat.reduceLeDiff, List.length_cons, List.length_nil, List.length_map, List.length_range, List.replicate, List.set_cons_zero, List.set_cons_succ, List.map_cons, List.map_nil, List.cons_append, List.nil_append, Option.map_some, if_true, Bool.false_eq_true, if_false, Bool.not_true, Bool.not_false, o_add, o_sub, o_shr, o_band, o_lt, o_le, o_gt, o_ge, own0, own1, own2, own3, own4, own5, own6, own7, own8, own9, own10, own11, own12, seqD_lst, seqD_tup, seqD_eF, seqD_eG, i2n, isi_eF, isi_eG, isi_eT, gLen_eF, gLen_eG, gLen_lst, gLen_tup, dAll_m, dAny_m, all_tt, dInt_b, isi_int_none, isi_int_bool, isi_int_int, isi_int_str, isi_int_list, isi_int_tuple, isi_bool_none, isi_bool_bool, isi_bool_int, isi_bool_str, isi_bool_list, isi_bool_tuple, isi_str_none, isi_str_bool, isi_str_int, isi_str_str, isi_str_list, isi_str_tuple, isi_list_none, isi_list_bool, isi_list_int, isi_list_str, isi_list_list, isi_list_tuple, isi_tuple_none, isi_tuple_bool, isi_tuple_int, isi_tuple_str, isi_tuple_list, isi_tuple_tuple, isi2_tl_none, isi2_tl_bool, isi2_tl_int, isi2_tl_str, isi2_tl_list, isi2_tl_tuple, zip2, zipD_map, isi_int_dict, isi_bool_dict, isi_str_dict, isi_list_dict, isi_tuple_dict, isi2_tl_dict, dIsN, dNotN, p_setIx, setIx1_ok, setIx2_s, bin1_w, bin1o_some, toDs_nil, toDs_a, toDs_o, ret_nxt, rngD_map, Int.reduceToNat, p_appV, appV_ok', p_forB, forB_ok, sm1_T, List.getElem?_cons_succ, List.getElem?_cons_zero, q_chain, ch1_a, ch2_a, ch3_tt, ch3_ff, ch4_a, lt_TT, par_ap, par1_ok, par2_ok, srcS_e, src1_e, src2_e, comp_e, un1_e, lst1_e, and_e, or_e, q_sm0, sm01_a, sm01_T, smO_some, app_0w, e2', to_ok]
      refine ⟨_, rfl, t ++ [decide (r = 1)], ?_, h2⟩
      have : r = 0 ∨ r = 1 := by omega
      rcases this with rfl | rfl <;> (rw [List.map_append]; rfl)
    · rintro ds S1 ⟨t, rfl, hS⟩ hl
      exact ⟨t, rfl, by simpa using hl, hS⟩
  obtain ⟨w, S2, e2, t, rfl, hl, h2⟩ := key.get
  obtain ⟨r, S3, e3, l3, h3⟩ := e_law_take h2 2 (by decide) (by decide)
  have e3' : sem__law_take [A.c 0, A.d (PyData.int 2)] S2 = .ok (iD r) S3 := e3
  have htup : dTup (.list (t.map eBt)) = some (.a (.d (.tuple (t.map eBt)))) := rfl
  refine ⟨⟨o, t, decide (r = 1)⟩, S3, ?_, ⟨ho, hl⟩, h3⟩
  have hr : iD (r : Nat) = .a (.d (eBt (decide (r = 1)))) := by
    have : r = 0 ∨ r = 1 := by omega
    rcases this with rfl | rfl <;> rfl
  simp only [sem__law_change, b__law_change, p_body, p_skip, p_seq, p_set, p_ret, p_retN, p_retV_s, p_retV_0, p_exp, p_if, p_raise, p_app, p_ext, p_setT, p_for, p_cell', nxt_nx, nxt_rt, nxt_exc, fin_nx, fin_rt, fin_exc, set_ok, set_exc, ret_ok, ret_exc, exp_ok, exp_exc, if_tt, if_ff, if_ok, if_exc, for_ok, for_exc, app_s, app_0, app_0o, ext_s, ext_0, cons_nx, cons_exc, setT_ok, cell_ok, pop_nx, pop_rt, unC_nil, unC_n, unC_d, unC_st, no_nil, no_n, no_a, mask_nil, mask_t, mask_f, dom_nil, dom_s, dom_n, start_0, start_s, setW_nil, setW_cons, ev_nil, ev_n, ev_a, ev_o, ev_own, frzE_nil, frzE_cons, frz1_s, frz1_0o, frz1_0a, frz1_0n, sNm_ap, sTp_ap, q_var0, q_varS, q_c, q_bin, bin1_a, bin1_o, bin1_e, bin2_a, bin2_o, bin2_e, q_un, un1_a, un1_o, q_call, call_n, call_c, call1_a, call1_o, call1_e, q_tup, allD_nil, allD_cons, tupE_ap, q_lst, lst_n, lst_c, lst1_ok, q_comp, comp_ok, q_and, and_tt, and_ff, asB_ok, asB_e, and_ok, and_fold, q_or, or_tt, or_ff, or_ok, or_fold, q_not, not_ok, not_e, q_ife, ife_tt, ife_ff, ife_ok, q_seq, q_rng1, q_rng2, q_enum, q_zip, srcS_a, srcS_o, src1_a, src1_o, src2_a, src2_o, of_some, q_sl, sl_nn, sl_n, sl_s, slo_nn, slo_n, slo_s, slLo_n, slLo_s, slHi_ok, slLo_n', slLo_s', slHi_ok', q_sm, sm1_a, sm2_a, sm2_o, on1_ap, onD1_ap, true_ap, gNm_ap, gTp_ap, setD_nil, setD_cons, wipe_nil, wipe_cons, max2_ap, rng1_n, rng1_l, rng1_1, Nat.reduceAdd, Nat.reduceSub, Nat.reduceLeDiff, List.length_cons, List.length_nil, List.length_map, List.length_range, List.replicate, List.set_cons_zero, List.set_cons_succ, List.map_cons, List.map_nil, List.cons_append, List.nil_append, Option.map_some, if_true, Bool.false_eq_true, if_false, Bool.not_true, Bool.not_false, o_add, o_sub, o_shr, o_band, o_lt, o_le, o_gt, o_ge, own0, own1, own2, own3, own4, own5, own6, own7, own8, own9, own10, own11, own12, seqD_lst, seqD_tup, seqD_eF, seqD_eG, i2n, isi_eF, isi_eG, isi_eT, gLen_eF, gLen_eG, gLen_lst, gLen_tup, dAll_m, dAny_m, all_tt, dInt_b, isi_int_none, isi_int_bool, isi_int_int, isi_int_str, isi_int_list, isi_int_tuple, isi_bool_none, isi_bool_bool, isi_bool_int, isi_bool_str, isi_bool_list, isi_bool_tuple, isi_str_none, isi_str_bool, isi_str_int, isi_str_str, isi_str_list, isi_str_tuple, isi_list_none, isi_list_bool, isi_list_int, isi_list_str, isi_list_list, isi_list_tuple, isi_tuple_none, isi_tuple_bool, isi_tuple_int, isi_tuple_str, isi_tuple_list, isi_tuple_tuple, isi2_tl_none, isi2_tl_bool, isi2_tl_int, isi2_tl_str, isi2_tl_list, isi2_tl_tuple, zip2, zipD_map, isi_int_dict, isi_bool_dict, isi_str_dict, isi_list_dict, isi_tuple_dict, isi2_tl_dict, dIsN, dNotN, p_setIx, setIx1_ok, setIx2_s, bin1_w, bin1o_some, toDs_nil, toDs_a, toDs_o, ret_nxt, rngD_map, Int.reduceToNat, p_appV, appV_ok', p_forB, forB_ok, sm1_T, List.getElem?_cons_succ, List.getElem?_cons_zero, q_chain, ch1_a, ch2_a, ch3_tt, ch3_ff, ch4_a, lt_TT, par_ap, par1_ok, par2_ok, srcS_e, src1_e, src2_e, comp_e, un1_e, lst1_e, and_e, or_e, q_sm0, sm01_a, sm01_T, smO_some, app_0w, rng1_n n (by omega), e1, h1.flat, e2, htup, e3', hr]
  rfl
theorem e_law_same : ∀ (n : Nat) (d : D) (S : Cs), flatCs S = true → sameOk n d → sem__law_same n [.d d, .d d] S = .ok (bD true) S
  | 0, d, S, hS, h => by unfold sameOk at h; exact h.elim
  | n + 1, d, S, hS, h => by
    have leaf : flatD d = true → (fUn (onD1 (dIsi2 "tuple" "list")) (fVar 1)) [some (.d d), some (.d d), none, none] S = .ok (bD false) S → (fUn (onD1 (dIsi "bool")) (fVar 0)) [some (.d d), some (.d d), none, none] S = (fUn (onD1 (dIsi "bool")) (fVar 1)) [some (.d d), some (.d d), none, none] S := fun _ _ => rfl
    cases d with
    | dict kvs => unfold sameOk at h; exact h.elim
    | none => simp only [sem__law_same, b__law_same, bodySem, startE, sRet, sRetV, sRetN, sSeq, sSet, sSkip, sExp, sIf, fSm, fC, fComp, iRng1, iSeq, iZip, iEnum, fVar, fCall, fBin, fUn, onD1, on1, evs_nil, evs_cons, frzE, ev, ev1_own, ev1_ownD, ev1_a, ev1_no, List.map_cons, List.map_nil, List.cons_append, List.nil_append, List.replicate, List.length_cons, List.length_nil, Nat.reduceAdd, Nat.reduceSub, bnd_a, bi_a, bi_own, bnd_own, List.getElem?_cons_zero, List.getElem?_cons_succ, rng1, SR.of, if_true, wipeE, List.set_cons_zero, List.set_cons_succ, rngD_map, i2n, and_self, setD, Option.map_some, gNm, gTp, o_add, o_sub, o_shr, o_band, o_lt, o_le, o_gt, o_ge, fTup, allD, zip2, zipD_map, Function.comp_def, List.map_map, own0, own1, own2, own3, own4, own5, own6, own7, own8, own9, own10, own11, own12, fLst, evsW, sFor, dom, seqD_lst, seqD_tup, Option.isSome, sNm, sTp, setW, frz1_s, frz1_0o, frz1_0a, frz1_0n, isi_int_none, isi_int_bool, isi_int_int, isi_int_str, isi_int_list, isi_int_tuple, isi_bool_none, isi_bool_bool, isi_bool_int, isi_bool_str, isi_bool_list, isi_bool_tuple, isi_str_none, isi_str_bool, isi_str_int, isi_str_str, isi_str_list, isi_str_tuple, isi_list_none, isi_list_bool, isi_list_int, isi_list_str, isi_list_list, isi_list_tuple, isi_tuple_none, isi_tuple_bool, isi_tuple_int, isi_tuple_str, isi_tuple_list, isi_tuple_tuple, isi2_tl_none, isi2_tl_bool, isi2_tl_int, isi2_tl_str, isi2_tl_list, isi2_tl_tuple, br_tt, br_ff, Bool.false_eq_true, if_false, seqD_eF, seqD_eG, isi_eF, isi_eG, isi_eT, gLen_eF, gLen_eG, gLen_lst, gLen_tup, dAll_m, dAny_m, all_tt, dInt_b, hS, fAnd, o_eq S (eqOk_flat (x := .none) (y := .none) rfl rfl), eqv_self .none rfl, same_bool]
    | bool b => simp only [sem__law_same, b__law_same, bodySem, startE, sRet, sRetV, sRetN, sSeq, sSet, sSkip, sExp, sIf, fSm, fC, fComp, iRng1, iSeq, iZip, iEnum, fVar, fCall, fBin, fUn, onD1, on1, evs_nil, evs_cons, frzE, ev, ev1_own, ev1_ownD, ev1_a, ev1_no, List.map_cons, List.map_nil, List.cons_append, List.nil_append, List.replicate, List.length_cons, List.length_nil, Nat.reduceAdd, Nat.reduceSub, bnd_a, bi_a, bi_own, bnd_own, List.getElem?_cons_zero, List.getElem?_cons_succ, rng1, SR.of, if_true, wipeE, List.set_cons_zero, List.set_cons_succ, rngD_map, i2n, and_self, setD, Option.map_some, gNm, gTp, o_add, o_sub, o_shr, o_band, o_lt, o_le, o_gt, o_ge, fTup, allD, zip2, zipD_map, Function.comp_def, List.map_map, own0, own1, own2, own3, own4, own5, own6, own7, own8, own9, own10, own11, own12, fLst, evsW, sFor, dom, seqD_lst, seqD_tup, Option.isSome, sNm, sTp, setW, frz1_s, frz1_0o, frz1_0a, frz1_0n, isi_int_none, isi_int_bool, isi_int_int, isi_int_str, isi_int_list, isi_int_tuple, isi_bool_none, isi_bool_bool, isi_bool_int, isi_bool_str, isi_bool_list, isi_bool_tuple, isi_str_none, isi_str_bool, isi_str_int, isi_str_str, isi_str_list, isi_str_tuple, isi_list_none, isi_list_bool, isi_list_int, isi_list_str, isi_list_list, isi_list_tuple, isi_tuple_none, isi_tuple_bool, isi_tuple_int, isi_tuple_str, isi_tuple_list, isi_tuple_tuple, isi2_tl_none, isi2_tl_bool, isi2_tl_int, isi2_tl_str, isi2_tl_list, isi2_tl_tuple, br_tt, br_ff, Bool.false_eq_true, if_false, seqD_eF, seqD_eG, isi_eF, isi_eG, isi_eT, gLen_eF, gLen_eG, gLen_lst, gLen_tup, dAll_m, dAny_m, all_tt, dInt_b, hS, fAnd, same_bool]
    | int i => simp only [sem__law_same, b__law_same, bodySem, startE, sRet, sRetV, sRetN, sSeq, sSet, sSkip, sExp, sIf, fSm, fC, fComp, iRng1, iSeq, iZip, iEnum, fVar, fCall, fBin, fUn, onD1, on1, evs_nil, evs_cons, frzE, ev, ev1_own, ev1_ownD, ev1_a, ev1_no, List.map_cons, List.map_nil, List.cons_append, List.nil_append, List.replicate, List.length_cons, List.length_nil, Nat.reduceAdd, Nat.reduceSub, bnd_a, bi_a, bi_own, bnd_own, List.getElem?_cons_zero, List.getElem?_cons_succ, rng1, SR.of, if_true, wipeE, List.set_cons_zero, List.set_cons_succ, rngD_map, i2n, and_self, setD, Option.map_some, gNm, gTp, o_add, o_sub, o_shr, o_band, o_lt, o_le, o_gt, o_ge, fTup, allD, zip2, zipD_map, Function.comp_def, List.map_map, own0, own1, own2, own3, own4, own5, own6, own7, own8, own9, own10, own11, own12, fLst, evsW, sFor, dom, seqD_lst, seqD_tup, Option.isSome, sNm, sTp, setW, frz1_s, frz1_0o, frz1_0a, frz1_0n, isi_int_none, isi_int_bool, isi_int_int, isi_int_str, isi_int_list, isi_int_tuple, isi_bool_none, isi_bool_bool, isi_bool_int, isi_bool_str, isi_bool_list, isi_bool_tuple, isi_str_none, isi_str_bool, isi_str_int, isi_str_str, isi_str_list, isi_str_tuple, isi_list_none, isi_list_bool, isi_list_int, isi_list_str, isi_list_list, isi_list_tuple, isi_tuple_none, isi_tuple_bool, isi_tuple_int, isi_tuple_str, isi_tuple_list, isi_tuple_tuple, isi2_tl_none, isi2_tl_bool, isi2_tl_int, isi2_tl_str, isi2_tl_list, isi2_tl_tuple, br_tt, br_ff, Bool.false_eq_true, if_false, seqD_eF, seqD_eG, isi_eF, isi_eG, isi_eT, gLen_eF, gLen_eG, gLen_lst, gLen_tup, dAll_m, dAny_m, all_tt, dInt_b, hS, fAnd, o_eq S (eqOk_flat (x := .int i) (y := .int i) rfl rfl), eqv_self (.int i) rfl, same_bool]
    | str z => simp only [sem__law_same, b__law_same, bodySem, startE, sRet, sRetV, sRetN, sSeq, sSet, sSkip, sExp, sIf, fSm, fC, fComp, iRng1, iSeq, iZip, iEnum, fVar, fCall, fBin, fUn, onD1, on1, evs_nil, evs_cons, frzE, ev, ev1_own, ev1_ownD, ev1_a, ev1_no, List.map_cons, List.map_nil, List.cons_append, List.nil_append, List.replicate, List.length_cons, List.length_nil, Nat.reduceAdd, Nat.reduceSub, bnd_a, bi_a, bi_own, bnd_own, List.getElem?_cons_zero, List.getElem?_cons_succ, rng1, SR.of, if_true, wipeE, List.set_cons_zero, List.set_cons_succ, rngD_map, i2n, and_self, setD, Option.map_some, gNm, gTp, o_add, o_sub, o_shr, o_band, o_lt, o_le, o_gt, o_ge, fTup, allD, zip2, zipD_map, Function.comp_def, List.map_map, own0, own1, own2, own3, own4, own5, own6, own7, own8, own9, own10, own11, own12, fLst, evsW, sFor, dom, seqD_lst, seqD_tup, Option.isSome, sNm, sTp, setW, frz1_s, frz1_0o, frz1_0a, frz1_0n, isi_int_none, isi_int_bool, isi_int_int, isi_int_str, isi_int_list, isi_int_tuple, isi_bool_none, isi_bool_bool, isi_bool_int, isi_bool_str, isi_bool_list, isi_bool_tuple, isi_str_none, isi_str_bool, isi_str_int, isi_str_str, isi_str_list, isi_str_tuple, isi_list_none, isi_list_bool, isi_list_int, isi_list_str, isi_list_list, isi_list_tuple, isi_tuple_none, isi_tuple_bool, isi_tuple_int, isi_tuple_str, isi_tuple_list, isi_tuple_tuple, isi2_tl_none, isi2_tl_bool, isi2_tl_int, isi2_tl_str, isi2_tl_list, isi2_tl_tuple, br_tt, br_ff, Bool.false_eq_true, if_false, seqD_eF, seqD_eG, isi_eF, isi_eG, isi_eT, gLen_eF, gLen_eG, gLen_lst, gLen_tup, dAll_m, dAny_m, all_tt, dInt_b, hS, fAnd, o_eq S (eqOk_flat (x := .str z) (y := .str z) rfl rfl), eqv_self (.str z) rfl, same_bool]
    | list ds =>
      unfold sameOk at h
      have hm := sameOks_mem h.2
      have c : compL (gTp [2, 3]) fTrue (fCall (sem__law_same n) [(fVar 2), (fVar 3)]) [some (A.d (.list ds)), some (A.d (.list ds)), none, none] ((ds.zip ds).map fun p => PyData.tuple [p.1, p.2]) S [] = .ok (ownD ((ds.zip ds).map fun _ => PyData.bool true)) S := by
        refine compL_m (fun p : D × D => PyData.tuple [p.1, p.2]) _ _ fun p hp => ⟨_, rfl, ?_⟩
        have e : p.1 = p.2 ∧ p.1 ∈ ds := by
          obtain ⟨k, hk, e⟩ := List.mem_iff_getElem.mp hp
          rw [List.getElem_zip] at e
          rw [← e]
          exact ⟨rfl, List.getElem_mem _⟩
        simp only [bodySem, startE, sRet, sRetV, sRetN, sSeq, sSet, sSkip, sExp, sIf, fSm, fC, fComp, iRng1, iSeq, iZip, iEnum, fVar, fCall, fBin, fUn, onD1, on1, evs_nil, evs_cons, frzE, ev, ev1_own, ev1_ownD, ev1_a, ev1_no, List.map_cons, List.map_nil, List.cons_append, List.nil_append, List.replicate, List.length_cons, List.length_nil, Nat.reduceAdd, Nat.reduceSub, bnd_a, bi_a, bi_own, bnd_own, List.getElem?_cons_zero, List.getElem?_cons_succ, rng1, SR.of, if_true, wipeE, List.set_cons_zero, List.set_cons_succ, rngD_map, i2n, and_self, setD, Option.map_some, gNm, gTp, o_add, o_sub, o_shr, o_band, o_lt, o_le, o_gt, o_ge, fTup, allD, zip2, zipD_map, Function.comp_def, List.map_map, own0, own1, own2, own3, own4, own5, own6, own7, own8, own9, own10, own11, own12, fLst, evsW, sFor, dom, seqD_lst, seqD_tup, Option.isSome, sNm, sTp, setW, frz1_s, frz1_0o, frz1_0a, frz1_0n, isi_int_none, isi_int_bool, isi_int_int, isi_int_str, isi_int_list, isi_int_tuple, isi_bool_none, isi_bool_bool, isi_bool_int, isi_bool_str, isi_bool_list, isi_bool_tuple, isi_str_none, isi_str_bool, isi_str_int, isi_str_str, isi_str_list, isi_str_tuple, isi_list_none, isi_list_bool, isi_list_int, isi_list_str, isi_list_list, isi_list_tuple, isi_tuple_none, isi_tuple_bool, isi_tuple_int, isi_tuple_str, isi_tuple_list, isi_tuple_tuple, isi2_tl_none, isi2_tl_bool, isi2_tl_int, isi2_tl_str, isi2_tl_list, isi2_tl_tuple, br_tt, br_ff, Bool.false_eq_true, if_false, seqD_eF, seqD_eG, isi_eF, isi_eG, isi_eT, gLen_eF, gLen_eG, gLen_lst, gLen_tup, dAll_m, dAny_m, all_tt, dInt_b]
        rw [← e.1, e_law_same n p.1 S hS (hm _ e.2)]
      simp only [sem__law_same, b__law_same, bodySem, startE, sRet, sRetV, sRetN, sSeq, sSet, sSkip, sExp, sIf, fSm, fC, fComp, iRng1, iSeq, iZip, iEnum, fVar, fCall, fBin, fUn, onD1, on1, evs_nil, evs_cons, frzE, ev, ev1_own, ev1_ownD, ev1_a, ev1_no, List.map_cons, List.map_nil, List.cons_append, List.nil_append, List.replicate, List.length_cons, List.length_nil, Nat.reduceAdd, Nat.reduceSub, bnd_a, bi_a, bi_own, bnd_own, List.getElem?_cons_zero, List.getElem?_cons_succ, rng1, SR.of, if_true, wipeE, List.set_cons_zero, List.set_cons_succ, rngD_map, i2n, and_self, setD, Option.map_some, gNm, gTp, o_add, o_sub, o_shr, o_band, o_lt, o_le, o_gt, o_ge, fTup, allD, zip2, zipD_map, Function.comp_def, List.map_map, own0, own1, own2, own3, own4, own5, own6, own7, own8, own9, own10, own11, own12, fLst, evsW, sFor, dom, seqD_lst, seqD_tup, Option.isSome, sNm, sTp, setW, frz1_s, frz1_0o, frz1_0a, frz1_0n, isi_int_none, isi_int_bool, isi_int_int, isi_int_str, isi_int_list, isi_int_tuple, isi_bool_none, isi_bool_bool, isi_bool_int, isi_bool_str, isi_bool_list, isi_bool_tuple, isi_str_none, isi_str_bool, isi_str_int, isi_str_str, isi_str_list, isi_str_tuple, isi_list_none, isi_list_bool, isi_list_int, isi_list_str, isi_list_list, isi_list_tuple, isi_tuple_none, isi_tuple_bool, isi_tuple_int, isi_tuple_str, isi_tuple_list, isi_tuple_tuple, isi2_tl_none, isi2_tl_bool, isi2_tl_int, isi2_tl_str, isi2_tl_list, isi2_tl_tuple, br_tt, br_ff, Bool.false_eq_true, if_false, seqD_eF, seqD_eG, isi_eF, isi_eG, isi_eT, gLen_eF, gLen_eG, gLen_lst, gLen_tup, dAll_m, dAny_m, all_tt, dInt_b, hS, fAnd, fOr, fNot, ne_bool, gLen, ne_int, zipD, c]
    | tuple ds =>
      unfold sameOk at h
      have hm := sameOks_mem h.2
      have c : compL (gTp [2, 3]) fTrue (fCall (sem__law_same n) [(fVar 2), (fVar 3)]) [some (A.d (.tuple ds)), some (A.d (.tuple ds)), none, none] ((ds.zip ds).map fun p => PyData.tuple [p.1, p.2]) S [] = .ok (ownD ((ds.zip ds).map fun _ => PyData.bool true)) S := by
        refine compL_m (fun p : D × D => PyData.tuple [p.1, p.2]) _ _ fun p hp => ⟨_, rfl, ?_⟩
        have e : p.1 = p.2 ∧ p.1 ∈ ds := by
          obtain ⟨k, hk, e⟩ := List.mem_iff_getElem.mp hp
          rw [List.getElem_zip] at e
          rw [← e]
          exact ⟨rfl, List.getElem_mem _⟩
        simp only [bodySem, startE, sRet, sRetV, sRetN, sSeq, sSet, sSkip, sExp, sIf, fSm, fC, fComp, iRng1, iSeq, iZip, iEnum, fVar, fCall, fBin, fUn, onD1, on1, evs_nil, evs_cons, frzE, ev, ev1_own, ev1_ownD, ev1_a, ev1_no, List.map_cons, List.map_nil, List.cons_append, List.nil_append, List.replicate, List.length_cons, List.length_nil, Nat.reduceAdd, Nat.reduceSub, bnd_a, bi_a, bi_own, bnd_own, List.getElem?_cons_zero, List.getElem?_cons_succ, rng1, SR.of, if_true, wipeE, List.set_cons_zero, List.set_cons_succ, rngD_map, i2n, and_self, setD, Option.map_some, gNm, gTp, o_add, o_sub, o_shr, o_band, o_lt, o_le, o_gt, o_ge, fTup, allD, zip2, zipD_map, Function.comp_def, List.map_map, own0, own1, own2, own3, own4, own5, own6, own7, own8, own9, own10, own11, own12, fLst, evsW, sFor, dom, seqD_lst, seqD_tup, Option.isSome, sNm, sTp, setW, frz1_s, frz1_0o, frz1_0a, frz1_0n, isi_int_none, isi_int_bool, isi_int_int, isi_int_str, isi_int_list, isi_int_tuple, isi_bool_none, isi_bool_bool, isi_bool_int, isi_bool_str, isi_bool_list, isi_bool_tuple, isi_str_none, isi_str_bool, isi_str_int, isi_str_str, isi_str_list, isi_str_tuple, isi_list_none, isi_list_bool, isi_list_int, isi_list_str, isi_list_list, isi_list_tuple, isi_tuple_none, isi_tuple_bool, isi_tuple_int, isi_tuple_str, isi_tuple_list, isi_tuple_tuple, isi2_tl_none, isi2_tl_bool, isi2_tl_int, isi2_tl_str, isi2_tl_list, isi2_tl_tuple, br_tt, br_ff, Bool.false_eq_true, if_false, seqD_eF, seqD_eG, isi_eF, isi_eG, isi_eT, gLen_eF, gLen_eG, gLen_lst, gLen_tup, dAll_m, dAny_m, all_tt, dInt_b]
        rw [← e.1, e_law_same n p.1 S hS (hm _ e.2)]
      simp only [sem__law_same, b__law_same, bodySem, startE, sRet, sRetV, sRetN, sSeq, sSet, sSkip, sExp, sIf, fSm, fC, fComp, iRng1, iSeq, iZip, iEnum, fVar, fCall, fBin, fUn, onD1, on1, evs_nil, evs_cons, frzE, ev, ev1_own, ev1_ownD, ev1_a, ev1_no, List.map_cons, List.map_nil, List.cons_append, List.nil_append, List.replicate, List.length_cons, List.length_nil, Nat.reduceAdd, Nat.reduceSub, bnd_a, bi_a, bi_own, bnd_own, List.getElem?_cons_zero, List.getElem?_cons_succ, rng1, SR.of, if_true, wipeE, List.set_cons_zero, List.set_cons_succ, rngD_map, i2n, and_self, setD, Option.map_some, gNm, gTp, o_add, o_sub, o_shr, o_band, o_lt, o_le, o_gt, o_ge, fTup, allD, zip2, zipD_map, Function.comp_def, List.map_map, own0, own1, own2, own3, own4, own5, own6, own7, own8, own9, own10, own11, own12, fLst, evsW, sFor, dom, seqD_lst, seqD_tup, Option.isSome, sNm, sTp, setW, frz1_s, frz1_0o, frz1_0a, frz1_0n, isi_int_none, isi_int_bool, isi_int_int, isi_int_str, isi_int_list, isi_int_tuple, isi_bool_none, isi_bool_bool, isi_bool_int, isi_bool_str, isi_bool_list, isi_bool_tuple, isi_str_none, isi_str_bool, isi_str_int, isi_str_str, isi_str_list, isi_str_tuple, isi_list_none, isi_list_bool, isi_list_int, isi_list_str, isi_list_list, isi_list_tuple, isi_tuple_none, isi_tuple_bool, isi_tuple_int, isi_tuple_str, isi_tuple_list, isi_tuple_tuple, isi2_tl_none, isi2_tl_bool, isi2_tl_int, isi2_tl_str, isi2_tl_list, isi2_tl_tuple, br_tt, br_ff, Bool.false_eq_true, if_false, seqD_eF, seqD_eG, isi_eF, isi_eG, isi_eT, gLen_eF, gLen_eG, gLen_lst, gLen_tup, dAll_m, dAny_m, all_tt, dInt_b, hS, fAnd, fOr, fNot, ne_bool, gLen, ne_int, zipD, c]
theorem e_law_shown (f : Fn) (h : f.length ≤ 1000) (S : Cs) : sem__law_shown [.d (eF f)] S = .ok (.a (.d (eT f))) S := by
  have hc : compL (gNm 1) fTrue (fIf (fBin dIsN (fVar 1) (fC .none)) (fC (.str "-")) (fCall (on1 dStr) [(fVar 1)])) [some (.d (eF f)), none] (f.map aO) S [] = .ok (ownD (f.map fun a => .str (tS [sgO a]))) S := by
    rw [compL_m aO (fun a => .str (tS [sgO a])) f]
    intro a ha
    refine ⟨_, rfl, ?_⟩
    rcases a with _ | (_ | _) <;> kernel_rfl
  simp only [sem__law_shown, b__law_shown, p_body, p_skip, p_seq, p_set, p_ret, p_retN, p_retV_s, p_retV_0, p_exp, p_if, p_raise, p_app, p_ext, p_setT, p_for, p_cell', nxt_nx, nxt_rt, nxt_exc, fin_nx, fin_rt, fin_exc, set_ok, set_exc, ret_ok, ret_exc, exp_ok, exp_exc, if_tt, if_ff, if_ok, if_exc, for_ok, for_exc, app_s, app_0, app_0o, ext_s, ext_0, cons_nx, cons_exc, setT_ok, cell_ok, pop_nx, pop_rt, unC_nil, unC_n, unC_d, unC_st, no_nil, no_n, no_a, mask_nil, mask_t, mask_f, dom_nil, dom_s, dom_n, start_0, start_s, setW_nil, setW_cons, ev_nil, ev_n, ev_a, ev_o, ev_own, frzE_nil, frzE_cons, frz1_s, frz1_0o, frz1_0a, frz1_0n, sNm_ap, sTp_ap, q_var0, q_varS, q_c, q_bin, bin1_a, bin1_o, bin1_e, bin2_a, bin2_o, bin2_e, q_un, un1_a, un1_o, q_call, call_n, call_c, call1_a, call1_o, call1_e, q_tup, allD_nil, allD_cons, tupE_ap, q_lst, lst_n, lst_c, lst1_ok, q_comp, comp_ok, q_and, and_tt, and_ff, asB_ok, asB_e, and_ok, and_fold, q_or, or_tt, or_ff, or_ok, or_fold, q_not, not_ok, not_e, q_ife, ife_tt, ife_ff, ife_ok, q_seq, q_rng1, q_rng2, q_enum, q_zip, srcS_a, srcS_o, src1_a, src1_o, src2_a, src2_o, of_some, q_sl, sl_nn, sl_n, sl_s, slo_nn, slo_n, slo_s, slLo_n, slLo_s, slHi_ok, slLo_n', slLo_s', slHi_ok', q_sm, sm1_a, sm2_a, sm2_o, on1_ap, onD1_ap, true_ap, gNm_ap, gTp_ap, setD_nil, setD_cons, wipe_nil, wipe_cons, max2_ap, rng1_n, rng1_l, rng1_1, Nat.reduceAdd, Nat.reduceSub, Nat.reduceLeDiff, List.length_cons, List.length_nil, List.length_map, List.length_range, List.replicate, List.set_cons_zero, List.set_cons_succ, List.map_cons, List.map_nil, List.cons_append, List.nil_append, Option.map_some, if_true, Bool.false_eq_true, if_false, Bool.not_true, Bool.not_false, o_add, o_sub, o_shr, o_band, o_lt, o_le, o_gt, o_ge, own0, own1, own2, own3, own4, own5, own6, own7, own8, own9, own10, own11, own12, seqD_lst, seqD_tup, seqD_eF, seqD_eG, i2n, isi_eF, isi_eG, isi_eT, gLen_eF, gLen_eG, gLen_lst, gLen_tup, dAll_m, dAny_m, all_tt, dInt_b, isi_int_none, isi_int_bool, isi_int_int, isi_int_str, isi_int_list, isi_int_tuple, isi_bool_none, isi_bool_bool, isi_bool_int, isi_bool_str, isi_bool_list, isi_bool_tuple, isi_str_none, isi_str_bool, isi_str_int, isi_str_str, isi_str_list, isi_str_tuple, isi_list_none, isi_list_bool, isi_list_int, isi_list_str, isi_list_list, isi_list_tuple, isi_tuple_none, isi_tuple_bool, isi_tuple_int, isi_tuple_str, isi_tuple_list, isi_tuple_tuple, isi2_tl_none, isi2_tl_bool, isi2_tl_int, isi2_tl_str, isi2_tl_list, isi2_tl_tuple, zip2, zipD_map, isi_int_dict, isi_bool_dict, isi_str_dict, isi_list_dict, isi_tuple_dict, isi2_tl_dict, dIsN, dNotN, p_setIx, setIx1_ok, setIx2_s, bin1_w, bin1o_some, toDs_nil, toDs_a, toDs_o, ret_nxt, rngD_map, Int.reduceToNat, p_appV, appV_ok', p_forB, forB_ok, sm1_T, List.getElem?_cons_succ, List.getElem?_cons_zero, q_chain, ch1_a, ch2_a, ch3_tt, ch3_ff, ch4_a, lt_TT, par_ap, par1_ok, par2_ok, srcS_e, src1_e, src2_e, comp_e, un1_e, lst1_e, and_e, or_e, q_sm0, sm01_a, sm01_T, smO_some, app_0w, hc, dJoin0 (fun a => sgO a) f h]
  rfl
theorem rhs5 (k : Nat) (ρ : En) (S : Cs) : fBin (onD dMul) (fLst [(fLst [(fC (.int (k : Nat)))])]) (fC (.int 5)) ρ S = .ok (ownD (List.replicate 5 (.list [.int (k : Nat)]))) S := rfl
theorem eq_r5 (k : Nat) (S : Cs) : onD dEq (.d (.list (List.replicate 5 (.list [.int (k : Nat)])))) (.d (.list (List.replicate 5 (.list [.int (k : Nat)])))) S = .ok (bD true) S := by
  rw [o_eq _ (eqOk_sh (by simp [List.replicate, SeqAt.shaped, PyData.canLay0, PyData.canLayAll0, PyData.depth, PyData.depthAll]) (by simp [List.replicate, SeqAt.shaped, PyData.canLay0, PyData.canLayAll0, PyData.depth, PyData.depthAll]))]
  simp [List.replicate, PyData.eqv, PyData.eqvAll]
theorem refs5_eq {ords : List Str} {ic k : Nat} {ρ : En} {S : Cs} {fs : List Fe} (hl : fs.length = 5) (hi : ic < ρ.length) (h : ∀ f ∈ fs, refR ords (f ρ S) = .ok (ownD [.int (k : Nat)]) S) :
    fBin (onD dEq) (fRefs ords ic fs) (fBin (onD dMul) (fLst [(fLst [(fC (.int (k : Nat)))])]) (fC (.int 5))) ρ S = .ok (bD true) S := by
  show (R.bnd (fRefs ords ic fs ρ S) fun x S1 => R.bnd (fBin (onD dMul) (fLst [(fLst [(fC (.int (k : Nat)))])]) (fC (.int 5)) ρ S1) fun y S2 => onD dEq x y S2) = _
  rw [fRefs_all hi h, R.bnd, toA_rep]
  simp only
  rw [rhs5, bnd_own, hl]
  exact eq_r5 k S
theorem e_law_refusals_right {S : Cs} (h : St S) {f : Fn} {n : Nat} (hf : f.length = 2 ^ n) (n1 : 1 ≤ n) (n4 : n ≤ 4) : ∃ S1 : Cs, sem__law_refusals_right [.c 0, .d (eF f)] S = .ok (bD true) S1 ∧ St S1 := by
  have fgt : ∀ (i : Nat) (g : Fs) (ρ : Ev) (S : Cs), i < ρ.length → sFgt i g ρ S = g (ρ.set i none) S := fun i g ρ S h => if_pos h
  obtain ⟨d, S2, e2, hd, h2⟩ := e_law_bad_function h
  obtain ⟨q, hq, hqf, hql⟩ : ∃ q : Fn, (dIx (.d (.list [.tuple [.int 0, .int 1], .tuple [.int 0, .int 1, .int 1, .int 0]])) (.d (.int (if (2 ^ n : Nat) = 2 then 1 else 0))) S2 = .ok (.a (.d (eF q))) S2) ∧ isFnD (eF q) = true ∧ f.length ≠ q.length := by
    have : n = 1 ∨ n = 2 ∨ n = 3 ∨ n = 4 := by omega
    rcases this with rfl | rfl | rfl | rfl
    · exact ⟨[some false, some true, some true, some false], rfl, by decide, by rw [hf]; decide⟩
    · exact ⟨[some false, some true], rfl, by decide, by rw [hf]; decide⟩
    · exact ⟨[some false, some true], rfl, by decide, by rw [hf]; decide⟩
    · exact ⟨[some false, some true], rfl, by decide, by rw [hf]; decide⟩
  have hfd := isFn_eF hf n1 n4
  have hS := h2.flat
  refine ⟨S2, ?_, h2⟩
  have key : ∀ o0 : Option A, fBin (onD dEq) (fRefs ["NoFunction", "NoTerm", "NoPoint", "NoNumber", "NoText", "NoLine", "NoDeed", "NoForm", "NoChange"] 5 [(fCall sem_change_to [(fVar 2), (fVar 1)]), (fCall sem_change_to [(fVar 1), (fVar 2)]), (fCall sem_change_to [(fVar 1), (fVar 3)]), (fCall sem_own_changes [(fVar 2)]), (fCall sem_least_alike [(fVar 2)])]) (fBin (onD dMul) (fLst [(fLst [(fC (.int 0))])]) (fC (.int 5))) [o0, some (.d (eF f)), some (.d d), some (.d (eF q)), none, none] S2 = .ok (bD true) S2 := by
    intro o0
    refine refs5_eq (k := 0) rfl (by simp) ?_
    intro g hg
    simp only [List.mem_cons, List.not_mem_nil, or_false] at hg
    rcases hg with rfl | rfl | rfl | rfl | rfl
    · simp only [p_body, p_skip, p_seq, p_set, p_ret, p_retN, p_retV_s, p_retV_0, p_exp, p_if, p_raise, p_app, p_ext, p_setT, p_for, p_cell', nxt_nx, nxt_rt, nxt_exc, fin_nx, fin_rt, fin_exc, set_ok, set_exc, ret_ok, ret_exc, exp_ok, exp_exc, if_tt, if_ff, if_ok, if_exc, for_ok, for_exc, app_s, app_0, app_0o, ext_s, ext_0, cons_nx, cons_exc, setT_ok, cell_ok, pop_nx, pop_rt, unC_nil, unC_n, unC_d, unC_st, no_nil, no_n, no_a, mask_nil, mask_t, mask_f, dom_nil, dom_s, dom_n, start_0, start_s, setW_nil, setW_cons, ev_nil, ev_n, ev_a, ev_o, ev_own, frzE_nil, frzE_cons, frz1_s, frz1_0o, frz1_0a, frz1_0n, sNm_ap, sTp_ap, q_var0, q_varS, q_c, q_bin, bin1_a, bin1_o, bin1_e, bin2_a, bin2_o, bin2_e, q_un, un1_a, un1_o, q_call, call_n, call_c, call1_a, call1_o, call1_e, q_tup, allD_nil, allD_cons, tupE_ap, q_lst, lst_n, lst_c, lst1_ok, q_comp, comp_ok, q_and, and_tt, and_ff, asB_ok, asB_e, and_ok, and_fold, q_or, or_tt, or_ff, or_ok, or_fold, q_not, not_ok, not_e, q_ife, ife_tt, ife_ff, ife_ok, q_seq, q_rng1, q_rng2, q_enum, q_zip, srcS_a, srcS_o, src1_a, src1_o, src2_a, src2_o, of_some, q_sl, sl_nn, sl_n, sl_s, slo_nn, slo_n, slo_s, slLo_n, slLo_s, slHi_ok, slLo_n', slLo_s', slHi_ok', q_sm, sm1_a, sm2_a, sm2_o, on1_ap, onD1_ap, true_ap, gNm_ap, gTp_ap, setD_nil, setD_cons, wipe_nil, wipe_cons, max2_ap, rng1_n, rng1_l, rng1_1, Nat.reduceAdd, Nat.reduceSub, Nat.reduceLeDiff, List.length_cons, List.length_nil, List.length_map, List.length_range, List.replicate, List.set_cons_zero, List.set_cons_succ, List.map_cons, List.map_nil, List.cons_append, List.nil_append, Option.map_some, if_true, Bool.false_eq_true, if_false, Bool.not_true, Bool.not_false, o_add, o_sub, o_shr, o_band, o_lt, o_le, o_gt, o_ge, own0, own1, own2, own3, own4, own5, own6, own7, own8, own9, own10, own11, own12, seqD_lst, seqD_tup, seqD_eF, seqD_eG, i2n, isi_eF, isi_eG, isi_eT, gLen_eF, gLen_eG, gLen_lst, gLen_tup, dAll_m, dAny_m, all_tt, dInt_b, isi_int_none, isi_int_bool, isi_int_int, isi_int_str, isi_int_list, isi_int_tuple, isi_bool_none, isi_bool_bool, isi_bool_int, isi_bool_str, isi_bool_list, isi_bool_tuple, isi_str_none, isi_str_bool, isi_str_int, isi_str_str, isi_str_list, isi_str_tuple, isi_list_none, isi_list_bool, isi_list_int, isi_list_str, isi_list_list, isi_list_tuple, isi_tuple_none, isi_tuple_bool, isi_tuple_int, isi_tuple_str, isi_tuple_list, isi_tuple_tuple, isi2_tl_none, isi2_tl_bool, isi2_tl_int, isi2_tl_str, isi2_tl_list, isi2_tl_tuple, zip2, zipD_map, isi_int_dict, isi_bool_dict, isi_str_dict, isi_list_dict, isi_tuple_dict, isi2_tl_dict, dIsN, dNotN, p_setIx, setIx1_ok, setIx2_s, bin1_w, bin1o_some, toDs_nil, toDs_a, toDs_o, ret_nxt, rngD_map, Int.reduceToNat, p_appV, appV_ok', p_forB, forB_ok, sm1_T, List.getElem?_cons_succ, List.getElem?_cons_zero, q_chain, ch1_a, ch2_a, ch3_tt, ch3_ff, ch4_a, lt_TT, par_ap, par1_ok, par2_ok, srcS_e, src1_e, src2_e, comp_e, un1_e, lst1_e, and_e, or_e, q_sm0, sm01_a, sm01_T, smO_some, app_0w, e_change_to0 hd S2 hS, rB0 hS]; rfl
    · simp only [p_body, p_skip, p_seq, p_set, p_ret, p_retN, p_retV_s, p_retV_0, p_exp, p_if, p_raise, p_app, p_ext, p_setT, p_for, p_cell', nxt_nx, nxt_rt, nxt_exc, fin_nx, fin_rt, fin_exc, set_ok, set_exc, ret_ok, ret_exc, exp_ok, exp_exc, if_tt, if_ff, if_ok, if_exc, for_ok, for_exc, app_s, app_0, app_0o, ext_s, ext_0, cons_nx, cons_exc, setT_ok, cell_ok, pop_nx, pop_rt, unC_nil, unC_n, unC_d, unC_st, no_nil, no_n, no_a, mask_nil, mask_t, mask_f, dom_nil, dom_s, dom_n, start_0, start_s, setW_nil, setW_cons, ev_nil, ev_n, ev_a, ev_o, ev_own, frzE_nil, frzE_cons, frz1_s, frz1_0o, frz1_0a, frz1_0n, sNm_ap, sTp_ap, q_var0, q_varS, q_c, q_bin, bin1_a, bin1_o, bin1_e, bin2_a, bin2_o, bin2_e, q_un, un1_a, un1_o, q_call, call_n, call_c, call1_a, call1_o, call1_e, q_tup, allD_nil, allD_cons, tupE_ap, q_lst, lst_n, lst_c, lst1_ok, q_comp, comp_ok, q_and, and_tt, and_ff, asB_ok, asB_e, and_ok, and_fold, q_or, or_tt, or_ff, or_ok, or_fold, q_not, not_ok, not_e, q_ife, ife_tt, ife_ff, ife_ok, q_seq, q_rng1, q_rng2, q_enum, q_zip, srcS_a, srcS_o, src1_a, src1_o, src2_a, src2_o, of_some, q_sl, sl_nn, sl_n, sl_s, slo_nn, slo_n, slo_s, slLo_n, slLo_s, slHi_ok, slLo_n', slLo_s', slHi_ok', q_sm, sm1_a, sm2_a, sm2_o, on1_ap, onD1_ap, true_ap, gNm_ap, gTp_ap, setD_nil, setD_cons, wipe_nil, wipe_cons, max2_ap, rng1_n, rng1_l, rng1_1, Nat.reduceAdd, Nat.reduceSub, Nat.reduceLeDiff, List.length_cons, List.length_nil, List.length_map, List.length_range, List.replicate, List.set_cons_zero, List.set_cons_succ, List.map_cons, List.map_nil, List.cons_append, List.nil_append, Option.map_some, if_true, Bool.false_eq_true, if_false, Bool.not_true, Bool.not_false, o_add, o_sub, o_shr, o_band, o_lt, o_le, o_gt, o_ge, own0, own1, own2, own3, own4, own5, own6, own7, own8, own9, own10, own11, own12, seqD_lst, seqD_tup, seqD_eF, seqD_eG, i2n, isi_eF, isi_eG, isi_eT, gLen_eF, gLen_eG, gLen_lst, gLen_tup, dAll_m, dAny_m, all_tt, dInt_b, isi_int_none, isi_int_bool, isi_int_int, isi_int_str, isi_int_list, isi_int_tuple, isi_bool_none, isi_bool_bool, isi_bool_int, isi_bool_str, isi_bool_list, isi_bool_tuple, isi_str_none, isi_str_bool, isi_str_int, isi_str_str, isi_str_list, isi_str_tuple, isi_list_none, isi_list_bool, isi_list_int, isi_list_str, isi_list_list, isi_list_tuple, isi_tuple_none, isi_tuple_bool, isi_tuple_int, isi_tuple_str, isi_tuple_list, isi_tuple_tuple, isi2_tl_none, isi2_tl_bool, isi2_tl_int, isi2_tl_str, isi2_tl_list, isi2_tl_tuple, zip2, zipD_map, isi_int_dict, isi_bool_dict, isi_str_dict, isi_list_dict, isi_tuple_dict, isi2_tl_dict, dIsN, dNotN, p_setIx, setIx1_ok, setIx2_s, bin1_w, bin1o_some, toDs_nil, toDs_a, toDs_o, ret_nxt, rngD_map, Int.reduceToNat, p_appV, appV_ok', p_forB, forB_ok, sm1_T, List.getElem?_cons_succ, List.getElem?_cons_zero, q_chain, ch1_a, ch2_a, ch3_tt, ch3_ff, ch4_a, lt_TT, par_ap, par1_ok, par2_ok, srcS_e, src1_e, src2_e, comp_e, un1_e, lst1_e, and_e, or_e, q_sm0, sm01_a, sm01_T, smO_some, app_0w, e_change_to1 hfd hd S2 hS, rB0 hS]; rfl
    · simp only [p_body, p_skip, p_seq, p_set, p_ret, p_retN, p_retV_s, p_retV_0, p_exp, p_if, p_raise, p_app, p_ext, p_setT, p_for, p_cell', nxt_nx, nxt_rt, nxt_exc, fin_nx, fin_rt, fin_exc, set_ok, set_exc, ret_ok, ret_exc, exp_ok, exp_exc, if_tt, if_ff, if_ok, if_exc, for_ok, for_exc, app_s, app_0, app_0o, ext_s, ext_0, cons_nx, cons_exc, setT_ok, cell_ok, pop_nx, pop_rt, unC_nil, unC_n, unC_d, unC_st, no_nil, no_n, no_a, mask_nil, mask_t, mask_f, dom_nil, dom_s, dom_n, start_0, start_s, setW_nil, setW_cons, ev_nil, ev_n, ev_a, ev_o, ev_own, frzE_nil, frzE_cons, frz1_s, frz1_0o, frz1_0a, frz1_0n, sNm_ap, sTp_ap, q_var0, q_varS, q_c, q_bin, bin1_a, bin1_o, bin1_e, bin2_a, bin2_o, bin2_e, q_un, un1_a, un1_o, q_call, call_n, call_c, call1_a, call1_o, call1_e, q_tup, allD_nil, allD_cons, tupE_ap, q_lst, lst_n, lst_c, lst1_ok, q_comp, comp_ok, q_and, and_tt, and_ff, asB_ok, asB_e, and_ok, and_fold, q_or, or_tt, or_ff, or_ok, or_fold, q_not, not_ok, not_e, q_ife, ife_tt, ife_ff, ife_ok, q_seq, q_rng1, q_rng2, q_enum, q_zip, srcS_a, srcS_o, src1_a, src1_o, src2_a, src2_o, of_some, q_sl, sl_nn, sl_n, sl_s, slo_nn, slo_n, slo_s, slLo_n, slLo_s, slHi_ok, slLo_n', slLo_s', slHi_ok', q_sm, sm1_a, sm2_a, sm2_o, on1_ap, onD1_ap, true_ap, gNm_ap, gTp_ap, setD_nil, setD_cons, wipe_nil, wipe_cons, max2_ap, rng1_n, rng1_l, rng1_1, Nat.reduceAdd, Nat.reduceSub, Nat.reduceLeDiff, List.length_cons, List.length_nil, List.length_map, List.length_range, List.replicate, List.set_cons_zero, List.set_cons_succ, List.map_cons, List.map_nil, List.cons_append, List.nil_append, Option.map_some, if_true, Bool.false_eq_true, if_false, Bool.not_true, Bool.not_false, o_add, o_sub, o_shr, o_band, o_lt, o_le, o_gt, o_ge, own0, own1, own2, own3, own4, own5, own6, own7, own8, own9, own10, own11, own12, seqD_lst, seqD_tup, seqD_eF, seqD_eG, i2n, isi_eF, isi_eG, isi_eT, gLen_eF, gLen_eG, gLen_lst, gLen_tup, dAll_m, dAny_m, all_tt, dInt_b, isi_int_none, isi_int_bool, isi_int_int, isi_int_str, isi_int_list, isi_int_tuple, isi_bool_none, isi_bool_bool, isi_bool_int, isi_bool_str, isi_bool_list, isi_bool_tuple, isi_str_none, isi_str_bool, isi_str_int, isi_str_str, isi_str_list, isi_str_tuple, isi_list_none, isi_list_bool, isi_list_int, isi_list_str, isi_list_list, isi_list_tuple, isi_tuple_none, isi_tuple_bool, isi_tuple_int, isi_tuple_str, isi_tuple_list, isi_tuple_tuple, isi2_tl_none, isi2_tl_bool, isi2_tl_int, isi2_tl_str, isi2_tl_list, isi2_tl_tuple, zip2, zipD_map, isi_int_dict, isi_bool_dict, isi_str_dict, isi_list_dict, isi_tuple_dict, isi2_tl_dict, dIsN, dNotN, p_setIx, setIx1_ok, setIx2_s, bin1_w, bin1o_some, toDs_nil, toDs_a, toDs_o, ret_nxt, rngD_map, Int.reduceToNat, p_appV, appV_ok', p_forB, forB_ok, sm1_T, List.getElem?_cons_succ, List.getElem?_cons_zero, q_chain, ch1_a, ch2_a, ch3_tt, ch3_ff, ch4_a, lt_TT, par_ap, par1_ok, par2_ok, srcS_e, src1_e, src2_e, comp_e, un1_e, lst1_e, and_e, or_e, q_sm0, sm01_a, sm01_T, smO_some, app_0w, e_change_to2 hfd hqf hql S2 hS, rB0 hS]; rfl
    · simp only [p_body, p_skip, p_seq, p_set, p_ret, p_retN, p_retV_s, p_retV_0, p_exp, p_if, p_raise, p_app, p_ext, p_setT, p_for, p_cell', nxt_nx, nxt_rt, nxt_exc, fin_nx, fin_rt, fin_exc, set_ok, set_exc, ret_ok, ret_exc, exp_ok, exp_exc, if_tt, if_ff, if_ok, if_exc, for_ok, for_exc, app_s, app_0, app_0o, ext_s, ext_0, cons_nx, cons_exc, setT_ok, cell_ok, pop_nx, pop_rt, unC_nil, unC_n, unC_d, unC_st, no_nil, no_n, no_a, mask_nil, mask_t, mask_f, dom_nil, dom_s, dom_n, start_0, start_s, setW_nil, setW_cons, ev_nil, ev_n, ev_a, ev_o, ev_own, frzE_nil, frzE_cons, frz1_s, frz1_0o, frz1_0a, frz1_0n, sNm_ap, sTp_ap, q_var0, q_varS, q_c, q_bin, bin1_a, bin1_o, bin1_e, bin2_a, bin2_o, bin2_e, q_un, un1_a, un1_o, q_call, call_n, call_c, call1_a, call1_o, call1_e, q_tup, allD_nil, allD_cons, tupE_ap, q_lst, lst_n, lst_c, lst1_ok, q_comp, comp_ok, q_and, and_tt, and_ff, asB_ok, asB_e, and_ok, and_fold, q_or, or_tt, or_ff, or_ok, or_fold, q_not, not_ok, not_e, q_ife, ife_tt, ife_ff, ife_ok, q_seq, q_rng1, q_rng2, q_enum, q_zip, srcS_a, srcS_o, src1_a, src1_o, src2_a, src2_o, of_some, q_sl, sl_nn, sl_n, sl_s, slo_nn, slo_n, slo_s, slLo_n, slLo_s, slHi_ok, slLo_n', slLo_s', slHi_ok', q_sm, sm1_a, sm2_a, sm2_o, on1_ap, onD1_ap, true_ap, gNm_ap, gTp_ap, setD_nil, setD_cons, wipe_nil, wipe_cons, max2_ap, rng1_n, rng1_l, rng1_1, Nat.reduceAdd, Nat.reduceSub, Nat.reduceLeDiff, List.length_cons, List.length_nil, List.length_map, List.length_range, List.replicate, List.set_cons_zero, List.set_cons_succ, List.map_cons, List.map_nil, List.cons_append, List.nil_append, Option.map_some, if_true, Bool.false_eq_true, if_false, Bool.not_true, Bool.not_false, o_add, o_sub, o_shr, o_band, o_lt, o_le, o_gt, o_ge, own0, own1, own2, own3, own4, own5, own6, own7, own8, own9, own10, own11, own12, seqD_lst, seqD_tup, seqD_eF, seqD_eG, i2n, isi_eF, isi_eG, isi_eT, gLen_eF, gLen_eG, gLen_lst, gLen_tup, dAll_m, dAny_m, all_tt, dInt_b, isi_int_none, isi_int_bool, isi_int_int, isi_int_str, isi_int_list, isi_int_tuple, isi_bool_none, isi_bool_bool, isi_bool_int, isi_bool_str, isi_bool_list, isi_bool_tuple, isi_str_none, isi_str_bool, isi_str_int, isi_str_str, isi_str_list, isi_str_tuple, isi_list_none, isi_list_bool, isi_list_int, isi_list_str, isi_list_list, isi_list_tuple, isi_tuple_none, isi_tuple_bool, isi_tuple_int, isi_tuple_str, isi_tuple_list, isi_tuple_tuple, isi2_tl_none, isi2_tl_bool, isi2_tl_int, isi2_tl_str, isi2_tl_list, isi2_tl_tuple, zip2, zipD_map, isi_int_dict, isi_bool_dict, isi_str_dict, isi_list_dict, isi_tuple_dict, isi2_tl_dict, dIsN, dNotN, p_setIx, setIx1_ok, setIx2_s, bin1_w, bin1o_some, toDs_nil, toDs_a, toDs_o, ret_nxt, rngD_map, Int.reduceToNat, p_appV, appV_ok', p_forB, forB_ok, sm1_T, List.getElem?_cons_succ, List.getElem?_cons_zero, q_chain, ch1_a, ch2_a, ch3_tt, ch3_ff, ch4_a, lt_TT, par_ap, par1_ok, par2_ok, srcS_e, src1_e, src2_e, comp_e, un1_e, lst1_e, and_e, or_e, q_sm0, sm01_a, sm01_T, smO_some, app_0w, e_own_changes0 hd S2 hS, rB0 hS]; rfl
    · simp only [p_body, p_skip, p_seq, p_set, p_ret, p_retN, p_retV_s, p_retV_0, p_exp, p_if, p_raise, p_app, p_ext, p_setT, p_for, p_cell', nxt_nx, nxt_rt, nxt_exc, fin_nx, fin_rt, fin_exc, set_ok, set_exc, ret_ok, ret_exc, exp_ok, exp_exc, if_tt, if_ff, if_ok, if_exc, for_ok, for_exc, app_s, app_0, app_0o, ext_s, ext_0, cons_nx, cons_exc, setT_ok, cell_ok, pop_nx, pop_rt, unC_nil, unC_n, unC_d, unC_st, no_nil, no_n, no_a, mask_nil, mask_t, mask_f, dom_nil, dom_s, dom_n, start_0, start_s, setW_nil, setW_cons, ev_nil, ev_n, ev_a, ev_o, ev_own, frzE_nil, frzE_cons, frz1_s, frz1_0o, frz1_0a, frz1_0n, sNm_ap, sTp_ap, q_var0, q_varS, q_c, q_bin, bin1_a, bin1_o, bin1_e, bin2_a, bin2_o, bin2_e, q_un, un1_a, un1_o, q_call, call_n, call_c, call1_a, call1_o, call1_e, q_tup, allD_nil, allD_cons, tupE_ap, q_lst, lst_n, lst_c, lst1_ok, q_comp, comp_ok, q_and, and_tt, and_ff, asB_ok, asB_e, and_ok, and_fold, q_or, or_tt, or_ff, or_ok, or_fold, q_not, not_ok, not_e, q_ife, ife_tt, ife_ff, ife_ok, q_seq, q_rng1, q_rng2, q_enum, q_zip, srcS_a, srcS_o, src1_a, src1_o, src2_a, src2_o, of_some, q_sl, sl_nn, sl_n, sl_s, slo_nn, slo_n, slo_s, slLo_n, slLo_s, slHi_ok, slLo_n', slLo_s', slHi_ok', q_sm, sm1_a, sm2_a, sm2_o, on1_ap, onD1_ap, true_ap, gNm_ap, gTp_ap, setD_nil, setD_cons, wipe_nil, wipe_cons, max2_ap, rng1_n, rng1_l, rng1_1, Nat.reduceAdd, Nat.reduceSub, Nat.reduceLeDiff, List.length_cons, List.length_nil, List.length_map, List.length_range, List.replicate, List.set_cons_zero, List.set_cons_succ, List.map_cons, List.map_nil, List.cons_append, List.nil_append, Option.map_some, if_true, Bool.false_eq_true, if_false, Bool.not_true, Bool.not_false, o_add, o_sub, o_shr, o_band, o_lt, o_le, o_gt, o_ge, own0, own1, own2, own3, own4, own5, own6, own7, own8, own9, own10, own11, own12, seqD_lst, seqD_tup, seqD_eF, seqD_eG, i2n, isi_eF, isi_eG, isi_eT, gLen_eF, gLen_eG, gLen_lst, gLen_tup, dAll_m, dAny_m, all_tt, dInt_b, isi_int_none, isi_int_bool, isi_int_int, isi_int_str, isi_int_list, isi_int_tuple, isi_bool_none, isi_bool_bool, isi_bool_int, isi_bool_str, isi_bool_list, isi_bool_tuple, isi_str_none, isi_str_bool, isi_str_int, isi_str_str, isi_str_list, isi_str_tuple, isi_list_none, isi_list_bool, isi_list_int, isi_list_str, isi_list_list, isi_list_tuple, isi_tuple_none, isi_tuple_bool, isi_tuple_int, isi_tuple_str, isi_tuple_list, isi_tuple_tuple, isi2_tl_none, isi2_tl_bool, isi2_tl_int, isi2_tl_str, isi2_tl_list, isi2_tl_tuple, zip2, zipD_map, isi_int_dict, isi_bool_dict, isi_str_dict, isi_list_dict, isi_tuple_dict, isi2_tl_dict, dIsN, dNotN, p_setIx, setIx1_ok, setIx2_s, bin1_w, bin1o_some, toDs_nil, toDs_a, toDs_o, ret_nxt, rngD_map, Int.reduceToNat, p_appV, appV_ok', p_forB, forB_ok, sm1_T, List.getElem?_cons_succ, List.getElem?_cons_zero, q_chain, ch1_a, ch2_a, ch3_tt, ch3_ff, ch4_a, lt_TT, par_ap, par1_ok, par2_ok, srcS_e, src1_e, src2_e, comp_e, un1_e, lst1_e, and_e, or_e, q_sm0, sm01_a, sm01_T, smO_some, app_0w, e_least_alike0 hd S2 hS, rB0 hS]; rfl
  have he : onD dEq (.d (.int ((f.length : Nat) : Int))) (.d (.int 2)) S2 = .ok (bD (decide (2 ^ n = 2))) S2 := by
    rw [hf]
    have : n = 1 ∨ n = 2 ∨ n = 3 ∨ n = 4 := by omega
    rcases this with rfl | rfl | rfl | rfl <;> rfl
  have hi : dInt (.bool (decide (2 ^ n = 2))) = some (.a (.d (.int (if (2 ^ n : Nat) = 2 then 1 else 0)))) := by
    by_cases h : 2 ^ n = 2
    · rw [decide_eq_true h, if_pos h]; rfl
    · rw [decide_eq_false h, if_neg h]; rfl
  simp only [q_bin] at key
  simp only [sem__law_refusals_right, b__law_refusals_right, p_body, p_skip, p_seq, p_set, p_ret, p_retN, p_retV_s, p_retV_0, p_exp, p_if, p_raise, p_app, p_ext, p_setT, p_for, p_cell', nxt_nx, nxt_rt, nxt_exc, fin_nx, fin_rt, fin_exc, set_ok, set_exc, ret_ok, ret_exc, exp_ok, exp_exc, if_tt, if_ff, if_ok, if_exc, for_ok, for_exc, app_s, app_0, app_0o, ext_s, ext_0, cons_nx, cons_exc, setT_ok, cell_ok, pop_nx, pop_rt, unC_nil, unC_n, unC_d, unC_st, no_nil, no_n, no_a, mask_nil, mask_t, mask_f, dom_nil, dom_s, dom_n, start_0, start_s, setW_nil, setW_cons, ev_nil, ev_n, ev_a, ev_o, ev_own, frzE_nil, frzE_cons, frz1_s, frz1_0o, frz1_0a, frz1_0n, sNm_ap, sTp_ap, q_var0, q_varS, q_c, q_bin, bin1_a, bin1_o, bin1_e, bin2_a, bin2_o, bin2_e, q_un, un1_a, un1_o, q_call, call_n, call_c, call1_a, call1_o, call1_e, q_tup, allD_nil, allD_cons, tupE_ap, q_lst, lst_n, lst_c, lst1_ok, q_comp, comp_ok, q_and, and_tt, and_ff, asB_ok, asB_e, and_ok, and_fold, q_or, or_tt, or_ff, or_ok, or_fold, q_not, not_ok, not_e, q_ife, ife_tt, ife_ff, ife_ok, q_seq, q_rng1, q_rng2, q_enum, q_zip, srcS_a, srcS_o, src1_a, src1_o, src2_a, src2_o, of_some, q_sl, sl_nn, sl_n, sl_s, slo_nn, slo_n, slo_s, slLo_n, slLo_s, slHi_ok, slLo_n', slLo_s', slHi_ok', q_sm, sm1_a, sm2_a, sm2_o, on1_ap, onD1_ap, true_ap, gNm_ap, gTp_ap, setD_nil, setD_cons, wipe_nil, wipe_cons, max2_ap, rng1_n, rng1_l, rng1_1, Nat.reduceAdd, Nat.reduceSub, Nat.reduceLeDiff, List.length_cons, List.length_nil, List.length_map, List.length_range, List.replicate, List.set_cons_zero, List.set_cons_succ, List.map_cons, List.map_nil, List.cons_append, List.nil_append, Option.map_some, if_true, Bool.false_eq_true, if_false, Bool.not_true, Bool.not_false, o_add, o_sub, o_shr, o_band, o_lt, o_le, o_gt, o_ge, own0, own1, own2, own3, own4, own5, own6, own7, own8, own9, own10, own11, own12, seqD_lst, seqD_tup, seqD_eF, seqD_eG, i2n, isi_eF, isi_eG, isi_eT, gLen_eF, gLen_eG, gLen_lst, gLen_tup, dAll_m, dAny_m, all_tt, dInt_b, isi_int_none, isi_int_bool, isi_int_int, isi_int_str, isi_int_list, isi_int_tuple, isi_bool_none, isi_bool_bool, isi_bool_int, isi_bool_str, isi_bool_list, isi_bool_tuple, isi_str_none, isi_str_bool, isi_str_int, isi_str_str, isi_str_list, isi_str_tuple, isi_list_none, isi_list_bool, isi_list_int, isi_list_str, isi_list_list, isi_list_tuple, isi_tuple_none, isi_tuple_bool, isi_tuple_int, isi_tuple_str, isi_tuple_list, isi_tuple_tuple, isi2_tl_none, isi2_tl_bool, isi2_tl_int, isi2_tl_str, isi2_tl_list, isi2_tl_tuple, zip2, zipD_map, isi_int_dict, isi_bool_dict, isi_str_dict, isi_list_dict, isi_tuple_dict, isi2_tl_dict, dIsN, dNotN, p_setIx, setIx1_ok, setIx2_s, bin1_w, bin1o_some, toDs_nil, toDs_a, toDs_o, ret_nxt, rngD_map, Int.reduceToNat, p_appV, appV_ok', p_forB, forB_ok, sm1_T, List.getElem?_cons_succ, List.getElem?_cons_zero, q_chain, ch1_a, ch2_a, ch3_tt, ch3_ff, ch4_a, lt_TT, par_ap, par1_ok, par2_ok, srcS_e, src1_e, src2_e, comp_e, un1_e, lst1_e, and_e, or_e, q_sm0, sm01_a, sm01_T, smO_some, app_0w, e2, he, hi, hq]
  rw [fgt 4 _ _ _ (by simp)]
  simp only [p_body, p_skip, p_seq, p_set, p_ret, p_retN, p_retV_s, p_retV_0, p_exp, p_if, p_raise, p_app, p_ext, p_setT, p_for, p_cell', nxt_nx, nxt_rt, nxt_exc, fin_nx, fin_rt, fin_exc, set_ok, set_exc, ret_ok, ret_exc, exp_ok, exp_exc, if_tt, if_ff, if_ok, if_exc, for_ok, for_exc, app_s, app_0, app_0o, ext_s, ext_0, cons_nx, cons_exc, setT_ok, cell_ok, pop_nx, pop_rt, unC_nil, unC_n, unC_d, unC_st, no_nil, no_n, no_a, mask_nil, mask_t, mask_f, dom_nil, dom_s, dom_n, start_0, start_s, setW_nil, setW_cons, ev_nil, ev_n, ev_a, ev_o, ev_own, frzE_nil, frzE_cons, frz1_s, frz1_0o, frz1_0a, frz1_0n, sNm_ap, sTp_ap, q_var0, q_varS, q_c, q_bin, bin1_a, bin1_o, bin1_e, bin2_a, bin2_o, bin2_e, q_un, un1_a, un1_o, q_call, call_n, call_c, call1_a, call1_o, call1_e, q_tup, allD_nil, allD_cons, tupE_ap, q_lst, lst_n, lst_c, lst1_ok, q_comp, comp_ok, q_and, and_tt, and_ff, asB_ok, asB_e, and_ok, and_fold, q_or, or_tt, or_ff, or_ok, or_fold, q_not, not_ok, not_e, q_ife, ife_tt, ife_ff, ife_ok, q_seq, q_rng1, q_rng2, q_enum, q_zip, srcS_a, srcS_o, src1_a, src1_o, src2_a, src2_o, of_some, q_sl, sl_nn, sl_n, sl_s, slo_nn, slo_n, slo_s, slLo_n, slLo_s, slHi_ok, slLo_n', slLo_s', slHi_ok', q_sm, sm1_a, sm2_a, sm2_o, on1_ap, onD1_ap, true_ap, gNm_ap, gTp_ap, setD_nil, setD_cons, wipe_nil, wipe_cons, max2_ap, rng1_n, rng1_l, rng1_1, Nat.reduceAdd, Nat.reduceSub, Nat.reduceLeDiff, List.length_cons, List.length_nil, List.length_map, List.length_range, List.replicate, List.set_cons_zero, List.set_cons_succ, List.map_cons, List.map_nil, List.cons_append, List.nil_append, Option.map_some, if_true, Bool.false_eq_true, if_false, Bool.not_true, Bool.not_false, o_add, o_sub, o_shr, o_band, o_lt, o_le, o_gt, o_ge, own0, own1, own2, own3, own4, own5, own6, own7, own8, own9, own10, own11, own12, seqD_lst, seqD_tup, seqD_eF, seqD_eG, i2n, isi_eF, isi_eG, isi_eT, gLen_eF, gLen_eG, gLen_lst, gLen_tup, dAll_m, dAny_m, all_tt, dInt_b, isi_int_none, isi_int_bool, isi_int_int, isi_int_str, isi_int_list, isi_int_tuple, isi_bool_none, isi_bool_bool, isi_bool_int, isi_bool_str, isi_bool_list, isi_bool_tuple, isi_str_none, isi_str_bool, isi_str_int, isi_str_str, isi_str_list, isi_str_tuple, isi_list_none, isi_list_bool, isi_list_int, isi_list_str, isi_list_list, isi_list_tuple, isi_tuple_none, isi_tuple_bool, isi_tuple_int, isi_tuple_str, isi_tuple_list, isi_tuple_tuple, isi2_tl_none, isi2_tl_bool, isi2_tl_int, isi2_tl_str, isi2_tl_list, isi2_tl_tuple, zip2, zipD_map, isi_int_dict, isi_bool_dict, isi_str_dict, isi_list_dict, isi_tuple_dict, isi2_tl_dict, dIsN, dNotN, p_setIx, setIx1_ok, setIx2_s, bin1_w, bin1o_some, toDs_nil, toDs_a, toDs_o, ret_nxt, rngD_map, Int.reduceToNat, p_appV, appV_ok', p_forB, forB_ok, sm1_T, List.getElem?_cons_succ, List.getElem?_cons_zero, q_chain, ch1_a, ch2_a, ch3_tt, ch3_ff, ch4_a, lt_TT, par_ap, par1_ok, par2_ok, srcS_e, src1_e, src2_e, comp_e, un1_e, lst1_e, and_e, or_e, q_sm0, sm01_a, sm01_T, smO_some, app_0w, key]
theorem comp_pick {n : Nat} {f g : Fn} {fa : Fe} {ρ : En} {S : Cs} (hg : ∀ d : D, ∃ ρ1, gNm 12 d ρ = some ρ1 ∧ fVar 5 ρ1 S = .ok (.a (.d (.list ((chsM n).map eC)))) S ∧ fVar 6 ρ1 S = .ok (.a (.d (.list ((ledL n f).map eF)))) S ∧ fVar 12 ρ1 S = .ok (.a (.d d)) S ∧ fa ρ1 S = .ok (.a (.d (eF g))) S) :
    compL (gNm 12) (fBin (onD dEq) (fBin dIx (fVar 6) (fVar 12)) fa) (fBin dIx (fVar 5) (fVar 12)) ρ ((List.range (ledL n f).length).map fun (i : Nat) => PyData.int (i : Int)) S [] = .ok (ownD ((toM n f g).map eC)) S := by
  have hlen : (ledL n f).length = (chsM n).length := by unfold ledL; rw [List.length_map]
  rw [hlen]
  have at1 : ∀ i c, (chsM n)[i]? = some c → (ledL n f)[i]? = some (cgF n c f) := fun i c e => by
    unfold ledL
    rw [List.getElem?_map, e]
    rfl
  rw [compL_f (fun (i : Nat) => PyData.int (i : Int)) (fun i => ((ledL n f).getD i []) == g) (fun i => eC ((chsM n).getD i ⟨[], [], false⟩)) (List.range (chsM n).length)]
  · congr 2
    refine pick_at0 (c := fun c => cgF n c f == g) fun i c e => ⟨?_, ?_⟩
    · rw [List.getD_eq_getElem?_getD, e]
      rfl
    · show ((ledL n f).getD i [] == g) = _
      rw [List.getD_eq_getElem?_getD, at1 i c e]
      rfl
  · intro i hi
    obtain ⟨c, hc⟩ : ∃ c, (chsM n)[i]? = some c := ⟨_, List.getElem?_eq_getElem (List.mem_range.mp hi)⟩
    obtain ⟨ρ1, h1, h2, h3, h4, h5⟩ := hg (.int (i : Nat))
    refine ⟨ρ1, h1, ?_, fun _ => ?_⟩
    · simp only [q_bin, h3, h4, h5, bin1_a, bin2_a, o_ix_lst eF (at1 i c hc), eq_eF]
      rw [List.getD_eq_getElem?_getD, at1 i c hc]
      rfl
    · simp only [q_bin, h2, h4, bin1_a, bin2_a, o_ix_lst eC hc]
      rw [List.getD_eq_getElem?_getD, hc]
      rfl
theorem e_law (ns : List Int) : ∃ S, sem_law [.s ns] [] = .ok (bD true) S := by
  obtain ⟨n0, hn0, hb0⟩ := maxmin ns.length 3
  have hn0 : (if (if (3 : Int) < (ns.length : Int) then (3 : Int) else (ns.length : Int)) > 1 then (if (3 : Int) < (ns.length : Int) then (3 : Int) else (ns.length : Int)) else 1) = (n0 : Int) := hn0
  refine law_of ?_
  simp only [sem_law, b_law, p_body, p_skip, p_seq, p_set, p_ret, p_retN, p_retV_s, p_retV_0, p_exp, p_if, p_raise, p_app, p_ext, p_setT, p_for, p_cell', nxt_nx, nxt_rt, nxt_exc, fin_nx, fin_rt, fin_exc, set_ok, set_exc, ret_ok, ret_exc, exp_ok, exp_exc, if_tt, if_ff, if_ok, if_exc, for_ok, for_exc, app_s, app_0, app_0o, ext_s, ext_0, cons_nx, cons_exc, setT_ok, cell_ok, pop_nx, pop_rt, unC_nil, unC_n, unC_d, unC_st, no_nil, no_n, no_a, mask_nil, mask_t, mask_f, dom_nil, dom_s, dom_n, start_0, start_s, setW_nil, setW_cons, ev_nil, ev_n, ev_a, ev_o, ev_own, frzE_nil, frzE_cons, frz1_s, frz1_0o, frz1_0a, frz1_0n, sNm_ap, sTp_ap, q_var0, q_varS, q_c, q_bin, bin1_a, bin1_o, bin1_e, bin2_a, bin2_o, bin2_e, q_un, un1_a, un1_o, q_call, call_n, call_c, call1_a, call1_o, call1_e, q_tup, allD_nil, allD_cons, tupE_ap, q_lst, lst_n, lst_c, lst1_ok, q_comp, comp_ok, q_and, and_tt, and_ff, asB_ok, asB_e, and_ok, and_fold, q_or, or_tt, or_ff, or_ok, or_fold, q_not, not_ok, not_e, q_ife, ife_tt, ife_ff, ife_ok, q_seq, q_rng1, q_rng2, q_enum, q_zip, srcS_a, srcS_o, src1_a, src1_o, src2_a, src2_o, of_some, q_sl, sl_nn, sl_n, sl_s, slo_nn, slo_n, slo_s, slLo_n, slLo_s, slHi_ok, slLo_n', slLo_s', slHi_ok', q_sm, sm1_a, sm2_a, sm2_o, on1_ap, onD1_ap, true_ap, gNm_ap, gTp_ap, setD_nil, setD_cons, wipe_nil, wipe_cons, max2_ap, rng1_n, rng1_l, rng1_1, Nat.reduceAdd, Nat.reduceSub, Nat.reduceLeDiff, List.length_cons, List.length_nil, List.length_map, List.length_range, List.replicate, List.set_cons_zero, List.set_cons_succ, List.map_cons, List.map_nil, List.cons_append, List.nil_append, Option.map_some, if_true, Bool.false_eq_true, if_false, Bool.not_true, Bool.not_false, o_add, o_sub, o_shr, o_band, o_lt, o_le, o_gt, o_ge, own0, own1, own2, own3, own4, own5, own6, own7, own8, own9, own10, own11, own12, seqD_lst, seqD_tup, seqD_eF, seqD_eG, i2n, isi_eF, isi_eG, isi_eT, gLen_eF, gLen_eG, gLen_lst, gLen_tup, dAll_m, dAny_m, all_tt, dInt_b, isi_int_none, isi_int_bool, isi_int_int, isi_int_str, isi_int_list, isi_int_tuple, isi_bool_none, isi_bool_bool, isi_bool_int, isi_bool_str, isi_bool_list, isi_bool_tuple, isi_str_none, isi_str_bool, isi_str_int, isi_str_str, isi_str_list, isi_str_tuple, isi_list_none, isi_list_bool, isi_list_int, isi_list_str, isi_list_list, isi_list_tuple, isi_tuple_none, isi_tuple_bool, isi_tuple_int, isi_tuple_str, isi_tuple_list, isi_tuple_tuple, isi2_tl_none, isi2_tl_bool, isi2_tl_int, isi2_tl_str, isi2_tl_list, isi2_tl_tuple, zip2, zipD_map, isi_int_dict, isi_bool_dict, isi_str_dict, isi_list_dict, isi_tuple_dict, isi2_tl_dict, dIsN, dNotN, p_setIx, setIx1_ok, setIx2_s, bin1_w, bin1o_some, toDs_nil, toDs_a, toDs_o, ret_nxt, rngD_map, Int.reduceToNat, p_appV, appV_ok', p_forB, forB_ok, sm1_T, List.getElem?_cons_succ, List.getElem?_cons_zero, q_chain, ch1_a, ch2_a, ch3_tt, ch3_ff, ch4_a, lt_TT, par_ap, par1_ok, par2_ok, srcS_e, src1_e, src2_e, comp_e, un1_e, lst1_e, and_e, or_e, q_sm0, sm01_a, sm01_T, smO_some, app_0w, gLen_s, hn0, rng1_n n0 (by omega), to_fin]
  refine for_seq (fun ρ S => S = [] ∧ ρ = [some (.a (.s ns)), none, none, none, none, none, none, none, none, none, none, none, none]) ⟨rfl, rfl⟩ ?_ ?_
  · rintro x hx ρ S ⟨rfl, rfl⟩
    obtain ⟨i, hi, rfl⟩ := mem_mapInt hx
    obtain ⟨z, b, e1, hz, hb⟩ := e_law_state ns i [] rfl
    obtain ⟨r, S0, e0, l0, h0⟩ := e_law_take (S := [[.int z, .bool b]]) ⟨z, b, rfl, hz, hb⟩ 5 (by decide) (by decide)
    have e0' : sem__law_take [A.c 0, A.d (PyData.int 5)] [[.int z, .bool b]] = .ok (iD r) S0 := e0
    have p1 := pick (l := [3, 2, 4, 3, 1]) (r := r) l0 S0
    obtain ⟨n, n1, n4, hn⟩ : ∃ n : Nat, 1 ≤ n ∧ n ≤ 4 ∧ ([3, 2, 4, 3, 1] : List Int)[r]'l0 = (n : Nat) := by
      have : r = 0 ∨ r = 1 ∨ r = 2 ∨ r = 3 ∨ r = 4 := by omega
      rcases this with rfl | rfl | rfl | rfl | rfl
      · exact ⟨3, by decide, by decide, rfl⟩
      · exact ⟨2, by decide, by decide, rfl⟩
      · exact ⟨4, by decide, by decide, rfl⟩
      · exact ⟨3, by decide, by decide, rfl⟩
      · exact ⟨1, by decide, by decide, rfl⟩
    rw [hn] at p1
    simp only [List.map_cons, List.map_nil] at p1
    obtain ⟨f, S1, e2, hf, hS1⟩ := e_law_function3 h0 n (by omega) true
    have b2 : 2 ^ n ≤ 16 := Nat.pow_le_pow_right (n := 2) (by decide) n4
    have e3 := e_law_changes n1 n4 S1
    obtain ⟨c, S2, e4, hc, hS2⟩ := e_law_change hS1 (n := n) (by omega)
    obtain ⟨g, S3, e5, hg, hS3⟩ := e_law_function3 hS2 n (by omega) true
    obtain ⟨S4, e6, hS4⟩ := e_law_refusals_right hS3 hf n1 n4
    have fl := hS3.flat
    have x1 := e_law_changed hf n1 n4 hc S2 hS2.flat
    have hlf : ∀ c : Ch, (cgF n c f).length = 2 ^ n := fun c => (cgF_len n c f).trans hf
    have hled : ∀ ρ0 : En, (∀ d : D, ∃ ρ1, gNm 11 d ρ0 = some ρ1 ∧ fVar 4 ρ1 S1 = .ok (.a (.d (eF f))) S1 ∧ fVar 11 ρ1 S1 = .ok (.a (.d d)) S1) → compL (gNm 11) fTrue (fCall sem__law_changed [(fVar 4), (fVar 11)]) ρ0 ((chsM n).map eC) S1 [] = .ok (ownD ((ledL n f).map eF)) S1 := by
      intro ρ0 h
      rw [compL_m eC (fun c => eF (cgF n c f)) (chsM n)]
      · unfold ledL
        rw [List.map_map]
        rfl
      · intro c hc
        obtain ⟨ρ1, h1, h2, h3⟩ := h (eC c)
        exact ⟨ρ1, h1, by simp only [p_body, p_skip, p_seq, p_set, p_ret, p_retN, p_retV_s, p_retV_0, p_exp, p_if, p_raise, p_app, p_ext, p_setT, p_for, p_cell', nxt_nx, nxt_rt, nxt_exc, fin_nx, fin_rt, fin_exc, set_ok, set_exc, ret_ok, ret_exc, exp_ok, exp_exc, if_tt, if_ff, if_ok, if_exc, for_ok, for_exc, app_s, app_0, app_0o, ext_s, ext_0, cons_nx, cons_exc, setT_ok, cell_ok, pop_nx, pop_rt, unC_nil, unC_n, unC_d, unC_st, no_nil, no_n, no_a, mask_nil, mask_t, mask_f, dom_nil, dom_s, dom_n, start_0, start_s, setW_nil, setW_cons, ev_nil, ev_n, ev_a, ev_o, ev_own, frzE_nil, frzE_cons, frz1_s, frz1_0o, frz1_0a, frz1_0n, sNm_ap, sTp_ap, q_var0, q_varS, q_c, q_bin, bin1_a, bin1_o, bin1_e, bin2_a, bin2_o, bin2_e, q_un, un1_a, un1_o, q_call, call_n, call_c, call1_a, call1_o, call1_e, q_tup, allD_nil, allD_cons, tupE_ap, q_lst, lst_n, lst_c, lst1_ok, q_comp, comp_ok, q_and, and_tt, and_ff, asB_ok, asB_e, and_ok, and_fold, q_or, or_tt, or_ff, or_ok, or_fold, q_not, not_ok, not_e, q_ife, ife_tt, ife_ff, ife_ok, q_seq, q_rng1, q_rng2, q_enum, q_zip, srcS_a, srcS_o, src1_a, src1_o, src2_a, src2_o, of_some, q_sl, sl_nn, sl_n, sl_s, slo_nn, slo_n, slo_s, slLo_n, slLo_s, slHi_ok, slLo_n', slLo_s', slHi_ok', q_sm, sm1_a, sm2_a, sm2_o, on1_ap, onD1_ap, true_ap, gNm_ap, gTp_ap, setD_nil, setD_cons, wipe_nil, wipe_cons, max2_ap, rng1_n, rng1_l, rng1_1, Nat.reduceAdd, Nat.reduceSub, Nat.reduceLeDiff, List.length_cons, List.length_nil, List.length_map, List.length_range, List.replicate, List.set_cons_zero, List.set_cons_succ, List.map_cons, List.map_nil, List.cons_append, List.nil_append, Option.map_some, if_true, Bool.false_eq_true, if_false, Bool.not_true, Bool.not_false, o_add, o_sub, o_shr, o_band, o_lt, o_le, o_gt, o_ge, own0, own1, own2, own3, own4, own5, own6, own7, own8, own9, own10, own11, own12, seqD_lst, seqD_tup, seqD_eF, seqD_eG, i2n, isi_eF, isi_eG, isi_eT, gLen_eF, gLen_eG, gLen_lst, gLen_tup, dAll_m, dAny_m, all_tt, dInt_b, isi_int_none, isi_int_bool, isi_int_int, isi_int_str, isi_int_list, isi_int_tuple, isi_bool_none, isi_bool_bool, isi_bool_int, isi_bool_str, isi_bool_list, isi_bool_tuple, isi_str_none, isi_str_bool, isi_str_int, isi_str_str, isi_str_list, isi_str_tuple, isi_list_none, isi_list_bool, isi_list_int, isi_list_str, isi_list_list, isi_list_tuple, isi_tuple_none, isi_tuple_bool, isi_tuple_int, isi_tuple_str, isi_tuple_list, isi_tuple_tuple, isi2_tl_none, isi2_tl_bool, isi2_tl_int, isi2_tl_str, isi2_tl_list, isi2_tl_tuple, zip2, zipD_map, isi_int_dict, isi_bool_dict, isi_str_dict, isi_list_dict, isi_tuple_dict, isi2_tl_dict, dIsN, dNotN, p_setIx, setIx1_ok, setIx2_s, bin1_w, bin1o_some, toDs_nil, toDs_a, toDs_o, ret_nxt, rngD_map, Int.reduceToNat, p_appV, appV_ok', p_forB, forB_ok, sm1_T, List.getElem?_cons_succ, List.getElem?_cons_zero, q_chain, ch1_a, ch2_a, ch3_tt, ch3_ff, ch4_a, lt_TT, par_ap, par1_ok, par2_ok, srcS_e, src1_e, src2_e, comp_e, un1_e, lst1_e, and_e, or_e, q_sm0, sm01_a, sm01_T, smO_some, app_0w, h2, h3, e_law_changed hf n1 n4 (chs_ok n4 hc) S1 hS1.flat]⟩
    have hled := hled [some (.s ns), some (.d (.int (i : Nat))), some (.c 0), some (.d (.int (n : Nat))), some (.d (eF f)), some (.d (.list ((chsM n).map eC))), none, none, none, none, none, none, none] fun d => ⟨_, rfl, rfl, rfl⟩
    refine ⟨_, rfl, ?_⟩
    simp only [p_body, p_skip, p_seq, p_set, p_ret, p_retN, p_retV_s, p_retV_0, p_exp, p_if, p_raise, p_app, p_ext, p_setT, p_for, p_cell', nxt_nx, nxt_rt, nxt_exc, fin_nx, fin_rt, fin_exc, set_ok, set_exc, ret_ok, ret_exc, exp_ok, exp_exc, if_tt, if_ff, if_ok, if_exc, for_ok, for_exc, app_s, app_0, app_0o, ext_s, ext_0, cons_nx, cons_exc, setT_ok, cell_ok, pop_nx, pop_rt, unC_nil, unC_n, unC_d, unC_st, no_nil, no_n, no_a, mask_nil, mask_t, mask_f, dom_nil, dom_s, dom_n, start_0, start_s, setW_nil, setW_cons, ev_nil, ev_n, ev_a, ev_o, ev_own, frzE_nil, frzE_cons, frz1_s, frz1_0o, frz1_0a, frz1_0n, sNm_ap, sTp_ap, q_var0, q_varS, q_c, q_bin, bin1_a, bin1_o, bin1_e, bin2_a, bin2_o, bin2_e, q_un, un1_a, un1_o, q_call, call_n, call_c, call1_a, call1_o, call1_e, q_tup, allD_nil, allD_cons, tupE_ap, q_lst, lst_n, lst_c, lst1_ok, q_comp, comp_ok, q_and, and_tt, and_ff, asB_ok, asB_e, and_ok, and_fold, q_or, or_tt, or_ff, or_ok, or_fold, q_not, not_ok, not_e, q_ife, ife_tt, ife_ff, ife_ok, q_seq, q_rng1, q_rng2, q_enum, q_zip, srcS_a, srcS_o, src1_a, src1_o, src2_a, src2_o, of_some, q_sl, sl_nn, sl_n, sl_s, slo_nn, slo_n, slo_s, slLo_n, slLo_s, slHi_ok, slLo_n', slLo_s', slHi_ok', q_sm, sm1_a, sm2_a, sm2_o, on1_ap, onD1_ap, true_ap, gNm_ap, gTp_ap, setD_nil, setD_cons, wipe_nil, wipe_cons, max2_ap, rng1_n, rng1_l, rng1_1, Nat.reduceAdd, Nat.reduceSub, Nat.reduceLeDiff, List.length_cons, List.length_nil, List.length_map, List.length_range, List.replicate, List.set_cons_zero, List.set_cons_succ, List.map_cons, List.map_nil, List.cons_append, List.nil_append, Option.map_some, if_true, Bool.false_eq_true, if_false, Bool.not_true, Bool.not_false, o_add, o_sub, o_shr, o_band, o_lt, o_le, o_gt, o_ge, own0, own1, own2, own3, own4, own5, own6, own7, own8, own9, own10, own11, own12, seqD_lst, seqD_tup, seqD_eF, seqD_eG, i2n, isi_eF, isi_eG, isi_eT, gLen_eF, gLen_eG, gLen_lst, gLen_tup, dAll_m, dAny_m, all_tt, dInt_b, isi_int_none, isi_int_bool, isi_int_int, isi_int_str, isi_int_list, isi_int_tuple, isi_bool_none, isi_bool_bool, isi_bool_int, isi_bool_str, isi_bool_list, isi_bool_tuple, isi_str_none, isi_str_bool, isi_str_int, isi_str_str, isi_str_list, isi_str_tuple, isi_list_none, isi_list_bool, isi_list_int, isi_list_str, isi_list_list, isi_list_tuple, isi_tuple_none, isi_tuple_bool, isi_tuple_int, isi_tuple_str, isi_tuple_list, isi_tuple_tuple, isi2_tl_none, isi2_tl_bool, isi2_tl_int, isi2_tl_str, isi2_tl_list, isi2_tl_tuple, zip2, zipD_map, isi_int_dict, isi_bool_dict, isi_str_dict, isi_list_dict, isi_tuple_dict, isi2_tl_dict, dIsN, dNotN, p_setIx, setIx1_ok, setIx2_s, bin1_w, bin1o_some, toDs_nil, toDs_a, toDs_o, ret_nxt, rngD_map, Int.reduceToNat, p_appV, appV_ok', p_forB, forB_ok, sm1_T, List.getElem?_cons_succ, List.getElem?_cons_zero, q_chain, ch1_a, ch2_a, ch3_tt, ch3_ff, ch4_a, lt_TT, par_ap, par1_ok, par2_ok, srcS_e, src1_e, src2_e, comp_e, un1_e, lst1_e, and_e, or_e, q_sm0, sm01_a, sm01_T, smO_some, app_0w, e1, e0', p1, e2, e3, hled, e4, x1, e5]
    rw [to_pop]
    refine for_seq (fun ρ S => S = S3 ∧ ∃ x6, (x6 = ownD ((ledL n f).map eF) ∨ x6 = .a (.d (.list ((ledL n f).map eF)))) ∧ ρ = [some (.a (.s ns)), some (.a (.d (.int (i : Nat)))), some (.a (.c 0)), some (iD (n : Nat)), some (.a (.d (eF f))), some (.a (.d (.list ((chsM n).map eC)))), some x6, none, none, none, none, none, none]) ⟨rfl, _, .inl rfl, rfl⟩ ?_ ?_
    · rintro x hx2 ρ S ⟨rfl, x6, hx6, rfl⟩
      obtain ⟨q, rfl, hq⟩ : ∃ q : Fn, x = eF q ∧ q.length = 2 ^ n := by
        simp only [List.mem_cons, List.not_mem_nil, or_false] at hx2
        rcases hx2 with rfl | rfl | rfl
        · exact ⟨_, rfl, hlf c⟩
        · exact ⟨_, rfl, hg⟩
        · exact ⟨_, rfl, hf⟩
      have hz6 : ∀ l : Ev, frz1 0 (some x6 :: l) = some (.a (.d (.list ((ledL n f).map eF)))) :: l := by
        intro l
        rcases hx6 with rfl | rfl
        · exact frz1_0o _ _
        · exact frz1_0a _ _
      have hgl := gLen_lst eF (ledL n f) S
      have hll : (ledL n f).length ≤ 768 := by
        have := chs_len n (by omega)
        unfold ledL
        rw [List.length_map]
        exact this
      have hpk := comp_pick (n := n) (f := f) (g := q) (fa := fVar 7) (S := S) (ρ := [some (.s ns), some (.d (.int (i : Nat))), some (.c 0), some (.d (.int (n : Nat))), some (.d (eF f)), some (.d (.list ((chsM n).map eC))), some (.d (.list ((ledL n f).map eF))), some (.d (eF q)), none, none, none, none, none]) fun d => ⟨_, rfl, rfl, rfl, rfl, rfl⟩
      have hadd := add_l ((toM n f q).map eC) [.none] (by have := toM_len n4 f q; rw [List.length_map, List.length_singleton]; omega) S
      have hdue := due_at n f q S
      have hct := e_change_to hf hq n1 n4 S hS3.flat
      have hsame := e_law_same 4 (dueM n f q) S hS3.flat (sameOk_due n4 f q)
      refine ⟨_, rfl, ?_⟩
      simp only [p_body, p_skip, p_seq, p_set, p_ret, p_retN, p_retV_s, p_retV_0, p_exp, p_if, p_raise, p_app, p_ext, p_setT, p_for, p_cell', nxt_nx, nxt_rt, nxt_exc, fin_nx, fin_rt, fin_exc, set_ok, set_exc, ret_ok, ret_exc, exp_ok, exp_exc, if_tt, if_ff, if_ok, if_exc, for_ok, for_exc, app_s, app_0, app_0o, ext_s, ext_0, cons_nx, cons_exc, setT_ok, cell_ok, pop_nx, pop_rt, unC_nil, unC_n, unC_d, unC_st, no_nil, no_n, no_a, mask_nil, mask_t, mask_f, dom_nil, dom_s, dom_n, start_0, start_s, setW_nil, setW_cons, ev_nil, ev_n, ev_a, ev_o, ev_own, frzE_nil, frzE_cons, frz1_s, frz1_0o, frz1_0a, frz1_0n, sNm_ap, sTp_ap, q_var0, q_varS, q_c, q_bin, bin1_a, bin1_o, bin1_e, bin2_a, bin2_o, bin2_e, q_un, un1_a, un1_o, q_call, call_n, call_c, call1_a, call1_o, call1_e, q_tup, allD_nil, allD_cons, tupE_ap, q_lst, lst_n, lst_c, lst1_ok, q_comp, comp_ok, q_and, and_tt, and_ff, asB_ok, asB_e, and_ok, and_fold, q_or, or_tt, or_ff, or_ok, or_fold, q_not, not_ok, not_e, q_ife, ife_tt, ife_ff, ife_ok, q_seq, q_rng1, q_rng2, q_enum, q_zip, srcS_a, srcS_o, src1_a, src1_o, src2_a, src2_o, of_some, q_sl, sl_nn, sl_n, sl_s, slo_nn, slo_n, slo_s, slLo_n, slLo_s, slHi_ok, slLo_n', slLo_s', slHi_ok', q_sm, sm1_a, sm2_a, sm2_o, on1_ap, onD1_ap, true_ap, gNm_ap, gTp_ap, setD_nil, setD_cons, wipe_nil, wipe_cons, max2_ap, rng1_n, rng1_l, rng1_1, Nat.reduceAdd, Nat.reduceSub, Nat.reduceLeDiff, List.length_cons, List.length_nil, List.length_map, List.length_range, List.replicate, List.set_cons_zero, List.set_cons_succ, List.map_cons, List.map_nil, List.cons_append, List.nil_append, Option.map_some, if_true, Bool.false_eq_true, if_false, Bool.not_true, Bool.not_false, o_add, o_sub, o_shr, o_band, o_lt, o_le, o_gt, o_ge, own0, own1, own2, own3, own4, own5, own6, own7, own8, own9, own10, own11, own12, seqD_lst, seqD_tup, seqD_eF, seqD_eG, i2n, isi_eF, isi_eG, isi_eT, gLen_eF, gLen_eG, gLen_lst, gLen_tup, dAll_m, dAny_m, all_tt, dInt_b, isi_int_none, isi_int_bool, isi_int_int, isi_int_str, isi_int_list, isi_int_tuple, isi_bool_none, isi_bool_bool, isi_bool_int, isi_bool_str, isi_bool_list, isi_bool_tuple, isi_str_none, isi_str_bool, isi_str_int, isi_str_str, isi_str_list, isi_str_tuple, isi_list_none, isi_list_bool, isi_list_int, isi_list_str, isi_list_list, isi_list_tuple, isi_tuple_none, isi_tuple_bool, isi_tuple_int, isi_tuple_str, isi_tuple_list, isi_tuple_tuple, isi2_tl_none, isi2_tl_bool, isi2_tl_int, isi2_tl_str, isi2_tl_list, isi2_tl_tuple, zip2, zipD_map, isi_int_dict, isi_bool_dict, isi_str_dict, isi_list_dict, isi_tuple_dict, isi2_tl_dict, dIsN, dNotN, p_setIx, setIx1_ok, setIx2_s, bin1_w, bin1o_some, toDs_nil, toDs_a, toDs_o, ret_nxt, rngD_map, Int.reduceToNat, p_appV, appV_ok', p_forB, forB_ok, sm1_T, List.getElem?_cons_succ, List.getElem?_cons_zero, q_chain, ch1_a, ch2_a, ch3_tt, ch3_ff, ch4_a, lt_TT, par_ap, par1_ok, par2_ok, srcS_e, src1_e, src2_e, comp_e, un1_e, lst1_e, and_e, or_e, q_sm0, sm01_a, sm01_T, smO_some, app_0w, hz6, hgl, hpk, rng1_n (ledL n f).length (by omega), hadd, hdue, hct, hsame, hS3.flat, to_nx]
      exact ⟨trivial, _, .inr rfl, rfl⟩
    · rintro ρ S ⟨rfl, x6, hx6, rfl⟩
      have hgl := gLen_lst eF (ledL n f) S
      have hll : (ledL n f).length ≤ 768 := by
        have := chs_len n (by omega)
        unfold ledL
        rw [List.length_map]
        exact this
      have hoc := e_own_changes hf n1 n4 S hS3.flat
      have hlc := e_law_same 4 (.list ((toM n f f).map eC)) S hS3.flat (sameOk_to n4 f f)
      simp only [p_body, p_skip, p_seq, p_set, p_ret, p_retN, p_retV_s, p_retV_0, p_exp, p_if, p_raise, p_app, p_ext, p_setT, p_for, p_cell', nxt_nx, nxt_rt, nxt_exc, fin_nx, fin_rt, fin_exc, set_ok, set_exc, ret_ok, ret_exc, exp_ok, exp_exc, if_tt, if_ff, if_ok, if_exc, for_ok, for_exc, app_s, app_0, app_0o, ext_s, ext_0, cons_nx, cons_exc, setT_ok, cell_ok, pop_nx, pop_rt, unC_nil, unC_n, unC_d, unC_st, no_nil, no_n, no_a, mask_nil, mask_t, mask_f, dom_nil, dom_s, dom_n, start_0, start_s, setW_nil, setW_cons, ev_nil, ev_n, ev_a, ev_o, ev_own, frzE_nil, frzE_cons, frz1_s, frz1_0o, frz1_0a, frz1_0n, sNm_ap, sTp_ap, q_var0, q_varS, q_c, q_bin, bin1_a, bin1_o, bin1_e, bin2_a, bin2_o, bin2_e, q_un, un1_a, un1_o, q_call, call_n, call_c, call1_a, call1_o, call1_e, q_tup, allD_nil, allD_cons, tupE_ap, q_lst, lst_n, lst_c, lst1_ok, q_comp, comp_ok, q_and, and_tt, and_ff, asB_ok, asB_e, and_ok, and_fold, q_or, or_tt, or_ff, or_ok, or_fold, q_not, not_ok, not_e, q_ife, ife_tt, ife_ff, ife_ok, q_seq, q_rng1, q_rng2, q_enum, q_zip, srcS_a, srcS_o, src1_a, src1_o, src2_a, src2_o, of_some, q_sl, sl_nn, sl_n, sl_s, slo_nn, slo_n, slo_s, slLo_n, slLo_s, slHi_ok, slLo_n', slLo_s', slHi_ok', q_sm, sm1_a, sm2_a, sm2_o, on1_ap, onD1_ap, true_ap, gNm_ap, gTp_ap, setD_nil, setD_cons, wipe_nil, wipe_cons, max2_ap, rng1_n, rng1_l, rng1_1, Nat.reduceAdd, Nat.reduceSub, Nat.reduceLeDiff, List.length_cons, List.length_nil, List.length_map, List.length_range, List.replicate, List.set_cons_zero, List.set_cons_succ, List.map_cons, List.map_nil, List.cons_append, List.nil_append, Option.map_some, if_true, Bool.false_eq_true, if_false, Bool.not_true, Bool.not_false, o_add, o_sub, o_shr, o_band, o_lt, o_le, o_gt, o_ge, own0, own1, own2, own3, own4, own5, own6, own7, own8, own9, own10, own11, own12, seqD_lst, seqD_tup, seqD_eF, seqD_eG, i2n, isi_eF, isi_eG, isi_eT, gLen_eF, gLen_eG, gLen_lst, gLen_tup, dAll_m, dAny_m, all_tt, dInt_b, isi_int_none, isi_int_bool, isi_int_int, isi_int_str, isi_int_list, isi_int_tuple, isi_bool_none, isi_bool_bool, isi_bool_int, isi_bool_str, isi_bool_list, isi_bool_tuple, isi_str_none, isi_str_bool, isi_str_int, isi_str_str, isi_str_list, isi_str_tuple, isi_list_none, isi_list_bool, isi_list_int, isi_list_str, isi_list_list, isi_list_tuple, isi_tuple_none, isi_tuple_bool, isi_tuple_int, isi_tuple_str, isi_tuple_list, isi_tuple_tuple, isi2_tl_none, isi2_tl_bool, isi2_tl_int, isi2_tl_str, isi2_tl_list, isi2_tl_tuple, zip2, zipD_map, isi_int_dict, isi_bool_dict, isi_str_dict, isi_list_dict, isi_tuple_dict, isi2_tl_dict, dIsN, dNotN, p_setIx, setIx1_ok, setIx2_s, bin1_w, bin1o_some, toDs_nil, toDs_a, toDs_o, ret_nxt, rngD_map, Int.reduceToNat, p_appV, appV_ok', p_forB, forB_ok, sm1_T, List.getElem?_cons_succ, List.getElem?_cons_zero, q_chain, ch1_a, ch2_a, ch3_tt, ch3_ff, ch4_a, lt_TT, par_ap, par1_ok, par2_ok, srcS_e, src1_e, src2_e, comp_e, un1_e, lst1_e, and_e, or_e, q_sm0, sm01_a, sm01_T, smO_some, app_0w]
      refine for_seq (fun ρ S' => S' = S ∧ ρ = [some (.a (.s ns)), some (.a (.d (.int (i : Nat)))), some (.a (.c 0)), some (iD (n : Nat)), some (.a (.d (eF f))), some (.a (.d (.list ((chsM n).map eC)))), some x6, none, none, none, none, none, none]) ⟨rfl, rfl⟩ ?_ ?_
      · rintro x hx2 ρ S' ⟨rfl, rfl⟩
        obtain ⟨j, _, rfl⟩ := mem_mapInt hx2
        have hz6 : ∀ l : Ev, frz1 0 (some x6 :: l) = some (.a (.d (.list ((ledL n f).map eF)))) :: l := by
          intro l
          rcases hx6 with rfl | rfl
          · exact frz1_0o _ _
          · exact frz1_0a _ _
        have hpk := comp_pick (n := n) (f := f) (g := f) (fa := fVar 4) (S := S') (ρ := [some (.s ns), some (.d (.int (i : Nat))), some (.c 0), some (.d (.int (n : Nat))), some (.d (eF f)), some (.d (.list ((chsM n).map eC))), some (.d (.list ((ledL n f).map eF))), none, some (.d (.int (j : Nat))), none, some (.d (.list ((toM n f f).map eC))), none, none]) fun d => ⟨_, rfl, rfl, rfl, rfl, rfl⟩
        have htl : (toM n f f).length < 1000000 := by have := toM_len n4 f f; omega
        refine ⟨_, rfl, ?_⟩
        simp only [p_body, p_skip, p_seq, p_set, p_ret, p_retN, p_retV_s, p_retV_0, p_exp, p_if, p_raise, p_app, p_ext, p_setT, p_for, p_cell', nxt_nx, nxt_rt, nxt_exc, fin_nx, fin_rt, fin_exc, set_ok, set_exc, ret_ok, ret_exc, exp_ok, exp_exc, if_tt, if_ff, if_ok, if_exc, for_ok, for_exc, app_s, app_0, app_0o, ext_s, ext_0, cons_nx, cons_exc, setT_ok, cell_ok, pop_nx, pop_rt, unC_nil, unC_n, unC_d, unC_st, no_nil, no_n, no_a, mask_nil, mask_t, mask_f, dom_nil, dom_s, dom_n, start_0, start_s, setW_nil, setW_cons, ev_nil, ev_n, ev_a, ev_o, ev_own, frzE_nil, frzE_cons, frz1_s, frz1_0o, frz1_0a, frz1_0n, sNm_ap, sTp_ap, q_var0, q_varS, q_c, q_bin, bin1_a, bin1_o, bin1_e, bin2_a, bin2_o, bin2_e, q_un, un1_a, un1_o, q_call, call_n, call_c, call1_a, call1_o, call1_e, q_tup, allD_nil, allD_cons, tupE_ap, q_lst, lst_n, lst_c, lst1_ok, q_comp, comp_ok, q_and, and_tt, and_ff, asB_ok, asB_e, and_ok, and_fold, q_or, or_tt, or_ff, or_ok, or_fold, q_not, not_ok, not_e, q_ife, ife_tt, ife_ff, ife_ok, q_seq, q_rng1, q_rng2, q_enum, q_zip, srcS_a, srcS_o, src1_a, src1_o, src2_a, src2_o, of_some, q_sl, sl_nn, sl_n, sl_s, slo_nn, slo_n, slo_s, slLo_n, slLo_s, slHi_ok, slLo_n', slLo_s', slHi_ok', q_sm, sm1_a, sm2_a, sm2_o, on1_ap, onD1_ap, true_ap, gNm_ap, gTp_ap, setD_nil, setD_cons, wipe_nil, wipe_cons, max2_ap, rng1_n, rng1_l, rng1_1, Nat.reduceAdd, Nat.reduceSub, Nat.reduceLeDiff, List.length_cons, List.length_nil, List.length_map, List.length_range, List.replicate, List.set_cons_zero, List.set_cons_succ, List.map_cons, List.map_nil, List.cons_append, List.nil_append, Option.map_some, if_true, Bool.false_eq_true, if_false, Bool.not_true, Bool.not_false, o_add, o_sub, o_shr, o_band, o_lt, o_le, o_gt, o_ge, own0, own1, own2, own3, own4, own5, own6, own7, own8, own9, own10, own11, own12, seqD_lst, seqD_tup, seqD_eF, seqD_eG, i2n, isi_eF, isi_eG, isi_eT, gLen_eF, gLen_eG, gLen_lst, gLen_tup, dAll_m, dAny_m, all_tt, dInt_b, isi_int_none, isi_int_bool, isi_int_int, isi_int_str, isi_int_list, isi_int_tuple, isi_bool_none, isi_bool_bool, isi_bool_int, isi_bool_str, isi_bool_list, isi_bool_tuple, isi_str_none, isi_str_bool, isi_str_int, isi_str_str, isi_str_list, isi_str_tuple, isi_list_none, isi_list_bool, isi_list_int, isi_list_str, isi_list_list, isi_list_tuple, isi_tuple_none, isi_tuple_bool, isi_tuple_int, isi_tuple_str, isi_tuple_list, isi_tuple_tuple, isi2_tl_none, isi2_tl_bool, isi2_tl_int, isi2_tl_str, isi2_tl_list, isi2_tl_tuple, zip2, zipD_map, isi_int_dict, isi_bool_dict, isi_str_dict, isi_list_dict, isi_tuple_dict, isi2_tl_dict, dIsN, dNotN, p_setIx, setIx1_ok, setIx2_s, bin1_w, bin1o_some, toDs_nil, toDs_a, toDs_o, ret_nxt, rngD_map, Int.reduceToNat, p_appV, appV_ok', p_forB, forB_ok, sm1_T, List.getElem?_cons_succ, List.getElem?_cons_zero, q_chain, ch1_a, ch2_a, ch3_tt, ch3_ff, ch4_a, lt_TT, par_ap, par1_ok, par2_ok, srcS_e, src1_e, src2_e, comp_e, un1_e, lst1_e, and_e, or_e, q_sm0, sm01_a, sm01_T, smO_some, app_0w, hz6, hgl, hpk, rng1_n (ledL n f).length (by omega), hoc, hlc, hS3.flat, htl, to_nx]
        exact ⟨trivial, trivial⟩
      · rintro ρ S' ⟨rfl, rfl⟩
        have hz6 : ∀ l : Ev, frz1 0 (some x6 :: l) = some (.a (.d (.list ((ledL n f).map eF)))) :: l := by
          intro l
          rcases hx6 with rfl | rfl
          · exact frz1_0o _ _
          · exact frz1_0a _ _
        have hcm : compL (gNm 7) fTrue (fTup [fCall sem__law_shown [fVar 7], fVar 7]) [some (.s ns), some (.d (.int (i : Nat))), some (.c 0), some (.d (.int (n : Nat))), some (.d (eF f)), some (.d (.list ((chsM n).map eC))), some (.d (.list ((ledL n f).map eF))), none, none, none, none, none, none] ((ledL n f).map eF) S' [] = .ok (ownD ((ledL n f).map pT)) S' := by
          refine compL_m eF pT (ledL n f) fun x hx => ⟨_, rfl, ?_⟩
          have hxl : x.length ≤ 1000 := by
            obtain ⟨c, hc, rfl⟩ := List.mem_map.mp hx
            rw [hlf]
            omega
          simp only [p_body, p_skip, p_seq, p_set, p_ret, p_retN, p_retV_s, p_retV_0, p_exp, p_if, p_raise, p_app, p_ext, p_setT, p_for, p_cell', nxt_nx, nxt_rt, nxt_exc, fin_nx, fin_rt, fin_exc, set_ok, set_exc, ret_ok, ret_exc, exp_ok, exp_exc, if_tt, if_ff, if_ok, if_exc, for_ok, for_exc, app_s, app_0, app_0o, ext_s, ext_0, cons_nx, cons_exc, setT_ok, cell_ok, pop_nx, pop_rt, unC_nil, unC_n, unC_d, unC_st, no_nil, no_n, no_a, mask_nil, mask_t, mask_f, dom_nil, dom_s, dom_n, start_0, start_s, setW_nil, setW_cons, ev_nil, ev_n, ev_a, ev_o, ev_own, frzE_nil, frzE_cons, frz1_s, frz1_0o, frz1_0a, frz1_0n, sNm_ap, sTp_ap, q_var0, q_varS, q_c, q_bin, bin1_a, bin1_o, bin1_e, bin2_a, bin2_o, bin2_e, q_un, un1_a, un1_o, q_call, call_n, call_c, call1_a, call1_o, call1_e, q_tup, allD_nil, allD_cons, tupE_ap, q_lst, lst_n, lst_c, lst1_ok, q_comp, comp_ok, q_and, and_tt, and_ff, asB_ok, asB_e, and_ok, and_fold, q_or, or_tt, or_ff, or_ok, or_fold, q_not, not_ok, not_e, q_ife, ife_tt, ife_ff, ife_ok, q_seq, q_rng1, q_rng2, q_enum, q_zip, srcS_a, srcS_o, src1_a, src1_o, src2_a, src2_o, of_some, q_sl, sl_nn, sl_n, sl_s, slo_nn, slo_n, slo_s, slLo_n, slLo_s, slHi_ok, slLo_n', slLo_s', slHi_ok', q_sm, sm1_a, sm2_a, sm2_o, on1_ap, onD1_ap, true_ap, gNm_ap, gTp_ap, setD_nil, setD_cons, wipe_nil, wipe_cons, max2_ap, rng1_n, rng1_l, rng1_1, Nat.reduceAdd, Nat.reduceSub, Nat.reduceLeDiff, List.length_cons, List.length_nil, List.length_map, List.length_range, List.replicate, List.set_cons_zero, List.set_cons_succ, List.map_cons, List.map_nil, List.cons_append, List.nil_append, Option.map_some, if_true, Bool.false_eq_true, if_false, Bool.not_true, Bool.not_false, o_add, o_sub, o_shr, o_band, o_lt, o_le, o_gt, o_ge, own0, own1, own2, own3, own4, own5, own6, own7, own8, own9, own10, own11, own12, seqD_lst, seqD_tup, seqD_eF, seqD_eG, i2n, isi_eF, isi_eG, isi_eT, gLen_eF, gLen_eG, gLen_lst, gLen_tup, dAll_m, dAny_m, all_tt, dInt_b, isi_int_none, isi_int_bool, isi_int_int, isi_int_str, isi_int_list, isi_int_tuple, isi_bool_none, isi_bool_bool, isi_bool_int, isi_bool_str, isi_bool_list, isi_bool_tuple, isi_str_none, isi_str_bool, isi_str_int, isi_str_str, isi_str_list, isi_str_tuple, isi_list_none, isi_list_bool, isi_list_int, isi_list_str, isi_list_list, isi_list_tuple, isi_tuple_none, isi_tuple_bool, isi_tuple_int, isi_tuple_str, isi_tuple_list, isi_tuple_tuple, isi2_tl_none, isi2_tl_bool, isi2_tl_int, isi2_tl_str, isi2_tl_list, isi2_tl_tuple, zip2, zipD_map, isi_int_dict, isi_bool_dict, isi_str_dict, isi_list_dict, isi_tuple_dict, isi2_tl_dict, dIsN, dNotN, p_setIx, setIx1_ok, setIx2_s, bin1_w, bin1o_some, toDs_nil, toDs_a, toDs_o, ret_nxt, rngD_map, Int.reduceToNat, p_appV, appV_ok', p_forB, forB_ok, sm1_T, List.getElem?_cons_succ, List.getElem?_cons_zero, q_chain, ch1_a, ch2_a, ch3_tt, ch3_ff, ch4_a, lt_TT, par_ap, par1_ok, par2_ok, srcS_e, src1_e, src2_e, comp_e, un1_e, lst1_e, and_e, or_e, q_sm0, sm01_a, sm01_T, smO_some, app_0w, e_law_shown x hxl]
          rfl
        obtain ⟨g0, gs, eg⟩ := led_ne n4 f
        have hm : dMinT (.list ((ledL n f).map pT)) = some (.a (.d (pT (lstF n f)))) := by
          rw [eg, dMinT_p]
          unfold lstF
          rw [eg]
        have hp : dIx (.d (pT (lstF n f))) (.d (.int 1)) S' = .ok (.a (.d (eF (lstF n f)))) S' := rfl
        have hll2 : (lstF n f).length ≤ 1000 := by
          have : lstF n f ∈ ledL n f := by
            unfold lstF
            rw [eg]
            exact (minG_spec gs g0).1
          obtain ⟨c, hc, e⟩ := List.mem_map.mp this
          rw [← e, hlf]
          omega
        have hsm := e_law_same 4 (eF (lstF n f)) S' hS3.flat (sameOk_eF 2 hll2)
        have hla := e_least_alike hf n1 n4 S' hS3.flat
        simp only [p_body, p_skip, p_seq, p_set, p_ret, p_retN, p_retV_s, p_retV_0, p_exp, p_if, p_raise, p_app, p_ext, p_setT, p_for, p_cell', nxt_nx, nxt_rt, nxt_exc, fin_nx, fin_rt, fin_exc, set_ok, set_exc, ret_ok, ret_exc, exp_ok, exp_exc, if_tt, if_ff, if_ok, if_exc, for_ok, for_exc, app_s, app_0, app_0o, ext_s, ext_0, cons_nx, cons_exc, setT_ok, cell_ok, pop_nx, pop_rt, unC_nil, unC_n, unC_d, unC_st, no_nil, no_n, no_a, mask_nil, mask_t, mask_f, dom_nil, dom_s, dom_n, start_0, start_s, setW_nil, setW_cons, ev_nil, ev_n, ev_a, ev_o, ev_own, frzE_nil, frzE_cons, frz1_s, frz1_0o, frz1_0a, frz1_0n, sNm_ap, sTp_ap, q_var0, q_varS, q_c, q_bin, bin1_a, bin1_o, bin1_e, bin2_a, bin2_o, bin2_e, q_un, un1_a, un1_o, q_call, call_n, call_c, call1_a, call1_o, call1_e, q_tup, allD_nil, allD_cons, tupE_ap, q_lst, lst_n, lst_c, lst1_ok, q_comp, comp_ok, q_and, and_tt, and_ff, asB_ok, asB_e, and_ok, and_fold, q_or, or_tt, or_ff, or_ok, or_fold, q_not, not_ok, not_e, q_ife, ife_tt, ife_ff, ife_ok, q_seq, q_rng1, q_rng2, q_enum, q_zip, srcS_a, srcS_o, src1_a, src1_o, src2_a, src2_o, of_some, q_sl, sl_nn, sl_n, sl_s, slo_nn, slo_n, slo_s, slLo_n, slLo_s, slHi_ok, slLo_n', slLo_s', slHi_ok', q_sm, sm1_a, sm2_a, sm2_o, on1_ap, onD1_ap, true_ap, gNm_ap, gTp_ap, setD_nil, setD_cons, wipe_nil, wipe_cons, max2_ap, rng1_n, rng1_l, rng1_1, Nat.reduceAdd, Nat.reduceSub, Nat.reduceLeDiff, List.length_cons, List.length_nil, List.length_map, List.length_range, List.replicate, List.set_cons_zero, List.set_cons_succ, List.map_cons, List.map_nil, List.cons_append, List.nil_append, Option.map_some, if_true, Bool.false_eq_true, if_false, Bool.not_true, Bool.not_false, o_add, o_sub, o_shr, o_band, o_lt, o_le, o_gt, o_ge, own0, own1, own2, own3, own4, own5, own6, own7, own8, own9, own10, own11, own12, seqD_lst, seqD_tup, seqD_eF, seqD_eG, i2n, isi_eF, isi_eG, isi_eT, gLen_eF, gLen_eG, gLen_lst, gLen_tup, dAll_m, dAny_m, all_tt, dInt_b, isi_int_none, isi_int_bool, isi_int_int, isi_int_str, isi_int_list, isi_int_tuple, isi_bool_none, isi_bool_bool, isi_bool_int, isi_bool_str, isi_bool_list, isi_bool_tuple, isi_str_none, isi_str_bool, isi_str_int, isi_str_str, isi_str_list, isi_str_tuple, isi_list_none, isi_list_bool, isi_list_int, isi_list_str, isi_list_list, isi_list_tuple, isi_tuple_none, isi_tuple_bool, isi_tuple_int, isi_tuple_str, isi_tuple_list, isi_tuple_tuple, isi2_tl_none, isi2_tl_bool, isi2_tl_int, isi2_tl_str, isi2_tl_list, isi2_tl_tuple, zip2, zipD_map, isi_int_dict, isi_bool_dict, isi_str_dict, isi_list_dict, isi_tuple_dict, isi2_tl_dict, dIsN, dNotN, p_setIx, setIx1_ok, setIx2_s, bin1_w, bin1o_some, toDs_nil, toDs_a, toDs_o, ret_nxt, rngD_map, Int.reduceToNat, p_appV, appV_ok', p_forB, forB_ok, sm1_T, List.getElem?_cons_succ, List.getElem?_cons_zero, q_chain, ch1_a, ch2_a, ch3_tt, ch3_ff, ch4_a, lt_TT, par_ap, par1_ok, par2_ok, srcS_e, src1_e, src2_e, comp_e, un1_e, lst1_e, and_e, or_e, q_sm0, sm01_a, sm01_T, smO_some, app_0w, hz6, hcm, hm, hp, hsm, hla, hS3.flat, e6, hS4.flat, to_nx]
        rcases hx6 with rfl | rfl <;> exact ⟨hS4.drop2, rfl⟩
  · rintro ρ S ⟨rfl, rfl⟩
    rfl
end PD
open PySem PySem.W PyProof.Rows
theorem PySem.Challenge.cw_leastterms_k72_alike_functions_holds : PySem.Challenge.rw_leastterms_k72_alike_functions.Holds := by
  w_on; o_law; k_head; (case hw => w_witness2)
  k_fill
  refine LamX.walk_ofTs (l := PySem.Challenge.rw_leastterms_k72_alike_functions) (n := 63) (k := 9) (x := "_law_script") (CX := fun w => L2.CX PySem.Challenge.rw_leastterms_k72_alike_functions.prog w) rfl (by decide) rfl ⟨rfl, by decide, by decide⟩ (fun w h Y => PySem.W.km_in_of Y) ?F (fun w H s e s' z => PD.hCX0 w H s e s' z)
  case F =>
    intro w mg fa h Y KX G hmg
    refine' PD.law_main KX G hmg ?a0 ?l0 ?c0 ?k0 ?a1 ?l1 ?c1 ?k1 ?a2 ?l2 ?c2 ?k2 ?a3 ?l3 ?c3 ?k3 ?a4 ?l4 ?c4 ?k4 ?a5 ?l5 ?c5 ?k5 ?a6 ?l6 ?c6 ?k6 ?a7 ?l7 ?c7 ?k7 ?a8 ?l8 ?c8 ?k8 ?a9 ?l9 ?c9 ?k9 ?a10 ?l10 ?c10 ?k10 ?a11 ?l11 ?c11 ?k11 ?a12 ?l12 ?c12 ?k12 ?a13 ?l13 ?c13 ?k13 ?a14 ?l14 ?c14 ?k14 ?a15 ?l15 ?c15 ?k15 ?a16 ?l16 ?c16 ?k16 ?a17 ?l17 ?c17 ?k17 ?a18 ?l18 ?c18 ?k18 ?a19 ?l19 ?c19 ?k19 ?a20 ?l20 ?c20 ?k20 ?a21 ?l21 ?c21 ?k21 ?a22 ?l22 ?c22 ?k22 ?a23 ?l23 ?c23 ?k23 ?a24 ?l24 ?c24 ?k24 ?a25 ?l25 ?c25 ?k25 ?a26 ?l26 ?c26 ?k26 ?a27 ?l27 ?c27 ?k27 ?a28 ?l28 ?c28 ?k28 ?a29 ?l29 ?c29 ?k29 ?a30 ?l30 ?c30 ?k30 ?a31 ?l31 ?c31 ?k31 ?z_ValueError ?z_all ?z_bool ?z_int ?z_isinstance ?z_len ?z_list ?z_max ?z_min ?z_range ?z_str ?z_tuple ?z_zip ?a_SIGN ?l_SIGN ?s_SIGN ?a_SIZES ?l_SIZES ?s_SIZES ?xa_NoFunction ?xq_NoFunction ?xk_NoFunction ?xb_NoFunction ?xt_NoFunction ?ar0 ?ar1 ?ar2 ?ar3 ?ar4 ?ar5 ?ar6 ?ar7 ?ar8 ?arT ?xq_ref ?s_ref ?aL ?lL ?cL ?kL ?lcL31 ?xpL31 ?nTL31 ?xhL31 ?yTL31 PD.e_law
    (case a0 => k_is)
    (case l0 => k_is)
    (case c0 => k_is)
    (case k0 => k_is)
    (case a1 => k_is)
    (case l1 => k_is)
    (case c1 => k_is)
    (case k1 => k_is)
    (case a2 => k_is)
    (case l2 => k_is)
    (case c2 => k_is)
    (case k2 => k_is)
    (case a3 => k_is)
    (case l3 => k_is)
    (case c3 => k_is)
    (case k3 => k_is)
    (case a4 => k_is)
    (case l4 => k_is)
    (case c4 => k_is)
    (case k4 => k_is)
    (case a5 => k_is)
    (case l5 => k_is)
    (case c5 => k_is)
    (case k5 => k_is)
    (case a6 => k_is)
    (case l6 => k_is)
    (case c6 => k_is)
    (case k6 => k_is)
    (case a7 => k_is)
    (case l7 => k_is)
    (case c7 => k_is)
    (case k7 => k_is)
    (case a8 => k_is)
    (case l8 => k_is)
    (case c8 => k_is)
    (case k8 => k_is)
    (case a9 => k_is)
    (case l9 => k_is)
    (case c9 => k_is)
    (case k9 => k_is)
    (case a10 => k_is)
    (case l10 => k_is)
    (case c10 => k_is)
    (case k10 => k_is)
    (case a11 => k_is)
    (case l11 => k_is)
    (case c11 => k_is)
    (case k11 => k_is)
    (case a12 => k_is)
    (case l12 => k_is)
    (case c12 => k_is)
    (case k12 => k_is)
    (case a13 => k_is)
    (case l13 => k_is)
    (case c13 => k_is)
    (case k13 => k_is)
    (case a14 => k_is)
    (case l14 => k_is)
    (case c14 => k_is)
    (case k14 => k_is)
    (case a15 => k_is)
    (case l15 => k_is)
    (case c15 => k_is)
    (case k15 => k_is)
    (case a16 => k_is)
    (case l16 => k_is)
    (case c16 => k_is)
    (case k16 => k_is)
    (case a17 => k_is)
    (case l17 => k_is)
    (case c17 => k_is)
    (case k17 => k_is)
    (case a18 => k_is)
    (case l18 => k_is)
    (case c18 => k_is)
    (case k18 => k_is)
    (case a19 => k_is)
    (case l19 => k_is)
    (case c19 => k_is)
    (case k19 => k_is)
    (case a20 => k_is)
    (case l20 => k_is)
    (case c20 => k_is)
    (case k20 => k_is)
    (case a21 => k_is)
    (case l21 => k_is)
    (case c21 => k_is)
    (case k21 => k_is)
    (case a22 => k_is)
    (case l22 => k_is)
    (case c22 => k_is)
    (case k22 => k_is)
    (case a23 => k_is)
    (case l23 => k_is)
    (case c23 => k_is)
    (case k23 => k_is)
    (case a24 => k_is)
    (case l24 => k_is)
    (case c24 => k_is)
    (case k24 => k_is)
    (case a25 => k_is)
    (case l25 => k_is)
    (case c25 => k_is)
    (case k25 => k_is)
    (case a26 => k_is)
    (case l26 => k_is)
    (case c26 => k_is)
    (case k26 => k_is)
    (case a27 => k_is)
    (case l27 => k_is)
    (case c27 => k_is)
    (case k27 => k_is)
    (case a28 => k_is)
    (case l28 => k_is)
    (case c28 => k_is)
    (case k28 => k_is)
    (case a29 => k_is)
    (case l29 => k_is)
    (case c29 => k_is)
    (case k29 => k_is)
    (case a30 => k_is)
    (case l30 => k_is)
    (case c30 => k_is)
    (case k30 => k_is)
    (case a31 => k_is)
    (case l31 => k_is)
    (case c31 => k_is)
    (case k31 => k_is)
    (case z_ValueError => k_is)
    (case z_all => k_is)
    (case z_bool => k_is)
    (case z_int => k_is)
    (case z_isinstance => k_is)
    (case z_len => k_is)
    (case z_list => k_is)
    (case z_max => k_is)
    (case z_min => k_is)
    (case z_range => k_is)
    (case z_str => k_is)
    (case z_tuple => k_is)
    (case z_zip => k_is)
    (case a_SIGN => k_is)
    (case l_SIGN => k_is)
    (case s_SIGN => first | rfl | decide)
    (case a_SIZES => k_is)
    (case l_SIZES => k_is)
    (case s_SIZES => first | rfl | decide)
    (case xa_NoFunction => k_is)
    (case xq_NoFunction => first | kernel_rfl | decide +kernel)
    (case xk_NoFunction => k_is)
    (case xb_NoFunction => k_is)
    (case xt_NoFunction => k_is)
    (case ar0 => k_is)
    (case ar1 => k_is)
    (case ar2 => k_is)
    (case ar3 => k_is)
    (case ar4 => k_is)
    (case ar5 => k_is)
    (case ar6 => k_is)
    (case ar7 => k_is)
    (case ar8 => k_is)
    (case arT => k_is)
    (case xq_ref => first | kernel_rfl | decide +kernel)
    (case s_ref => first | rfl | decide)
    (case aL => k_is)
    (case lL => k_is)
    (case cL => k_is)
    (case kL => k_is)
    (case lcL31 => k_is)
    (case xpL31 => first | rfl | exact Eq.refl _)
    (case nTL31 => first | kernel_rfl | decide +kernel)
    (case xhL31 => first | kernel_rfl | decide +kernel)
    (case yTL31 => exact PySem.W.km_tabs_of Y _ (by decide))
