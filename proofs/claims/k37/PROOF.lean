import PyProof.Rows.All
import Wide.All
import OpenK.AllK
import Wide.FinOn
import HandS.ForMost
import HandS.WordsExc
import HandS.ExcOwn
import HandS.TryOnly
import HandS.Deep
import HandS.Zip
import HandS.TupAny
import HandS.Flow
import HandS.IsInst
import HandS.CallSlots
import HandS.HeadHook2
import HandS.Head2
import HandS.HeadEnd
import KE.SortData
import KE.KeyNested
import HandS.TupSets
import HandS.SetFor
import HandS.Style
import HandS.GenList
import HandS.Star
import HandS.Conv
import KE.GoesMore
import HandS.DictComp
import HandS.Defaults
import HandS.Head0
import HandS.Head1
import HandS.HeadHook1
import PySem.Challenge.RW_defaultswaps_k37_whole_facts_alone
set_option Elab.async false
set_option linter.all false
set_option maxRecDepth 100000
set_option maxHeartbeats 1000000
/-! R: pure values, their places in the abstract heap, worlds -/
namespace R
open PySem PySem.Spec L2

/-- pure values: frozen data, and names of live objects -/
inductive PV where
  | non | bl (b : Bool) | int (i : Int) | str (x : Str)
  | tup (xs : List PV) | lst (xs : List PV)
  | ref (n : Nat) | ty (n : String) | scr (ns : List Int)
  | dct (ks vs : List PV)
  | obj (c : Str) (ns : List Str) (vs : List PV)
  deriving Inhabited
/-- live objects -/
inductive PO where
  | lst (xs : List PV)
  | ins (c : Str) (ns : List Str) (vs : List PV)
  deriving Inhabited
abbrev PH := List PO
abbrev Sl := List (Option PV)

/-- a world: where the live objects stand, what is being filled, the heap -/
structure Wd where
  M : List Addr
  B : List Addr
  H : Hp

def TupAt (w : Wd) (a : Addr) (vs : List V) : Prop := w.H a = some (.tup vs) ∧ a ∉ w.M ∧ a ∉ w.B ∧ vs.length ≤ sizeLine
def LstAt (w : Wd) (a : Addr) (vs : List V) : Prop := w.H a = some (.lst vs) ∧ a ∉ w.M ∧ a ∉ w.B ∧ vs.length ≤ sizeLine
/-- the script: a list that is read alone -/
def ScrAt (K : PySem.W.Frag) (w : Wd) (a : Addr) (vs : List V) : Prop := ((∃ o, w.H a = some (.frz o (.lst vs)) ∧ a ∉ w.M) ∨ SqL K (fun _ => none) a vs) ∧ vs.length ≤ sizeLine
theorem TupAt.sq {K : PySem.W.Frag} {w : Wd} {a : Addr} {vs : List V} (h : TupAt w a vs) : SqT K w.H a vs := .inl (.inl h.1)
theorem LstAt.sq {K : PySem.W.Frag} {w : Wd} {a : Addr} {vs : List V} (h : LstAt w a vs) : SqL K w.H a vs := .inl (.inl h.1)
theorem ScrAt.sq {K : PySem.W.Frag} {w : Wd} {a : Addr} {vs : List V} (h : ScrAt K w a vs) : SqL K w.H a vs := by
  rcases h.1 with ⟨o, r, _⟩ | r | r
  · exact .inl (.inr ⟨o, r⟩)
  · rcases r with r | ⟨o, r⟩ <;> cases r
  · exact .inr r

mutual
def PV.keyB : PV → Bool
  | .non => true
  | .int _ => true
  | .tup xs => PV.keysB xs
  | _ => false
def PV.keysB : List PV → Bool
  | [] => true
  | x :: xs => x.keyB && PV.keysB xs
end
mutual
def PV.key : PV → NestedKey
  | .int i => .num i
  | .tup xs => .tup (PV.keys xs)
  | _ => .none
def PV.keys : List PV → List NestedKey
  | [] => []
  | x :: xs => x.key :: PV.keys xs
end
/-- a dict at a: its entries -/
def dctφ (a : Addr) (es : Array DictEntry) (ep : Nat) (h : Heap) : Prop := ∃ o, h.get? a = some o ∧ o.ExactDict ∧ o.data = .dict es ep
/-- a dict whose keys are the tuples vs -/
def DctAt (w : Wd) (a : Addr) (ks : List NestedKey) (vs : List V) : Prop := ∃ (es : Array DictEntry) (ep : Nat) (xs : List (NestedKey × Addr × Value)), w.H a = some (.ext (dctφ a es ep)) ∧ a ∉ w.M ∧ a ∉ w.B ∧ vs.length ≤ sizeLine ∧
  (a == sysModules) = false ∧ (∀ P wo, es.toList = xs.map (entryOfKey (nestedKind P wo))) ∧ xs.map (·.1) = ks ∧ vs = xs.map (fun x => V.ref x.2.1) ∧ ks.Nodup ∧ ∀ k ∈ ks, k.depth ≤ 8

mutual
inductive Rep (K : PySem.W.Frag) (w : Wd) : PV → V → Prop
  | non : Rep K w .non .non
  | bl (b : Bool) : Rep K w (.bl b) (.bl b)
  | int (i : Int) : Rep K w (.int i) (.int i)
  | str (x : Str) : Rep K w (.str x) (.str x)
  | ty (n : String) : Rep K w (.ty n) (.ty n)
  | tup {a : Addr} {vs : List V} {xs : List PV} : TupAt w a vs → Reps K w xs vs → Rep K w (.tup xs) (.ref a)
  | lst {a : Addr} {vs : List V} {xs : List PV} : LstAt w a vs → Reps K w xs vs → Rep K w (.lst xs) (.ref a)
  | scr {a : Addr} {ns : List Int} : ScrAt K w a (ns.map V.int) → Rep K w (.scr ns) (.ref a)
  | ref {n : Nat} {a : Addr} : w.M[n]? = some a → Rep K w (.ref n) (.ref a)
  | dct {a : Addr} {vs : List V} {xs : List PV} : DctAt w a (PV.keys xs) vs → Reps K w xs vs → PV.keysB xs = true → Rep K w (.dct xs []) (.ref a)
inductive Reps (K : PySem.W.Frag) (w : Wd) : List PV → List V → Prop
  | nil : Reps K w [] []
  | cons {x : PV} {xs : List PV} {v : V} {vs : List V} : Rep K w x v → Reps K w xs vs → Reps K w (x :: xs) (v :: vs)
end

/-- a later world: what was tracked and is not live stays -/
structure Ext (w w' : Wd) : Prop where
  pre : ∃ l, w'.M = w.M ++ l
  keep : ∀ a o, w.H a = some o → a ∉ w.M → w'.H a = some o ∧ a ∉ w'.M ∧ (a ∈ w'.B ↔ a ∈ w.B)

theorem Ext.refl (w : Wd) : Ext w w := ⟨⟨[], by simp⟩, fun _ _ h n => ⟨h, n, Iff.rfl⟩⟩
theorem Ext.trans {a b c : Wd} (x : Ext a b) (y : Ext b c) : Ext a c :=
  ⟨by obtain ⟨l, e⟩ := x.pre; obtain ⟨m, e'⟩ := y.pre; exact ⟨l ++ m, by rw [e', e, List.append_assoc]⟩,
    fun p o h n => let ⟨h1, n1, b1⟩ := x.keep p o h n; let ⟨h2, n2, b2⟩ := y.keep p o h1 n1; ⟨h2, n2, b2.trans b1⟩⟩
theorem Ext.ix {w w' : Wd} (x : Ext w w') {n : Nat} {a : Addr} (h : w.M[n]? = some a) : w'.M[n]? = some a := by
  obtain ⟨l, e⟩ := x.pre
  rw [e, List.getElem?_append_left (List.getElem?_eq_some_iff.mp h).1]
  exact h
theorem TupAt.mono {w w' : Wd} {a : Addr} {vs : List V} (h : TupAt w a vs) (x : Ext w w') : TupAt w' a vs := by
  obtain ⟨h1, h2, h3⟩ := x.keep a _ h.1 h.2.1
  exact ⟨h1, h2, fun z => h.2.2.1 (h3.mp z), h.2.2.2⟩
theorem LstAt.mono {w w' : Wd} {a : Addr} {vs : List V} (h : LstAt w a vs) (x : Ext w w') : LstAt w' a vs := by
  obtain ⟨h1, h2, h3⟩ := x.keep a _ h.1 h.2.1
  exact ⟨h1, h2, fun z => h.2.2.1 (h3.mp z), h.2.2.2⟩
theorem DctAt.mono {w w' : Wd} {a : Addr} {ks : List NestedKey} {vs : List V} (h : DctAt w a ks vs) (x : Ext w w') : DctAt w' a ks vs := by
  obtain ⟨es, ep, xs, h1, h2, h3, h4⟩ := h
  obtain ⟨k1, k2, k3⟩ := x.keep a _ h1 h2
  exact ⟨es, ep, xs, k1, k2, fun z => h3 (k3.mp z), h4⟩
theorem ScrAt.mono {K : PySem.W.Frag} {w w' : Wd} {a : Addr} {vs : List V} (h : ScrAt K w a vs) (x : Ext w w') : ScrAt K w' a vs :=
  ⟨h.1.imp (fun ⟨o, r, n⟩ => ⟨o, (x.keep a _ r n).1, (x.keep a _ r n).2.1⟩) id, h.2⟩
mutual
theorem Rep.mono {K : PySem.W.Frag} {w w' : Wd} (x : Ext w w') : ∀ {p : PV} {v : V}, Rep K w p v → Rep K w' p v
  | _, _, .non => .non
  | _, _, .bl b => .bl b
  | _, _, .int i => .int i
  | _, _, .str z => .str z
  | _, _, .ty n => .ty n
  | _, _, .tup h r => .tup (h.mono x) (Reps.mono x r)
  | _, _, .lst h r => .lst (h.mono x) (Reps.mono x r)
  | _, _, .scr h => .scr (h.mono x)
  | _, _, .ref h => .ref (x.ix h)
  | _, _, .dct h r e => .dct (h.mono x) (Reps.mono x r) e
theorem Reps.mono {K : PySem.W.Frag} {w w' : Wd} (x : Ext w w') : ∀ {p : List PV} {v : List V}, Reps K w p v → Reps K w' p v
  | _, _, .nil => .nil
  | _, _, .cons h r => .cons (Rep.mono x h) (Reps.mono x r)
end
def isFrz : HO → Prop
  | .frz _ _ => True
  | _ => False
/-- a later world, in which what was being filled may have grown -/
structure ExtW (w w' : Wd) : Prop where
  pre : ∃ l, w'.M = w.M ++ l
  keep : ∀ a o, w.H a = some o → a ∉ w.M → (a ∉ w.B ∨ isFrz o) → w'.H a = some o ∧ a ∉ w'.M ∧ (a ∈ w'.B → a ∈ w.B)
theorem Ext.weak {w w' : Wd} (x : Ext w w') : ExtW w w' := ⟨x.pre, fun a o h n _ => let ⟨h1, n1, b1⟩ := x.keep a o h n; ⟨h1, n1, b1.mp⟩⟩
theorem ExtW.refl (w : Wd) : ExtW w w := (Ext.refl w).weak
theorem ExtW.trans {a b c : Wd} (x : ExtW a b) (y : ExtW b c) : ExtW a c :=
  ⟨by obtain ⟨l, e⟩ := x.pre; obtain ⟨m, e'⟩ := y.pre; exact ⟨l ++ m, by rw [e', e, List.append_assoc]⟩,
    fun p o h n z => let ⟨h1, n1, b1⟩ := x.keep p o h n z; let ⟨h2, n2, b2⟩ := y.keep p o h1 n1 (z.imp (fun q r => q (b1 r)) id); ⟨h2, n2, fun r => b1 (b2 r)⟩⟩
theorem ExtW.ix {w w' : Wd} (x : ExtW w w') {n : Nat} {a : Addr} (h : w.M[n]? = some a) : w'.M[n]? = some a := by
  obtain ⟨l, e⟩ := x.pre
  rw [e, List.getElem?_append_left (List.getElem?_eq_some_iff.mp h).1]
  exact h
theorem TupAt.monoW {w w' : Wd} {a : Addr} {vs : List V} (h : TupAt w a vs) (x : ExtW w w') : TupAt w' a vs := by
  obtain ⟨h1, h2, h3⟩ := x.keep a _ h.1 h.2.1 (.inl h.2.2.1)
  exact ⟨h1, h2, fun z => h.2.2.1 (h3 z), h.2.2.2⟩
theorem LstAt.monoW {w w' : Wd} {a : Addr} {vs : List V} (h : LstAt w a vs) (x : ExtW w w') : LstAt w' a vs := by
  obtain ⟨h1, h2, h3⟩ := x.keep a _ h.1 h.2.1 (.inl h.2.2.1)
  exact ⟨h1, h2, fun z => h.2.2.1 (h3 z), h.2.2.2⟩
theorem DctAt.monoW {w w' : Wd} {a : Addr} {ks : List NestedKey} {vs : List V} (h : DctAt w a ks vs) (x : ExtW w w') : DctAt w' a ks vs := by
  obtain ⟨es, ep, xs, h1, h2, h3, h4⟩ := h
  obtain ⟨k1, k2, k3⟩ := x.keep a _ h1 h2 (.inl h3)
  exact ⟨es, ep, xs, k1, k2, fun z => h3 (k3 z), h4⟩
theorem ScrAt.monoW {K : PySem.W.Frag} {w w' : Wd} {a : Addr} {vs : List V} (h : ScrAt K w a vs) (x : ExtW w w') : ScrAt K w' a vs :=
  ⟨h.1.imp (fun ⟨o, r, n⟩ => ⟨o, (x.keep a _ r n (.inr trivial)).1, (x.keep a _ r n (.inr trivial)).2.1⟩) id, h.2⟩
mutual
theorem Rep.monoW {K : PySem.W.Frag} {w w' : Wd} (x : ExtW w w') : ∀ {p : PV} {v : V}, Rep K w p v → Rep K w' p v
  | _, _, .non => .non
  | _, _, .bl b => .bl b
  | _, _, .int i => .int i
  | _, _, .str z => .str z
  | _, _, .ty n => .ty n
  | _, _, .tup h r => .tup (h.monoW x) (Reps.monoW x r)
  | _, _, .lst h r => .lst (h.monoW x) (Reps.monoW x r)
  | _, _, .scr h => .scr (h.monoW x)
  | _, _, .ref h => .ref (x.ix h)
  | _, _, .dct h r e => .dct (h.monoW x) (Reps.monoW x r) e
theorem Reps.monoW {K : PySem.W.Frag} {w w' : Wd} (x : ExtW w w') : ∀ {p : List PV} {v : List V}, Reps K w p v → Reps K w' p v
  | _, _, .nil => .nil
  | _, _, .cons h r => .cons (Rep.monoW x h) (Reps.monoW x r)
end
section
variable {K : PySem.W.Frag} {w w' : Wd}
theorem Reps.length : ∀ {ps : List PV} {vs : List V}, Reps K w ps vs → ps.length = vs.length
  | _, _, .nil => rfl
  | _, _, .cons _ r => congrArg Nat.succ r.length
theorem Reps.get : ∀ {ps : List PV} {vs : List V} {i : Nat} {p : PV}, Reps K w ps vs → ps[i]? = some p → ∃ v, vs[i]? = some v ∧ Rep K w p v
  | _, _, _, _, .nil, e => by simp at e
  | _, _, 0, _, .cons r _, e => by simp at e; subst e; exact ⟨_, rfl, r⟩
  | _, _, i + 1, p, .cons _ t, e => by
    obtain ⟨v, h1, h2⟩ := Reps.get (i := i) (p := p) t (by simpa using e)
    exact ⟨v, by simpa using h1, h2⟩
theorem Reps.getV : ∀ {ps : List PV} {vs : List V} {i : Nat} {v : V}, Reps K w ps vs → vs[i]? = some v → ∃ p, ps[i]? = some p ∧ Rep K w p v
  | _, _, _, _, .nil, e => by simp at e
  | _, _, 0, _, .cons r _, e => by simp at e; subst e; exact ⟨_, rfl, r⟩
  | _, _, i + 1, p, .cons _ t, e => by
    obtain ⟨v, h1, h2⟩ := Reps.getV (i := i) (v := p) t (by simpa using e)
    exact ⟨v, by simpa using h1, h2⟩
theorem Reps.append : ∀ {ps qs : List PV} {vs us : List V}, Reps K w ps vs → Reps K w qs us → Reps K w (ps ++ qs) (vs ++ us)
  | _, _, _, _, .nil, s => s
  | _, _, _, _, .cons r t, s => .cons r (t.append s)
theorem Reps.drop : ∀ {ps : List PV} {vs : List V} (n : Nat), Reps K w ps vs → Reps K w (ps.drop n) (vs.drop n)
  | _, _, 0, r => r
  | _, _, _ + 1, .nil => .nil
  | _, _, n + 1, .cons _ t => Reps.drop n t
theorem Reps.take : ∀ {ps : List PV} {vs : List V} (n : Nat), Reps K w ps vs → Reps K w (ps.take n) (vs.take n)
  | _, _, 0, _ => .nil
  | _, _, _ + 1, .nil => .nil
  | _, _, n + 1, .cons r t => .cons r (Reps.take n t)
theorem Reps.set {p : PV} {v : V} (r : Rep K w p v) : ∀ {ps : List PV} {vs : List V} (n : Nat), Reps K w ps vs → Reps K w (ps.set n p) (vs.set n v)
  | _, _, _, .nil => .nil
  | _, _, 0, .cons _ t => .cons r t
  | _, _, n + 1, .cons q t => .cons q (Reps.set r n t)
theorem Reps.ints : ∀ (ns : List Int), Reps K w (ns.map PV.int) (ns.map V.int)
  | [] => .nil
  | n :: ns => .cons (.int n) (Reps.ints ns)
theorem Reps.reverse : ∀ {ps : List PV} {vs : List V}, Reps K w ps vs → Reps K w ps.reverse vs.reverse
  | _, _, .nil => .nil
  | _, _, .cons r t => by rw [List.reverse_cons, List.reverse_cons]; exact t.reverse.append (.cons r .nil)
end

theorem ixInj {α : Type} : ∀ {l : List α} {i j : Nat} {a : α}, l.Nodup → l[i]? = some a → l[j]? = some a → i = j
  | [], _, _, _, _, h, _ => by simp at h
  | _ :: _, 0, 0, _, _, _, _ => rfl
  | x :: l, 0, j + 1, a, n, h1, h2 => by
    simp at h1 h2
    subst h1
    exact absurd (List.mem_of_getElem? h2) (List.nodup_cons.mp n).1
  | x :: l, i + 1, 0, a, n, h1, h2 => by
    simp at h1 h2
    subst h2
    exact absurd (List.mem_of_getElem? h1) (List.nodup_cons.mp n).1
  | x :: l, i + 1, j + 1, a, n, h1, h2 => by
    simp at h1 h2
    rw [ixInj (List.nodup_cons.mp n).2 h1 h2]
/-- a live object at its place -/
def ORep (K : PySem.W.Frag) (w : Wd) : PO → Addr → Prop
  | .lst xs, a => ∃ vs, w.H a = some (.lst vs) ∧ Reps K w xs vs ∧ vs.length ≤ sizeLine
  | .ins c ns xs, a => ∃ dx vs, w.H a = some (.ins (He.ga K c) dx (ns.zip vs)) ∧ Reps K w xs vs ∧ ns.length = vs.length
theorem ORep.mono {K : PySem.W.Frag} {w w' : Wd} (x : Ext w w') {o : PO} {a : Addr} (h : ORep K w o a) (hH : w'.H a = w.H a) : ORep K w' o a := by
  cases o with
  | lst xs => obtain ⟨vs, e, r, z⟩ := h; exact ⟨vs, hH.trans e, r.mono x, z⟩
  | ins c ns xs => obtain ⟨dx, vs, e, r, z⟩ := h; exact ⟨dx, vs, hH.trans e, r.mono x, z⟩
theorem ORep.there {K : PySem.W.Frag} {w : Wd} {o : PO} {a : Addr} (h : ORep K w o a) : ∃ u, w.H a = some u := by
  cases o with
  | lst xs => obtain ⟨vs, e, _⟩ := h; exact ⟨_, e⟩
  | ins c ns xs => obtain ⟨dx, vs, e, _⟩ := h; exact ⟨_, e⟩
structure Rel (K : PySem.W.Frag) (w : Wd) (h : PH) : Prop where
  nd : w.M.Nodup
  len : w.M.length = h.length
  objs : ∀ (n : Nat) (o : PO) (a : Addr), h[n]? = some o → w.M[n]? = some a → ORep K w o a
  busy : ∀ b ∈ w.B, (∃ u, w.H b = some u) ∧ b ∉ w.M
section
variable {K : PySem.W.Frag} {w w' : Wd} {h : PH}
theorem Rel.live (r : Rel K w h) {a : Addr} (ha : a ∈ w.M) : ∃ u, w.H a = some u := by
  obtain ⟨n, hn, e⟩ := List.getElem_of_mem ha
  have hn' : n < h.length := by rw [← r.len]; exact hn
  have q := r.objs n h[n] a (List.getElem?_eq_getElem hn') (by rw [List.getElem?_eq_getElem hn, e])
  exact q.there
theorem Rel.fresh (r : Rel K w h) {p : Addr} (hp : w.H p = none) : p ∉ w.M ∧ p ∉ w.B := by
  refine ⟨fun z => ?_, fun z => ?_⟩
  · obtain ⟨u, e⟩ := r.live z; rw [hp] at e; cases e
  · obtain ⟨⟨u, e⟩, _⟩ := r.busy p z; rw [hp] at e; cases e
/-- a new frozen object -/
def Wd.add (w : Wd) (p : Addr) (o : HO) : Wd := { w with H := upd w.H p o }
theorem Ext.add {p : Addr} {o : HO} (hp : w.H p = none) : Ext w (w.add p o) :=
  ⟨⟨[], by simp [Wd.add]⟩, fun a u e n => ⟨by show upd w.H p o a = _; rw [upd_ne (ne_of_none e hp)]; exact e, n, Iff.rfl⟩⟩
theorem Rel.add {p : Addr} {o : HO} (r : Rel K w h) (hp : w.H p = none) : Rel K (w.add p o) h where
  nd := r.nd
  len := r.len
  objs := fun n u a h1 h2 => by
    have q := r.objs n u a h1 h2
    obtain ⟨z, e⟩ := q.there
    exact q.mono (Ext.add hp) (by show upd w.H p o a = _; rw [upd_ne (ne_of_none e hp)])
  busy := fun b hb => by
    obtain ⟨⟨u, e⟩, n⟩ := r.busy b hb
    exact ⟨⟨u, by show upd w.H p o b = _; rw [upd_ne (ne_of_none e hp)]; exact e⟩, n⟩
theorem Rel.tup {p : Addr} {xs : List PV} {vs : List V} (r : Rel K w h) (hp : w.H p = none) (rs : Reps K w xs vs) (hl : vs.length ≤ sizeLine) : Rep K (w.add p (.tup vs)) (.tup xs) (.ref p) :=
  .tup ⟨upd_same, (r.fresh hp).1, (r.fresh hp).2, hl⟩ (rs.mono (Ext.add hp))
theorem Rel.lst {p : Addr} {xs : List PV} {vs : List V} (r : Rel K w h) (hp : w.H p = none) (rs : Reps K w xs vs) (hl : vs.length ≤ sizeLine) : Rep K (w.add p (.lst vs)) (.lst xs) (.ref p) :=
  .lst ⟨upd_same, (r.fresh hp).1, (r.fresh hp).2, hl⟩ (rs.mono (Ext.add hp))
/-- a new live object -/
def Wd.live (w : Wd) (p : Addr) (o : HO) : Wd := { w with M := w.M ++ [p], H := upd w.H p o }
theorem Ext.live {p : Addr} {o : HO} (hp : w.H p = none) : Ext w (w.live p o) :=
  ⟨⟨[p], rfl⟩, fun a u e n => ⟨by show upd w.H p o a = _; rw [upd_ne (ne_of_none e hp)]; exact e, by
    show a ∉ w.M ++ [p]
    intro z
    rcases List.mem_append.mp z with z | z
    · exact n z
    · exact ne_of_none e hp (List.mem_singleton.mp z), Iff.rfl⟩⟩
theorem Rel.newLive {p : Addr} {o : PO} {u : HO} (r : Rel K w h) (hp : w.H p = none) (ho : ORep K (w.live p u) o p) : Rel K (w.live p u) (h ++ [o]) where
  nd := by
    show (w.M ++ [p]).Nodup
    rw [List.nodup_append]
    refine ⟨r.nd, by simp, fun a ha b hb => ?_⟩
    rw [List.mem_singleton.mp hb]
    rintro rfl
    exact (r.fresh hp).1 ha
  len := by
    show (w.M ++ [p]).length = _
    simp [r.len]
  objs := fun n z a h1 h2 => by
    have h2 : (w.M ++ [p])[n]? = some a := h2
    by_cases hn : n < h.length
    · rw [List.getElem?_append_left hn] at h1
      rw [List.getElem?_append_left (by rw [r.len]; exact hn)] at h2
      have q := r.objs n z a h1 h2
      obtain ⟨y, e⟩ := q.there
      exact q.mono (Ext.live hp) (by show upd w.H p u a = _; rw [upd_ne (ne_of_none e hp)])
    · have hn2 : n < (h ++ [o]).length := (List.getElem?_eq_some_iff.mp h1).1
      rw [List.length_append, List.length_singleton] at hn2
      have e : n = h.length := by omega
      subst e
      rw [List.getElem?_append_right (Nat.le_refl _)] at h1
      rw [← r.len, List.getElem?_append_right (Nat.le_refl _)] at h2
      simp at h1 h2
      subst h1 h2
      exact ho
  busy := fun b hb => by
    obtain ⟨⟨y, e⟩, n⟩ := r.busy b hb
    refine ⟨⟨y, by show upd w.H p u b = _; rw [upd_ne (ne_of_none e hp)]; exact e⟩, fun z => ?_⟩
    rcases List.mem_append.mp z with z | z
    · exact n z
    · exact ne_of_none e hp (List.mem_singleton.mp z)
theorem Rel.ixLive (r : Rel K w h) {p : Addr} {u : HO} : Rep K (w.live p u) (.ref h.length) (.ref p) :=
  .ref (by show (w.M ++ [p])[h.length]? = some p; rw [← r.len, List.getElem?_append_right (Nat.le_refl _)]; simp)
/-- a live object changes -/
theorem Ext.write {n : Nat} {a : Addr} {u : HO} (h : w.M[n]? = some a) : Ext w (w.add a u) :=
  ⟨⟨[], by simp [Wd.add]⟩, fun b o e nb => ⟨by
    show upd w.H a u b = _
    rw [upd_ne (fun z => nb (by rw [z]; exact List.mem_of_getElem? h))]; exact e, nb, Iff.rfl⟩⟩
theorem Rel.write {n : Nat} {a : Addr} {u : HO} {o : PO} (r : Rel K w h) (hm : w.M[n]? = some a) (hn : n < h.length) (ho : ORep K (w.add a u) o a) : Rel K (w.add a u) (h.set n o) where
  nd := r.nd
  len := by simpa [Wd.add] using r.len
  objs := fun k z b h1 h2 => by
    by_cases hk : k = n
    · subst hk
      rw [List.getElem?_set_self hn] at h1
      have h2 : w.M[k]? = some b := h2
      rw [hm] at h2
      cases h1; cases h2
      exact ho
    · rw [List.getElem?_set_ne (Ne.symm hk)] at h1
      have h2 : w.M[k]? = some b := h2
      have hb : b ≠ a := fun e => by
        subst e
        exact hk (ixInj r.nd h2 hm)
      exact (r.objs k z b h1 h2).mono (Ext.write hm) (by show upd w.H a u b = _; rw [upd_ne hb])
  busy := fun b hb => by
    obtain ⟨⟨y, e⟩, nb⟩ := r.busy b hb
    exact ⟨⟨y, by show upd w.H a u b = _; rw [upd_ne (fun z => nb (by rw [z]; exact List.mem_of_getElem? hm))]; exact e⟩, nb⟩
end

/-! what is being filled grows -/
theorem ExtW.fill {w : Wd} {D : Addr} {o : HO} {ys : List V} (hD : D ∈ w.B) (hL : w.H D = some (.lst ys)) : ExtW w (w.add D o) :=
  ⟨⟨[], by simp [Wd.add]⟩, fun a u h n z => by
    have ne : a ≠ D := fun e => by
      subst e
      rcases z with z | z
      · exact z hD
      · rw [hL] at h; cases h; exact z
    exact ⟨by show upd w.H D o a = _; rw [upd_ne ne]; exact h, n, id⟩⟩
mutual
theorem Rep.fill {K : PySem.W.Frag} {w : Wd} {D : Addr} {o : HO} {ys : List V} (hD : D ∈ w.B) (hL : w.H D = some (.lst ys)) : ∀ {p : PV} {v : V}, Rep K w p v → Rep K (w.add D o) p v
  | _, _, .non => .non
  | _, _, .bl b => .bl b
  | _, _, .int i => .int i
  | _, _, .str z => .str z
  | _, _, .ty n => .ty n
  | _, _, .tup h r => .tup ⟨by show upd w.H D o _ = _; rw [upd_ne (fun z => h.2.2.1 (by rw [z]; exact hD))]; exact h.1, h.2.1, h.2.2.1, h.2.2.2⟩ (Reps.fill hD hL r)
  | _, _, .lst h r => .lst ⟨by show upd w.H D o _ = _; rw [upd_ne (fun z => h.2.2.1 (by rw [z]; exact hD))]; exact h.1, h.2.1, h.2.2.1, h.2.2.2⟩ (Reps.fill hD hL r)
  | _, _, .scr h => .scr ⟨h.1.imp (fun ⟨q, r, n⟩ => ⟨q, by show upd w.H D o _ = _; rw [upd_ne (fun z => by rw [z, hL] at r; cases r)]; exact r, n⟩) id, h.2⟩
  | _, _, .ref h => .ref h
  | _, _, .dct h r e => .dct (let ⟨es, ep, xs, h1, h2, h3, h4⟩ := h; ⟨es, ep, xs, by show upd w.H D o _ = _; rw [upd_ne (fun z => h3 (by rw [z]; exact hD))]; exact h1, h2, h3, h4⟩) (Reps.fill hD hL r) e
theorem Reps.fill {K : PySem.W.Frag} {w : Wd} {D : Addr} {o : HO} {ys : List V} (hD : D ∈ w.B) (hL : w.H D = some (.lst ys)) : ∀ {p : List PV} {v : List V}, Reps K w p v → Reps K (w.add D o) p v
  | _, _, .nil => .nil
  | _, _, .cons h r => .cons (Rep.fill hD hL h) (Reps.fill hD hL r)
end
theorem Rel.fill {K : PySem.W.Frag} {w : Wd} {h : PH} {D : Addr} {o : HO} {ys : List V} (r : Rel K w h) (hD : D ∈ w.B) (hL : w.H D = some (.lst ys)) : Rel K (w.add D o) h where
  nd := r.nd
  len := r.len
  objs := fun n z a h1 h2 => by
    have q := r.objs n z a h1 h2
    have ne : a ≠ D := fun e => (r.busy D hD).2 (by rw [← e]; exact List.mem_of_getElem? h2)
    cases z with
    | lst xs => obtain ⟨vs, e, q1, q2⟩ := q; exact ⟨vs, by show upd w.H D o a = _; rw [upd_ne ne]; exact e, q1.fill hD hL, q2⟩
    | ins c ns xs => obtain ⟨dx, vs, e, q1, q2⟩ := q; exact ⟨dx, vs, by show upd w.H D o a = _; rw [upd_ne ne]; exact e, q1.fill hD hL, q2⟩
  busy := fun b hb => by
    obtain ⟨⟨u, e⟩, n⟩ := r.busy b hb
    refine ⟨?_, n⟩
    by_cases eb : b = D
    · exact ⟨o, by show upd w.H D o b = _; rw [eb, upd_same]⟩
    · exact ⟨u, by show upd w.H D o b = _; rw [upd_ne eb]; exact e⟩
/-- the start: D is busy -/
def Wd.busyD (w : Wd) (D : Addr) (o : HO) : Wd := { w with B := D :: w.B, H := upd w.H D o }
theorem Ext.busyD {w : Wd} {D : Addr} {o : HO} (hD : w.H D = none) : Ext w (w.busyD D o) :=
  ⟨⟨[], by simp [Wd.busyD]⟩, fun a u e n => ⟨by show upd w.H D o a = _; rw [upd_ne (ne_of_none e hD)]; exact e, n, by
    show a ∈ D :: w.B ↔ _
    rw [List.mem_cons]
    exact ⟨fun z => z.elim (fun z => absurd z (ne_of_none e hD)) id, .inr⟩⟩⟩
theorem Rel.busyD {K : PySem.W.Frag} {w : Wd} {h : PH} {D : Addr} {o : HO} (r : Rel K w h) (hD : w.H D = none) : Rel K (w.busyD D o) h where
  nd := r.nd
  len := r.len
  objs := fun n u a h1 h2 => by
    have q := r.objs n u a h1 h2
    obtain ⟨z, e⟩ := q.there
    exact q.mono (Ext.busyD hD) (by show upd w.H D o a = _; rw [upd_ne (ne_of_none e hD)])
  busy := fun b hb => by
    rcases List.mem_cons.mp hb with rfl | hb
    · exact ⟨⟨o, upd_same⟩, (r.fresh hD).1⟩
    · obtain ⟨⟨u, e⟩, n⟩ := r.busy b hb
      exact ⟨⟨u, by show upd w.H D o b = _; rw [upd_ne (ne_of_none e hD)]; exact e⟩, n⟩
/-- the end: D is frozen, or live -/
def Wd.done (w : Wd) (D : Addr) (live : Bool) : Wd := { w with M := if live then w.M ++ [D] else w.M, B := w.B.filter (fun b => decide (b ≠ D)) }
section
variable {K : PySem.W.Frag} {w : Wd} {D : Addr} {live : Bool}
theorem done_out {a : Addr} (hD : D ∈ w.B) (h1 : a ∉ w.M) (h2 : a ∉ w.B) : a ∉ (w.done D live).M ∧ a ∉ (w.done D live).B := by
  constructor
  · intro z
    cases live with
    | false => exact h1 z
    | true =>
      rcases List.mem_append.mp z with z | z
      · exact h1 z
      · exact h2 (by rw [List.mem_singleton.mp z]; exact hD)
  · intro z
    exact h2 (List.mem_filter.mp z).1
theorem done_ix {n : Nat} {a : Addr} (h : w.M[n]? = some a) : (w.done D live).M[n]? = some a := by
  cases live with
  | false => exact h
  | true =>
    show (w.M ++ [D])[n]? = some a
    rw [List.getElem?_append_left (List.getElem?_eq_some_iff.mp h).1]
    exact h
theorem done_sc {a : Addr} {ys vs : List V} {o : Obj} (hL : w.H D = some (.lst ys)) (r : w.H a = some (.frz o (.lst vs))) (n : a ∉ w.M) : a ∉ (w.done D live).M := by
  intro z
  cases live with
  | false => exact n z
  | true =>
    rcases List.mem_append.mp z with z | z
    · exact n z
    · rw [List.mem_singleton.mp z, hL] at r
      cases r
mutual
theorem Rep.done (hD : D ∈ w.B) {ys : List V} (hL : w.H D = some (.lst ys)) : ∀ {p : PV} {v : V}, Rep K w p v → Rep K (w.done D live) p v
  | _, _, .non => .non
  | _, _, .bl b => .bl b
  | _, _, .int i => .int i
  | _, _, .str z => .str z
  | _, _, .ty n => .ty n
  | _, _, .tup h r => .tup ⟨h.1, (done_out hD h.2.1 h.2.2.1).1, (done_out (live := live) hD h.2.1 h.2.2.1).2, h.2.2.2⟩ (Reps.done hD hL r)
  | _, _, .lst h r => .lst ⟨h.1, (done_out hD h.2.1 h.2.2.1).1, (done_out (live := live) hD h.2.1 h.2.2.1).2, h.2.2.2⟩ (Reps.done hD hL r)
  | _, _, .scr h => .scr ⟨h.1.imp (fun ⟨o, r, n⟩ => ⟨o, r, done_sc hL r n⟩) id, h.2⟩
  | _, _, .ref h => .ref (done_ix h)
  | _, _, .dct h r e => .dct (let ⟨es, ep, xs, h1, h2, h3, h4⟩ := h; ⟨es, ep, xs, h1, (done_out hD h2 h3).1, (done_out (live := live) hD h2 h3).2, h4⟩) (Reps.done hD hL r) e
theorem Reps.done (hD : D ∈ w.B) {ys : List V} (hL : w.H D = some (.lst ys)) : ∀ {p : List PV} {v : List V}, Reps K w p v → Reps K (w.done D live) p v
  | _, _, .nil => .nil
  | _, _, .cons h r => .cons (Rep.done hD hL h) (Reps.done hD hL r)
end
theorem ORep.done (hD : D ∈ w.B) {ys : List V} (hL : w.H D = some (.lst ys)) {o : PO} {a : Addr} (h : ORep K w o a) : ORep K (w.done D live) o a := by
  cases o with
  | lst xs => obtain ⟨vs, e, q1, q2⟩ := h; exact ⟨vs, e, q1.done hD hL, q2⟩
  | ins c ns xs => obtain ⟨dx, vs, e, q1, q2⟩ := h; exact ⟨dx, vs, e, q1.done hD hL, q2⟩
theorem Ext.done {w0 : Wd} (x : Ext w0 w) (h0 : w0.H D = none) : Ext w0 (w.done D live) := by
  obtain ⟨l, e⟩ := x.pre
  refine ⟨⟨if live then l ++ [D] else l, by cases live <;> simp [Wd.done, e]⟩, fun a o h n => ?_⟩
  obtain ⟨h1, h2, h3⟩ := x.keep a o h n
  have ne : a ≠ D := ne_of_none h h0
  refine ⟨h1, fun z => ?_, ?_⟩
  · cases live with
    | false => exact h2 z
    | true =>
      rcases List.mem_append.mp z with z | z
      · exact h2 z
      · exact ne (List.mem_singleton.mp z)
  · show a ∈ w.B.filter _ ↔ _
    rw [List.mem_filter]
    exact ⟨fun z => h3.mp z.1, fun z => ⟨h3.mpr z, decide_eq_true ne⟩⟩
theorem Rel.done {h : PH} (r : Rel K w h) (hD : D ∈ w.B) {ys : List V} (hL : w.H D = some (.lst ys)) {xs : List PV} (rx : Reps K w xs ys) (hl : ys.length ≤ sizeLine) : Rel K (w.done D live) (if live then h ++ [PO.lst xs] else h) where
  nd := by
    cases live with
    | false => exact r.nd
    | true =>
      show (w.M ++ [D]).Nodup
      rw [List.nodup_append]
      refine ⟨r.nd, by simp, fun a ha b hb => ?_⟩
      rw [List.mem_singleton.mp hb]
      rintro rfl
      exact (r.busy _ hD).2 ha
  len := by
    cases live with
    | false => exact r.len
    | true =>
      show (w.M ++ [D]).length = (h ++ [_]).length
      simp [r.len]
  objs := fun n z a h1 h2 => by
    cases live with
    | false => exact (r.objs n z a h1 h2).done hD hL
    | true =>
      have h1 : (h ++ [PO.lst xs])[n]? = some z := h1
      have h2 : (w.M ++ [D])[n]? = some a := h2
      by_cases hn : n < h.length
      · rw [List.getElem?_append_left hn] at h1
        rw [List.getElem?_append_left (by rw [r.len]; exact hn)] at h2
        exact (r.objs n z a h1 h2).done hD hL
      · have hn2 : n < (h ++ [PO.lst xs]).length := (List.getElem?_eq_some_iff.mp h1).1
        rw [List.length_append, List.length_singleton] at hn2
        have e : n = h.length := by omega
        subst e
        rw [List.getElem?_append_right (Nat.le_refl _)] at h1
        rw [← r.len, List.getElem?_append_right (Nat.le_refl _)] at h2
        simp at h1 h2
        subst h1 h2
        exact ⟨ys, hL, rx.done hD hL, hl⟩
  busy := fun b hb => by
    obtain ⟨hb1, hb2⟩ := List.mem_filter.mp hb
    obtain ⟨e, n⟩ := r.busy b hb1
    refine ⟨e, fun z => ?_⟩
    cases live with
    | false => exact n z
    | true =>
      rcases List.mem_append.mp z with z | z
      · exact n z
      · exact (of_decide_eq_true hb2) (List.mem_singleton.mp z)
end

/-- slots -/
structure SloR (K : PySem.W.Frag) (w : Wd) (σ : St) (ρ : Sl) : Prop where
  len : σ.length = ρ.length
  at_ : ∀ (i : Nat) (p : PV), ρ[i]? = some (some p) → ∃ v, σ[i]? = some (some v) ∧ Rep K w p v
theorem SloR.mono {K : PySem.W.Frag} {w w' : Wd} {σ : St} {ρ : Sl} (s : SloR K w σ ρ) (x : Ext w w') : SloR K w' σ ρ :=
  ⟨s.len, fun i p e => let ⟨v, h1, h2⟩ := s.at_ i p e; ⟨v, h1, h2.mono x⟩⟩
theorem SloR.monoW {K : PySem.W.Frag} {w w' : Wd} {σ : St} {ρ : Sl} (s : SloR K w σ ρ) (x : ExtW w w') : SloR K w' σ ρ :=
  ⟨s.len, fun i p e => let ⟨v, h1, h2⟩ := s.at_ i p e; ⟨v, h1, h2.monoW x⟩⟩
theorem SloR.put {K : PySem.W.Frag} {w : Wd} {σ : St} {ρ : Sl} (s : SloR K w σ ρ) {p : PV} {v : V} (r : Rep K w p v) (i : Nat) : SloR K w (σ.set i (some v)) (ρ.set i (some p)) := by
  refine ⟨by simp [s.len], fun j q e => ?_⟩
  by_cases hj : i = j
  · subst hj
    by_cases hl : i < ρ.length
    · rw [List.getElem?_set_self hl] at e
      cases e
      exact ⟨v, List.getElem?_set_self (by rw [s.len]; exact hl), r⟩
    · rw [List.getElem?_eq_none (by simpa using hl)] at e
      cases e
  · rw [List.getElem?_set_ne hj] at e
    rw [List.getElem?_set_ne hj]
    exact s.at_ j q e
theorem SloR.forget {K : PySem.W.Frag} {w : Wd} {σ : St} {ρ : Sl} (s : SloR K w σ ρ) (i : Nat) : SloR K w (σ.set i none) (ρ.set i none) := by
  refine ⟨by simp [s.len], fun j q e => ?_⟩
  by_cases hj : i = j
  · subst hj
    by_cases hl : i < ρ.length
    · rw [List.getElem?_set_self hl] at e
      cases e
    · rw [List.getElem?_eq_none (by simpa using hl)] at e
      cases e
  · rw [List.getElem?_set_ne hj] at e
    rw [List.getElem?_set_ne hj]
    exact s.at_ j q e
def wipeP (ρ : Sl) : List Nat → Sl
  | [] => ρ
  | v :: vs => (wipeP ρ vs).set v none
theorem SloR.wipe {K : PySem.W.Frag} {w : Wd} {σ : St} {ρ : Sl} (s : SloR K w σ ρ) : ∀ vs : List Nat, SloR K w (L2.wipe σ vs) (wipeP ρ vs)
  | [] => s
  | v :: vs => (s.wipe vs).forget v

/-! ### results -/
/-- an exception: its class (one's own, or built in), its fields -/
inductive XC where
  | own (c : Str) | blt (n : String)
structure PX where
  cls : XC
  ns : List Str
  vs : List PV
inductive Res (α : Type) where
  | ok (a : α) (h : PH)
  | exc (x : PX) (h : PH)
  | bad
def Res.bind {α β : Type} (r : Res α) (f : α → PH → Res β) : Res β :=
  match r with
  | .ok a h => f a h
  | .exc x h => .exc x h
  | .bad => .bad
@[simp] theorem Res.bind_ok {α β : Type} (a : α) (h : PH) (f : α → PH → Res β) : (Res.ok a h).bind f = f a h := rfl
@[simp] theorem Res.bind_exc {α β : Type} (x : PX) (h : PH) (f : α → PH → Res β) : (Res.exc x h : Res α).bind f = .exc x h := rfl
@[simp] theorem Res.bind_bad {α β : Type} (f : α → PH → Res β) : (Res.bad : Res α).bind f = .bad := rfl
theorem Res.bind_assoc {α β γ : Type} (r : Res α) (f : α → PH → Res β) (g : β → PH → Res γ) : (r.bind f).bind g = r.bind fun a h => (f a h).bind g := by
  cases r <;> rfl
def Res.of {α : Type} (o : Option α) (h : PH) : Res α := match o with
  | some a => .ok a h
  | none => .bad
@[simp] theorem Res.of_some {α : Type} (a : α) (h : PH) : Res.of (some a) h = .ok a h := rfl
@[simp] theorem Res.of_none {α : Type} (h : PH) : Res.of (none : Option α) h = .bad := rfl
inductive Out where
  | nx (ρ : Sl) (h : PH) | rt (v : PV) (h : PH) | bk (ρ : Sl) (h : PH) | ct (ρ : Sl) (h : PH)
  | exc (x : PX) (ρ : Sl) (h : PH) | bad
def Out.bind (o : Out) (f : Sl → PH → Out) : Out := match o with
  | .nx ρ h => f ρ h
  | o => o
@[simp] theorem Out.bind_nx (ρ : Sl) (h : PH) (f : Sl → PH → Out) : (Out.nx ρ h).bind f = f ρ h := rfl
@[simp] theorem Out.bind_rt (v : PV) (h : PH) (f : Sl → PH → Out) : (Out.rt v h).bind f = .rt v h := rfl
@[simp] theorem Out.bind_bk (ρ : Sl) (h : PH) (f : Sl → PH → Out) : (Out.bk ρ h).bind f = .bk ρ h := rfl
@[simp] theorem Out.bind_ct (ρ : Sl) (h : PH) (f : Sl → PH → Out) : (Out.ct ρ h).bind f = .ct ρ h := rfl
@[simp] theorem Out.bind_exc (x : PX) (ρ : Sl) (h : PH) (f : Sl → PH → Out) : (Out.exc x ρ h).bind f = .exc x ρ h := rfl
@[simp] theorem Out.bind_bad (f : Sl → PH → Out) : Out.bad.bind f = .bad := rfl
/-- an expression's result within a statement -/
def Res.out {α : Type} (r : Res α) (ρ : Sl) (f : α → PH → Out) : Out := match r with
  | .ok a h => f a h
  | .exc x h => .exc x ρ h
  | .bad => .bad
@[simp] theorem Res.out_ok {α : Type} (a : α) (h : PH) (ρ : Sl) (f : α → PH → Out) : (Res.ok a h).out ρ f = f a h := rfl
@[simp] theorem Res.out_exc {α : Type} (x : PX) (h : PH) (ρ : Sl) (f : α → PH → Out) : (Res.exc x h : Res α).out ρ f = .exc x ρ h := rfl
@[simp] theorem Res.out_bad {α : Type} (ρ : Sl) (f : α → PH → Out) : (Res.bad : Res α).out ρ f = .bad := rfl

/-! ### readings -/
def XRep (K : PySem.W.Frag) (w : Wd) (x : PX) (cls : Value) (d : Option Addr) : Prop :=
  (match x.cls with
    | .own c => cls = .ref (He.ga K c)
    | .blt n => cls = .type n) ∧
  (x.ns ≠ [] → ∃ da vs, d = some da ∧ Reps K w x.vs vs ∧ x.ns.length = vs.length ∧ w.H da = some (.xd (x.ns.zip vs)))
section
variable (K : PySem.W.Frag) (W : WX)
def PostE {α β : Type} (rep : Wd → α → β → Prop) (w : Wd) (σ : St) (r : Res α) (Q : β → Hp → Prop) : Prop := match r with
  | .ok p h => ∀ w' v, Ext w w' → Rel K w' h → rep w' p v → Q v w'.H
  | .exc x h => ∀ w' cls d, Ext w w' → Rel K w' h → XRep K w' x cls d → W cls d σ w'.H
  | .bad => False
/-- the state is told by ρ, h -/
structure At (w : Wd) (σ : St) (H : Hp) (ρ : Sl) (h : PH) : Prop where
  heap : w.H = H
  rel : Rel K w h
  sl : SloR K w σ ρ
def tDen {α β : Type} (rep : Wd → α → β → Prop) (d : Sl → PH → Res α) : St → Hp → (β → Hp → Prop) → Prop := fun σ H Q =>
  ∃ w ρ h, At K w σ H ρ h ∧ PostE K W rep w σ (d ρ h) Q
abbrev tD (d : Sl → PH → Res PV) : TE := tDen K W (Rep K) d
abbrev tDs (d : Sl → PH → Res (List PV)) : TA := tDen K W (Reps K) d
abbrev tDb (d : Sl → PH → Res Bool) : TT := tDen K W (fun _ p v => p = v) d
def PostS (w : Wd) (o : Out) (D : Ends) : Prop := match o with
  | .nx ρ h => ∀ w' σ', Ext w w' → Rel K w' h → SloR K w' σ' ρ → D.nx σ' w'.H
  | .bk ρ h => ∀ w' σ', Ext w w' → Rel K w' h → SloR K w' σ' ρ → D.bk σ' w'.H
  | .ct ρ h => ∀ w' σ', Ext w w' → Rel K w' h → SloR K w' σ' ρ → D.ct σ' w'.H
  | .rt p h => ∀ w' v, Ext w w' → Rel K w' h → Rep K w' p v → D.rt v w'.H
  | .exc x ρ h => ∀ w' σ' cls d, Ext w w' → Rel K w' h → SloR K w' σ' ρ → XRep K w' x cls d → W cls d σ' w'.H
  | .bad => False
def tDS (d : Sl → PH → Out) : TS := fun D σ H => ∃ w ρ h, At K w σ H ρ h ∧ PostS K W w (d ρ h) D
end
section
variable {K : PySem.W.Frag} {W : WX}
theorem At.ext {w w' : Wd} {σ : St} {H : Hp} {ρ : Sl} {h h' : PH} (a : At K w σ H ρ h) (x : Ext w w') (r : Rel K w' h') : At K w' σ w'.H ρ h' := ⟨rfl, r, a.sl.mono x⟩
theorem PostE.ext {α β : Type} {rep : Wd → α → β → Prop} {w w' : Wd} {σ : St} {r : Res α} {Q : β → Hp → Prop} (p : PostE K W rep w σ r Q) (x : Ext w w') : PostE K W rep w' σ r Q := by
  cases r with
  | ok a h => exact fun w2 v x2 r2 q2 => p w2 v (x.trans x2) r2 q2
  | exc e h => exact fun w2 c d x2 r2 q2 => p w2 c d (x.trans x2) r2 q2
  | bad => exact p
theorem PostS.ext {w w' : Wd} {o : Out} {D : Ends} (p : PostS K W w o D) (x : Ext w w') : PostS K W w' o D := by
  cases o with
  | nx ρ h => exact fun w2 v x2 r2 q2 => p w2 v (x.trans x2) r2 q2
  | bk ρ h => exact fun w2 v x2 r2 q2 => p w2 v (x.trans x2) r2 q2
  | ct ρ h => exact fun w2 v x2 r2 q2 => p w2 v (x.trans x2) r2 q2
  | rt v h => exact fun w2 v x2 r2 q2 => p w2 v (x.trans x2) r2 q2
  | exc e ρ h => exact fun w2 s c d x2 r2 q2 => p w2 s c d (x.trans x2) r2 q2
  | bad => exact p
theorem PostE.mono {α β : Type} {rep : Wd → α → β → Prop} {w : Wd} {σ : St} {r : Res α} {Q Q' : β → Hp → Prop} (p : PostE K W rep w σ r Q) (hq : ∀ v H, Q v H → Q' v H) : PostE K W rep w σ r Q' := by
  cases r with
  | ok a h => exact fun w2 v x2 r2 q2 => hq _ _ (p w2 v x2 r2 q2)
  | exc e h => exact p
  | bad => exact p
/-- one after another -/
theorem tDen.bind {α β γ δ : Type} {rep : Wd → α → β → Prop} {rep' : Wd → γ → δ → Prop} {d : Sl → PH → Res α} {k : α → Sl → PH → Res γ} {σ : St} {H : Hp} {Q : δ → Hp → Prop}
    (t : tDen K W rep' (fun ρ h => (d ρ h).bind fun a h1 => k a ρ h1) σ H Q) :
    tDen K W rep d σ H fun v H1 => ∃ w ρ h a, At K w σ H1 ρ h ∧ rep w a v ∧ PostE K W rep' w σ (k a ρ h) Q := by
  obtain ⟨w, ρ, h, at_, p⟩ := t
  refine ⟨w, ρ, h, at_, ?_⟩
  cases e : d ρ h with
  | ok a h1 =>
    simp only [e, Res.bind_ok] at p
    exact fun w' v x r q => ⟨w', ρ, h1, a, at_.ext x r, q, p.ext x⟩
  | exc y h1 =>
    simp only [e, Res.bind_exc] at p
    exact p
  | bad =>
    simp only [e, Res.bind_bad] at p
    exact p.elim
theorem tDen.ofRes {α β : Type} {rep : Wd → α → β → Prop} {w : Wd} {ρ : Sl} {h : PH} {σ : St} {H : Hp} {d : Sl → PH → Res α} {Q : β → Hp → Prop} (a : At K w σ H ρ h) (p : PostE K W rep w σ (d ρ h) Q) : tDen K W rep d σ H Q := ⟨w, ρ, h, a, p⟩
/-- an expression, then a statement -/
theorem tDS.out {α β : Type} {rep : Wd → α → β → Prop} {d : Sl → PH → Res α} {k : α → Sl → PH → Out} {σ : St} {H : Hp} {D : Ends}
    (t : tDS K W (fun ρ h => (d ρ h).out ρ fun a h1 => k a ρ h1) D σ H) :
    tDen K W rep d σ H fun v H1 => ∃ w ρ h a, At K w σ H1 ρ h ∧ rep w a v ∧ PostS K W w (k a ρ h) D := by
  obtain ⟨w, ρ, h, at_, p⟩ := t
  refine ⟨w, ρ, h, at_, ?_⟩
  cases e : d ρ h with
  | ok a h1 =>
    simp only [e, Res.out_ok] at p
    exact fun w' v x r q => ⟨w', ρ, h1, a, at_.ext x r, q, p.ext x⟩
  | exc y h1 =>
    simp only [e, Res.out_exc] at p
    exact fun w' cls da x r q => p w' σ cls da x r (at_.sl.mono x) q
  | bad =>
    simp only [e, Res.out_bad] at p
    exact p.elim
end
/-- weaken a reading -/
theorem PE.imp {X : Cx} {e : Expr} {t t' : TE} (h : PE X e t) (i : ∀ σ H Q, t' σ H Q → t σ H Q) : PE X e t' := ⟨fun pins s σ H Q I q => h.run pins s σ H Q I (i σ H Q q)⟩
theorem PT.imp {X : Cx} {e : Expr} {t t' : TT} (h : PT X e t) (i : ∀ σ H Q, t' σ H Q → t σ H Q) : PT X e t' := ⟨fun pins s σ H Q I q => h.run pins s σ H Q I (i σ H Q q)⟩
theorem PA.imp {X : Cx} {e : List Expr} {t t' : TA} (h : PA X e t) (i : ∀ σ H Q, t' σ H Q → t σ H Q) : PA X e t' := ⟨fun pos pins s σ H Q I q => h.run pos pins s σ H Q I (i σ H Q q)⟩
theorem PS.imp {X : Cx} {e : Stmt} {t t' : TS} (h : PS X e t) (i : ∀ D σ H, t' D σ H → t D σ H) : PS X e t' := ⟨fun pins s σ H D I q => h.run pins s σ H D I (i D σ H q)⟩
theorem PSs.imp {X : Cx} {e : List Stmt} {t t' : TS} (h : PSs X e t) (i : ∀ D σ H, t' D σ H → t D σ H) : PSs X e t' := ⟨fun pins s σ H D I q => h.run pins s σ H D I (i D σ H q)⟩
end R

set_option Elab.async false
set_option linter.all false
set_option maxRecDepth 100000
set_option maxHeartbeats 1000000
/-! R: sets whose members are tuples of any depth, counted -/
namespace R
open PySem PySem.Spec PyProof.Rows L2

mutual
/-- numbers, None, tuples of these -/
def pureKey : NestedKey → Bool
  | .none => true
  | .num _ => true
  | .text _ => false
  | .tup ks => pureKeys ks
def pureKeys : List NestedKey → Bool
  | [] => true
  | k :: ks => pureKey k && pureKeys ks
end
section
variable {P : Program} {w : World}
def HashV (P : Program) (w : World) (n : Nat) (s : Shared) (v : Value) : Prop := ∀ (A : Around) (E : Value → Shared → Prop) (Q : Bool → Shared → Prop), Q true s → wpAny (model P w) A (hashByValue n v) Q E s
def ClsV0 (P : Program) (w : World) (n : Nat) (s : Shared) (v : Value) : Prop := ∀ (A : Around) (E : Value → Shared → Prop) (Q : Bool → Shared → Prop), Q false s → wpAny (model P w) A (ofAClassStatement n v) Q E s
theorem hashV_tup {n : Nat} {s : Shared} {a : Addr} {o : Obj} {vs : Array Value} {m : Nat} (ho : s.heap.get? a = some o) (hc : o.cls = .type "tuple") (hd : o.data = .seq vs m) (hv : ∀ v ∈ vs.toList, HashV P w n s v) : HashV P w (n + 1) s (.ref a) := by
  intro A E Q q
  have ty : s.TypeIs (.ref a) "tuple" := ⟨o, ho, hc⟩
  unfold hashByValue
  refine wpAny_bind (wpAny_specialOf ty F.slot_tuple_hash.lookup ?_)
  show wpAny _ _ (seqItems? (.ref a) >>= _) _ _ s
  refine wpAny_bind (wpAny_seqItems ho hd (wpAny_bind ?_))
  show wpAny _ _ (forIn vs _ _) _ _ s
  rw [← Array.forIn_toList]
  refine wpAny_forIn_list _ (fun left r s1 => s1 = s ∧ r.1 = none ∧ ∀ v ∈ left, HashV P w n s v) _ ?_ ?_ _ _ ⟨rfl, rfl, hv⟩
  · rintro v left r s1 ⟨rfl, hr, all⟩
    refine wpAny_bind (all v List.mem_cons_self _ _ _ ?_)
    simp only [Bool.not_true, Bool.false_eq_true, if_false]
    exact wpAny_pure ⟨rfl, rfl, fun u hm => all u (List.mem_cons_of_mem _ hm)⟩
  · rintro ⟨r1, r2⟩ s1 ⟨rfl, hr, _⟩
    simp only at hr
    subst hr
    exact wpAny_pure q
theorem clsV_tup {n : Nat} {s : Shared} {a : Addr} {o : Obj} {vs : Array Value} {m : Nat} (ho : s.heap.get? a = some o) (hc : o.cls = .type "tuple") (hd : o.data = .seq vs m) (hv : ∀ v ∈ vs.toList, ClsV0 P w n s v) : ClsV0 P w (n + 1) s (.ref a) := by
  intro A E Q q
  have ty : s.TypeIs (.ref a) "tuple" := ⟨o, ho, hc⟩
  unfold ofAClassStatement
  refine wpAny_bind (wpAny_typeOf ty ?_)
  dsimp only
  have e0 : (("tuple" : String) == "tuple") = true := by decide
  simp only [e0, if_true, Bool.not_true, Bool.false_eq_true, if_false]
  try refine wpAny_bind (wpAny_pure ?_)
  try simp only [Bool.not_true, Bool.false_eq_true, if_false]
  show wpAny _ _ (seqItems? (.ref a) >>= _) _ _ s
  refine wpAny_bind (wpAny_seqItems ho hd ?_)
  dsimp only
  refine wpAny_bind ?_
  show wpAny _ _ (forIn vs _ _) _ _ s
  rw [← Array.forIn_toList]
  refine wpAny_forIn_list _ (fun left r s1 => s1 = s ∧ r.1 = none ∧ ∀ v ∈ left, ClsV0 P w n s v) _ ?_ ?_ _ _ ⟨rfl, rfl, hv⟩
  · rintro v left r s1 ⟨rfl, hr, all⟩
    refine wpAny_bind (all v List.mem_cons_self _ _ _ ?_)
    simp only [Bool.false_eq_true, if_false]
    exact wpAny_pure ⟨rfl, rfl, fun u hm => all u (List.mem_cons_of_mem _ hm)⟩
  · rintro ⟨r1, r2⟩ s1 ⟨rfl, hr, _⟩
    simp only at hr
    subst hr
    exact wpAny_pure q
mutual
theorem hashV_key : ∀ (k : NestedKey) (v : Value) (n : Nat) (s : Shared), NestedIs s.heap k v → pureKey k = true → k.depth ≤ n → HashV P w n s v
  | .none, _, n, s, x, _, _ => by
    cases x
    intro A E Q q
    rw [show hashByValue n .none = pure true by cases n <;> rfl]
    exact wpAny_pure q
  | .num i, _, n, s, x, _, _ => by
    intro A E Q q
    cases x with
    | int _ t =>
      rw [show hashByValue n (.int i t) = pure true by cases n <;> rfl]
      exact wpAny_pure q
    | @bool b _ e =>
      rw [show hashByValue n (.bool b) = pure true by cases n <;> rfl]
      exact wpAny_pure q
  | .text y, _, n, s, x, hp, _ => by simp [pureKey] at hp
  | .tup ks, _, n, s, x, hp, hn => by
    cases x with
    | tup hg hc hd hk =>
      simp only [NestedKey.depth] at hn
      rw [pureKey] at hp
      cases n with
      | zero => omega
      | succ n => exact hashV_tup hg hc hd (hashV_keys ks _ n s hk hp (by omega))
theorem hashV_keys : ∀ (ks : List NestedKey) (vs : List Value) (n : Nat) (s : Shared), NestedAll s.heap ks vs → pureKeys ks = true → NestedKey.depthAll ks ≤ n → ∀ v ∈ vs, HashV P w n s v
  | [], _, n, s, x, _, _, v, hv => by cases x; cases hv
  | k :: ks, _, n, s, x, hp, hn, v, hv => by
    cases x with
    | cons x1 x2 =>
      simp only [NestedKey.depthAll] at hn
      rw [pureKeys, Bool.and_eq_true] at hp
      rcases List.mem_cons.mp hv with e | hv
      · rw [e]; exact hashV_key k _ n s x1 hp.1 (by omega)
      · exact hashV_keys ks _ n s x2 hp.2 (by omega) v hv
end
mutual
theorem clsV_key : ∀ (k : NestedKey) (v : Value) (n : Nat) (s : Shared), NestedIs s.heap k v → k.depth ≤ n → ClsV0 P w n s v
  | .none, _, n, s, x, _ => by
    cases x
    intro A E Q q
    rw [show ofAClassStatement n .none = pure false by cases n <;> rfl]
    exact wpAny_pure q
  | .num i, _, n, s, x, _ => by
    intro A E Q q
    cases x with
    | int _ t =>
      rw [show ofAClassStatement n (.int i t) = pure false by cases n <;> rfl]
      exact wpAny_pure q
    | @bool b _ e =>
      rw [show ofAClassStatement n (.bool b) = pure false by cases n <;> rfl]
      exact wpAny_pure q
  | .text y, _, n, s, x, _ => by
    cases x
    intro A E Q q
    rename_i t
    rw [show ofAClassStatement n (.str y t) = pure false by cases n <;> rfl]
    exact wpAny_pure q
  | .tup ks, _, n, s, x, hn => by
    cases x with
    | tup hg hc hd hk =>
      simp only [NestedKey.depth] at hn
      cases n with
      | zero => omega
      | succ n => exact clsV_tup hg hc hd (clsV_keys ks _ n s hk (by omega))
theorem clsV_keys : ∀ (ks : List NestedKey) (vs : List Value) (n : Nat) (s : Shared), NestedAll s.heap ks vs → NestedKey.depthAll ks ≤ n → ∀ v ∈ vs, ClsV0 P w n s v
  | [], _, n, s, x, _, v, hv => by cases x; cases hv
  | k :: ks, _, n, s, x, hn, v, hv => by
    cases x with
    | cons x1 x2 =>
      simp only [NestedKey.depthAll] at hn
      rcases List.mem_cons.mp hv with e | hv
      · rw [e]; exact clsV_key k _ n s x1 (by omega)
      · exact clsV_keys ks _ n s x2 (by omega) v hv
end
end
/-- the tuple at a is the key k -/
structure NK (h : Heap) (k : NestedKey) (a : Addr) : Prop where
  is : NestedIs h k (.ref a)
  dep : k.depth ≤ 8
  pu : pureKey k = true
theorem NK.keep {h h' : Heap} {k : NestedKey} {a : Addr} (x : NK h k a) (hk : ∀ b o vs n, h.get? b = some o → o.data = .seq vs n → h'.get? b = some o) : NK h' k a := ⟨x.is.at hk, x.dep, x.pu⟩
structure Ent where
  ad : Addr
  key : NestedKey
def Ent.row (w : World) (e : Ent) : Int × Value := (e.key.hash w, .ref e.ad)
abbrev hsOf (w : World) (L : List Ent) : List Int := L.map fun e => e.key.hash w
abbrev wayP (m : Nat) (h : Int) (c : Nat) : SetTable.Probe := nth m (runAt m (SetTable.bits h % (m + 1)) (SetTable.bits h)) c
structure NSet (w : World) (h : Heap) (a : Addr) (L : List Ent) (es : Array (Int × Value)) (ep : Nat) (t : SetTable) : Prop where
  obj : ∃ o, h.get? a = some o ∧ o.ExactSet ∧ o.data = .set es ep t
  row : es.toList = L.map (Ent.row w)
  tab : TabOk t (hsOf w L)
  nod : (L.map Ent.key).Nodup
  mem : ∀ e ∈ L, NK h e.key e.ad
  pla : t.plain = true
  fit : L.length * 5 < t.mask * 3
section
variable {P : Program} {w : World} {A : Around} {E : Value → Shared → Prop} {s : Shared} {a : Addr} {L : List Ent} {es : Array (Int × Value)} {ep : Nat} {t : SetTable}
theorem NSet.len (R : NSet w s.heap a L es ep t) : es.size = L.length := by
  have h := congrArg List.length R.row
  rwa [Array.length_toList, List.length_map] at h
theorem NSet.fits (R : NSet w s.heap a L es ep t) : t.fits es.size = true := by
  have h1 := R.tab.sz
  rw [List.length_map] at h1
  have h2 := R.len
  have h3 := R.fit
  unfold SetTable.fits SetTable.fill
  rw [R.tab.dm, Bool.and_eq_true, beq_iff_eq, decide_eq_true_eq]
  exact ⟨by omega, by show t.place.size + 0 ≤ t.mask; omega⟩
theorem NSet.at (R : NSet w s.heap a L es ep t) {i : Nat} {e : Ent} (h : L[i]? = some e) : es[i]? = some (e.row w) := by
  rw [← Array.getElem?_toList, R.row, List.getElem?_map, h]
  rfl
theorem quietSearch {k : NestedKey} {x : Addr} {Q : Bool → Shared → Prop} (hx : NK s.heap k x) : ∀ {ys : List Value}, (∀ y ∈ ys, ∃ k' c, y = Value.ref c ∧ NK s.heap k' c) → Q false s → wpAny (model P w) A (searchCouldBeSeen (.ref x) ys) Q E s := by
  intro ys hy q
  unfold searchCouldBeSeen
  refine wpAny_bind ?_
  refine wpAny_forIn_list _ (fun left r s1 => s1 = s ∧ r.1 = none ∧ ∀ y ∈ left, ∃ k' c, y = Value.ref c ∧ NK s.heap k' c) _ ?_ ?_ _ _ ⟨rfl, rfl, hy⟩
  · rintro v left r s1 ⟨rfl, hr, all⟩
    obtain ⟨k', c, rfl, hc⟩ := all v List.mem_cons_self
    have nxt : ∀ y ∈ left, ∃ k' c, y = Value.ref c ∧ NK s1.heap k' c := fun u hm => all u (List.mem_cons_of_mem _ hm)
    dsimp only
    by_cases hv : (x == c || (carriedByValue (.ref x) && carriedByValue (.ref c))) = true
    · exact wp_if_pos hv (wpAny_pure ⟨rfl, rfl, nxt⟩)
    · refine wp_if_neg hv ?_
      refine wpAny_bind (quiet_key k _ 8 s1 hx.is hx.dep _ _ _ ?_)
      simp only [Bool.not_true, Bool.false_eq_true, if_false]
      refine wpAny_bind (quiet_key k' _ 8 s1 hc.is hc.dep _ _ _ ?_)
      simp only [Bool.not_true, Bool.false_eq_true, if_false]
      refine wpAny_bind (clsV_key k _ 8 s1 hx.is hx.dep _ _ _ ?_)
      simp only [Bool.false_eq_true, if_false]
      refine wpAny_bind (clsV_key k' _ 8 s1 hc.is hc.dep _ _ _ ?_)
      simp only [Bool.false_eq_true, if_false]
      exact wpAny_pure ⟨rfl, rfl, nxt⟩
  · rintro ⟨r1, r2⟩ s1 ⟨rfl, hr, _⟩
    simp only at hr
    subst hr
    exact wpAny_pure q
theorem wayP_dummy (m : Nat) (h : Int) (c : Nat) : (wayP m h c).dummy = none := by
  have key : ∀ (n : Nat) (p : SetTable.Probe), p.dummy = none → (nth m p n).dummy = none := by
    intro n
    induction n with
    | zero => exact fun p hp => hp
    | succ n ih =>
      intro p hp
      refine ih (adv m p) ?_
      unfold adv
      split <;> exact hp
  exact key c _ rfl
/-- the search, from the c-th step of its way on -/
theorem nfind (R : NSet w s.heap a L es ep t) {x : Addr} {k : NestedKey} (hx : NK s.heap k x) (hu : A.units + 8 < cLine) {K : Nat} (hT : K < 10 * SetTable.turns t.mask)
    (hK : way t.mask (k.hash w) K ∉ t.place.toList) (hb : ∀ c, c < K → way t.mask (k.hash w) c ∈ t.place.toList) {Q : SetFound → Shared → Prop}
    (yes : k ∈ L.map Ent.key → Q (.there none) s) (no : k ∉ L.map Ent.key → Q (.free (way t.mask (k.hash w) K) false) s) :
    ∀ (f c : Nat) (stand : Option SetTable.Probe), stand.getD (t.probeStart (k.hash w)) = wayP t.mask (k.hash w) c → c ≤ K → K - c < f →
      (∀ (i : Nat) e, L[i]? = some e → e.key = k → ∃ c', c ≤ c' ∧ c' < K ∧ t.place.toList[i]? = some (way t.mask (k.hash w) c')) →
      wpAny (model P w) A (setSearchFrom a (.ref x) (k.hash w) true f stand) Q E s := by
  obtain ⟨o, ho, hex, hd⟩ := R.obj
  intro f
  induction f with
  | zero => intro c stand _ _ h; exact absurd h (Nat.not_lt_zero _)
  | succ f ih =>
    intro c stand hst hc hf ahead
    have wy : ∀ q, nth t.mask (wayP t.mask (k.hash w) c) q = wayP t.mask (k.hash w) (c + q) := fun q => (nth_add t.mask c _ q).symm
    have gs := go_spec t R.tab.ris R.tab.dm (fun i => (es[i]?.map (·.1)).getD 0) (k.hash w) (10 * SetTable.turns t.mask) (K - c) (wayP t.mask (k.hash w) c) (wayP_dummy _ _ _) (by omega)
      (fun q hq => by rw [wy]; exact hb (c + q) (by omega)) (by rw [wy, show c + (K - c) = K by omega]; exact hK)
    simp only [wy] at gs
    have hsh : ∀ (i : Nat) e, L[i]? = some e → (es[i]?.map (·.1)).getD 0 = e.key.hash w := fun i e he => by rw [R.at he]; rfl
    rw [setSearchFrom_succ]
    refine wpAny_bind (wpAny_setState_of ho hd R.fits ?_)
    dsimp only
    refine wp_if_neg (by unfold SetTable.gaveWay; rw [mask_odd R.tab.mok]; decide) ?_
    try refine wpAny_bind (wpAny_pure ?_)
    rcases gs with ⟨q, i, hq, hi, _, hno, hgo⟩ | ⟨hno, hgo⟩
    · have pr : t.probe (fun i => (es[i]?.map (·.1)).getD 0) (k.hash w) (stand.getD (t.probeStart (k.hash w))) = some (.candidate (way t.mask (k.hash w) (c + q)) i (wayP t.mask (k.hash w) (c + (q + 1)))) := by
        rw [hst]; exact hgo
      rw [pr]
      dsimp only
      have hil : i < L.length := by
        have h1 := (List.getElem?_eq_some_iff.mp hi).1
        have h2 := R.tab.sz
        rw [List.length_map] at h2
        rw [Array.length_toList] at h1
        omega
      obtain ⟨e, he⟩ : ∃ e, L[i]? = some e := ⟨_, List.getElem?_eq_getElem hil⟩
      have hme : e ∈ L := List.mem_of_getElem? he
      have hke := R.mem e hme
      have go : wpAny (model P w) A (searchRest a (.ref x) (k.hash w) true f es t (way t.mask (k.hash w) (c + q)) i (wayP t.mask (k.hash w) (c + (q + 1)))) Q E s := by
        unfold searchRest
        rw [R.at he]
        dsimp only [Ent.row]
        refine wpAny_bind (wpAny_holding ((nestedKind P w).eqBool hu ⟨hke.is, hke.dep⟩ ⟨hx.is, hx.dep⟩ ?_))
        refine wpAny_bind (wpAny_setState_of ho hd R.fits ?_)
        dsimp only
        by_cases hkk : e.key = k
        · exact wp_if_pos (by simp [hkk]) (wpAny_pure (yes (List.mem_map.mpr ⟨e, hme, hkk⟩)))
        · refine wp_if_neg (by simp [hkk]) ?_
          try refine wpAny_bind (wpAny_pure ?_)
          rw [sameMem]
          dsimp only
          have live : t.slot (way t.mask (k.hash w) (c + q)) = .live i := slot_live R.tab.ris hi
          simp only [if_true, live, R.at he, Ent.row]
          refine wpAny_bind (wpAny_isSame_ref_self (wpAny_bind (wpAny_pure ?_)))
          simp only [if_true]
          refine wp_if_neg (by simp [hkk]) ?_
          refine ih (c + (q + 1)) _ rfl (by omega) (by omega) fun i0 e0 h0 hk0 => ?_
          obtain ⟨c', l1, l2, l3⟩ := ahead i0 e0 h0 hk0
          refine ⟨c', ?_, l2, l3⟩
          have ne1 : ¬ c' < c + q := fun z => hno (c' - c) i0 (by omega) (by rw [show c + (c' - c) = c' by omega]; exact l3) (by rw [hsh i0 e0 h0, hk0])
          have ne2 : c' ≠ c + q := fun z => by
            rw [z] at l3
            have s0 := slot_live R.tab.ris l3
            rw [live] at s0
            injection s0 with s0
            rw [← s0, he] at h0
            cases h0
            exact hkk hk0
          omega
      by_cases hl : t.led = true
      · refine wp_if_neg (by simp [hl]) ?_
        try refine wpAny_bind (wpAny_pure ?_)
        exact go
      · refine wp_if_pos (by simp [hl]) ?_
        refine wpAny_bind (quietSearch hx (fun y hy => ?_) ?_)
        · obtain ⟨r, hr, er⟩ := List.mem_map.mp hy
          have hr1 : r ∈ es ∧ r.1 = k.hash w := by simpa using hr
          have hr2 : r ∈ es.toList := by simpa using hr1.1
          rw [R.row] at hr2
          obtain ⟨e2, he2, ee⟩ := List.mem_map.mp hr2
          exact ⟨e2.key, e2.ad, by rw [← er, ← ee]; rfl, R.mem e2 he2⟩
        · refine wp_if_neg (by decide) ?_
          try refine wpAny_bind (wpAny_pure ?_)
          exact go
    · have pr : t.probe (fun i => (es[i]?.map (·.1)).getD 0) (k.hash w) (stand.getD (t.probeStart (k.hash w))) = some (.empty (way t.mask (k.hash w) K) none) := by
        rw [hst]
        rw [show c + (K - c) = K by omega] at hgo
        exact hgo
      rw [pr]
      dsimp only
      refine wpAny_pure (no fun hm => ?_)
      obtain ⟨e0, h0, hk0⟩ := List.mem_map.mp hm
      obtain ⟨i0, hi0, e1⟩ := List.getElem_of_mem h0
      have h00 : L[i0]? = some e0 := by rw [List.getElem?_eq_getElem hi0, e1]
      obtain ⟨c', l1, l2, l3⟩ := ahead i0 e0 h00 hk0
      exact hno (c' - c) i0 (by omega) (by rw [show c + (c' - c) = c' by omega]; exact l3) (by rw [hsh i0 e0 h00, hk0])
theorem nsearch (R : NSet w s.heap a L es ep t) {x : Addr} {k : NestedKey} (hx : NK s.heap k x) (hu : A.units + 8 < cLine) {Q : SetFound → Shared → Prop}
    (yes : k ∈ L.map Ent.key → Q (.there none) s)
    (no : ∀ K, k ∉ L.map Ent.key → way t.mask (k.hash w) K ∉ t.place.toList → (∀ c, c < K → way t.mask (k.hash w) c ∈ t.place.toList) → Q (.free (way t.mask (k.hash w) K) false) s) :
    wpAny (model P w) A (setSearch a (.ref x) (k.hash w) true) Q E s := by
  have room := R.fit
  obtain ⟨K, hT, hK, hb⟩ := R.tab.first (by rw [List.length_map]; omega) (k.hash w)
  have big : K < 100000 := by
    have : 10 * SetTable.turns t.mask ≤ 1420 := by
      unfold SetTable.turns
      rcases R.tab.mok with e | e | e <;> omega
    omega
  unfold setSearch
  refine nfind R hx hu hT hK hb yes (fun hn => no K hn hK hb) 100000 0 none rfl (Nat.zero_le _) (by omega) fun i e he hk => ?_
  have hi : (hsOf w L)[i]? = some (k.hash w) := by rw [List.getElem?_map, he, ← hk]; rfl
  have hil : i < t.place.toList.length := by
    have h1 : i < L.length := (List.getElem?_eq_some_iff.mp he).1
    have h2 := R.tab.sz
    rw [List.length_map] at h2
    rw [Array.length_toList]
    omega
  have hj := List.getElem?_eq_getElem hil
  obtain ⟨c, hc, ec⟩ := R.tab.before hK hi hj
  exact ⟨c, Nat.zero_le _, hc, by rw [hj, ec]⟩
theorem NK.same {h h' : Heap} {k : NestedKey} {b : Addr} {o : Obj} (x : NK h k b) (ho : h.get? a = some o) (hd : o.data = .set es ep t) (hs : Heap.SameBut a h h') : NK h' k b :=
  x.keep fun c oc vs n hc hv => (hs.2 c fun e => by rw [e, ho] at hc; cases hc; rw [hd] at hv; cases hv).trans hc
theorem order_ents (L : List Ent) (es : Array (Int × Value)) (order : Array Nat) (hr : es.toList = L.map (Ent.row w)) (hp : order.toList.Perm (List.range L.length)) :
    ∃ M, (order.filterMap (es[·]?)).toList = M.map (Ent.row w) ∧ M.Perm L ∧ hsOf w M = order.toList.map fun i => (es.map (·.1)).getD i 0 := by
  have ent : ∀ i : Nat, es[i]? = (L[i]?).map (Ent.row w) := fun i => by rw [← Array.getElem?_toList, hr, List.getElem?_map]
  have fm : ∀ l : List Nat, l.filterMap (fun i => es[i]?) = (l.filterMap fun i => L[i]?).map (Ent.row w) := fun l => by
    induction l with
    | nil => rfl
    | cons i l ih =>
      rw [List.filterMap_cons, List.filterMap_cons, ent i]
      cases L[i]? with
      | none => exact ih
      | some e => simp [ih]
  have all : (List.range L.length).filterMap (fun i => L[i]?) = L := by
    have key : ∀ n, n ≤ L.length → (List.range n).filterMap (fun i => L[i]?) = L.take n := by
      intro n
      induction n with
      | zero => intro _; rfl
      | succ n ih =>
        intro hn
        rw [List.range_succ, List.filterMap_append, ih (Nat.le_of_lt hn), List.take_add_one, List.filterMap_cons, List.getElem?_eq_getElem hn]
        rfl
    rw [key L.length (Nat.le_refl _), List.take_length]
  refine ⟨order.toList.filterMap fun i => L[i]?, by rw [← fm]; first | exact Array.toList_filterMap .. | simp, ?_, ?_⟩
  · have := hp.filterMap (fun i => L[i]?)
    rwa [all] at this
  · have bd : ∀ i ∈ order.toList, i < L.length := fun i hi => List.mem_range.mp (hp.mem_iff.mp hi)
    generalize order.toList = l at bd
    induction l with
    | nil => rfl
    | cons i l ih =>
      have hi := bd i List.mem_cons_self
      have ee : es[i]? = some (L[i].row w) := by rw [ent i, List.getElem?_eq_getElem hi]; rfl
      rw [List.filterMap_cons, List.getElem?_eq_getElem hi]
      show (L[i].key.hash w) :: hsOf w (l.filterMap fun i => L[i]?) = _
      rw [ih fun j hj => bd j (List.mem_cons_of_mem _ hj), List.map_cons]
      congr 1
      have e5 : (es.map (·.1))[i]? = some (L[i].key.hash w) := by rw [Array.getElem?_map, ee]; rfl
      simp [Array.getD_eq_getD_getElem?, e5]
theorem nrelay {o : Obj} (ho : s.heap.get? a = some o) (hex : o.ExactSet) (hd : o.data = .set es ep t) (hr : es.toList = L.map (Ent.row w)) (hsz : t.place.size = es.size) (hdm : t.dummies = #[]) (hfl : es.size ≤ t.mask)
    (nod : (L.map Ent.key).Nodup) (mem : ∀ e ∈ L, NK s.heap e.key e.ad) (pl : t.plain = true) {wanted M : Nat} (hw : SetTable.sizeAbove wanted - 1 = M) (hM : MaskOk M) (hw2 : SetTable.sizeAbove wanted ≤ 128) (hn : L.length * 5 < M * 3) {Q : Unit → Shared → Prop}
    (hQ : ∀ h' L' es' ep' t', Heap.SameBut a s.heap h' → NSet w h' a L' es' ep' t' → L'.Perm L → Q () { s with heap := h' }) : wpAny (model P w) A (setRelay a wanted) Q E s := by
  have hsl : es.size = L.length := by
    have h := congrArg List.length hr
    rwa [Array.length_toList, List.length_map] at h
  have hfits : t.fits es.size = true := by
    unfold SetTable.fits SetTable.fill
    rw [hdm, Bool.and_eq_true, beq_iff_eq, decide_eq_true_eq]
    exact ⟨hsz, by show t.place.size + 0 ≤ t.mask; omega⟩
  obtain ⟨t', order, er, hp, T, em, el, ep', ed⟩ := relaid_ok t (hs := es.map (·.1)) (wanted := wanted) hw hM (by rw [Array.size_map, hsl]; omega)
  rw [Array.size_map, hsl] at hp
  obtain ⟨L2, r1, r2, r3⟩ := order_ents L es order hr hp
  rw [← r3] at T
  have hs2 : (order.filterMap (es[·]?)).size = es.size := by
    have h := congrArg List.length r1
    rw [Array.length_toList, List.length_map, r2.length_eq] at h
    rw [h, hsl]
  have hM128 : M ≤ 127 := by omega
  rw [setRelay_eq]
  refine wpAny_bind (wpAny_setState_of ho hd hfits ?_)
  dsimp only
  refine wp_if_neg (by rw [sizeLine_eq]; omega) ?_
  try refine wpAny_bind (wpAny_pure ?_)
  rw [er]
  dsimp only
  refine wpAny_bind ?_
  refine wp_if_neg (by rw [hs2]; simp) ?_
  try refine wpAny_bind (wpAny_pure ?_)
  refine wpAny_pure ?_
  dsimp only
  refine wpAny_storeSet_of ho hd ?_ (by rw [hs2, hsl, sizeLine_eq]; omega)
  have sb : Heap.SameBut a s.heap (s.heap.update a (Obj.putSet (order.filterMap (es[·]?)) t')) := Heap.SameBut.update ..
  exact hQ _ L2 (order.filterMap (es[·]?)) (ep + 1) t' sb ⟨⟨_, store_at ho hd, ⟨hex.1, hex.2.1, hex.2.2⟩, rfl⟩, r1, T, (r2.map Ent.key).nodup_iff.mpr nod, fun e he => (mem e (r2.mem_iff.mp he)).same ho hd sb, by rw [ep']; exact pl, by rw [r2.length_eq, em]; exact hn⟩ r2
/-- one more -/
theorem nadd (R : NSet w s.heap a L es ep t) {x : Addr} {k : NestedKey} (hx : NK s.heap k x) (hu : A.units + 8 < cLine) (few : L.length + 1 ≤ 76) {Q : Bool → Shared → Prop}
    (hQ : ∀ b h' L' es' ep' t', Heap.SameBut a s.heap h' → NSet w h' a L' es' ep' t' → (k ∈ L.map Ent.key → L' = L) → (k ∉ L.map Ent.key → L'.Perm (⟨x, k⟩ :: L)) → Q b { s with heap := h' }) :
    wpAny (model P w) A (setAddHashed a (.ref x) (k.hash w)) Q E s := by
  obtain ⟨o, ho, hex, hd⟩ := R.obj
  have hsl := R.len
  have room := R.fit
  unfold setAddHashed
  refine wpAny_holding ?_
  rw [show (100000 : Nat) = 99999 + 1 from rfl, setAddHashedIn_succ]
  refine wpAny_bind (wpAny_setState_of ho hd R.fits ?_)
  dsimp only
  refine wp_if_neg (by simp [byScan, Value.scannable]) ?_
  try refine wpAny_bind (wpAny_pure ?_)
  refine wpAny_bind (nsearch R hx hu (fun hm => ?_) fun K hm hK hb => ?_)
  · exact wpAny_pure (hQ false s.heap L es ep t (Heap.SameBut.refl a s.heap) R (fun _ => rfl) fun z => absurd hm z)
  · dsimp only
    refine wpAny_bind (wpAny_setState_of ho hd R.fits ?_)
    dsimp only
    obtain ⟨q1, q2, q3, q4, q5, q6, q7, q8, q9⟩ := R.tab.put hK hb
    have hp1 : (t.put (way t.mask (k.hash w) K)).1.plain = true := by rw [q6]; exact R.pla
    generalize t.put (way t.mask (k.hash w) K) = pt at q1 q3 q4 q5 q6 q7 q8 q9 hp1 ⊢
    obtain ⟨t1, p⟩ := pt
    dsimp only at q1 q3 q4 q5 q6 q7 q8 q9 hp1 ⊢
    subst q1
    first
      | (refine wpAny_bind ?_; refine wp_if_pos hp1 ?_; refine hashV_key k _ 8 s hx.is hx.pu hx.dep _ _ _ ?_)
      | refine wp_if_pos hp1 (wpAny_bind (hashV_key k _ 8 s hx.is hx.pu hx.dep _ _ _ ?_))
    simp only [if_true]
    have hin : (SetTable.insertAt es (SetTable.below t.place (way t.mask (k.hash w) K)) (k.hash w, Value.ref x)).toList = (L.take (SetTable.below t.place (way t.mask (k.hash w) K)) ++ ⟨x, k⟩ :: L.drop (SetTable.below t.place (way t.mask (k.hash w) K))).map (Ent.row w) := by
      rw [SetTable.toList_insertAt, R.row, List.map_append, List.map_cons, List.map_take, List.map_drop]
      rfl
    generalize SetTable.below t.place (way t.mask (k.hash w) K) = p at q2 q3 hin ⊢
    have pm := put_perm L p (⟨x, k⟩ : Ent)
    have hlen : (L.take p ++ ⟨x, k⟩ :: L.drop p).length = L.length + 1 := pm.length_eq
    have hhs : hsOf w (L.take p ++ ⟨x, k⟩ :: L.drop p) = (hsOf w L).take p ++ k.hash w :: (hsOf w L).drop p := by
      unfold hsOf
      rw [List.map_append, List.map_cons, List.map_take, List.map_drop]
    rw [← hhs] at q3
    have nd1 : ((L.take p ++ ⟨x, k⟩ :: L.drop p).map Ent.key).Nodup := by
      refine (pm.map Ent.key).nodup_iff.mpr ?_
      rw [List.map_cons]
      exact List.nodup_cons.mpr ⟨hm, R.nod⟩
    have hes : (SetTable.insertAt es p (k.hash w, Value.ref x)).size = L.length + 1 := by
      have h := congrArg List.length hin
      rw [Array.length_toList, List.length_map, hlen] at h
      exact h
    generalize SetTable.insertAt es p (k.hash w, Value.ref x) = es1 at hin hes ⊢
    generalize L.take p ++ (⟨x, k⟩ : Ent) :: L.drop p = L1 at pm hlen q3 nd1 hin
    refine wpAny_bind (wpAny_storeSet_of ho hd ?_ (by rw [hes, sizeLine_eq]; omega))
    have sb : Heap.SameBut a s.heap (s.heap.update a (Obj.putSet es1 t1)) := Heap.SameBut.update ..
    have ho1 := store_at (es' := es1) (t' := t1) ho hd
    generalize s.heap.update a (Obj.putSet es1 t1) = h1 at sb ho1 ⊢
    have mem1 : ∀ e ∈ L1, NK h1 e.key e.ad := fun e he => by
      rcases List.mem_cons.mp (pm.mem_iff.mp he) with z | z
      · rw [z]; exact hx.same ho hd sb
      · exact (R.mem e z).same ho hd sb
    have full : t1.tooFull = decide ((L.length + 1) * 5 ≥ t1.mask * 3) := by
      unfold SetTable.tooFull
      rw [q9, List.length_map]
    by_cases hf : t1.tooFull = true
    · first
        | (refine wpAny_bind ?_; refine wp_if_pos (by simp [hf]) ?_)
        | (refine wp_if_pos (by simp [hf]) ?_; refine wpAny_bind ?_)
      rw [full, decide_eq_true_eq, q4] at hf
      rw [hsl]
      have hsz1 : t1.place.size = es1.size := by
        have h := q3.sz
        rw [List.length_map, hlen] at h
        rw [h, hes]
      have go : ∀ M, SetTable.sizeAbove (SetTable.grown (L.length + 1)) - 1 = M → MaskOk M → SetTable.sizeAbove (SetTable.grown (L.length + 1)) ≤ 128 → (L.length + 1) * 5 < M * 3 → L.length + 1 ≤ t.mask →
          wpAny (model P w) A (setRelay a (SetTable.grown (L.length + 1))) (fun _ s' => wpAny (model P w) A (pure true) Q E s') E { s with heap := h1 } := fun M g1 g2 g3 g4 g5 =>
        nrelay (s := { s with heap := h1 }) ho1 ⟨hex.1, hex.2.1, hex.2.2⟩ rfl hin hsz1 q3.dm (by rw [hes, q4]; exact g5) nd1 mem1 hp1 g1 g2 g3 (by rw [hlen]; exact g4) fun h2 L2 es2 ep2 t2 sb2 R2 pm2 =>
          wpAny_pure (hQ true h2 L2 es2 ep2 t2 (sb.trans sb2) R2 (fun z => absurd z hm) fun _ => pm2.trans pm)
      rcases R.tab.mok with e | e | e
      · have e4 : L.length = 4 := by rw [e] at hf room; omega
        exact go 31 (by rw [e4, size_20]) (.inr (.inl rfl)) (by rw [e4, size_20]; decide) (by omega) (by omega)
      · have e18 : L.length = 18 := by rw [e] at hf room; omega
        exact go 127 (by rw [e18, size_76]) (.inr (.inr rfl)) (by rw [e18, size_76]; decide) (by omega) (by omega)
      · exfalso; rw [e] at hf; omega
    · first
        | refine wp_if_neg (by simp [hf]) ?_
        | (refine wpAny_bind ?_; refine wp_if_neg (by simp [hf]) ?_; refine wpAny_pure ?_)
      refine wpAny_pure (hQ true h1 L1 es1 (ep + 1) t1 sb ⟨⟨_, ho1, ⟨hex.1, hex.2.1, hex.2.2⟩, rfl⟩, hin, q3, nd1, mem1, hp1, ?_⟩ (fun z => absurd z hm) fun _ => pm)
      rw [full, decide_eq_true_eq] at hf
      rw [hlen]
      omega
end
/-! ### the items, one after another -/
/-- the different ones -/
def dedupK {α : Type} [DecidableEq α] : List α → List α
  | [] => []
  | k :: ks => if k ∈ dedupK ks then dedupK ks else k :: dedupK ks
/-- what the set has got of the first ones -/
structure Has (ks : List Ent) (i : Nat) (L : List Ent) : Prop where
  sub : ∀ e ∈ L, e ∈ ks
  mem : ∀ k, k ∈ L.map Ent.key ↔ k ∈ (ks.take i).map Ent.key
  len : L.length ≤ i
theorem Has.step {ks L L' : List Ent} {i : Nat} {x : Ent} (g : Has ks i L) (h : ks[i]? = some x) (c1 : x.key ∈ L.map Ent.key → L' = L) (c2 : x.key ∉ L.map Ent.key → L'.Perm (x :: L)) : Has ks (i + 1) L' := by
  have tk : ks.take (i + 1) = ks.take i ++ [x] := by rw [List.take_add_one, h]; rfl
  rcases Classical.em (x.key ∈ L.map Ent.key) with c | c
  · rw [c1 c]
    refine ⟨g.sub, fun k => ?_, Nat.le_succ_of_le g.len⟩
    rw [tk, List.map_append, List.mem_append, ← g.mem k]
    refine ⟨.inl, fun z => z.elim id fun z => ?_⟩
    rw [List.mem_singleton.mp z]; exact c
  · have pm := c2 c
    refine ⟨fun e he => ?_, fun k => ?_, ?_⟩
    · rcases List.mem_cons.mp (pm.mem_iff.mp he) with z | z
      · rw [z]; exact List.mem_of_getElem? h
      · exact g.sub e z
    · rw [(pm.map Ent.key).mem_iff, List.map_cons, List.mem_cons, tk, List.map_append, List.mem_append, ← g.mem k]
      exact ⟨fun z => z.elim (fun z => .inr (by rw [z]; exact List.mem_singleton.mpr rfl)) .inl, fun z => z.elim .inr fun z => .inl (List.mem_singleton.mp z)⟩
    · rw [pm.length_eq, List.length_cons]; exact Nat.succ_le_succ g.len
section
variable {P : Program} {w : World} {A : Around} {E : Value → Shared → Prop} {s : Shared}
theorem NSet.keep {h h' : Heap} {a : Addr} {L : List Ent} {es : Array (Int × Value)} {ep : Nat} {t : SetTable} (R : NSet w h a L es ep t) (ha : ∀ o, h.get? a = some o → h'.get? a = some o) (ht : ∀ e ∈ L, NK h' e.key e.ad) : NSet w h' a L es ep t := by
  obtain ⟨o, ho, r⟩ := R.obj
  exact ⟨⟨o, ha o ho, r⟩, R.row, R.tab, R.nod, ht, R.pla, R.fit⟩
abbrev newSetO (w : World) : Obj := { cls := .type "set", dict := none, data := .set #[] 0 (.fresh 0 0 (!w.params.followText "set-order")) }
theorem nset_new {h : Heap} {a : Addr} (ho : h.get? a = some (newSetO w)) : NSet w h a [] #[] 0 (.fresh 0 0 (!w.params.followText "set-order")) where
  obj := ⟨_, ho, ⟨rfl, rfl, rfl⟩, rfl⟩
  row := rfl
  tab := ⟨List.Pairwise.nil, rfl, rfl, .inl rfl, fun x hx => (by cases hx), fun i h j hi => (by simp at hi)⟩
  nod := List.nodup_nil
  mem := fun p hp => (by cases hp)
  pla := rfl
  fit := by show 0 * 5 < 7 * 3; decide
theorem nupdate {I : Addr} {fp wr : List Addr} {G : Array GenState → Array GenState → Prop} {n : Nat} {Pv : Nat → Value → Prop} {St : Nat → Shared → Prop} {R : Result → Shared → Prop}
    (W : WalksS P w A.in1 I fp wr G n Pv St) (S : Addr) (hSf : S ∉ fp) (ks : List Ent) (hn : n = ks.length) (few : ks.length ≤ 76) (hval : ∀ i v, Pv i v → ∃ e, ks[i]? = some e ∧ v = .ref e.ad)
    (h0 : Heap) (hk : ∀ e ∈ ks, NK h0 e.key e.ad) (hS0 : h0.get? S = none) (hw0 : ∀ b ∈ wr, h0.get? b = none) (hu : A.in1.units + 8 < cLine) :
    ∀ (k i : Nat) (s : Shared), n - i = k → i ≤ n → St i s → (∀ b o, h0.get? b = some o → s.heap.get? b = some o) → (∃ L es ep t, NSet w s.heap S L es ep t ∧ Has ks i L) →
      (∀ s' L es ep t, Moved (S :: wr) G s s' → NSet w s'.heap S L es ep t → Has ks n L → (∀ b o, h0.get? b = some o → s'.heap.get? b = some o) → R (.ok (.ret .none)) s') →
      codeAny (model P w) A (.builtin "set.update.loop" ⟨[.ref S, .ref I], []⟩) R s := by
  have hSw : S ∉ wr := fun h => hSf (W.sub _ h)
  have up : ∀ b ∈ wr, b ∈ S :: wr := fun b hb => List.mem_cons_of_mem _ hb
  have mv : ∀ {s s' : Shared}, Moved wr G s s' → (∀ b o, h0.get? b = some o → s.heap.get? b = some o) → ∀ b o, h0.get? b = some o → s'.heap.get? b = some o := fun hm hkp b o e =>
    hm.heap b o (fun hb => by rw [hw0 b hb] at e; cases e) (hkp b o e)
  intro k
  induction k with
  | zero =>
    intro i s hk' hi hst hkp ⟨L, es, ep, t, hS, g⟩ hR
    obtain rfl : i = n := by omega
    refine codeAny_builtin F.entry_set_update_loop ?_
    rw [Around.under_plainId F.plain_set_update_loop _]
    show wpAny _ A.in1 (pyNext (.ref I) >>= _) _ _ s
    refine wpAny_bind (W.done s _ _ hst fun s' hm => ?_)
    have hkp' := mv hm hkp
    exact wpAny_pure (hR s' L es ep t (hm.mono up) (hS.keep (fun o e => hm.heap S o hSw e) fun e he => (hk e (g.sub e he)).keep fun b o _ _ z _ => hkp' b o z) g hkp')
  | succ k ih =>
    intro i s hk' hi hst hkp ⟨L, es, ep, t, hS, g⟩ hR
    have hlt : i < n := by omega
    refine codeAny_builtin F.entry_set_update_loop ?_
    rw [Around.under_plainId F.plain_set_update_loop _]
    show wpAny _ A.in1 (pyNext (.ref I) >>= _) _ _ s
    refine wpAny_bind (W.item i s _ _ hlt hst fun v s' hP hst' hm => ?_)
    obtain ⟨x, hx, rfl⟩ := hval i v hP
    have hkp' := mv hm hkp
    have at' : ∀ e ∈ ks, NK s'.heap e.key e.ad := fun e he => (hk e he).keep fun b o _ _ z _ => hkp' b o z
    have hS' : NSet w s'.heap S L es ep t := hS.keep (fun o e => hm.heap S o hSw e) fun e he => at' e (g.sub e he)
    have hxk := at' x (List.mem_of_getElem? hx)
    show wpAny _ A.in1 (holding [Value.ref x.ad] (setAdd S (.ref x.ad)) >>= _) _ _ s'
    refine wpAny_bind (wpAny_holding ?_)
    unfold setAdd
    refine wpAny_holding ?_
    refine wpAny_bind ((nestedKind P w).pyHash hu ⟨hxk.is, hxk.dep⟩ ?_)
    refine nadd (s := { s' with toks := s'.toks + x.key.draws }) hS' hxk hu (by have := g.len; omega) fun b h' L' es' ep' t' hsb hS2 c1 c2 => ?_
    have hkp2 : ∀ b o, h0.get? b = some o → h'.get? b = some o := fun b o e => (hsb.2 b (fun z => by rw [z, hS0] at e; cases e)).trans (hkp' b o e)
    refine wpAny_pure ⟨plainId_quiet F.plain_set_update_loop _, ih (i + 1) _ (by omega) hlt (W.frame _ s' _ _ hst' (Nat.le_add_right _ _) fun b hb o e => ?_) hkp2 ⟨L', es', ep', t', hS2, g.step hx c1 c2⟩ fun s'' L2 es2 ep2 t2 hm'' hS'' g'' hkp'' => ?_⟩
    · rw [hsb.2 b (fun h : b = S => hSf (by rw [← h]; exact hb))]; exact e
    · refine hR s'' L2 es2 ep2 t2 (Moved.trans W.gtrans ((hm.mono up).then_heap (Nat.le_add_right _ _) fun b o hb e => ?_) hm'') hS'' g'' hkp''
      rw [hsb.2 b (fun h : b = S => hb (by rw [h]; exact List.mem_cons_self))]; exact e
set_option maxHeartbeats 3200000 in
/-- set(t), t a tuple of such -/
theorem call_set_nest {l : Addr} {items : Array Value} (ks : List Ent) {Q : Value → Shared → Prop} (hh : A.handled = none) (hl : s.heap.IsTuple l items) (hit : items.toList = ks.map fun e => Value.ref e.ad)
    (hk : ∀ e ∈ ks, NK s.heap e.key e.ad) (few : ks.length ≤ 76) (hu : A.units + 12 < cLine)
    (h : ∀ (h' : Heap) (tk : Nat) L es ep t, NSet w h' s.heap.objs.size L es ep t → Has ks ks.length L → (∀ b o, s.heap.get? b = some o → h'.get? b = some o) → Q (.ref s.heap.objs.size) { s with heap := h', toks := tk }) :
    wpAny (model P w) A (call (.type "set") [.ref l]) Q E s := by
  have hisz : items.size = ks.length := by
    have q := congrArg List.length hit
    rwa [Array.length_toList, List.length_map] at q
  obtain ⟨c, tl, hmro⟩ := F.called_set.mro
  have hmade := F.called_set.made
  have hsub := F.called_set.sub
  refine wpAny_call (codeAny_of_tree ?_)
  show wpAny _ _ (callAny (.type "set") _) _ _ _
  refine wpAny_pure ⟨Code.quiet_builtin _ (by decide +kernel), codeAny_builtin F.entry_type_call ?_⟩
  rw [Around.under_plain (weight_type_call_type "set" [.ref l] []) rfl]
  have h1 := F.called_set.notType
  have h2 := F.called_set.canCreate
  have hct := F.typeCall_set_1 (.ref l)
  repeat (any_goals (first | assumption | wp_step))
  refine codeAny_mono (code_set_led1 (.ref l) (E := E) (Q₁ := fun obj s₁ => obj = .ref s.heap.objs.size ∧ s₁ = { s with heap := s.heap.push (newSetO w) }) ⟨rfl, rfl⟩) fun r s₁ hr => ?_
  cases r with
  | error e => exact hr
  | ok fl =>
    cases fl with
    | ret obj =>
      obtain ⟨rfl, rfl⟩ := hr
      have hS : (s.heap.push (newSetO w)).get? s.heap.objs.size = some (newSetO w) := Heap.get?_push_size _ rfl
      have hT : Shared.TypeIs { s with heap := s.heap.push (newSetO w) } (.ref s.heap.objs.size) "set" := ⟨_, hS, rfl⟩
      have hli := F.called_set.init.lookup
      have hbi := F.called_set.init.bind (.ref s.heap.objs.size)
      repeat (any_goals (first | assumption | wp_step))
      refine codeAny_mono (codeAny_call_builtin (R := wants (fun r s₂ => r = .none ∧ ∃ h' tk L es ep t, s₂ = { s with heap := h', toks := tk } ∧ NSet w h' s.heap.objs.size L es ep t ∧ Has ks ks.length L ∧
          (∀ b o, s.heap.get? b = some o → h'.get? b = some o)) E) F.called_set.init.plain F.entry_set_init (check_set_init_1 hT ?_)) fun r₂ s₂ hr₂ => ?_
      · obtain ⟨ol, hol, hcl, nl, hdl⟩ := hl
        obtain ⟨ocls, odict, odata, oslots⟩ := ol
        simp only at hcl hdl
        subst hcl; subst hdl
        have hol' : (s.heap.push (newSetO w)).get? l = some { cls := .type "tuple", dict := odict, data := .seq items nl, slots := oslots } := Heap.get?_push_of_some _ hol
        have hsls := F.sub_tuple_set
        have hslf := F.sub_tuple_frozenset
        have hne : (Value.type "tuple" == Value.type "dict") = false := by decide
        have hl1 : (s.heap.push (newSetO w)).IsTuple l items := ⟨_, hol', rfl, nl, rfl⟩
        unfold Builtin.«set.__init__» noKeywords Builtin.Frozenset.updateFrom
        generalize hPI : pyIter = PI
        wp_walk
        subst hPI
        refine wpAny_pyIter_tuple hl1 ?_
        refine wpAny_bind (wpAny_runValue ?_)
        have hlS : l < s.heap.objs.size := Heap.lt_size hol
        have hh3 : A.in1.in1.in1.handled = none := by simp [hh]
        have hneI : l ≠ (s.heap.push (newSetO w)).objs.size := by
          rw [Heap.size_push]; exact Nat.ne_of_lt (Nat.lt_succ_of_lt hlS)
        have hSf : s.heap.objs.size ∉ [(s.heap.push (newSetO w)).objs.size, l] := by
          rw [Heap.size_push]; simp only [List.mem_cons, List.mem_singleton, List.not_mem_nil, or_false, not_or]
          exact ⟨Nat.ne_of_lt (Nat.lt_succ_self _), Nat.ne_of_gt hlS⟩
        have hval : ∀ (i : Nat) (v : Value), items[i]? = some v → ∃ e, ks[i]? = some e ∧ v = .ref e.ad := fun i v hv => by
          have q : items.toList[i]? = some v := by rw [Array.getElem?_toList]; exact hv
          rw [hit, List.getElem?_map] at q
          cases hq : ks[i]? with
          | none => rw [hq] at q; cases q
          | some e =>
            rw [hq] at q
            exact ⟨e, rfl, (Option.some.inj q).symm⟩
        have none_of : ∀ b, s.heap.objs.size ≤ b → s.heap.get? b = none := fun b hb => by
          cases q : s.heap.get? b with
          | none => rfl
          | some o => exact absurd (Nat.lt_of_lt_of_le (Heap.lt_size q) hb) (Nat.lt_irrefl _)
        refine nupdate ((Walks.tuple hh3 _ l hneI items).toS) s.heap.objs.size
          hSf ks hisz few hval s.heap hk (none_of _ (Nat.le_refl _)) (fun b hb => none_of b (by
            rw [List.mem_singleton.mp hb, Heap.size_push]
            exact Nat.le_succ _)) (by simp only [Around.in1_units]; omega) (items.size - 0) 0 _ (by omega) (Nat.zero_le _)
          ⟨⟨_, Heap.get?_push_size _ rfl, rfl, rfl⟩, (hl1.push _)⟩ (fun b o e => Heap.get?_push_of_some _ (Heap.get?_push_of_some _ e)) ?hS0 ?hR
        case hS0 =>
          have hget : ((s.heap.push (newSetO w)).push { cls := .type "tuple_iterator", data := .fields #[.ref l, .int 0 0] }).get? s.heap.objs.size = some (newSetO w) := Heap.get?_push_of_some _ hS
          exact ⟨[], #[], 0, _, nset_new hget, ⟨fun e he => (by cases he), fun k => (by simp), Nat.le_refl _⟩⟩
        case hR =>
          intro s' L es ep t hm hS' g' hkp
          obtain ⟨h', g2, d', tk', os'⟩ := s'
          have eg : g2 = s.gens := hm.gens
          have ed : d' = s.drawn := hm.drawn
          have eo : os' = s.os := hm.os
          subst eg; subst ed; subst eo
          show wpAny _ _ _ _ _ _
          refine wpAny_pure ?_
          show wpAny _ _ (ret Value.none) _ _ _
          rw [hisz] at g'
          exact wpAny_pure ⟨rfl, h', tk', L, es, ep, t, rfl, hS', g', hkp⟩
      · cases r₂ with
        | error e => exact hr₂
        | ok fl₂ =>
          cases fl₂ with
          | ret r =>
            obtain ⟨rfl, h', tk, L, es, ep, t, rfl, hS', g', hk'⟩ := hr₂
            repeat (any_goals (first | assumption | wp_step))
            exact h _ _ _ _ _ _ hS' g' hk'
          | _ => exact hr₂.elim
    | _ => exact hr.elim
end
theorem dedupK_nodup {α : Type} [DecidableEq α] : ∀ ks : List α, (dedupK ks).Nodup
  | [] => List.nodup_nil
  | k :: ks => by
    unfold dedupK
    split
    · exact dedupK_nodup ks
    · rename_i h; exact List.nodup_cons.mpr ⟨h, dedupK_nodup ks⟩
theorem dedupK_mem {α : Type} [DecidableEq α] : ∀ (ks : List α) (x : α), x ∈ dedupK ks ↔ x ∈ ks
  | [], x => Iff.rfl
  | k :: ks, x => by
    unfold dedupK
    split
    · rename_i h
      rw [dedupK_mem ks x, List.mem_cons]
      exact ⟨.inr, fun z => z.elim (fun z => by rw [z]; exact (dedupK_mem ks k).mp h) id⟩
    · rw [List.mem_cons, List.mem_cons, dedupK_mem ks x]
theorem len_of_same {α : Type} : ∀ {a b : List α}, a.Nodup → b.Nodup → (∀ x, x ∈ a ↔ x ∈ b) → a.length = b.length := by
  classical
  intro a b ha hb h
  exact ((List.perm_ext_iff_of_nodup ha hb).mpr h).length_eq
theorem Has.count {w : World} {h : Heap} {a : Addr} {ks L : List Ent} {es : Array (Int × Value)} {ep : Nat} {t : SetTable} (R : NSet w h a L es ep t) (g : Has ks ks.length L) : L.length = (dedupK (ks.map Ent.key)).length := by
  have := len_of_same R.nod (dedupK_nodup (ks.map Ent.key)) fun x => by rw [g.mem x, List.take_length, dedupK_mem]
  rwa [List.length_map] at this
end R

set_option Elab.async false
set_option linter.all false
set_option maxRecDepth 100000
set_option maxHeartbeats 1000000
/-! R: operations on pure values, the small language, what it means -/
namespace R
open PySem PySem.Spec L2

mutual
def PV.dat : PV → PyData
  | .non => .none
  | .bl b => .bool b
  | .int i => .int i
  | .str x => .str x
  | .tup xs => .tuple (PV.dats xs)
  | .lst xs => .list (PV.dats xs)
  | _ => .none
def PV.dats : List PV → List PyData
  | [] => []
  | x :: xs => x.dat :: PV.dats xs
end
mutual
def PV.isDat : PV → Bool
  | .non => true
  | .bl _ => true
  | .int _ => true
  | .str _ => true
  | .tup xs => PV.isDats xs
  | .lst xs => PV.isDats xs
  | _ => false
def PV.isDats : List PV → Bool
  | [] => true
  | x :: xs => x.isDat && PV.isDats xs
end
/-- data that can be compared -/
def PV.fine (p : PV) : Bool := p.isDat && SeqAt.shaped p.dat
theorem PV.dats_eq : ∀ xs : List PV, PV.dats xs = xs.map PV.dat
  | [] => rfl
  | x :: xs => by rw [PV.dats, PV.dats_eq xs]; rfl
theorem PV.isDats_eq : ∀ xs : List PV, PV.isDats xs = xs.all PV.isDat
  | [] => rfl
  | x :: xs => by rw [PV.isDats, PV.isDats_eq xs]; rfl

/-- written constants -/
inductive SC where
  | non | bl (b : Bool) | int (i : Int) | str (x : Str)
  deriving DecidableEq
def SC.pv : SC → PV
  | .non => .non
  | .bl b => .bl b
  | .int i => .int i
  | .str x => .str x
def SC.v : SC → V
  | .non => .non
  | .bl b => .bl b
  | .int i => .int i
  | .str x => .str x

inductive BinO where
  | add | sub | mul | fdiv | mod | pow | shl | shr | band
  deriving DecidableEq
def BinO.op : BinO → Operator
  | .add => .Add | .sub => .Sub | .mul => .Mult | .fdiv => .FloorDiv | .mod => .Mod | .pow => .Pow | .shl => .LShift | .shr => .RShift | .band => .BitAnd
inductive CmpO where
  | eq | ne | lt | le | gt | ge | inn | nin | isN | notN
  deriving DecidableEq
def CmpO.op : CmpO → CmpOp
  | .eq => .Eq | .ne => .NotEq | .lt => .Lt | .le => .LtE | .gt => .Gt | .ge => .GtE | .inn => .In | .nin => .NotIn | .isN => .Is | .notN => .IsNot

def binop : BinO → PV → PV → Option PV
  | .add, .int i, .int j => some (.int (i + j))
  | .add, .str a, .str b => if a.length + b.length ≤ sizeLine then some (.str (a ++ b)) else none
  | .add, .tup a, .tup b => if a.length + b.length ≤ sizeLine then some (.tup (a ++ b)) else none
  | .add, .lst a, .lst b => if a.length + b.length ≤ sizeLine then some (.lst (a ++ b)) else none
  | .sub, .int i, .int j => some (.int (i - j))
  | .mul, .int i, .int j => if i.natAbs < 18446744073709551616 ∨ j.natAbs < 18446744073709551616 then some (.int (i * j)) else none
  | .mul, .lst a, .int k => if k.natAbs < 4611686018427387904 ∧ a.length * k.toNat ≤ sizeLine then some (.lst (List.replicate k.toNat a).flatten) else none
  | .fdiv, .int i, .int j => if j ≠ 0 ∧ j.natAbs < 1073741824 then some (.int (i.fdiv j)) else none
  | .mod, .int i, .int j => if j ≠ 0 then some (.int (i.fmod j)) else none
  | .pow, .int i, .int j => if 0 ≤ j ∧ j.natAbs ≤ 1000000 ∧ i.natAbs < 18446744073709551616 then some (.int (i ^ j.toNat)) else none
  | .shl, .int i, .int j => if 0 ≤ j ∧ j.natAbs ≤ 1000000 ∧ i.natAbs < 18446744073709551616 then some (.int (i * 2 ^ j.toNat)) else none
  | .shr, .int i, .int j => if 0 ≤ j then some (.int (i / 2 ^ j.toNat)) else none
  | .band, .int i, .int j => some (.int (Builtin.bitAnd i j))
  | _, _, _ => none

def seqV : PV → Option (List PV)
  | .tup xs => some xs
  | .lst xs => some xs
  | _ => none
def ltV (p q : PV) : Option Bool := match p, q with
  | .int i, .int j => some (decide (i < j))
  | .tup xs, .tup ys => if (PV.tup xs).fine && (PV.tup ys).fine && PySem.W.alike (PV.tup xs).dat (PV.tup ys).dat then some (PySem.W.dataLt (PV.tup xs).dat (PV.tup ys).dat) else none
  | _, _ => none
/-- p in a dict -/
def inD : PV → PV → Option Bool
  | .tup xs, .dct ks _ => if PV.keysB xs && decide ((PV.tup xs).key.depth ≤ 8) then some (decide ((PV.tup xs).key ∈ PV.keys ks)) else none
  | _, _ => none
def cmpop : CmpO → PV → PV → Option Bool
  | .eq, .str a, .str b => some (decide (a = b))
  | .ne, .str a, .str b => some (!decide (a = b))
  | .eq, p, q => if p.fine && q.fine then some (PyData.eqv p.dat q.dat) else none
  | .ne, p, q => if p.fine && q.fine then some (!PyData.eqv p.dat q.dat) else none
  | .lt, p, q => ltV p q
  | .le, .int i, .int j => some (decide (i ≤ j))
  | .gt, .int i, .int j => some (decide (j < i))
  | .ge, .int i, .int j => some (decide (j ≤ i))
  | .inn, p, q => match seqV q with
    | some ys => if p.fine && q.fine then some (ys.any fun z => PyData.eqv z.dat p.dat) else none
    | none => inD p q
  | .nin, p, q => match seqV q with
    | some ys => if p.fine && q.fine then some (!ys.any fun z => PyData.eqv z.dat p.dat) else none
    | none => (inD p q).map not
  | .isN, p, .non => some (match p with | .non => true | _ => false)
  | .notN, p, .non => some (match p with | .non => false | _ => true)
  | .isN, .bl a, .bl b => some (decide (a = b))
  | .notN, .bl a, .bl b => some (!decide (a = b))
  | _, _, _ => none

/-- a live list's items -/
def liveL (h : PH) (n : Nat) : Option (List PV) := match h[n]? with
  | some (.lst xs) => some xs
  | _ => none
/-- a live list, as it stands -/
def see (h : PH) : PV → PV
  | .ref n => match liveL h n with
    | some xs => .lst xs
    | none => .ref n
  | p => p
/-- the items of a list, a tuple, a live list, the script -/
def itemsV : PV → PH → Option (List PV)
  | .tup xs, _ => some xs
  | .lst xs, _ => some xs
  | .scr ns, _ => some (ns.map .int)
  | .ref n, h => liveL h n
  | _, _ => none
def truthV : PV → PH → Option Bool
  | .non, _ => some false
  | .bl b, _ => some b
  | .int i, _ => some (i != 0)
  | .str x, _ => if x.length ≤ sizeLine then some ((x.length : Int) != 0) else none
  | .tup xs, _ => some (!xs.isEmpty)
  | .lst xs, _ => some (!xs.isEmpty)
  | .ref n, h => (liveL h n).map fun xs => !xs.isEmpty
  | _, _ => none
def lenV (p : PV) (h : PH) : Option PV := match p with
  | .str x => if x.length ≤ sizeLine then some (.int x.length) else none
  | p => (itemsV p h).map fun xs => .int xs.length
def idxV (p q : PV) (h : PH) : Option PV := match q with
  | .int i => (itemsV p h).bind fun xs => atI xs i
  | _ => none
def cutP {α : Type} (xs : List α) (lo hi : Option Int) : List α := (xs.drop (HT.sIx xs.length 0 lo)).take (HT.sIx xs.length xs.length hi - HT.sIx xs.length 0 lo)
def sliceV (p : PV) (lo hi : Option Int) : Option PV := match p with
  | .tup xs => some (.tup (cutP xs lo hi))
  | .lst xs => some (.lst (cutP xs lo hi))
  | _ => none
def revV : PV → Option PV
  | .tup xs => some (.tup xs.reverse)
  | .lst xs => some (.lst xs.reverse)
  | _ => none
/-- the name of a value's built-in class -/
def tyName : PV → PH → Option String
  | .non, _ => some "NoneType"
  | .bl _, _ => some "bool"
  | .int _, _ => some "int"
  | .str _, _ => some "str"
  | .tup _, _ => some "tuple"
  | .lst _, _ => some "list"
  | .ref n, h => (liveL h n).map fun _ => "list"
  | _, _ => none
def isiTab (t c : String) : Bool := t == c || (t == "bool" && c == "int")
def isiV (p : PV) (c : String) (h : PH) : Option PV := (tyName p h).map fun t => .bl (isiTab t c)

inductive Blt where
  | len | all | any | sum | tuple | list | sorted | repr | max | min
  deriving DecidableEq
def Blt.name : Blt → Str
  | .len => "len" | .all => "all" | .any => "any" | .sum => "sum" | .tuple => "tuple" | .list => "list" | .sorted => "sorted" | .repr => "repr" | .max => "max" | .min => "min"
def blV : PV → Option Bool
  | .bl b => some b
  | _ => none
def intV : PV → Option Int
  | .int i => some i
  | _ => none
/-- all of them, or none -/
def allV {α : Type} (f : PV → Option α) : List PV → Option (List α)
  | [] => some []
  | x :: xs => (f x).bind fun a => (allV f xs).map fun as => a :: as
def allAlikeB (ds : List PyData) : Bool := ds.all fun d => ds.all fun e => PySem.W.alike d e
def isTupD : PyData → Bool
  | .tuple _ => true
  | _ => false
def emptyT : PyData → Bool
  | .tuple [] => true
  | _ => false
/-- what sorted takes: no tuples; tuples with items; tuples, the first one empty -/
def sortableB (ds : List PyData) : Bool :=
  (ds.all fun d => isTupD d && !emptyT d) || (ds.all fun d => !isTupD d && (match d with | .none => false | _ => true)) || (ds.all isTupD && (ds.head?.map emptyT).getD true)
/-- a sort that the kernel can run -/
def insL {α : Type} (le : α → α → Bool) (a : α) : List α → List α
  | [] => [a]
  | b :: l => if le a b then a :: b :: l else b :: insL le a l
def isort {α : Type} (le : α → α → Bool) : List α → List α
  | [] => []
  | a :: l => insL le a (isort le l)
theorem insL_split {α : Type} {le : α → α → Bool} {a : α} : ∀ {l₁ l₂ : List α}, (∀ b ∈ l₁, le a b = false) → (∀ b ∈ l₂, le a b = true) → insL le a (l₁ ++ l₂) = l₁ ++ a :: l₂
  | [], [], _, _ => rfl
  | [], b :: l, _, h => by
    show insL le a (b :: l) = _
    rw [insL, if_pos (h b List.mem_cons_self)]
    rfl
  | b :: l₁, l₂, h1, h2 => by
    rw [List.cons_append, insL, if_neg (by rw [h1 b List.mem_cons_self]; simp), insL_split (fun c hc => h1 c (List.mem_cons_of_mem _ hc)) h2]
    rfl
theorem isort_eq {α : Type} {le : α → α → Bool} (tr : ∀ a b c, le a b = true → le b c = true → le a c = true) (to : ∀ a b, (le a b || le b a) = true) : ∀ l : List α, isort le l = l.mergeSort le
  | [] => by rw [isort, List.mergeSort_nil]
  | a :: l => by
    obtain ⟨l₁, l₂, h1, h2, h3⟩ := List.mergeSort_cons tr to a l
    have srt := List.pairwise_mergeSort tr to (a :: l)
    rw [h1, List.pairwise_append, List.pairwise_cons] at srt
    rw [isort, isort_eq tr to l, h2, insL_split (fun b hb => by simpa using h3 b hb) (fun b hb => srt.2.1.1 b hb), h1]
def sortV (xs : List PV) : Option (List PV) :=
  if xs.all PV.fine && allAlikeB (xs.map PV.dat) && sortableB (xs.map PV.dat) then some (isort (PySem.W.dataLe false PV.dat) xs) else none
theorem sortV_eq (xs : List PV) : sortV xs = if xs.all PV.fine && allAlikeB (xs.map PV.dat) && sortableB (xs.map PV.dat) then some (xs.mergeSort (PySem.W.dataLe false PV.dat)) else none := by
  have leT : PySem.W.TotalLe (PySem.W.dataLe false PV.dat) := PySem.W.sortLe_total _ _ _
  unfold sortV
  rw [isort_eq (fun a b c h1 h2 => leT.trans a b c h1 h2) (fun a b => by rw [Bool.or_eq_true]; exact leT.total a b)]
def showV (p : PV) : Option Str := if p.fine && p.dat.showable && decide (p.dat.shown.length + 64 ≤ sizeLine) then some p.dat.shown else none
def Blt.den0 : Blt → List PV → PH → Option PV
  | .len, [p], h => lenV p h
  | .all, [.lst xs], _ => (allV blV xs).map fun bs => .bl (bs.all id)
  | .any, [.lst xs], _ => (allV blV xs).map fun bs => .bl (bs.any id)
  | .sum, [.lst xs], _ => (allV intV xs).map fun ns => .int ns.sum
  | .tuple, [p], h => (itemsV p h).map .tup
  | .list, [p], h => (itemsV p h).map .lst
  | .sorted, [.lst xs], _ => (sortV xs).map .lst
  | .sorted, [.tup xs], _ => (sortV xs).map .lst
  | .repr, [p], _ => (showV p).map .str
  | .max, [.int i, .int j], _ => some (.int (if j > i then j else i))
  | .min, [.int i, .int j], _ => some (.int (if j < i then j else i))
  | _, _, _ => none
def Blt.den (b : Blt) (ps : List PV) (h : PH) : Option PV := b.den0 (ps.map (see h)) h
/-- may be a key: no lists within -/
def PyData.keyB : PyData → Bool
  | .none => true
  | .bool _ => true
  | .int _ => true
  | .str _ => true
  | _ => false
def isTupV : PV → Bool
  | .tup _ => true
  | _ => false
/-- len(set(xs)): tuples of numbers and None, of any depth; numbers -/
def lenSetV (xs : List PV) : Option PV :=
  if PV.keysB xs && xs.all isTupV && (PV.keys xs).all (fun k => decide (k.depth ≤ 8)) && decide (xs.length ≤ 76) then some (.int (dedupK (PV.keys xs)).length)
  else (allV intV xs).bind fun ns => if ns.length < 60 then some (.int (dedupK ns).length) else none
def sortedSetV (xs : List PV) : Option PV := (allV intV xs).bind fun ns => if ns.length < 60 then some (.lst ((isort (fun a b : Int => decide (a ≤ b)) (dedupK ns)).map .int)) else none
theorem sortedSetV_eq (xs : List PV) : sortedSetV xs = (allV intV xs).bind fun ns => if ns.length < 60 then some (.lst ((dedupK ns).mergeSort.map .int)) else none := by
  unfold sortedSetV
  congr 1
  funext ns
  rw [isort_eq (fun a b c h1 h2 => by simp only [decide_eq_true_eq] at *; omega) (fun a b => by simp only [Bool.or_eq_true, decide_eq_true_eq]; omega)]
def tupV : PV → Option (List PV)
  | .tup xs => some xs
  | _ => none

inductive Mth where
  | append | extend | pop | popAt | count
  deriving DecidableEq
def Mth.name : Mth → Str
  | .append => "append" | .extend => "extend" | .pop => "pop" | .popAt => "pop" | .count => "count"
def Mth.den : Mth → PV → List PV → PH → Option (PV × PH)
  | .append, .ref n, [y], h => (liveL h n).bind fun xs => if xs.length < sizeLine then some (.non, h.set n (.lst (xs ++ [y]))) else none
  | .extend, .ref n, [q], h => match see h q with
    | .lst ys => (liveL h n).bind fun xs => if xs.length + ys.length ≤ sizeLine then some (.non, h.set n (.lst (xs ++ ys))) else none
    | _ => none
  | .pop, .ref n, [], h => (liveL h n).bind fun xs => (xs[xs.length - 1]?).map fun y => (y, h.set n (.lst xs.dropLast))
  | .popAt, .ref n, [.int i], h => (liveL h n).bind fun xs => if i.natAbs < 4611686018427387904 then (seqIndex? i xs.length).bind fun k => (xs[k]?).map fun y => (y, h.set n (.lst (xs.eraseIdx k))) else none
  | .count, .lst xs, [q], h => if (PV.lst xs).fine && q.fine then some (.int (xs.countP fun x => PyData.eqv x.dat q.dat : Nat), h) else none
  | _, _, _, _ => none

def isLive (p : PV) (h : PH) : Option Unit := match p with
  | .ref n => (liveL h n).map fun _ => ()
  | .lst _ => some ()
  | _ => none
def mthR (m : Mth) (p : PV) (xs : List PV) (h : PH) : Res PV := match m.den p xs h with
  | some (r, h3) => .ok r h3
  | none => .bad
/-- targets -/
inductive G where
  | name (i : Nat) | tup (is : List Nat)
  deriving DecidableEq
def putAll : List Nat → List PV → Sl → Option Sl
  | [], [], ρ => some ρ
  | i :: is, x :: xs, ρ => putAll is xs (ρ.set i (some x))
  | _, _, _ => none
def G.put : G → PV → Sl → Option Sl
  | .name i, p, ρ => some (ρ.set i (some p))
  | .tup is, .tup xs, ρ => putAll is xs ρ
  | _, _, _ => none
def G.slots : G → List Nat
  | .name i => [i]
  | .tup is => is

mutual
inductive E where
  | var (i : Nat)
  | con (c : SC)
  | glb (x : Str) (c : SC)
  | bin (o : BinO) (a b : E)
  | neg (a : E)
  | cmp (o : CmpO) (a b : E)
  | chn (o o' : CmpO) (a b c : E)
  | not (a : E)
  | and (es : Es)
  | or (es : Es)
  | ite (t : T) (a b : E)
  | tup (es : Es)
  | lst (live : Bool) (es : Es)
  | idx (a b : E)
  | slc (a : E) (lo hi : O)
  | rev (a : E)
  | call (f : Str) (es : Es)
  | callS (f : Str) (es : Es)
  | lrng (a : E)
  | gnL (f : Str) (es : Es)
  | blt (b : Blt) (es : Es)
  | isi (a : E) (c : String)
  | lenSet (a : E)
  | sortedSet (a : E)
  | mth (m : Mth) (a : E) (es : Es)
  | dcN (j : Nat) (own : List Nat) (e : E)
  | lc (live : Bool) (own : List Nat) (g : G) (it : I) (t : T) (e : E)
  | lc2 (own vs1 : List Nat) (g : G) (it : I) (t : T) (g1 : G) (it1 : I) (t1 : T) (e : E)
inductive Es where
  | nil | cons (e : E) (es : Es) | star (e : E) (es : Es)
inductive T where
  | val (e : E)
  | cmp (o : CmpO) (a b : E)
  | chn (o o' : CmpO) (a b c : E)
  | not (t : T)
  | and (ts : Ts)
  | or (ts : Ts)
  | yes
inductive Ts where
  | nil | cons (t : T) (ts : Ts)
inductive I where
  | seq (e : E) | rng (e : E) | rng2 (a b : E) | zip (a b : E) | enm (a : E) | dks (a : E)
inductive O where
  | none | some (e : E)
end
mutual
inductive S where
  | asg (g : G) (e : E)
  | asgC (i : Nat) (e : E)
  | par (i j : Nat) (a b : E)
  | par3 (i j l : Nat) (a b c : E)
  | setI (a b e : E)
  | ex (e : E)
  | ret (e : E)
  | retN
  | ite (t : T) (a b : Ss)
  | for_ (g : G) (it : I) (b : Ss)
  | whl (t : T) (b : Ss)
  | whlW (i : Nat) (nn : Bool) (e : E) (b : Ss)
  | pass | brk | cnt
  | never
  | mtch (e : E) (cs : Cs)
  | gen (i : Nat) (e : E)
inductive Ss where
  | nil | cons (s : S) (ss : Ss)
inductive Cs where
  | nil | cons (x : Str) (b : Ss) (cs : Cs)
end

abbrev Fns := Str → List PV → PH → Res PV
/-- nothing is raised -/
def Res.nox {α : Type} : Res α → Res α
  | .exc _ _ => .bad
  | r => r
@[simp] theorem Res.nox_ok {α : Type} (a : α) (h : PH) : (Res.ok a h).nox = .ok a h := rfl
@[simp] theorem Res.nox_bad {α : Type} : (Res.bad : Res α).nox = .bad := rfl
/-- a comprehension's walk -/
def lcL (f : PV → PH → Res (List PV)) : List PV → PH → Res (List PV)
  | [], h => .ok [] h
  | x :: xs, h => (f x h).bind fun ys h1 => (lcL f xs h1).bind fun zs h2 => .ok (ys ++ zs) h2
def optR {α : Type} (o : Option α) (h : PH) (f : α → Res β) : Res β := match o with
  | some a => f a
  | none => .bad
def newLst (live : Bool) (xs : List PV) (h : PH) : Res PV := if live then .ok (.ref h.length) (h ++ [.lst xs]) else .ok (.lst xs) h
@[irreducible] def rngL (lo hi : Int) : Option (List PV) := if lo.natAbs < 1000000 ∧ hi.natAbs < 1000000 then some ((List.range (hi - lo).toNat).map fun (k : Nat) => PV.int (lo + (k : Int))) else none
def zipL (a b : List PV) : List PV := (a.zip b).map fun p => .tup [p.1, p.2]
def enumL (a : List PV) : List PV := a.zipIdx.map fun p => .tup [.int p.2, p.1]
def bools (es : Bool) (r : Res PV) (k : PH → Res PV) : Res PV := r.bind fun p h => match p with
  | .bl c => if c = es then k h else .ok (.bl c) h
  | _ => .bad
/-- the keys of a dict -/
def dksV : PV → Option (List PV)
  | .dct ks _ => some ks
  | _ => none
/-- what a dict of the tuples of a tuple is -/
def dictOf : PV → Option PV
  | .tup xs => if PV.keysB xs && xs.all isTupV && (PV.keys xs).all (fun k => decide (k.depth ≤ 8)) && decide ((PV.keys xs).Nodup) then some (.dct xs []) else none
  | _ => none
/-- what a generator hands out, as a list -/
def genR : Res PV → Res PV
  | .ok (.lst ys) h => .ok (.lst ys) h
  | _ => .bad
mutual
def E.den (Φ : Fns) : E → Sl → PH → Res PV
  | .var i, ρ, h => Res.of (ρ[i]?.join) h
  | .con c, _, h => .ok c.pv h
  | .glb _ c, _, h => .ok c.pv h
  | .bin o a b, ρ, h => (a.den Φ ρ h).bind fun p h1 => (b.den Φ ρ h1).bind fun q h2 => Res.of (binop o (see h2 p) (see h2 q)) h2
  | .neg a, ρ, h => (a.den Φ ρ h).bind fun p h1 => Res.of ((intV p).map fun i => .int (-i)) h1
  | .cmp o a b, ρ, h => (a.den Φ ρ h).bind fun p h1 => (b.den Φ ρ h1).bind fun q h2 => Res.of ((cmpop o (see h2 p) (see h2 q)).map .bl) h2
  | .chn o o' a b c, ρ, h => (a.den Φ ρ h).bind fun p h1 => (b.den Φ ρ h1).bind fun q h2 => (Res.of (cmpop o (see h2 p) (see h2 q)) h2).bind fun k h3 =>
      if k = true then (c.den Φ ρ h3).bind fun r h4 => Res.of ((cmpop o' (see h4 q) (see h4 r)).map .bl) h4 else .ok (.bl false) h3
  | .not a, ρ, h => (a.den Φ ρ h).bind fun p h1 => Res.of ((blV p).map fun b => .bl (!b)) h1
  | .and es, ρ, h => es.denB Φ true ρ h
  | .or es, ρ, h => es.denB Φ false ρ h
  | .ite t a b, ρ, h => (t.den Φ ρ h).bind fun c h1 => if c = true then a.den Φ ρ h1 else b.den Φ ρ h1
  | .tup es, ρ, h => (es.den Φ ρ h).bind fun xs h1 => if xs.length ≤ sizeLine then .ok (.tup xs) h1 else .bad
  | .lst live es, ρ, h => (es.den Φ ρ h).bind fun xs h1 => if xs.length ≤ sizeLine then newLst live xs h1 else .bad
  | .idx a b, ρ, h => (a.den Φ ρ h).bind fun p h1 => (b.den Φ ρ h1).bind fun q h2 => Res.of (idxV p q h2) h2
  | .slc a lo hi, ρ, h => (a.den Φ ρ h).bind fun p h1 => (lo.den Φ ρ h1).bind fun l h2 => (hi.den Φ ρ h2).bind fun u h3 => Res.of (sliceV (see h3 p) l u) h3
  | .rev a, ρ, h => (a.den Φ ρ h).bind fun p h1 => Res.of (revV (see h1 p)) h1
  | .call f es, ρ, h => (es.den Φ ρ h).bind fun xs h1 => Φ f xs h1
  | .callS f es, ρ, h => (es.den Φ ρ h).bind fun xs h1 => Φ f xs h1
  | .lrng a, ρ, h => (a.den Φ ρ h).bind fun p h1 => Res.of (((intV p).bind fun j => rngL 0 j).map .lst) h1
  | .gnL f es, ρ, h => (es.den Φ ρ h).bind fun xs h1 => genR (Φ f xs h1)
  | .blt b es, ρ, h => (es.den Φ ρ h).bind fun xs h1 => Res.of (b.den xs h1) h1
  | .isi a c, ρ, h => (a.den Φ ρ h).bind fun p h1 => Res.of (isiV p c h1) h1
  | .lenSet a, ρ, h => (a.den Φ ρ h).bind fun p h1 => Res.of ((tupV p).bind lenSetV) h1
  | .sortedSet a, ρ, h => (a.den Φ ρ h).bind fun p h1 => Res.of ((tupV p).bind sortedSetV) h1
  | .mth m a es, ρ, h => (a.den Φ ρ h).bind fun p h1 => (Res.of (isLive p h1) h1).bind fun _ h1' => (es.den Φ ρ h1').bind fun xs h2 => mthR m p xs h2
  | .dcN j _ e, ρ, h => (e.den Φ ρ h).bind fun p h1 => if j < ρ.length then Res.of (dictOf p) h1 else .bad
  | .lc live own g it t e, ρ, h => (it.den Φ ρ h).bind fun xs h1 => (lcL (fun x hh => optR (g.put x (wipeP ρ own)) hh fun ρ' =>
      (t.den Φ ρ' hh).bind fun b h2 => if b = true then (e.den Φ ρ' h2).bind fun y h3 => .ok [y] h3 else .ok [] h2) xs h1).nox.bind fun ys h4 => newLst live ys h4
  | .lc2 own vs1 g it t g1 it1 t1 e, ρ, h => (it.den Φ ρ h).bind fun xs h1 => (lcL (fun x hh => optR (g.put x (wipeP ρ own)) hh fun ρ' =>
      (t.den Φ ρ' hh).bind fun b h2 => if b = true then (it1.den Φ ρ' h2).bind fun zs h3 => lcL (fun z hz => optR (g1.put z (wipeP ρ' vs1)) hz fun ρ1 =>
        (t1.den Φ ρ1 hz).bind fun b1 h5 => if b1 = true then (e.den Φ ρ1 h5).bind fun y h6 => .ok [y] h6 else .ok [] h5) zs h3 else .ok [] h2) xs h1).nox.bind fun ys h4 =>
      if ys.length ≤ sizeLine then .ok (.lst ys) h4 else .bad
def Es.den (Φ : Fns) : Es → Sl → PH → Res (List PV)
  | .nil, _, h => .ok [] h
  | .cons e es, ρ, h => (e.den Φ ρ h).bind fun p h1 => (es.den Φ ρ h1).bind fun ps h2 => .ok (p :: ps) h2
  | .star e es, ρ, h => (e.den Φ ρ h).bind fun p h1 => (Res.of (seqV (see h1 p)) h1).bind fun xs h2 => (es.den Φ ρ h2).bind fun ps h3 => .ok (xs ++ ps) h3
/-- and (true), or (false), by values -/
def Es.denB (Φ : Fns) (k : Bool) : Es → Sl → PH → Res PV
  | .nil, _, _ => .bad
  | .star _ _, _, _ => .bad
  | .cons e .nil, ρ, h => e.den Φ ρ h
  | .cons e es, ρ, h => bools k (e.den Φ ρ h) fun h1 => es.denB Φ k ρ h1
def T.den (Φ : Fns) : T → Sl → PH → Res Bool
  | .val e, ρ, h => (e.den Φ ρ h).bind fun p h1 => Res.of (truthV p h1) h1
  | .cmp o a b, ρ, h => (a.den Φ ρ h).bind fun p h1 => (b.den Φ ρ h1).bind fun q h2 => Res.of (cmpop o (see h2 p) (see h2 q)) h2
  | .chn o o' a b c, ρ, h => (a.den Φ ρ h).bind fun p h1 => (b.den Φ ρ h1).bind fun q h2 => (Res.of (cmpop o (see h2 p) (see h2 q)) h2).bind fun k h3 =>
      if k = true then (c.den Φ ρ h3).bind fun r h4 => Res.of (cmpop o' (see h4 q) (see h4 r)) h4 else .ok false h3
  | .not t, ρ, h => (t.den Φ ρ h).bind fun b h1 => .ok (!b) h1
  | .and ts, ρ, h => ts.den Φ true ρ h
  | .or ts, ρ, h => ts.den Φ false ρ h
  | .yes, _, h => .ok true h
def Ts.den (Φ : Fns) (k : Bool) : Ts → Sl → PH → Res Bool
  | .nil, _, h => .ok k h
  | .cons t ts, ρ, h => (t.den Φ ρ h).bind fun b h1 => if b = k then ts.den Φ k ρ h1 else .ok b h1
def I.den (Φ : Fns) : I → Sl → PH → Res (List PV)
  | .seq e, ρ, h => (e.den Φ ρ h).bind fun p h1 => Res.of (seqV p) h1
  | .rng e, ρ, h => (e.den Φ ρ h).bind fun p h1 => Res.of ((intV p).bind fun j => rngL 0 j) h1
  | .rng2 a b, ρ, h => (a.den Φ ρ h).bind fun p h1 => (b.den Φ ρ h1).bind fun q h2 => Res.of ((intV p).bind fun i => (intV q).bind fun j => rngL i j) h2
  | .zip a b, ρ, h => (a.den Φ ρ h).bind fun p h1 => (b.den Φ ρ h1).bind fun q h2 => match p, q with
    | .tup xs, .tup ys => .ok (zipL xs ys) h2
    | .lst xs, .lst ys => .ok (zipL xs ys) h2
    | _, _ => .bad
  | .enm a, ρ, h => (a.den Φ ρ h).bind fun p h1 => match p with
    | .lst xs => .ok (enumL xs) h1
    | .tup xs => .ok (enumL xs) h1
    | _ => .bad
  | .dks a, ρ, h => (a.den Φ ρ h).bind fun p h1 => Res.of (dksV p) h1
def O.den (Φ : Fns) : O → Sl → PH → Res (Option Int)
  | .none, _, h => .ok none h
  | .some e, ρ, h => (e.den Φ ρ h).bind fun p h1 => Res.of ((intV p).map some) h1
end
/-- a for's walk -/
def forL (f : PV → Sl → PH → Out) : List PV → Sl → PH → Out
  | [], ρ, h => .nx ρ h
  | x :: xs, ρ, h => match f x ρ h with
    | .nx ρ1 h1 => forL f xs ρ1 h1
    | .ct ρ1 h1 => forL f xs ρ1 h1
    | .bk ρ1 h1 => .nx ρ1 h1
    | o => o
def whileL (t : Sl → PH → Res (Bool × Sl)) (f : Sl → PH → Out) : Nat → Sl → PH → Out
  | 0, _, _ => .bad
  | n + 1, ρ, h => (t ρ h).out ρ fun b h1 => if b.1 = true then match f b.2 h1 with
      | .nx ρ1 h2 => whileL t f n ρ1 h2
      | .ct ρ1 h2 => whileL t f n ρ1 h2
      | .bk ρ1 h2 => .nx ρ1 h2
      | o => o
    else .nx b.2 h1
/-- how often a while may turn -/
def wMost : Nat := 100000
mutual
def S.den (Φ : Fns) : S → Sl → PH → Out
  | .asg g e, ρ, h => (e.den Φ ρ h).out ρ fun p h1 => match g.put p ρ with
    | some ρ' => .nx ρ' h1
    | none => .bad
  | .asgC i e, ρ, h => (e.den Φ ρ h).out ρ fun p h1 => .nx (ρ.set i (some p)) h1
  | .par i j a b, ρ, h => (a.den Φ ρ h).out ρ fun p h1 => (b.den Φ ρ h1).out ρ fun q h2 => .nx ((ρ.set i (some p)).set j (some q)) h2
  | .par3 i j l a b c, ρ, h => (a.den Φ ρ h).out ρ fun p h1 => (b.den Φ ρ h1).out ρ fun q h2 => (c.den Φ ρ h2).out ρ fun r h3 => .nx (((ρ.set i (some p)).set j (some q)).set l (some r)) h3
  | .setI a b e, ρ, h => (e.den Φ ρ h).out ρ fun v h1 => (a.den Φ ρ h1).out ρ fun p h2 => (b.den Φ ρ h2).out ρ fun q h3 => match p, q with
    | .ref n, .int i => match liveL h3 n with
      | some xs => match ixN xs.length i with
        | some j => .nx ρ (h3.set n (.lst (xs.set j v)))
        | none => .bad
      | none => .bad
    | _, _ => .bad
  | .ex e, ρ, h => (e.den Φ ρ h).out ρ fun _ h1 => .nx ρ h1
  | .ret e, ρ, h => (e.den Φ ρ h).out ρ fun p h1 => .rt p h1
  | .retN, _, h => .rt .non h
  | .ite t a b, ρ, h => (t.den Φ ρ h).out ρ fun c h1 => if c = true then a.den Φ ρ h1 else b.den Φ ρ h1
  | .for_ g it b, ρ, h => (it.den Φ ρ h).out ρ fun xs h1 => forL (fun x ρ1 h2 => match g.put x ρ1 with
    | some ρ2 => b.den Φ ρ2 h2
    | none => .bad) xs ρ h1
  | .whl t b, ρ, h => whileL (fun ρ1 h1 => (t.den Φ ρ1 h1).bind fun c h2 => .ok (c, ρ1) h2) (fun ρ1 h1 => b.den Φ ρ1 h1) wMost ρ h
  | .whlW i nn e b, ρ, h => whileL (fun ρ1 h1 => (e.den Φ ρ1 h1).bind fun p h2 => (Res.of (if nn = true then cmpop .notN p .non else truthV p h2) h2).bind fun c h3 => .ok (c, ρ1.set i (some p)) h3) (fun ρ1 h1 => b.den Φ ρ1 h1) wMost ρ h
  | .pass, ρ, h => .nx ρ h
  | .brk, ρ, h => .bk ρ h
  | .cnt, ρ, h => .ct ρ h
  | .never, _, _ => .bad
  | .gen i e, ρ, h => if i < ρ.length then (e.den Φ ρ h).out ρ fun p h1 => match seqV p with
    | some xs => .rt (.lst xs) h1
    | none => .bad
    else .bad
  | .mtch e cs, ρ, h => (e.den Φ ρ h).out ρ fun p h1 => match p with
    | .str x => cs.den Φ x ρ h1
    | _ => .bad
def Ss.den (Φ : Fns) : Ss → Sl → PH → Out
  | .nil, ρ, h => .nx ρ h
  | .cons s ss, ρ, h => (s.den Φ ρ h).bind fun ρ1 h1 => ss.den Φ ρ1 h1
def Cs.den (Φ : Fns) (x : Str) : Cs → Sl → PH → Out
  | .nil, ρ, h => .nx ρ h
  | .cons y b cs, ρ, h => if x = y then b.den Φ ρ h else cs.den Φ x ρ h
end

/-! ### defs -/
structure Fn where
  np : Nat
  ns : Nat
  keep : Bool
  body : Ss
  star : Bool := false
  gen : Bool := false
  quiet : Bool := false
/-- 0: plain, 1: star, 2: generator -/
def Fn.kind (f : Fn) : Nat := if f.gen then 2 else if f.star then 1 else 0
mutual
/-- names no live object from n on -/
def PV.under (n : Nat) : PV → Bool
  | .ref k => k < n
  | .tup xs => PV.unders n xs
  | .lst xs => PV.unders n xs
  | .dct ks vs => PV.unders n ks && PV.unders n vs
  | .obj _ _ vs => PV.unders n vs
  | _ => true
def PV.unders (n : Nat) : List PV → Bool
  | [] => true
  | x :: xs => x.under n && PV.unders n xs
end
def PO.under (n : Nat) : PO → Bool
  | .lst xs => PV.unders n xs
  | .ins _ _ xs => PV.unders n xs
/-- a call's end: what was made within is given up, a live list that is handed back is frozen -/
def fixR (keep : Bool) (n : Nat) (p : PV) (h : PH) : Res PV :=
  if keep || h.length == n then .ok p h
  else if (h.take n).all (PO.under n) then match p with
    | .ref k => if k < n then .ok p (h.take n) else match liveL h k with
      | some xs => if PV.unders n xs then .ok (.lst xs) (h.take n) else .bad
      | none => .bad
    | p => if p.under n then .ok p (h.take n) else .bad
  else .bad
def fixX (n : Nat) (x : PX) (h : PH) : Res PV :=
  if h.length == n then .exc x h
  else if (h.take n).all (PO.under n) && PV.unders n x.vs then .exc x (h.take n) else .bad
def startP (ns : Nat) (args : List PV) : Sl := args.map some ++ List.replicate (ns - args.length) none
def Fn.runB (f : Fn) (Φ : Fns) (args : List PV) (h : PH) : Res PV := match f.body.den Φ (startP f.ns args) h with
    | .rt p h1 => fixR f.keep h.length p h1
    | .nx _ h1 => fixR f.keep h.length .non h1
    | .exc x _ h1 => fixX h.length x h1
    | _ => .bad
@[irreducible] def Fn.run (f : Fn) (Φ : Fns) (args : List PV) (h : PH) : Res PV :=
  if f.star = true then if 0 < f.np ∧ f.np ≤ args.length + 1 ∧ args.length ≤ sizeLine then f.runB Φ (args.take (f.np - 1) ++ [.tup (args.drop (f.np - 1))]) h else .bad
  else if args.length = f.np then f.runB Φ args h else .bad
theorem run_plain {f : Fn} {Φ : Fns} {args : List PV} {h : PH} (hs : f.star = false) (hn : args.length = f.np) : f.run Φ args h = f.runB Φ args h := by
  unfold Fn.run
  rw [if_neg (by simp [hs]), if_pos hn]
theorem run_star {f : Fn} {Φ : Fns} {args : List PV} {h : PH} (hs : f.star = true) (hn : 0 < f.np ∧ f.np ≤ args.length + 1 ∧ args.length ≤ sizeLine) : f.run Φ args h = f.runB Φ (args.take (f.np - 1) ++ [.tup (args.drop (f.np - 1))]) h := by
  unfold Fn.run
  rw [if_pos hs, if_pos hn]
abbrev Tab := Str → Option Fn
/-- f(args), at most n calls deep -/
def callR (T : Tab) : Nat → Str → List PV → PH → Res PV
  | 0, _, _, _ => .bad
  | n + 1, f, args, h => match T f with
    | some fn => fn.run (callR T n) args h
    | none => .bad
@[irreducible] def call (T : Tab) (n : Nat) : Str → List PV → PH → Res PV := callR T n
theorem call_zero (T : Tab) (f : Str) (args : List PV) (h : PH) : call T 0 f args h = .bad := by
  unfold call; rfl
theorem call_succ (T : Tab) (n : Nat) (f : Str) (args : List PV) (h : PH) : call T (n + 1) f args h = match T f with
    | some fn => fn.run (call T n) args h
    | none => .bad := by
  unfold call; rfl
end R

set_option Elab.async false
set_option linter.all false
set_option maxRecDepth 100000
set_option maxHeartbeats 1000000
/-! R: the checker: an IR against the text -/
namespace R
open PySem PySem.Spec L2

structure CC where
  sc : Scope
  N : List Str
  defs : List (Str × Nat × Nat)
  blts : List Str
  cons : List (Str × SC)
  fnc : Str → Bool
  loud : Bool := true
  quiets : List Str := []

def bltQ (C : CC) : Blt → Bool
  | .repr => C.loud
  | _ => true
def visB (sc : Scope) (x : Str) : Bool := match sc.names.lookup x with
  | some .local => true
  | some .cell => true
  | some .free => true
  | _ => false
def locB (C : CC) (x : Str) : Bool := match C.sc.names.lookup x with
  | some .local => true
  | some .cell => C.fnc x
  | _ => false
def onlyLoc (sc : Scope) (x : Str) : Bool := match sc.names.lookup x with
  | some .local => true
  | _ => false
def glB (sc : Scope) (x : Str) : Bool := match sc.names.lookup x with
  | some .globalImplicit => true
  | _ => false
def nameB (x : Str) : Bool := !(x == ("__debug__" : Str)) && !(x == ("__classdict__" : Str)) && !decide (x = ("__name__" : Str))
def nostar : Expr → Bool
  | .Starred _ _ => false
  | _ => true
def plainTest : Expr → Bool
  | .UnaryOp .Not _ _ => false
  | .BoolOp _ _ _ => false
  | .IfExp _ _ _ _ => false
  | .Compare _ _ _ _ => false
  | _ => true
def plainIx : Expr → Bool
  | .Slice _ _ _ _ => false
  | _ => true
def baseOk : Expr → Bool
  | .Call _ _ _ _ => false
  | _ => true
def noComp : Expr → Bool
  | .ListComp _ _ _ _ => false
  | .SetComp _ _ _ _ => false
  | .DictComp _ _ _ _ _ => false
  | _ => true
def noSet : Expr → Bool
  | .Set _ _ _ => false
  | _ => true
def isTupE : Expr → Bool
  | .Tuple _ _ _ => true
  | _ => false
/-- a comprehension that is stored as a whole -/
def swB (sc : Scope) (x : Str) (py : Pos) : Expr → Bool
  | .ListComp _ _ scope pos => onlyLoc sc x && (py.line == pos.line) && !(scope.names.any fun (n, k) => n == x && (k == .local || k == .cell))
  | _ => false
/-- a, b = x, y is no swap -/
def swNone (sc : Scope) (tg v : Expr) : Bool := match tg, v with
  | .Tuple ts _ _, .Tuple vs _ _ => !(ts.length == 2 || ts.length == 3) || (ts.any fun t => match t with | .Name x _ => !onlyLoc sc x | _ => true) || vs.all (foldedForSure 8)
  | .List _ _, _ => false
  | _, _ => true

def constB : SC → Const → Bool
  | .non, .none => true
  | .bl b, .bool c => b == c
  | .int i, .int j => decide (i = j)
  | .str x, .str y => decide (x = y)
  | _, _ => false
def chkGs (C : CC) : List Nat → List Expr → Bool
  | [], [] => true
  | i :: is, e :: es => (match e with
    | .Name x _ => locB C x && decide (C.N[i]? = some x)
    | _ => false) && chkGs C is es
  | _, _ => false
def chkG (C : CC) : G → Expr → Bool
  | .name i, tg => match tg with
    | .Name x _ => locB C x && decide (C.N[i]? = some x)
    | _ => false
  | .tup is, tg => match tg with
    | .Tuple es _ _ => chkGs C is es
    | _ => false
def CC.blk (C : CC) (scope : Scope) : CC := { C with sc := relS scope C.sc, fnc := fun x => scope.names.lookup x == some .cell }
def ownN (C : CC) (own : List Nat) : List (Str × Nat) := own.map fun i => ((C.N[i]?).getD "", i)
def tyOk (c : String) : Bool := ["int", "bool", "tuple", "str", "list", "dict"].contains c
def bltIn (C : CC) (x : Str) : Bool := glB C.sc x && nameB x && decide (x ∈ C.blts)
def Es.len : Es → Nat
  | .nil => 0
  | .star _ _ => 0
  | .cons _ es => es.len + 1

/-! the text's shapes -/
def optB {α : Type} (o : Option α) (f : α → Bool) : Bool := match o with
  | some a => f a
  | none => false
theorem optB_ok {α : Type} {o : Option α} {f : α → Bool} (h : optB o f = true) : ∃ a, o = some a ∧ f a = true := by
  cases o with
  | none => cases h
  | some a => exact ⟨a, rfl, h⟩
def asName : Expr → Option Str
  | .Name x _ => some x
  | _ => none
theorem asName_ok {a : Expr} {x : Str} (h : asName a = some x) : ∃ p, a = .Name x p := by
  cases a <;> cases h
  exact ⟨_, rfl⟩
def asConst : Expr → Option Const
  | .Constant k _ _ => some k
  | _ => none
theorem asConst_ok {a : Expr} {k : Const} (h : asConst a = some k) : ∃ n p, a = .Constant k n p := by
  cases a <;> cases h
  exact ⟨_, _, rfl⟩
def asBin : Expr → Option (Expr × Operator × Expr)
  | .BinOp l o r _ => some (l, o, r)
  | _ => none
theorem asBin_ok {a l r : Expr} {o : Operator} (h : asBin a = some (l, o, r)) : ∃ p, a = .BinOp l o r p := by
  cases a <;> cases h
  exact ⟨_, rfl⟩
def asUn : Expr → Option (UnaryOp × Expr)
  | .UnaryOp o x _ => some (o, x)
  | _ => none
theorem asUn_ok {a x : Expr} {o : UnaryOp} (h : asUn a = some (o, x)) : ∃ p, a = .UnaryOp o x p := by
  cases a <;> cases h
  exact ⟨_, rfl⟩
def asCmp : Expr → Option (Expr × List CmpOp × List Expr)
  | .Compare l os rs _ => some (l, os, rs)
  | _ => none
theorem asCmp_ok {a l : Expr} {os : List CmpOp} {rs : List Expr} (h : asCmp a = some (l, os, rs)) : ∃ p, a = .Compare l os rs p := by
  cases a <;> cases h
  exact ⟨_, rfl⟩
def as1 {α : Type} : List α → Option α
  | [x] => some x
  | _ => none
theorem as1_ok {α : Type} {l : List α} {x : α} (h : as1 l = some x) : l = [x] := by
  rcases l with _ | ⟨a, _ | ⟨b, l⟩⟩ <;> cases h
  rfl
def as2 {α : Type} : List α → Option (α × α)
  | [x, y] => some (x, y)
  | _ => none
theorem as2_ok {α : Type} {l : List α} {x y : α} (h : as2 l = some (x, y)) : l = [x, y] := by
  rcases l with _ | ⟨a, _ | ⟨b, _ | ⟨c, l⟩⟩⟩ <;> cases h
  rfl
def asC {α : Type} : List α → Option (α × List α)
  | x :: l => some (x, l)
  | _ => none
theorem asC_ok {α : Type} {l r : List α} {x : α} (h : asC l = some (x, r)) : l = x :: r := by
  cases l <;> cases h
  rfl
def asN {α : Type} : List α → Bool
  | [] => true
  | _ => false
theorem asN_ok {α : Type} {l : List α} (h : asN l = true) : l = [] := by
  cases l <;> first | rfl | cases h
def asBool : Expr → Option (BoolOp × List Expr)
  | .BoolOp o xs _ => some (o, xs)
  | _ => none
theorem asBool_ok {a : Expr} {o : BoolOp} {xs : List Expr} (h : asBool a = some (o, xs)) : ∃ p, a = .BoolOp o xs p := by
  cases a <;> cases h
  exact ⟨_, rfl⟩
def isAnd : BoolOp → Bool
  | .And => true
  | .Or => false
theorem isAnd_ok {o : BoolOp} (h : isAnd o = true) : o = .And := by cases o <;> first | rfl | cases h
theorem isOr_ok {o : BoolOp} (h : isAnd o = false) : o = .Or := by cases o <;> first | rfl | cases h
def isNot : UnaryOp → Bool
  | .Not => true
  | _ => false
theorem isNot_ok {o : UnaryOp} (h : isNot o = true) : o = .Not := by cases o <;> first | rfl | cases h
def isNeg : UnaryOp → Bool
  | .USub => true
  | _ => false
theorem isNeg_ok {o : UnaryOp} (h : isNeg o = true) : o = .USub := by cases o <;> first | rfl | cases h
def asIf : Expr → Option (Expr × Expr × Expr)
  | .IfExp c x y _ => some (c, x, y)
  | _ => none
theorem asIf_ok {a c x y : Expr} (h : asIf a = some (c, x, y)) : ∃ p, a = .IfExp c x y p := by
  cases a <;> cases h
  exact ⟨_, rfl⟩
def asTup : Expr → Option (List Expr)
  | .Tuple xs _ _ => some xs
  | _ => none
theorem asTup_ok {a : Expr} {xs : List Expr} (h : asTup a = some xs) : ∃ n p, a = .Tuple xs n p := by
  cases a <;> cases h
  exact ⟨_, _, rfl⟩
def asLst : Expr → Option (List Expr)
  | .List xs _ => some xs
  | _ => none
theorem asLst_ok {a : Expr} {xs : List Expr} (h : asLst a = some xs) : ∃ p, a = .List xs p := by
  cases a <;> cases h
  exact ⟨_, rfl⟩
def asSub : Expr → Option (Expr × Expr)
  | .Subscript x y _ => some (x, y)
  | _ => none
theorem asSub_ok {a x y : Expr} (h : asSub a = some (x, y)) : ∃ p, a = .Subscript x y p := by
  cases a <;> cases h
  exact ⟨_, rfl⟩
def asSlc : Expr → Option (Option Expr × Option Expr)
  | .Slice l u none _ => some (l, u)
  | _ => none
theorem asSlc_ok {a : Expr} {l u : Option Expr} (h : asSlc a = some (l, u)) : ∃ p, a = .Slice l u none p := by
  cases a <;> first | (cases h; done) | skip
  rename_i l' u' s p
  cases s <;> cases h
  exact ⟨_, rfl⟩
def isRevS : Expr → Bool
  | .Slice none none (some (.UnaryOp .USub (.Constant (.int 1) _ _) _)) _ => true
  | _ => false
theorem isRevS_ok {a : Expr} (h : isRevS a = true) : ∃ k p1 p2 p3, a = .Slice none none (some (.UnaryOp .USub (.Constant (.int 1) k p1) p2)) p3 := by
  unfold isRevS at h
  split at h
  · exact ⟨_, _, _, _, rfl⟩
  · cases h
def asStar : Expr → Option Expr
  | .Starred e _ => some e
  | _ => none
theorem asStar_ok {a e : Expr} (h : asStar a = some e) : ∃ p, a = .Starred e p := by
  cases a <;> cases h
  exact ⟨_, rfl⟩
def as3 {α : Type} : List α → Option (α × α × α)
  | [x, y, z] => some (x, y, z)
  | _ => none
theorem as3_ok {α : Type} {l : List α} {x y z : α} (h : as3 l = some (x, y, z)) : l = [x, y, z] := by
  rcases l with _ | ⟨a, _ | ⟨b, _ | ⟨c, _ | ⟨d, l⟩⟩⟩⟩ <;> cases h
  rfl
def asCall : Expr → Option (Expr × List Expr)
  | .Call f xs [] _ => some (f, xs)
  | _ => none
theorem asCall_ok {a f : Expr} {xs : List Expr} (h : asCall a = some (f, xs)) : ∃ p, a = .Call f xs [] p := by
  cases a <;> first | (cases h; done) | skip
  rename_i f' xs' ks p
  cases ks <;> cases h
  exact ⟨_, rfl⟩
def asMeth : Expr → Option (Expr × Str × List Expr)
  | .Call (.Attribute o nm ap) xs [] cp => if (ap.endLine == cp.line) = true then some (o, nm, xs) else none
  | _ => none
theorem asMeth_ok {a o : Expr} {nm : Str} {xs : List Expr} (h : asMeth a = some (o, nm, xs)) : ∃ ap cp, a = .Call (.Attribute o nm ap) xs [] cp ∧ (ap.endLine == cp.line) = true := by
  unfold asMeth at h
  split at h
  · split at h
    · cases h
      exact ⟨_, _, rfl, by assumption⟩
    · cases h
  · cases h
def asLc : Expr → Option (Expr × List Comprehension × Scope)
  | .ListComp e gs sc _ => some (e, gs, sc)
  | _ => none
theorem asLc_ok {a e : Expr} {gs : List Comprehension} {sc : Scope} (h : asLc a = some (e, gs, sc)) : ∃ p, a = .ListComp e gs sc p := by
  cases a <;> cases h
  exact ⟨_, rfl⟩
def asGen : Comprehension → Option (Expr × Expr × List Expr)
  | ⟨t, i, ifs, 0⟩ => some (t, i, ifs)
  | _ => none
theorem asGen_ok {c : Comprehension} {t i : Expr} {ifs : List Expr} (h : asGen c = some (t, i, ifs)) : c = ⟨t, i, ifs, 0⟩ := by
  unfold asGen at h
  split at h <;> cases h
  rfl

/-- {x: True for x in it} -/
def asDcN : Expr → Option ((Str × Pos) × Expr × Scope × Pos)
  | .DictComp (.Name x _) (.Constant (.bool true) _ _) [⟨.Name y p, it, [], 0⟩] sc pos => if x = y then some ((y, p), it, sc, pos) else none
  | _ => none
theorem asDcN_ok {a it : Expr} {y : Str} {p pos : Pos} {sc : Scope} (h : asDcN a = some ((y, p), it, sc, pos)) : ∃ p1 k p2, a = .DictComp (.Name y p1) (.Constant (.bool true) k p2) [⟨.Name y p, it, [], 0⟩] sc pos := by
  unfold asDcN at h
  split at h
  · split at h
    · rename_i e
      subst e
      cases h
      exact ⟨_, _, _, rfl⟩
    · cases h
  · cases h
mutual
def chkE (C : CC) : E → Expr → Bool
  | .var i, a => optB (asName a) fun x => decide (C.N[i]? = some x) && visB C.sc x && nameB x
  | .con c, a => optB (asConst a) fun k => constB c k
  | .glb y c, a => optB (asName a) fun x => decide (x = y) && glB C.sc x && nameB x && decide (C.cons.lookup x = some c)
  | .bin o e f, a => optB (asBin a) fun p => decide (p.2.1 = o.op) && chkE C e p.1 && chkE C f p.2.2
  | .neg e, a => optB (asUn a) fun p => isNeg p.1 && chkE C e p.2
  | .cmp o e f, a => optB (asCmp a) fun p => optB (as1 p.2.1) fun op => optB (as1 p.2.2) fun r => decide (op = o.op) && !behindInMarks op r && chkE C e p.1 && chkE C f r
  | .chn o o' e f g, a => optB (asCmp a) fun p => optB (as2 p.2.1) fun ops => optB (as2 p.2.2) fun r => decide (ops.1 = o.op) && decide (ops.2 = o'.op) && !lastMarks [ops.1, ops.2] [r.1, r.2] && chkE C e p.1 && chkE C f r.1 && chkE C g r.2
  | .not e, a => optB (asUn a) fun p => isNot p.1 && chkE C e p.2
  | .and es, a => optB (asBool a) fun p => isAnd p.1 && chkEs C es p.2
  | .or es, a => optB (asBool a) fun p => !isAnd p.1 && chkEs C es p.2
  | .ite t e f, a => optB (asIf a) fun p => chkT C t p.1 && chkE C e p.2.1 && chkE C f p.2.2
  | .tup es, a => optB (asTup a) fun xs => chkEs C es xs
  | .lst _ es, a => optB (asLst a) fun xs => xs.all nostar && chkEs C es xs
  | .idx e f, a => optB (asSub a) fun p => plainIx p.2 && chkE C e p.1 && chkE C f p.2
  | .slc e lo hi, a => optB (asSub a) fun p => optB (asSlc p.2) fun s => chkE C e p.1 && chkO C lo s.1 && chkO C hi s.2
  | .rev e, a => optB (asSub a) fun p => isRevS p.2 && chkE C e p.1
  | .call f es, a => optB (asCall a) fun p => optB (asName p.1) fun x => decide (x = f) && glB C.sc x && nameB x && decide (C.defs.lookup x = some (es.len, 0)) && p.2.all nostar && (C.loud || C.quiets.contains x) && chkEs C es p.2
  | .callS f es, a => optB (asCall a) fun p => optB (asName p.1) fun x => optB (asC p.2) fun y => decide (x = f) && glB C.sc x && nameB x && (optB (C.defs.lookup x) fun d => decide (d.2 = 1)) && nostar y.1 && y.2.all nostar && C.loud && chkEs C es (y.1 :: y.2)
  | .lrng e, a => optB (asCall a) fun p => optB (asName p.1) fun x => optB (as1 p.2) fun q => optB (asCall q) fun p' => optB (asName p'.1) fun z => optB (as1 p'.2) fun y => decide (x = "list") && bltIn C x && decide (z = "range") && bltIn C z && nostar y && chkE C e y
  | .gnL f es, a => optB (asCall a) fun p => optB (asName p.1) fun x => optB (as1 p.2) fun q => optB (asCall q) fun p' => optB (asName p'.1) fun z => optB (asC p'.2) fun y => decide (x = "list") && bltIn C x && nostar q && decide (z = f) && glB C.sc z && nameB z && decide (C.defs.lookup z = some (es.len, 2)) && nostar y.1 && y.2.all nostar && chkEs C es (y.1 :: y.2)
  | .blt b es, a => optB (asCall a) fun p => optB (asName p.1) fun x => optB (asC p.2) fun y => decide (x = b.name) && bltIn C x && nostar y.1 && y.2.all nostar && bltQ C b && chkEs C es (y.1 :: y.2)
  | .isi e c, a => optB (asCall a) fun p => optB (asName p.1) fun x => optB (as2 p.2) fun y => optB (asName y.2) fun z => decide (x = "isinstance") && bltIn C x && nostar y.1 && decide (z = Str.ofString c) && bltIn C z && tyOk c && chkE C e y.1
  | .lenSet e, a => optB (asCall a) fun p => optB (asName p.1) fun x => optB (as1 p.2) fun q => optB (asCall q) fun p' => optB (asName p'.1) fun z => optB (as1 p'.2) fun y => decide (x = "len") && bltIn C x && decide (z = "set") && bltIn C z && nostar y && chkE C e y
  | .sortedSet e, a => optB (asCall a) fun p => optB (asName p.1) fun x => optB (as1 p.2) fun q => optB (asCall q) fun p' => optB (asName p'.1) fun z => optB (as1 p'.2) fun y => decide (x = "sorted") && bltIn C x && decide (z = "set") && bltIn C z && nostar y && chkE C e y
  | .mth m e es, a => optB (asMeth a) fun p => decide (p.2.1 = m.name) && baseOk p.1 && p.2.2.all nostar && decide (p.2.2.length < 20) && chkE C e p.1 && chkEs C es p.2.2
  | .dcN j own e, a => optB (asDcN a) fun q => 
      blkC C.N C.sc q.2.2.1 (ownN C own) && noSet q.2.1 && chkE C e q.2.1 && chkG (C.blk q.2.2.1) (.name j) (.Name q.1.1 q.1.2) && own.contains j && visB (C.blk q.2.2.1).sc q.1.1 && nameB q.1.1 && decide (C.N[j]? = some q.1.1)
  | .lc _ own g it t e, a => optB (asLc a) fun p => optB (as1 p.2.1) fun c => optB (asGen c) fun q => blkC C.N C.sc p.2.2 (ownN C own) && noSet q.2.1 && chkI C it q.1 q.2.1 && chkG (C.blk p.2.2) g q.1 && (g.slots.all fun i => own.contains i) && chkTif (C.blk p.2.2) t q.2.2 && chkE (C.blk p.2.2) e p.1
  | .lc2 own vs1 g it t g1 it1 t1 e, a => optB (asLc a) fun p => optB (as2 p.2.1) fun c => optB (asGen c.1) fun q => optB (asGen c.2) fun q1 => blkC C.N C.sc p.2.2 (ownN C own) && noSet q.2.1 && noSet q1.2.1 && chkI C it q.1 q.2.1 && chkG (C.blk p.2.2) g q.1 && (g.slots.all fun i => own.contains i) && chkTif (C.blk p.2.2) t q.2.2 &&
        (vs1.all fun i => own.contains i) && chkI (C.blk p.2.2) it1 q1.1 q1.2.1 && chkG (C.blk p.2.2) g1 q1.1 && (g1.slots.all fun i => vs1.contains i) && chkTif (C.blk p.2.2) t1 q1.2.2 && chkE (C.blk p.2.2) e p.1
def chkEs (C : CC) : Es → List Expr → Bool
  | .nil, xs => asN xs
  | .cons e es, xs => optB (asC xs) fun p => nostar p.1 && chkE C e p.1 && chkEs C es p.2
  | .star e es, xs => optB (asC xs) fun p => optB (asStar p.1) fun y => chkE C e y && chkEs C es p.2
def chkT (C : CC) : T → Expr → Bool
  | .val e, a => plainTest a && chkE C e a
  | .cmp o e f, a => optB (asCmp a) fun p => optB (as1 p.2.1) fun op => optB (as1 p.2.2) fun r => decide (op = o.op) && !behindInMarks op r && chkE C e p.1 && chkE C f r
  | .chn o o' e f g, a => optB (asCmp a) fun p => optB (as2 p.2.1) fun ops => optB (as2 p.2.2) fun r => decide (ops.1 = o.op) && decide (ops.2 = o'.op) && !lastMarks [ops.1, ops.2] [r.1, r.2] && chkE C e p.1 && chkE C f r.1 && chkE C g r.2
  | .not t, a => optB (asUn a) fun p => isNot p.1 && chkT C t p.2
  | .and ts, a => optB (asBool a) fun p => isAnd p.1 && chkTs C ts p.2
  | .or ts, a => optB (asBool a) fun p => !isAnd p.1 && chkTs C ts p.2
  | .yes, _ => false
def chkTs (C : CC) : Ts → List Expr → Bool
  | .nil, xs => asN xs
  | .cons t ts, xs => optB (asC xs) fun p => chkT C t p.1 && chkTs C ts p.2
def chkTif (C : CC) : T → List Expr → Bool
  | .yes, xs => asN xs
  | .val e, xs => optB (as1 xs) fun c => plainTest c && chkE C e c
  | .cmp o e f, xs => optB (as1 xs) fun a => optB (asCmp a) fun p => optB (as1 p.2.1) fun op => optB (as1 p.2.2) fun r => decide (op = o.op) && !behindInMarks op r && chkE C e p.1 && chkE C f r
  | .chn o o' e f g, xs => optB (as1 xs) fun a => optB (asCmp a) fun p => optB (as2 p.2.1) fun ops => optB (as2 p.2.2) fun r => decide (ops.1 = o.op) && decide (ops.2 = o'.op) && !lastMarks [ops.1, ops.2] [r.1, r.2] && chkE C e p.1 && chkE C f r.1 && chkE C g r.2
  | .not t, xs => optB (as1 xs) fun a => optB (asUn a) fun p => isNot p.1 && chkT C t p.2
  | .and ts, xs => optB (as1 xs) fun a => optB (asBool a) fun p => isAnd p.1 && chkTs C ts p.2
  | .or ts, xs => optB (as1 xs) fun a => optB (asBool a) fun p => !isAnd p.1 && chkTs C ts p.2
def chkI (C : CC) : I → Expr → Expr → Bool
  | .seq e, _, a => chkE C e a
  | .rng e, _, a => optB (asCall a) fun p => optB (asName p.1) fun x => optB (as1 p.2) fun y => decide (x = "range") && bltIn C x && nostar y && chkE C e y
  | .rng2 e f, _, a => optB (asCall a) fun p => optB (asName p.1) fun x => optB (as2 p.2) fun y => decide (x = "range") && bltIn C x && nostar y.1 && nostar y.2 && chkE C e y.1 && chkE C f y.2
  | .zip e f, tg, a => optB (asCall a) fun p => optB (asName p.1) fun x => optB (as2 p.2) fun y => decide (x = "zip") && bltIn C x && nostar y.1 && nostar y.2 && isTupE tg && chkE C e y.1 && chkE C f y.2
  | .enm e, tg, a => optB (asCall a) fun p => optB (asName p.1) fun x => optB (as1 p.2) fun y => decide (x = "enumerate") && bltIn C x && nostar y && isTupE tg && chkE C e y
  | .dks e, _, a => chkE C e a
def chkO (C : CC) : O → Option Expr → Bool
  | .none, a => a.isNone
  | .some e, a => optB a fun x => chkE C e x
end
theorem chkTif_ok {C : CC} {t : T} {xs : List Expr} (h : chkTif C t xs = true) : (t = .yes ∧ xs = []) ∨ ∃ c, xs = [c] ∧ chkT C t c = true := by
  cases t with
  | yes => exact .inl ⟨rfl, asN_ok h⟩
  | _ =>
    right
    obtain ⟨c, h1, h2⟩ := optB_ok h
    exact ⟨c, as1_ok h1, h2⟩
/-! statements -/
def asAsg : Stmt → Option (Expr × Expr × Nat)
  | .Assign [t] v p => some (t, v, p.line)
  | _ => none
theorem asAsg_ok {a : Stmt} {t v : Expr} {n : Nat} (h : asAsg a = some (t, v, n)) : ∃ p, a = .Assign [t] v p ∧ p.line = n := by
  unfold asAsg at h
  split at h <;> cases h
  exact ⟨_, rfl, rfl⟩
def asNameP : Expr → Option (Str × Pos)
  | .Name x p => some (x, p)
  | _ => none
theorem asNameP_ok {a : Expr} {x : Str} {p : Pos} (h : asNameP a = some (x, p)) : a = .Name x p := by
  cases a <;> cases h
  rfl
def asEx : Stmt → Option Expr
  | .Expr v _ => some v
  | _ => none
theorem asEx_ok {a : Stmt} {v : Expr} (h : asEx a = some v) : ∃ p, a = .Expr v p := by
  cases a <;> cases h
  exact ⟨_, rfl⟩
def asRet : Stmt → Option (Option Expr)
  | .Return v _ => some v
  | _ => none
theorem asRet_ok {a : Stmt} {v : Option Expr} (h : asRet a = some v) : ∃ p, a = .Return v p := by
  cases a <;> cases h
  exact ⟨_, rfl⟩
def asIfS : Stmt → Option (Expr × List Stmt × List Stmt)
  | .If c xs ys _ => some (c, xs, ys)
  | _ => none
theorem asIfS_ok {a : Stmt} {c : Expr} {xs ys : List Stmt} (h : asIfS a = some (c, xs, ys)) : ∃ p, a = .If c xs ys p := by
  cases a <;> cases h
  exact ⟨_, rfl⟩
def asFor : Stmt → Option (Expr × Expr × List Stmt)
  | .For t i xs [] _ => some (t, i, xs)
  | _ => none
theorem asFor_ok {a : Stmt} {t i : Expr} {xs : List Stmt} (h : asFor a = some (t, i, xs)) : ∃ p, a = .For t i xs [] p := by
  unfold asFor at h
  split at h <;> cases h
  exact ⟨_, rfl⟩
def asWhl : Stmt → Option (Expr × List Stmt)
  | .While c xs [] _ => some (c, xs)
  | _ => none
theorem asWhl_ok {a : Stmt} {c : Expr} {xs : List Stmt} (h : asWhl a = some (c, xs)) : ∃ p, a = .While c xs [] p := by
  unfold asWhl at h
  split at h <;> cases h
  exact ⟨_, rfl⟩
/-- x := e, or (x := e) is not None -/
def asWal (nn : Bool) (c : Expr) : Option (Str × Expr) := match nn, c with
  | false, .NamedExpr (.Name x _) v _ => some (x, v)
  | true, .Compare (.NamedExpr (.Name x _) v _) [.IsNot] [.Constant .none _ _] _ => some (x, v)
  | _, _ => none
def isPass : Stmt → Bool
  | .Pass _ => true
  | .Expr (.Constant (.str _) _ _) _ => true
  | _ => false
def isBrk : Stmt → Bool
  | .Break _ => true
  | _ => false
def isCnt : Stmt → Bool
  | .Continue _ => true
  | _ => false
def asMat : Stmt → Option (Expr × List MatchCase)
  | .Match e cs _ => some (e, cs)
  | _ => none
theorem asMat_ok {a : Stmt} {e : Expr} {cs : List MatchCase} (h : asMat a = some (e, cs)) : ∃ p, a = .Match e cs p := by
  cases a <;> cases h
  exact ⟨_, rfl⟩
/-- case "..": without a guard -/
def asCase : MatchCase → Option (Str × List Stmt)
  | ⟨.MatchValue (.Constant (.str x) _ _) _, none, b⟩ => some (x, b)
  | _ => none
theorem asCase_ok {c : MatchCase} {x : Str} {b : List Stmt} (h : asCase c = some (x, b)) : ∃ n p q, c = ⟨.MatchValue (.Constant (.str x) n p) q, none, b⟩ := by
  unfold asCase at h
  split at h <;> cases h
  exact ⟨_, _, _, rfl⟩
def tgOk (sc : Scope) (tg v : Expr) : Bool := match tg with
  | .Name x py => noComp v || (match v with | .ListComp _ _ _ _ => !swB sc x py v | .DictComp _ _ _ _ _ => !onlyLoc sc x | _ => false)
  | tg => swNone sc tg v
mutual
def chkS (C : CC) : S → Stmt → Bool
  | .asg g e, a => optB (asAsg a) fun p => chkG C g p.1 && chkE C e p.2.1 && tgOk C.sc p.1 p.2.1
  | .asgC i e, a => optB (asAsg a) fun p => optB (asNameP p.1) fun x => swB C.sc x.1 x.2 p.2.1 && decide (C.N[i]? = some x.1) && chkE C e p.2.1
  | .par i j e f, a => optB (asAsg a) fun p => optB (asTup p.1) fun ts => optB (as2 ts) fun t => optB (asNameP t.1) fun x => optB (asNameP t.2) fun y => optB (asTup p.2.1) fun vs => optB (as2 vs) fun v =>
      onlyLoc C.sc x.1 && onlyLoc C.sc y.1 && decide (C.N[i]? = some x.1) && decide (C.N[j]? = some y.1) && decide (i ≠ j) && decide (x.1 ≠ y.1) && (y.2.line == x.2.line)
        && !([v.1, v.2].all (foldedForSure 8)) && !([v.1, v.2].all (constantsAlone 8)) && nostar v.1 && nostar v.2 && chkE C e v.1 && chkE C f v.2
  | .par3 i j l e f g, a => optB (asAsg a) fun p => optB (asTup p.1) fun ts => optB (as3 ts) fun t => optB (asNameP t.1) fun x => optB (asNameP t.2.1) fun y => optB (asNameP t.2.2) fun z => optB (asTup p.2.1) fun vs => optB (as3 vs) fun v =>
      onlyLoc C.sc x.1 && onlyLoc C.sc y.1 && onlyLoc C.sc z.1 && decide (C.N[i]? = some x.1) && decide (C.N[j]? = some y.1) && decide (C.N[l]? = some z.1) && decide (i ≠ j) && decide (i ≠ l) && decide (j ≠ l) && decide (x.1 ≠ y.1) && decide (x.1 ≠ z.1) && decide (y.1 ≠ z.1) && (y.2.line == x.2.line) && (z.2.line == x.2.line)
        && !([v.1, v.2.1, v.2.2].all (foldedForSure 8)) && !([v.1, v.2.1, v.2.2].all (constantsAlone 8)) && nostar v.1 && nostar v.2.1 && nostar v.2.2 && chkE C e v.1 && chkE C f v.2.1 && chkE C g v.2.2
  | .setI e f g, a => optB (asAsg a) fun p => optB (asSub p.1) fun t => plainIx t.2 && chkE C e t.1 && chkE C f t.2 && chkE C g p.2.1
  | .ex e, a => optB (asEx a) fun v => noComp v && chkE C e v
  | .ret e, a => optB (asRet a) fun o => optB o fun v => chkE C e v
  | .retN, a => optB (asRet a) fun o => o.isNone
  | .ite t p q, a => optB (asIfS a) fun s => chkT C t s.1 && chkSs C p s.2.1 && chkSs C q s.2.2
  | .for_ g it b, a => optB (asFor a) fun s => noSet s.2.1 && chkI C it s.1 s.2.1 && chkG C g s.1 && chkSs C b s.2.2
  | .whl t b, a => optB (asWhl a) fun s => chkT C t s.1 && chkSs C b s.2
  | .whlW i nn e b, a => optB (asWhl a) fun s => optB (asWal nn s.1) fun x => locB C x.1 && decide (C.N[i]? = some x.1) && chkE C e x.2 && chkSs C b s.2
  | .pass, a => isPass a
  | .brk, a => isBrk a
  | .cnt, a => isCnt a
  | .never, _ => true
  | .gen _ _, _ => false
  | .mtch e cs, a => optB (asMat a) fun p => chkE C e p.1 && chkCs C cs p.2
def chkSs (C : CC) : Ss → List Stmt → Bool
  | .nil, xs => asN xs
  | .cons s ss, xs => optB (asC xs) fun p => chkS C s p.1 && chkSs C ss p.2
def chkCs (C : CC) : Cs → List MatchCase → Bool
  | .nil, xs => asN xs
  | .cons y b cs, xs => optB (asC xs) fun p => optB (asCase p.1) fun q => decide (q.1 = y) && chkSs C b q.2 && chkCs C cs p.2
end
end R

set_option Elab.async false
set_option linter.all false
set_option maxRecDepth 100000
set_option maxHeartbeats 1000000
/-! R: t[::-1] of tuples -/
namespace R
open PySem PySem.Spec PyProof.Rows HT L2
theorem adjust_back (n : Nat) : Builtin.Slice.sliceAdjust none none (-1) (n : Int) = ((n : Int) - 1, -1) := by
  unfold Builtin.Slice.sliceAdjust
  simp
theorem places_back (n : Nat) : Builtin.Slice.slicePlaces ((n : Int) - 1) (-1) (-1) = n := by
  unfold Builtin.Slice.slicePlaces
  rw [if_neg (by decide)]
  by_cases h : n = 0
  · subst h; rfl
  · rw [if_pos (by omega)]
    have : ((n : Int) - 1 - -1 - 1) / (- -1) + 1 = (n : Int) := by
      rw [Int.neg_neg, Int.ediv_one]; omega
    rw [this]; simp
theorem filterMap_map {α β : Type} {f : α → Option β} {g : α → β} : ∀ {l : List α}, (∀ x ∈ l, f x = some (g x)) → l.filterMap f = l.map g
  | [], _ => rfl
  | a :: l, h => by
    rw [List.filterMap_cons, h a List.mem_cons_self, List.map_cons, filterMap_map fun x hx => h x (List.mem_cons_of_mem _ hx)]
theorem pick_backL (l : List Value) : ((List.range l.length).filterMap fun (k : Nat) => l[(((l.length : Int) - 1) + (k : Int) * -1).toNat]?) = l.reverse := by
  rw [filterMap_map (g := fun k => (l.reverse[k]?).getD default)]
  · refine List.ext_getElem (by simp) fun i h1 h2 => ?_
    simp at h1
    simp [h1]
  · intro k hk
    have hk := List.mem_range.mp hk
    have e : (((l.length : Int) - 1) + (k : Int) * -1).toNat = l.length - 1 - k := by omega
    rw [e, List.getElem?_reverse hk]
    have : l.length - 1 - k < l.length := by omega
    simp [this]
theorem pick_back (xs : Array Value) : ((List.range xs.size).filterMap fun (k : Nat) => xs[(((xs.size : Int) - 1) + (k : Int) * -1).toNat]?).toArray = xs.toList.reverse.toArray := by
  congr 1
  have := pick_backL xs.toList
  simpa using this
section
variable {prog : Program} {w : World} {A : Around} {E : Value → Shared → Prop} {s : Shared}
theorem sliceApplied_back {sl : Addr} {n : Nat} {u : Tok} {Q : Int × Int × Nat → Shared → Prop} (hs : s.heap.IsSliceOf sl .none .none (.int (-1) u))
    (h : Q ((n : Int) - 1, -1, n) s) : wpAny (model prog w) A (Builtin.Slice.sliceApplied (.ref sl) (pure (n : Int))) Q E s := by
  obtain ⟨os, hos, hcs, hds⟩ := id hs
  unfold Builtin.Slice.sliceApplied Builtin.Slice.sliceFields
  refine wpAny_bind (wpAny_bind (wpAny_field hos hds (x := .none) rfl (wpAny_bind (wpAny_field hos hds (x := .none) rfl (wpAny_bind (wpAny_field hos hds (x := .int (-1) u) rfl (wpAny_pure ?_)))))))
  refine wpAny_bind (slicePart_int ?_)
  show wpAny _ _ (if ((-1 : Int) == 0) = true then _ else _) _ _ s
  rw [if_neg (by decide)]
  refine wpAny_bind (slicePart_none (wpAny_bind (slicePart_none (wpAny_bind (wpAny_pure ?_)))))
  show wpAny _ _ (match Builtin.Slice.sliceAdjust none none (-1) (n : Int) with | (lo, hi) => pure (lo, (-1 : Int), Builtin.Slice.slicePlaces lo hi (-1))) _ _ s
  rw [adjust_back n]
  show wpAny _ _ (pure ((n : Int) - 1, (-1 : Int), Builtin.Slice.slicePlaces ((n : Int) - 1) (-1) (-1))) _ _ s
  rw [places_back]
  exact wpAny_pure h
theorem getItem_tuple_back {t sl : Addr} {items : Array Value} {u : Tok} {Q : Value → Shared → Prop} (ht : IsTup s.heap t items) (hs : s.heap.IsSliceOf sl .none .none (.int (-1) u))
    (h : Q (.ref s.heap.objs.size) { s with heap := s.heap.push { cls := .type "tuple", data := .seq items.toList.reverse.toArray } })
    (hsz : items.size ≤ sizeLine) : wpAny (model prog w) A (getItem (.ref t) (.ref sl)) Q E s := by
  have hdrop : sizeOk (.seq items.toList.reverse.toArray) := by
    show items.toList.reverse.toArray.size ≤ sizeLine
    rw [List.size_toArray, List.length_reverse, Array.length_toList]
    exact hsz
  obtain ⟨os, hos, hcs, hds⟩ := id hs
  have hTs : s.TypeIs (.ref sl) "slice" := ⟨os, hos, hcs⟩
  unfold getItem
  try with_reducible refine wpAny_holding ?_
  first | refine wpAny_bind (wpAny_pure ?_) | skip
  refine wpAny_bind (wpAny_sequenceKey ht.typeIs (by decide) ?_)
  refine wpAny_bind (wpAny_callSpecial?_slot (name := Str.ofString "__getitem__") ht.typeIs slot_tuple_getitem
    (wpAny_call_entry slot_tuple_getitem ht.typeIs entry_tuple_getitem ?_ (args_tuple_getitem _ _)))
  show wpAny _ _ (Builtin.Tuple.tupleItemsOf (.ref t) >>= _) _ _ s
  refine wpAny_bind (tupleItemsOf_ ht ?_)
  refine wpAny_bind (wpAny_typeOf hTs ?_)
  rw [if_pos (by decide)]
  refine wpAny_bind (sliceApplied_back hs ?_)
  have hno : ¬ (((items.size : Int) - 1 == 0 && (-1 : Int) == 1 && items.size == items.size) = true) := by
    simp
  show wpAny _ _ (if ((items.size : Int) - 1 == 0 && (-1 : Int) == 1 && items.size == items.size) = true then _ else _) _ _ s
  rw [if_neg hno, pick_back items]
  first
    | exact wpAny_bind (m := Builtin.Tuple.tupleExact _) (wpAny_newObj_type (wpAny_pure ⟨_, rfl, wpAny_pure h⟩) hdrop)
    | exact wpAny_bind (m := Builtin.Tuple.tupleExact _) (wpAny_newObj_type (wpAny_bind (wpAny_pure (wpAny_pure ⟨_, rfl, wpAny_pure h⟩))) hdrop)
    | exact wpAny_bind (wpAny_bind (m := Builtin.Tuple.tupleExact _) (wpAny_newObj_type (wpAny_pure (wpAny_pure ⟨_, rfl, wpAny_pure h⟩)) hdrop))
    | exact wpAny_bind (wpAny_bind (m := Builtin.Tuple.tupleExact _) (wpAny_newObj_type (wpAny_pure ⟨_, rfl, wpAny_pure h⟩) hdrop))
end
section
variable {X : Cx}
/-- e[::-1] of a list or a tuple -/
def tRev (K : PySem.W.Frag) (te : TE) : TE := fun σ H Q => te σ H fun x H1 => ∃ a xs, x = .ref a ∧ ((SqL K H1 a xs ∧ ∀ p, H1 p = none → Q (.ref p) (upd H1 p (.lst xs.reverse))) ∨ (SqT K H1 a xs ∧ ∀ p, H1 p = none → Q (.ref p) (upd H1 p (.tup xs.reverse))))
theorem pe_rev {e : Expr} {te : TE} {k : Nat} {p1 p2 p3 pos : Pos} (he : PE X e te) : PE X (.Subscript e (.Slice none none (some (.UnaryOp .USub (.Constant (.int 1) k p1) p2)) p3) pos) (tRev X.K te) := by
  refine ⟨fun pins s σ H Q I h => ?_⟩
  refine Subscript_ (thn (he.run pins s σ H _ I h) fun v s1 ⟨x, H1, I1, r1, q1⟩ => ?_)
  obtain ⟨a, xs, ex, q⟩ := q1
  subst ex
  cases r1
  have hst : L2.PO X (some (.UnaryOp .USub (.Constant (.int 1) k p1) p2)) (tPart (tUn (rU fun i => .int (-i)) (tC (.int 1)))) := po_some (pe_un un_neg pe_int)
  refine wpAny_Slice (thn (po_none.run pins s1 σ H1 (fun o H2 => o = none ∧ H2 = H1) I1 ⟨rfl, rfl⟩) fun vl s2 ⟨l, H2, I2, pl, el, e2⟩ => ?_)
  subst el e2
  refine thn (po_none.run pins s2 σ H2 (fun o H3 => o = none ∧ H3 = H2) I2 ⟨rfl, rfl⟩) fun vu s3 ⟨u, H3, I3, pu, eu, e3⟩ => ?_
  subst eu e3
  refine thn (hst.run pins s3 σ H3 (fun o H4 => o = some (-1) ∧ H4 = H3) I3 ⟨1, rfl, -1, rfl, rfl, rfl⟩) fun vs s4 ⟨o, H4, I4, ps, eo, e4⟩ => ?_
  subst eo e4
  have I5 : Inv X pins σ H4 { s4 with heap := s4.heap.push { cls := .type "slice", data := .fields #[vl, vu, vs] } } := I4.kept (t' := s4.toks) fun b ob q => Heap.get?_push_of_some _ q
  show wpAny (model X.prog X.w) X.A (subscriptTail e (.Slice none none (some (.UnaryOp .USub (.Constant (.int 1) k p1) p2)) p3) (.ref a) (.ref s4.heap.objs.size)) (EP X pins σ Q) X.xe { s4 with heap := s4.heap.push { cls := .type "slice", data := .fields #[vl, vu, vs] } }
  rcases q with ⟨hx, q⟩ | ⟨hx, q⟩
  · obtain ⟨its, r, ht, hz⟩ := I5.list hx
    have hlen := r.length
    refine tail_any (ops := [.ref a, .ref s4.heap.objs.size]) ht.isList.typeIs (PySem.slot_list_getitem.lookup) ?_ (by with_unfolding_all rfl)
    refine wpAny_getItem_list_slice ht.isList (Heap.IsSliceOf.new _ vl vu vs) pl pu ps (by decide) ?_ (by rw [List.size_toArray]; omega)
    rw [PySem.W.krv_pick]
    refine ⟨.ref _, _, I5.laid (t' := s4.toks) (o := .lst xs.reverse) (fun b ob q => Heap.get?_push_of_some _ q) (Nat.le_refl _) ?_, rfl, q _ (I5.hok.fresh (Nat.le_refl _))⟩
    exact ⟨by rw [List.length_reverse]; exact hz, _, 0, r.reverse, Heap.get?_push_size _ rfl⟩
  · obtain ⟨its, r, ht, hz⟩ := I5.tuple hx
    have hlen := r.length
    refine tail_any (ops := [.ref a, .ref s4.heap.objs.size]) ht.typeIs (PyProof.Rows.slot_tuple_getitem.lookup) ?_ (by with_unfolding_all rfl)
    cases pl
    cases pu
    cases ps
    refine getItem_tuple_back ht (Heap.IsSliceOf.new _ _ _ _) ?_ (by rw [List.size_toArray]; omega)
    refine ⟨.ref _, _, I5.laid (t' := s4.toks) (o := .tup xs.reverse) (fun b ob q => Heap.get?_push_of_some _ q) (Nat.le_refl _) ?_, rfl, q _ (I5.hok.fresh (Nat.le_refl _))⟩
    exact ⟨by rw [List.length_reverse]; exact hz, _, r.reverse, IsTup.new _ _⟩
end
end R

set_option Elab.async false
set_option linter.all false
set_option maxRecDepth 100000
set_option maxHeartbeats 1000000
/-! R: the operations keep their word -/
namespace R
open PySem PySem.Spec L2
section
variable {K : PySem.W.Frag} {w : Wd}
mutual
theorem Rep.dp : ∀ {p : PV} {v : V}, Rep K w p v → p.isDat = true → Dp K w.H v p.dat
  | _, _, .non, _ => .non
  | _, _, .bl b, _ => .bl b
  | _, _, .int i, _ => .int i
  | _, _, .str x, _ => .str x
  | _, _, .tup h r, e => by
    rw [PV.dat]
    exact .tup h.sq (Reps.dp r (by rw [PV.isDat] at e; exact e))
  | _, _, .lst h r, e => by
    rw [PV.dat]
    exact .lst h.sq (Reps.dp r (by rw [PV.isDat] at e; exact e))
  | _, _, .ty n, e => by simp [PV.isDat] at e
  | _, _, .scr _, e => by simp [PV.isDat] at e
  | _, _, .dct _ _ _, e => by simp [PV.isDat] at e
  | _, _, .ref _, e => by simp [PV.isDat] at e
theorem Reps.dp : ∀ {p : List PV} {v : List V}, Reps K w p v → PV.isDats p = true → DpAll K w.H v (PV.dats p)
  | _, _, .nil, _ => by rw [PV.dats]; exact .nil
  | _, _, .cons h r, e => by
    rw [PV.isDats, Bool.and_eq_true] at e
    rw [PV.dats]
    exact .cons (Rep.dp h e.1) (Reps.dp r e.2)
end
theorem PV.fine_dat {p : PV} (h : p.fine = true) : p.isDat = true ∧ SeqAt.shaped p.dat = true := by
  unfold PV.fine at h
  rwa [Bool.and_eq_true] at h
/-- what is wanted behind an operation -/
def Aft (K : PySem.W.Frag) (w : Wd) (h : PH) (r : PV) (Q : VK) : Prop := ∀ w' v, Ext w w' → Rel K w' h → Rep K w' r v → Q v w'.H
theorem Aft.now {h : PH} {r : PV} {v : V} {Q : VK} (a : Aft K w h r Q) (rel : Rel K w h) (rp : Rep K w r v) : Q v w.H := a w v (Ext.refl w) rel rp
theorem Aft.tup {h : PH} {xs : List PV} {vs : List V} {Q : VK} (a : Aft K w h (.tup xs) Q) (rel : Rel K w h) (rs : Reps K w xs vs) (hl : vs.length ≤ sizeLine) (p : Addr) (hp : w.H p = none) : Q (.ref p) (upd w.H p (.tup vs)) :=
  a (w.add p (.tup vs)) (.ref p) (Ext.add hp) (rel.add hp) (rel.tup hp rs hl)
theorem Aft.lst {h : PH} {xs : List PV} {vs : List V} {Q : VK} (a : Aft K w h (.lst xs) Q) (rel : Rel K w h) (rs : Reps K w xs vs) (hl : vs.length ≤ sizeLine) (p : Addr) (hp : w.H p = none) : Q (.ref p) (upd w.H p (.lst vs)) :=
  a (w.add p (.lst vs)) (.ref p) (Ext.add hp) (rel.add hp) (rel.lst hp rs hl)
end
/-- p tells what v is now: a live list as a list -/
inductive Sees (K : PySem.W.Frag) (w : Wd) : PV → V → Prop
  | of {p : PV} {v : V} : Rep K w p v → Sees K w p v
  | live {a : Addr} {vs : List V} {xs : List PV} : w.H a = some (.lst vs) → Reps K w xs vs → vs.length ≤ sizeLine → Sees K w (.lst xs) (.ref a)
section
variable {K : PySem.W.Frag} {w : Wd}
theorem Sees.dp {p : PV} {v : V} (s : Sees K w p v) (e : p.isDat = true) : Dp K w.H v p.dat := by
  cases s with
  | of r => exact r.dp e
  | live hH r _ =>
    rw [PV.dat]
    exact .lst (SqL.of hH) (r.dp (by rw [PV.isDat] at e; exact e))
theorem Sees.int {i : Int} {v : V} (s : Sees K w (.int i) v) : v = .int i := by
  cases s with
  | of r => cases r; rfl
theorem Sees.str {x : Str} {v : V} (s : Sees K w (.str x) v) : v = .str x := by
  cases s with
  | of r => cases r; rfl
theorem Sees.non {v : V} (s : Sees K w .non v) : v = .non := by
  cases s with
  | of r => cases r; rfl
theorem Sees.tup {xs : List PV} {v : V} (s : Sees K w (.tup xs) v) : ∃ a vs, v = .ref a ∧ TupAt w a vs ∧ Reps K w xs vs := by
  cases s with
  | of r => cases r with
    | tup h r => exact ⟨_, _, rfl, h, r⟩
theorem Sees.lst {xs : List PV} {v : V} (s : Sees K w (.lst xs) v) : ∃ a vs, v = .ref a ∧ w.H a = some (.lst vs) ∧ Reps K w xs vs ∧ vs.length ≤ sizeLine := by
  cases s with
  | of r => cases r with
    | lst h r => exact ⟨_, _, rfl, h.1, r, h.2.2.2⟩
  | live h r z => exact ⟨_, _, rfl, h, r, z⟩
theorem see_ok {h : PH} {p : PV} {v : V} (rel : Rel K w h) (r : Rep K w p v) : Sees K w (see h p) v := by
  cases p <;> first | exact .of r | skip
  rename_i n
  cases hl : liveL h n with
  | none =>
    have e : see h (.ref n) = .ref n := by simp [see, hl]
    rw [e]; exact .of r
  | some xs =>
    have e : see h (.ref n) = .lst xs := by simp [see, hl]
    rw [e]
    cases r with
    | ref hm =>
    unfold liveL at hl
    split at hl
    · rename_i ys hy
      cases hl
      obtain ⟨vs, h1, h2, h3⟩ := rel.objs n _ _ hy hm
      exact .live h1 h2 h3
    · cases hl
end
def rBin (K : PySem.W.Frag) (o : BinO) : R2 := fun x y H Q => ∃ w p q h r, w.H = H ∧ Rel K w h ∧ Sees K w p x ∧ Sees K w q y ∧ binop o p q = some r ∧ Aft K w h r Q
section
variable {X : Cx}
theorem Reps.flat {K : PySem.W.Frag} {w : Wd} {xs : List PV} {vs : List V} (r : Reps K w xs vs) : ∀ n : Nat, Reps K w (List.replicate n xs).flatten (List.replicate n vs).flatten
  | 0 => .nil
  | n + 1 => by
    rw [List.replicate_succ, List.flatten_cons, List.replicate_succ, List.flatten_cons]
    exact r.append (Reps.flat r n)
theorem flat_len {α : Type} (l : List α) : ∀ n : Nat, (List.replicate n l).flatten.length = l.length * n
  | 0 => by simp
  | n + 1 => by rw [List.replicate_succ, List.flatten_cons, List.length_append, flat_len l n, Nat.mul_succ, Nat.add_comm]
theorem op_bin (o : BinO) : OpR X (binaryOp o.op) (rBin X.K o) := by
  intro pins s σ H x y v u Q I rx ry hh
  obtain ⟨w, p, q, h, r, rfl, rel, rp, rq, e, aft⟩ := hh
  unfold binop at e
  split at e
  · cases e; obtain rfl := rp.int; obtain rfl := rq.int
    exact op_add pins s σ _ _ _ v u Q I rx ry ⟨_, _, rfl, rfl, aft.now rel (.int _)⟩
  · split at e
    · rename_i hz
      cases e; obtain rfl := rp.str; obtain rfl := rq.str
      exact op_add_str pins s σ _ _ _ v u Q I rx ry ⟨_, _, rfl, rfl, hz, aft.now rel (.str _)⟩
    · cases e
  · split at e
    · rename_i a b hz
      cases e
      obtain ⟨a1, vs1, rfl, ha, ra⟩ := rp.tup
      obtain ⟨a2, vs2, rfl, hb, rb⟩ := rq.tup
      have l1 := ra.length
      have l2 := rb.length
      refine op_catA pins s σ _ _ _ v u Q I rx ry ⟨a1, a2, vs1, vs2, rfl, rfl, ha.sq, hb.sq, by omega, fun z => ?_, fun _ z => ?_, fun _ _ pp hp => ?_⟩
      · subst z
        have e0 : a = [] := by
          cases a with
          | nil => rfl
          | cons _ _ => simp at l1
        subst e0
        exact aft.now rel (.tup hb rb)
      · subst z
        have e0 : b = [] := by
          cases b with
          | nil => rfl
          | cons _ _ => simp at l2
        subst e0
        rw [List.append_nil] at aft
        exact aft.now rel (.tup ha ra)
      · exact aft.tup rel (ra.append rb) (by rw [List.length_append]; omega) pp hp
    · cases e
  · split at e
    · rename_i a b hz
      cases e
      obtain ⟨a1, vs1, rfl, ha, ra, _⟩ := rp.lst
      obtain ⟨a2, vs2, rfl, hb, rb, _⟩ := rq.lst
      have l1 := ra.length
      have l2 := rb.length
      exact op_cat pins s σ _ _ _ v u Q I rx ry ⟨a1, a2, vs1, vs2, rfl, rfl, ha, hb, by omega, fun pp hp => aft.lst rel (ra.append rb) (by rw [List.length_append]; omega) pp hp⟩
    · cases e
  · cases e; obtain rfl := rp.int; obtain rfl := rq.int
    exact op_sub pins s σ _ _ _ v u Q I rx ry ⟨_, _, rfl, rfl, aft.now rel (.int _)⟩
  · split at e
    · rename_i i j hz
      have hz' : (-(2 ^ 64) < i ∧ i < 2 ^ 64) ∨ (-(2 ^ 64) < j ∧ j < 2 ^ 64) := by omega
      cases e; obtain rfl := rp.int; obtain rfl := rq.int
      exact op_mul pins s σ _ _ _ v u Q I rx ry ⟨_, _, rfl, rfl, hz', aft.now rel (.int _)⟩
    · cases e
  · split at e
    · rename_i a k hz
      cases e
      obtain ⟨a1, vs1, rfl, ha, ra, _⟩ := rp.lst
      obtain rfl := rq.int
      have l1 := ra.length
      refine op_rep pins s σ _ _ _ v u Q I rx ry ⟨a1, _, vs1, rfl, rfl, ha, by omega, by omega, by rw [← l1]; exact hz.2, fun pp hp => ?_⟩
      refine aft.lst rel (ra.flat _) ?_ pp hp
      rw [flat_len, ← l1]
      exact hz.2
    · cases e
  · split at e
    · rename_i hz
      cases e; obtain rfl := rp.int; obtain rfl := rq.int
      exact op_fdivN pins s σ _ _ _ v u Q I rx ry ⟨_, _, rfl, rfl, hz, aft.now rel (.int _)⟩
    · cases e
  · split at e
    · rename_i hz
      cases e; obtain rfl := rp.int; obtain rfl := rq.int
      exact op_modN pins s σ _ _ _ v u Q I rx ry ⟨_, _, rfl, rfl, hz, aft.now rel (.int _)⟩
    · cases e
  · split at e
    · rename_i i j hz
      have hz' : 0 ≤ j ∧ j ≤ 1000000 ∧ i.natAbs < 2 ^ 64 := by omega
      cases e; obtain rfl := rp.int; obtain rfl := rq.int
      exact op_pow pins s σ _ _ _ v u Q I rx ry ⟨_, _, rfl, rfl, hz', aft.now rel (.int _)⟩
    · cases e
  · split at e
    · rename_i i j hz
      have hz' : 0 ≤ j ∧ j ≤ 1000000 ∧ i.natAbs < 2 ^ 64 := by omega
      cases e; obtain rfl := rp.int; obtain rfl := rq.int
      exact op_shl pins s σ _ _ _ v u Q I rx ry ⟨_, _, rfl, rfl, hz', aft.now rel (.int _)⟩
    · cases e
  · split at e
    · rename_i hz
      cases e; obtain rfl := rp.int; obtain rfl := rq.int
      exact op_shr pins s σ _ _ _ v u Q I rx ry ⟨_, _, rfl, rfl, hz, aft.now rel (.int _)⟩
    · cases e
  · cases e; obtain rfl := rp.int; obtain rfl := rq.int
    exact op_and pins s σ _ _ _ v u Q I rx ry ⟨_, _, rfl, rfl, aft.now rel (.int _)⟩
  · cases e
end
/-! ### comparisons -/
def rCmp (K : PySem.W.Frag) (o : CmpO) : R2 := fun x y H Q => ∃ w p q h b, w.H = H ∧ Rel K w h ∧ Sees K w p x ∧ Sees K w q y ∧ cmpop o p q = some b ∧ Q (.bl b) H
section
variable {X : Cx}
theorem any_dats (xs : List PV) (d : PyData) : ((PV.dats xs).any fun z => PyData.eqv z d) = xs.any fun z => PyData.eqv z.dat d := by
  rw [PV.dats_eq, List.any_map]
  rfl
theorem op_ltD (hu : X.A.units + 64 < cLine) {pins : List (Addr × Obj)} {s : Shared} {σ : St} {H : Hp} {x y : V} {v u : Value} {Q : VK} {xs ys : List PyData} (I : Inv X pins σ H s) (rx : RelV x v) (ry : RelV y u)
    (dx : Dp X.K H x (.tuple xs)) (dy : Dp X.K H y (.tuple ys)) (sx : SeqAt.shaped (.tuple xs) = true) (al : PySem.W.alike (.tuple xs) (.tuple ys) = true) (q : Q (.bl (PySem.W.dataLt (.tuple xs) (.tuple ys))) H) :
    wpAny (model X.prog X.w) X.A (compareOp .Lt v u) (EP X pins σ Q) X.xe s := by
  obtain ⟨as, r1⟩ := Dp.reads I _ x v dx rx
  obtain ⟨bs, r2⟩ := Dp.reads I _ y u dy ry
  exact PySem.W.rcLt_alike _ _ X.A s v u as bs r1 r2 al (fun z => nomatch z) (SeqAt.room_of_shaped sx hu) X.prog X.w X.xe _ ⟨.bl _, H, I, rfl, q⟩
mutual
theorem Rep.nested {w : Wd} {pins : List (Addr × Obj)} {σ : St} {s : Shared} (I : Inv X pins σ w.H s) : ∀ {p : PV} {v : V} {u : Value}, Rep X.K w p v → RelV v u → p.keyB = true → NestedIs s.heap p.key u
  | .non, _, _, .non, ru, _ => by
    cases (show _ = Value.none from ru)
    rw [PV.key]; exact .none
    all_goals simp
  | .int i, _, _, .int _, ru, _ => by
    obtain ⟨t, rfl⟩ := (show ∃ t, _ = Value.int i t from ru)
    rw [PV.key]; exact .int _ _
  | .tup xs, _, _, .tup ha ra, ru, e => by
    cases ru
    obtain ⟨its, rv, pt, hz⟩ := I.tuple ha.sq
    obtain ⟨o, ho, hc, n, hd⟩ := (show s.heap.IsTuple _ its.toArray from pt)
    rw [PV.keyB] at e
    rw [PV.key]
    exact .tup ho hc hd (by simpa using Reps.nested I ra rv e)
  | .bl _, _, _, _, _, e => by simp [PV.keyB] at e
  | .str _, _, _, _, _, e => by simp [PV.keyB] at e
  | .ty _, _, _, _, _, e => by simp [PV.keyB] at e
  | .lst _, _, _, _, _, e => by simp [PV.keyB] at e
  | .scr _, _, _, _, _, e => by simp [PV.keyB] at e
  | .ref _, _, _, _, _, e => by simp [PV.keyB] at e
  | .dct _ _, _, _, _, _, e => by simp [PV.keyB] at e
theorem Reps.nested {w : Wd} {pins : List (Addr × Obj)} {σ : St} {s : Shared} (I : Inv X pins σ w.H s) : ∀ {ps : List PV} {vs : List V} {us : List Value}, Reps X.K w ps vs → Vals vs us → PV.keysB ps = true → NestedAll s.heap (PV.keys ps) us
  | _, _, _, .nil, .nil, _ => by rw [PV.keys]; exact .nil
  | _, _, _, .cons r t, .cons r' t', e => by
    rw [PV.keysB, Bool.and_eq_true] at e
    rw [PV.keys]
    exact .cons (Rep.nested I r r' e.1) (Reps.nested I t t' e.2)
end
theorem nest_all {w : Wd} {pins : List (Addr × Obj)} {σ : St} {s : Shared} (I : Inv X pins σ w.H s) : ∀ (ys : List (NestedKey × Addr × Value)) (xs : List PV), Reps X.K w xs (ys.map fun x => V.ref x.2.1) → ys.map (·.1) = PV.keys xs → PV.keysB xs = true → ∀ y ∈ ys, NestedIs s.heap y.1 (.ref y.2.1)
  | [], _, _, _, _, y, hy => by cases hy
  | z :: ys, [], r, _, _, y, hy => by cases r
  | z :: ys, x :: xs, r, e, kb, y, hy => by
    rw [PV.keysB, Bool.and_eq_true] at kb
    rw [PV.keys, List.map_cons] at e
    injection e with e1 e2
    cases r with
    | cons r t =>
      rcases List.mem_cons.mp hy with q | q
      · rw [q, e1]
        exact Rep.nested I r rfl kb.1
      · exact nest_all I ys xs t e2 kb.2 y q
theorem dctOf {w : Wd} {pins : List (Addr × Obj)} {σ : St} {s : Shared} (I : Inv X pins σ w.H s) {a : Addr} {xs : List PV} {vs : List V} (d : DctAt w a (PV.keys xs) vs) (ra : Reps X.K w xs vs) (kb : PV.keysB xs = true) :
    ∃ ys, s.heap.DictOfH (nestedKind X.prog X.w) a ys ∧ ys.map (·.1) = PV.keys xs ∧ (a == sysModules) = false ∧ ys.length ≤ sizeLine := by
  obtain ⟨es, ep, ys, h1, h2, h3, h4, h5, h6, h7, rfl, h9, h10⟩ := d
  obtain ⟨⟨o, g1, g2, g3⟩, _, _⟩ := I.hok a _ h1
  have nst := nest_all I ys xs ra h7 kb
  refine ⟨ys, ⟨o, es, ep, g1, g2, g3, h6 _ _, fun x hx => ⟨nst x hx, h10 x.1 (by rw [← h7]; exact List.mem_map.mpr ⟨x, hx, rfl⟩)⟩, by rw [h7]; exact h9⟩, h7, h5, by simpa using h4⟩
theorem atKey_iff {K : Type} [DecidableEq K] (ys : List (K × Addr × Value)) (k : K) : (atKey ys k).isSome = decide (k ∈ ys.map (·.1)) := by
  unfold atKey
  rw [Option.isSome_map, Bool.eq_iff_iff, List.find?_isSome]
  simp
theorem inD_ok {p q : PV} {b : Bool} (e : inD p q = some b) : ∃ xs ks zs, p = .tup xs ∧ q = .dct ks zs ∧ PV.keysB xs = true ∧ (PV.tup xs).key.depth ≤ 8 ∧ b = decide ((PV.tup xs).key ∈ PV.keys ks) := by
  unfold inD at e
  split at e
  · split at e
    · rename_i hf
      rw [Bool.and_eq_true, decide_eq_true_eq] at hf
      cases e
      exact ⟨_, _, _, rfl, rfl, hf.1, hf.2, rfl⟩
    · cases e
  · cases e
theorem key_in {w : Wd} {pins : List (Addr × Obj)} {σ : St} {s : Shared} (I : Inv X pins σ w.H s) {p q : PV} {x y : V} {v u : Value} {b : Bool} (rp : Sees X.K w p x) (rq : Sees X.K w q y) (rx : RelV x v) (ry : RelV y u) (e : inD p q = some b) :
    ∃ a d k ys, v = .ref a ∧ u = .ref d ∧ (nestedKind X.prog X.w).is s.heap k a ∧ (d == sysModules) = false ∧ s.heap.DictOfH (nestedKind X.prog X.w) d ys ∧ (atKey ys k).isSome = b := by
  obtain ⟨xs, ks, zs, rfl, rfl, h1, h2, rfl⟩ := inD_ok e
  cases rq with
  | of rq =>
    cases rq with
    | dct d ra kb =>
      obtain ⟨b, vs2, rfl, ta, _⟩ := rp.tup
      cases rp with
      | of rp =>
        have nst := Rep.nested I rp rx (by rw [PV.keyB]; exact h1)
        cases rx
        cases ry
        obtain ⟨ys, dd, e1, e2, e3⟩ := dctOf I d ra kb
        exact ⟨_, _, _, ys, rfl, rfl, ⟨nst, h2⟩, e2, dd, by rw [atKey_iff, e1]⟩
theorem op_cmpV (hu : X.A.units + 65 < cLine) (o : CmpO) : OpR X (compareOp o.op) (rCmp X.K o) := by
  intro pins s σ H x y v u Q I rx ry hh
  obtain ⟨w, p, q, h, b, rfl, rel, rp, rq, e, aft⟩ := hh
  unfold cmpop at e
  split at e
  · cases e; obtain rfl := rp.str; obtain rfl := rq.str
    refine op_eq pins s σ _ _ _ v u Q I rx ry ⟨rfl, ?_⟩
    simpa using aft
  · cases e; obtain rfl := rp.str; obtain rfl := rq.str
    refine op_ne pins s σ _ _ _ v u Q I rx ry ⟨rfl, ?_⟩
    simpa using aft
  · split at e
    · rename_i hf
      rw [Bool.and_eq_true] at hf
      cases e
      exact op_eqD (by omega) pins s σ _ _ _ v u Q I rx ry ⟨_, _, rp.dp (PV.fine_dat hf.1).1, rq.dp (PV.fine_dat hf.2).1, (PV.fine_dat hf.1).2, (PV.fine_dat hf.2).2, aft⟩
    · cases e
  · split at e
    · rename_i hf
      rw [Bool.and_eq_true] at hf
      cases e
      exact op_neD (by omega) pins s σ _ _ _ v u Q I rx ry ⟨_, _, rp.dp (PV.fine_dat hf.1).1, rq.dp (PV.fine_dat hf.2).1, (PV.fine_dat hf.1).2, (PV.fine_dat hf.2).2, aft⟩
    · cases e
  · unfold ltV at e
    split at e
    · cases e; obtain rfl := rp.int; obtain rfl := rq.int
      exact op_lt pins s σ _ _ _ v u Q I rx ry ⟨_, _, rfl, rfl, aft⟩
    · split at e
      · rename_i hf
        rw [Bool.and_eq_true, Bool.and_eq_true] at hf
        cases e
        have d1 := rp.dp (PV.fine_dat hf.1.1).1
        have d2 := rq.dp (PV.fine_dat hf.1.2).1
        have s1 := (PV.fine_dat hf.1.1).2
        have al := hf.2
        rw [PV.dat] at d1 d2 s1 al
        rw [PV.dat] at al
        rw [PV.dat, PV.dat] at aft
        exact op_ltD (by omega) I rx ry d1 d2 s1 al aft
      · cases e
    · cases e
  · cases e; obtain rfl := rp.int; obtain rfl := rq.int
    exact op_le pins s σ _ _ _ v u Q I rx ry ⟨_, _, rfl, rfl, aft⟩
  · cases e; obtain rfl := rp.int; obtain rfl := rq.int
    exact op_gt pins s σ _ _ _ v u Q I rx ry ⟨_, _, rfl, rfl, aft⟩
  · cases e; obtain rfl := rp.int; obtain rfl := rq.int
    exact op_ge pins s σ _ _ _ v u Q I rx ry ⟨_, _, rfl, rfl, aft⟩
  · split at e
    · rename_i ys hs
      split at e
      · rename_i hf
        rw [Bool.and_eq_true] at hf
        cases e
        have dp := rp.dp (PV.fine_dat hf.1).1
        have dq := rq.dp (PV.fine_dat hf.2).1
        have sp := (PV.fine_dat hf.1).2
        have sq := (PV.fine_dat hf.2).2
        obtain ⟨as, r1⟩ := Dp.reads I _ x v dp rx
        obtain ⟨bs, r2⟩ := Dp.reads I _ y u dq ry
        unfold seqV at hs
        split at hs
        · cases hs
          rw [PV.dat] at r2 sq
          refine SeqAt.in_tuple_reads r2 r1 (SeqAt.canLay_of_shaped sq) (SeqAt.canLay_of_shaped sp) (PyProof.Rows.room_in_shaped sp hu) ⟨.bl _, w.H, I, rfl, ?_⟩
          rw [any_dats]
          exact aft
        · cases hs
          rw [PV.dat] at r2 sq
          refine SeqAt.in_list_reads r2 r1 (SeqAt.canLay_of_shaped sq) (SeqAt.canLay_of_shaped sp) (PyProof.Rows.room_in_shaped sp hu) ⟨.bl _, w.H, I, rfl, ?_⟩
          rw [any_dats]
          exact aft
        · cases hs
      · cases e
    · obtain ⟨a, d, k, ys, rfl, rfl, hk, e2, dd, e3⟩ := key_in I rp rq rx ry e
      refine wpAny_in_heap (knd := nestedKind X.prog X.w) (by show X.A.units + 1 + 8 < cLine; omega) hk e2 dd ⟨.bl _, w.H, I.tok _, rfl, ?_⟩
      rw [e3]
      exact aft
  · split at e
    · rename_i ys hs
      split at e
      · rename_i hf
        rw [Bool.and_eq_true] at hf
        cases e
        have dp := rp.dp (PV.fine_dat hf.1).1
        have dq := rq.dp (PV.fine_dat hf.2).1
        have sp := (PV.fine_dat hf.1).2
        have sq := (PV.fine_dat hf.2).2
        obtain ⟨as, r1⟩ := Dp.reads I _ x v dp rx
        obtain ⟨bs, r2⟩ := Dp.reads I _ y u dq ry
        unfold seqV at hs
        split at hs
        · cases hs
          rw [PV.dat] at r2 sq
          refine SeqAt.notIn_tuple_reads r2 r1 (SeqAt.canLay_of_shaped sq) (SeqAt.canLay_of_shaped sp) (PyProof.Rows.room_in_shaped sp hu) ⟨.bl _, w.H, I, rfl, ?_⟩
          rw [any_dats]
          exact aft
        · cases hs
          rw [PV.dat] at r2 sq
          refine SeqAt.notIn_list_reads r2 r1 (SeqAt.canLay_of_shaped sq) (SeqAt.canLay_of_shaped sp) (PyProof.Rows.room_in_shaped sp hu) ⟨.bl _, w.H, I, rfl, ?_⟩
          rw [any_dats]
          exact aft
        · cases hs
      · cases e
    · cases eb : inD p q with
      | none => rw [eb] at e; cases e
      | some b2 =>
        rw [eb] at e
        cases e
        obtain ⟨a, d, k, ys, rfl, rfl, hk, e2, dd, e3⟩ := key_in I rp rq rx ry eb
        refine PyProof.Rows.wpAny_notIn_heap (knd := nestedKind X.prog X.w) (by show X.A.units + 1 + 8 < cLine; omega) hk e2 dd ⟨.bl _, w.H, I.tok _, rfl, ?_⟩
        rw [e3]
        exact aft
  · obtain rfl := rq.non
    refine op_isN pins s σ _ _ _ v u Q I rx ry ⟨rfl, ?_⟩
    cases rp with
    | of rp => cases rp <;> (cases e; exact aft)
    | live _ _ _ => cases e; exact aft
  · obtain rfl := rq.non
    refine op_notN pins s σ _ _ _ v u Q I rx ry ⟨rfl, ?_⟩
    cases rp with
    | of rp => cases rp <;> (cases e; exact aft)
    | live _ _ _ => cases e; exact aft
  · cases e
    cases rp with
    | of rp => cases rp; cases rq with
      | of rq => cases rq; exact op_isBl pins s σ _ _ _ v u Q I rx ry ⟨_, _, rfl, rfl, aft⟩
  · cases e
    cases rp with
    | of rp => cases rp; cases rq with
      | of rq => cases rq; exact op_notBl pins s σ _ _ _ v u Q I rx ry ⟨_, _, rfl, rfl, aft⟩
  · cases e
end
end R

set_option Elab.async false
set_option linter.all false
set_option maxRecDepth 100000
set_option maxHeartbeats 1000000
/-! R: sorting tuples the first of which is empty -/
namespace R
open PySem PySem.Spec PySem.W PySem.SeqAt PyProof.Rows
section
variable {prog : Program} {w : World} {A : Around} {s : Shared}
theorem callTupleLt {E : Value → Shared → Prop} {Q : Value → Shared → Prop} {p q : Addr} {xs ys : Array Value} {e r : Nat → Bool} (hp : s.heap.IsTuple p xs) (hq : s.heap.IsTuple q ys)
    (he : ∀ j (h1 : j < xs.size) (h2 : j < ys.size), EqAt A.in1 s xs[j] ys[j] (e j)) (hr : ∀ j (h1 : j < xs.size) (h2 : j < ys.size), e j = false → RcLt A.in1 s xs[j] ys[j] (r j))
    (h : Q (.bool (firstLt e r (decide (xs.size < ys.size)) (List.range (min xs.size ys.size)))) s) :
    wpAny (model prog w) A (PySem.call (.builtin "tuple.__lt__") [.ref p, .ref q]) Q E s := by
  obtain ⟨⟨c1, d1, t1, l1⟩, g1, e1, m1, k1⟩ := id hp
  obtain ⟨⟨c2, d2, t2, l2⟩, g2, e2, m2, k2⟩ := id hq
  simp only at e1 k1 e2 k2
  subst e1 k1 e2 k2
  exact call_meets F.slot_tuple_lt ⟨_, g1, rfl⟩ F.entry_tuple_lt (F.args_tuple_lt_2 _ _) (tuple_ltAt p q xs ys m1 m2 d1 d2 l1 l2 e r) ⟨g1, g2, he, hr, h⟩
/-- two tuples as keys of one type -/
theorem oneLtTup {E : Value → Shared → Prop} {xs ys : List PyData} {a b : Value} {as bs : List Addr} {Q : Bool → Shared → Prop} (ra : Reads s.heap a (.tuple xs) as) (rb : Reads s.heap b (.tuple ys) bs)
    (h : alike (.tuple xs) (.tuple ys) = true) (hu : A.units + min (PyData.tuple xs).depth (PyData.tuple ys).depth < cLine) (hq : Q (dataLt (.tuple xs) (.tuple ys)) s) :
    wpAny (model prog w) A (oneLt' true a b) Q E s := by
  have al : alikeAll xs ys = true := by simpa [alike] using h
  cases ra with
  | @tuple l o vs n _ as1 h1 h2 h3 h4 =>
  cases rb with
  | @tuple l' o' vs' n' _ bs1 k1 k2 k3 k4 =>
  have n1 : vs.size = xs.length := by simpa using ReadsAll.length _ _ _ h4
  have n2 : vs'.size = ys.length := by simpa using ReadsAll.length _ _ _ k4
  rw [dataLt_tuple, ← firstLt_toks xs ys al, ← n1, ← n2] at hq
  rw [oneLt'_eq]
  simp only [if_true]
  have hu' : A.units < cLine := Nat.lt_of_le_of_lt (Nat.le_add_right _ _) hu
  refine wpAny_bind (wpAny_cRoomFor hu' ?_)
  refine wpAny_bind (wpAny_callSpecialIfBound?_slot (T := "tuple") ⟨_, h1, h2⟩ F.slot_tuple_lt (callTupleLt (e := pairEq xs ys) (r := fun j => dataLt (xs.getD j .none) (ys.getD j .none)) ⟨_, h1, h2, _, h3⟩ ⟨_, k1, k2, _, k3⟩ (fun j j1 j2 => ?_) (fun j j1 j2 hj => ?_) ?_))
  · have := eqAt_alikeAll xs ys A.in1 s vs.toList vs'.toList _ _ h4 k4 al (SeqAt.room_in hu) j (by simpa using j1) (by simpa using j2)
    simpa using this
  · have := rcLt_alikeAll xs ys A.in1 s vs.toList vs'.toList _ _ h4 k4 al (SeqAt.room_in hu) j (by simpa using j1) (by simpa using j2) hj
    simpa using this
  · exact wpAny_truthy_bool hq
/-- firstOfTuple over tuples -/
theorem firstsTup {E : Value → Shared → Prop} : ∀ {vs : List Value} {ds : List PyData} {Q : List (Option Value) → Shared → Prop}, EachIs (fun v d => ∃ as, Reads s.heap v d as) vs ds → (∀ d ∈ ds, ∃ xs, d = .tuple xs) →
    (∀ fs : List (Option Value), fs.length = vs.length → (ds.head? = some (.tuple []) → fs.head? = some none) → Q fs s) → wpAny (model prog w) A (vs.mapM firstOfTuple') Q E s
  | _, _, _, .nil, _, h => by rw [List.mapM_nil]; exact wpAny_pure (h [] rfl fun z => by cases z)
  | _, _, Q, .cons (a := v) (b := d) ⟨as, r⟩ t, ht, h => by
    rw [List.mapM_cons]
    obtain ⟨xs, rfl⟩ := ht d (List.mem_cons_self ..)
    cases r with
    | @tuple l o vs n _ as1 h1 h2 h3 h4 =>
    have n1 : vs.size = xs.length := by simpa using ReadsAll.length _ _ _ h4
    refine wpAny_bind ?_
    rw [kas_first_eq]
    have lk : Looks (model prog w) s.heap (typeOf (.ref l)) (.type "tuple") := looks_reads (d := .tuple xs) (.tuple h1 h2 h3 h4)
    refine wpAny_bind (lk.here ?_)
    rw [if_neg (by decide)]
    refine wpAny_bind (listItems_at h1 h3 (wpAny_pure ?_))
    refine wpAny_bind (firstsTup t (fun d hd => ht d (List.mem_cons_of_mem _ hd)) fun fs l1 _ => wpAny_pure (h _ (by simp [l1]) fun z => ?_))
    simp only [List.head?_cons, Option.some.injEq, PyData.tuple.injEq] at z
    subst z
    have : vs[0]? = none := by
      rw [Array.getElem?_eq_none]
      rw [n1]; simp
    rw [this]
    rfl
theorem sortsE {vs : List Value} {ds : List PyData} (e : EachIs (fun v d => ∃ as, Reads s.heap v d as) vs ds) (hal : AllAlike ds) (ht : ∀ d ∈ ds, ∃ xs, d = .tuple xs) (h0 : ds.head? = some (.tuple [])) (hu : ∀ d, d ∈ ds → A.units + d.depth < cLine) :
    SortsAt prog w A s (dataKind s.heap ds) vs := by
  refine ⟨fun v hv => ?_, oneType', ?_, fun h2 E Q hq => ?_⟩
  · obtain ⟨d, hd, as, r⟩ := e.left v hv
    exact ⟨_, dataKind_some hal hd r⟩
  · intro E x y a b Q ha hb hq
    obtain ⟨d, as, hd, ra, rfl⟩ := dataKind_inv ha
    obtain ⟨d', as', hd', rb, rfl⟩ := dataKind_inv hb
    have al := hal d hd d' hd'
    have hr : A.units + min d.depth d'.depth < cLine := Nat.lt_of_le_of_lt (Nat.add_le_add_left (Nat.min_le_left _ _) _) (hu d hd)
    obtain ⟨xs, rfl⟩ := ht d hd
    obtain ⟨ys, rfl⟩ := ht d' hd'
    rw [keyLt'_oneType]
    exact oneLtTup ra rb al hr hq
  · rw [keyKind'_eq, List.mapM_toArray, map_eq_pure_bind]
    refine wpAny_bind (wpAny_bind (firstsTup e ht fun fs l1 hf => wpAny_pure ?_))
    have hf0 := hf h0
    cases fs with
    | nil => cases hf0
    | cons f0 fr =>
      simp only [List.head?_cons, Option.some.injEq] at hf0
      subst hf0
      rw [if_neg (by simp), if_neg (by simp)]
      rw [oneTypeOnly'_eq, List.mapM_toArray, map_eq_pure_bind]
      refine wpAny_bind (wpAny_bind (wpAny_bind (kas_mapM (r := Value.type "tuple") _ (fun v hv Q' hq => ?_) (wpAny_pure ?_))))
      · obtain ⟨d, hd, as, r⟩ := e.left v hv
        obtain ⟨xs, rfl⟩ := ht d hd
        exact (looks_reads r).here hq
      · cases vs with
        | nil => simp at h2
        | cons v1 vr =>
          have hall : ((List.map (fun _ => Value.type "tuple") (v1 :: vr)).toArray.all fun x => x == Value.type "tuple") = true := by
            simp only [List.all_toArray, List.all_map, List.all_eq_true]
            intro _ _
            exact (by decide : (Value.type "tuple" == Value.type "tuple") = true)
          have h0 : (List.map (fun _ => Value.type "tuple") (v1 :: vr)).toArray[0]? = some (Value.type "tuple") := by simp
          rw [h0]
          simp only [hall, if_true]
          exact wpAny_pure (wpAny_pure hq)
end
section
variable {prog : Program} {w : World} {A : Around} {E : Value → Shared → Prop} {s : Shared} {β : Type} {vs : List Value} {bs : List β} {enc : β → PyData} {R : Value → β → Prop}
/-- items of a list or a tuple -/
def Src (h : Heap) (l : Addr) (vs : Array Value) : Prop := h.IsList l vs ∨ h.IsTuple l vs
theorem collect_src {l : Addr} {vs : List Value} {Q : List Value → Shared → Prop} (hs : Src s.heap l vs.toArray)
    (h : Q vs { s with heap := (s.heap.push (seqObj "list" #[] 0)).update s.heap.objs.size (Obj.mapSeq (· ++ vs.toArray)) }) (hsz : vs.length ≤ sizeLine) :
    wpAny (model prog w) A (collect (.ref l)) Q E s := by
  rcases hs with hl | hl
  · exact collect_list hl h hsz
  obtain ⟨o, ho, hc, n, hd⟩ := id hl
  unfold collect
  refine wpAny_bind (wpAny_runValue (codeAny_builtin entry_proto_collect' ?_))
  show wpAny _ _ (do again (.builtin "list.__iadd__" ⟨[← newList [], .ref l], []⟩)) _ _ s
  refine wpAny_bind (wpAny_newList (wpAny_pure ⟨Code.quiet_builtin _ (by decide +kernel), codeAny_builtin entry_list_iadd' ?_⟩))
  show wpAny _ _ (Builtin.List.listExtendWith (.ref s.heap.objs.size) (.ref l) (.ref s.heap.objs.size)) _ _ { s with heap := s.heap.push (seqObj "list" #[] 0) }
  unfold Builtin.List.listExtendWith
  have ho' : (s.heap.push (seqObj "list" #[] 0)).get? l = some o := Heap.get?_push_of_some _ ho
  refine wpAny_bind (wpAny_typeOf (T := "tuple") ⟨o, ho', hc⟩ ?_)
  have ht : (Value.type "tuple" == Value.type "tuple") = true := by rfl
  rw [if_pos (by rw [ht]; simp)]
  refine wpAny_bind (listItems_at ho' hd ?_)
  refine wpAny_bind (listItems_at (xs := #[]) (n := 0) (Heap.get?_push_size _ rfl) rfl ?_)
  rw [if_neg (by simp)]
  refine wpAny_bind (listUpdate_at (xs := #[]) (n := 0) (Heap.get?_push_size _ rfl) rfl ?_ (Nat.zero_le _) (by show (#[] ++ vs.toArray).size ≤ sizeLine + 1; simp only [Array.size_append, List.size_toArray, List.length_nil]; omega))
  refine wpAny_pure ?_
  show wpAny (model prog w) A (do
      let o ← load s.heap.objs.size
      match o.data with
      | .seq xs _ => pure xs.toList
      | _ => unsupported "internal:collect") Q E { s with heap := (s.heap.push (seqObj "list" #[] 0)).update s.heap.objs.size (Obj.mapSeq (· ++ vs.toArray)) }
  refine wpAny_bind (wpAny_load (get?_update_seq (Heap.get?_push_size _ rfl) _) ?_)
  show wpAny _ _ (pure ((#[] : Array Value) ++ vs.toArray).toList) Q E _
  rw [show ((#[] : Array Value) ++ vs.toArray).toList = vs by simp]
  exact wpAny_pure h
theorem sorted_of_sortS {l : Addr} {vs : List Value} {Q : Value → Shared → Prop} (hl : Src s.heap l vs.toArray) (hL : vs.length ≤ sizeLine)
    (body : ∀ E' : Value → Shared → Prop, wpAny (model prog w) A.in1.in1 (Builtin.«list.sort» ⟨[.ref (s.heap.objs.size + 1)], []⟩) (fun f s' => f = .done (.ret .none) ∧ Q (.ref (s.heap.objs.size + 1)) s') E' { s with heap := copyHeap s.heap vs }) :
    wpAny (model prog w) A (PySem.call (.builtin "sorted") [.ref l] []) Q E s := by
  refine call_function_entry_kw kind_sorted plain_sorted entry_sorted (args_sorted1 _) ?_
  unfold Builtin.«sorted»
  refine wpAny_bind (m := checkCount "sorted" 1 1 _) (wpAny_pure ?_)
  refine wpAny_bind (collect_src hl ?_ hL)
  refine wpAny_bind (wpAny_newList ?_ hL)
  have hsz : ((s.heap.push (seqObj "list" #[] 0)).update s.heap.objs.size (Obj.mapSeq (· ++ vs.toArray))).objs.size = s.heap.objs.size + 1 := by
    rw [Heap.size_update, size_push']
  show wpAny _ _ _ _ _ { s with heap := copyHeap s.heap vs }
  rw [hsz]
  refine wpAny_bind (wpAny_holding (wpAny_call_entry_kw slot_list_sort ⟨_, copyHeap_at s.heap vs, rfl⟩ entry_list_sort ?body (args_list_sort _)))
  case body =>
    show wpAny (model prog w) A.in1.in1 (Builtin.«list.sort» ⟨[.ref (s.heap.objs.size + 1)], []⟩) _ _ _
    refine wpAny_mono (body _) (fun f s' hf => ?_) fun _ _ e => e
    obtain ⟨rfl, hq⟩ := hf
    exact ⟨_, rfl, wpAny_pure ⟨_, rfl, hq⟩⟩
theorem sorted_valsS {κ : PyProof.Rows.KeyKind} {l : Addr} {vs : List Value} {Q : Value → Shared → Prop} (hl : Src s.heap l vs.toArray) (S : SortsAt prog w A.in1.in1 { s with heap := sortingHeap (copyHeap s.heap vs) (s.heap.objs.size + 1) vs } κ vs) (hL : vs.length ≤ sizeLine)
    (h : Q (.ref (s.heap.objs.size + 1)) { s with heap := sortedAll s.heap vs (sortVals κ false vs vs).toArray }) : wpAny (model prog w) A (PySem.call (.builtin "sorted") [.ref l]) Q E s :=
  sorted_of_sortS hl hL fun _ => list_sort_vals (s := { s with heap := copyHeap s.heap vs }) (copyHeap_at s.heap vs) S hL ⟨rfl, h⟩
theorem sorted_dataS {l : Addr} {Q : Value → Shared → Prop} (hl : Src s.heap l vs.toArray) (e : EachIs R vs bs) (er : EachIs (fun v b => ∃ as, Reads s.heap v (enc b) as) vs bs) (hal : AllAlike (bs.map enc)) (hk : Sortable (bs.map enc)) (hL : bs.length ≤ sizeLine)
    (hu : ∀ b, b ∈ bs → A.units + 2 + (enc b).depth < cLine) (h : ∀ out, out.length = bs.length → EachIs R out (bs.mergeSort (dataLe false enc)) → Q (.ref (s.heap.objs.size + 1)) { s with heap := sortedAll s.heap vs (List.toArray out) }) :
    wpAny (model prog w) A (PySem.call (.builtin "sorted") [.ref l]) Q E s := by
  have er' : EachIs (fun v b => ∃ as, Reads (sortingHeap (copyHeap s.heap vs) (s.heap.objs.size + 1) vs) v (enc b) as) vs bs := er.mono fun _ _ ⟨as, r⟩ => ⟨as, PyProof.Rows.Reads.keeps (fun _ _ => sorting_copy_old) r⟩
  exact sorted_valsS hl (SortsAt.data (s := { s with heap := sortingHeap (copyHeap s.heap vs) (s.heap.objs.size + 1) vs }) (each_map (R := fun v d => ∃ as, Reads (sortingHeap (copyHeap s.heap vs) (s.heap.objs.size + 1) vs) v d as) enc er') hal hk (bound_map hu)) (by rw [e.length]; exact hL)
    (h _ (by rw [sortVals_length false rfl]; exact e.length) (sortVals_data false e er' hal))
/-- sorted(xs), the first an empty tuple -/
theorem sortedE {l : Addr} {Q : Value → Shared → Prop} (hl : Src s.heap l vs.toArray) (e : EachIs R vs bs) (er : EachIs (fun v b => ∃ as, Reads s.heap v (enc b) as) vs bs) (hal : AllAlike (bs.map enc)) (ht : ∀ d ∈ bs.map enc, ∃ xs, d = .tuple xs) (h0 : (bs.map enc).head? = some (.tuple []))
    (hL : bs.length ≤ sizeLine) (hu : ∀ b, b ∈ bs → A.units + 2 + (enc b).depth < cLine)
    (h : ∀ out, out.length = bs.length → EachIs R out (bs.mergeSort (dataLe false enc)) → Q (.ref (s.heap.objs.size + 1)) { s with heap := sortedAll s.heap vs (List.toArray out) }) :
    wpAny (model prog w) A (PySem.call (.builtin "sorted") [.ref l]) Q E s := by
  let h1 : Heap := sortingHeap (copyHeap s.heap vs) (s.heap.objs.size + 1) vs
  have ev : EachIs (fun v b => ∃ as, Reads h1 v (enc b) as) vs bs :=
    er.mono fun _ _ x => x.elim fun as r => ⟨as, PyProof.Rows.Reads.keeps (fun _ _ => sorting_copy_old) r⟩
  have S : SortsAt prog w A.in1.in1 { s with heap := h1 } (dataKind h1 (bs.map enc)) vs :=
    sortsE (s := { s with heap := h1 }) (each_map (R := fun v d => ∃ as, Reads h1 v d as) enc ev) hal ht h0 (bound_map hu)
  exact sorted_valsS hl S (by rw [e.length]; exact hL) (h _ (by rw [sortVals_length false rfl]; exact e.length) (sortVals_data false e ev hal))
end
end R

set_option Elab.async false
set_option linter.all false
set_option maxRecDepth 100000
set_option maxHeartbeats 1000000
/-! R: built-in functions keep their word -/
namespace R
open PySem PySem.Spec L2
section
variable {K : PySem.W.Frag} {w : Wd} {h : PH}
theorem liveL_rep {n : Nat} {xs : List PV} {v : V} (e : liveL h n = some xs) (rel : Rel K w h) (r : Rep K w (.ref n) v) : ∃ a vs, v = .ref a ∧ w.M[n]? = some a ∧ w.H a = some (.lst vs) ∧ Reps K w xs vs ∧ vs.length ≤ sizeLine := by
  cases r with
  | ref hm =>
  unfold liveL at e
  split at e
  · rename_i ys hy
    cases e
    obtain ⟨vs, h1, h2, h3⟩ := rel.objs n _ _ hy hm
    exact ⟨_, vs, rfl, hm, h1, h2, h3⟩
  · cases e
theorem itemsV_rep {p : PV} {xs : List PV} {v : V} (e : itemsV p h = some xs) (rel : Rel K w h) (r : Rep K w p v) :
    ∃ a vs, v = .ref a ∧ Reps K w xs vs ∧ vs.length ≤ sizeLine ∧ (SqL K w.H a vs ∨ (SqT K w.H a vs ∧ p = .tup xs)) := by
  unfold itemsV at e
  split at e
  · cases e
    cases r with
    | tup ha ra => exact ⟨_, _, rfl, ra, ha.2.2.2, .inr ⟨ha.sq, rfl⟩⟩
  · cases e
    cases r with
    | lst ha ra => exact ⟨_, _, rfl, ra, ha.2.2.2, .inl ha.sq⟩
  · cases e
    cases r with
    | scr ha => exact ⟨_, _, rfl, Reps.ints _, ha.2, .inl ha.sq⟩
  · obtain ⟨a, vs, rfl, h1, h2, h3, h4⟩ := liveL_rep e rel r
    exact ⟨a, vs, rfl, h3, h4, .inl (SqL.of h2)⟩
  · cases e
theorem allV_bl : ∀ {xs : List PV} {bs : List Bool} {vs : List V}, allV blV xs = some bs → Reps K w xs vs → vs = bs.map V.bl
  | [], bs, vs, e, r => by
    cases r
    simp [allV] at e
    subst e
    rfl
  | x :: xs, bs, vs, e, r => by
    cases r with
    | cons r1 r2 =>
    simp only [allV] at e
    cases hx : blV x with
    | none => rw [hx] at e; cases e
    | some b =>
      rw [hx] at e
      cases hy : allV blV xs with
      | none => rw [hy] at e; cases e
      | some bs' =>
        rw [hy] at e
        simp at e
        subst e
        unfold blV at hx
        split at hx
        · cases hx
          cases r1
          rw [allV_bl hy r2]
          rfl
        · cases hx
theorem allV_int : ∀ {xs : List PV} {ns : List Int}, allV intV xs = some ns → xs = ns.map PV.int
  | [], ns, e => by
    simp [allV] at e
    subst e
    rfl
  | x :: xs, ns, e => by
    simp only [allV] at e
    cases hx : intV x with
    | none => rw [hx] at e; cases e
    | some b =>
      rw [hx] at e
      cases hy : allV intV xs with
      | none => rw [hy] at e; cases e
      | some ns' =>
        rw [hy] at e
        simp at e
        subst e
        unfold intV at hx
        split at hx
        · cases hx
          rw [allV_int hy]
          rfl
        · cases hx
theorem Reps.intsV : ∀ {ns : List Int} {vs : List V}, Reps K w (ns.map PV.int) vs → vs = ns.map V.int
  | [], _, .nil => rfl
  | _ :: _, _, .cons r t => by cases r; rw [Reps.intsV t]; rfl
theorem Reps.one {p : PV} {vs : List V} (r : Reps K w [p] vs) : ∃ v, vs = [v] ∧ Rep K w p v := by
  cases r with
  | cons r t => cases t; exact ⟨_, rfl, r⟩
theorem Reps.two {p q : PV} {vs : List V} (r : Reps K w [p, q] vs) : ∃ v u, vs = [v, u] ∧ Rep K w p v ∧ Rep K w q u := by
  cases r with
  | cons r t => cases t with
    | cons r2 t2 => cases t2; exact ⟨_, _, rfl, r, r2⟩
end
inductive SeesAll (K : PySem.W.Frag) (w : Wd) : List PV → List V → Prop
  | nil : SeesAll K w [] []
  | cons {x : PV} {xs : List PV} {v : V} {vs : List V} : Sees K w x v → SeesAll K w xs vs → SeesAll K w (x :: xs) (v :: vs)
section
variable {K : PySem.W.Frag} {w : Wd} {h : PH}
theorem sees_all (rel : Rel K w h) : ∀ {ps : List PV} {vs : List V}, Reps K w ps vs → SeesAll K w (ps.map (see h)) vs
  | _, _, .nil => .nil
  | _, _, .cons r t => .cons (see_ok rel r) (sees_all rel t)
theorem SeesAll.one {p : PV} {vs : List V} (r : SeesAll K w [p] vs) : ∃ v, vs = [v] ∧ Sees K w p v := by
  cases r with
  | cons r t => cases t; exact ⟨_, rfl, r⟩
theorem SeesAll.two {p q : PV} {vs : List V} (r : SeesAll K w [p, q] vs) : ∃ v u, vs = [v, u] ∧ Sees K w p v ∧ Sees K w q u := by
  cases r with
  | cons r t => cases t with
    | cons r2 t2 => cases t2; exact ⟨_, _, rfl, r, r2⟩
theorem itemsV_sees {p : PV} {xs : List PV} {v : V} (e : itemsV p h = some xs) (rel : Rel K w h) (r : Sees K w p v) :
    ∃ a vs, v = .ref a ∧ Reps K w xs vs ∧ vs.length ≤ sizeLine ∧ (SqL K w.H a vs ∨ (SqT K w.H a vs ∧ p = .tup xs)) := by
  cases r with
  | of r => exact itemsV_rep e rel r
  | live hH r z =>
    cases e
    exact ⟨_, _, rfl, r, z, .inl (SqL.of hH)⟩
end
theorem den_len {ps : List PV} {h : PH} {r : PV} (e : Blt.den0 .len ps h = some r) : ∃ p, ps = [p] ∧ lenV p h = some r := by
  cases ps with
  | nil => cases e
  | cons p t => cases t with
    | nil => exact ⟨p, rfl, e⟩
    | cons _ _ => cases e
theorem den_tuple {ps : List PV} {h : PH} {r : PV} (e : Blt.den0 .tuple ps h = some r) : ∃ p, ps = [p] ∧ (itemsV p h).map .tup = some r := by
  cases ps with
  | nil => cases e
  | cons p t => cases t with
    | nil => exact ⟨p, rfl, e⟩
    | cons _ _ => cases e
theorem den_list {ps : List PV} {h : PH} {r : PV} (e : Blt.den0 .list ps h = some r) : ∃ p, ps = [p] ∧ (itemsV p h).map .lst = some r := by
  cases ps with
  | nil => cases e
  | cons p t => cases t with
    | nil => exact ⟨p, rfl, e⟩
    | cons _ _ => cases e
theorem den_repr {ps : List PV} {h : PH} {r : PV} (e : Blt.den0 .repr ps h = some r) : ∃ p, ps = [p] ∧ (showV p).map .str = some r := by
  cases ps with
  | nil => cases e
  | cons p t => cases t with
    | nil => exact ⟨p, rfl, e⟩
    | cons _ _ => cases e
theorem den_all {ps : List PV} {h : PH} {r : PV} (e : Blt.den0 .all ps h = some r) : ∃ xs, ps = [.lst xs] ∧ ((allV blV xs).map fun bs => .bl (bs.all id)) = some r := by
  cases ps with
  | nil => cases e
  | cons p t => cases t with
    | nil => cases p <;> first | exact ⟨_, rfl, e⟩ | cases e
    | cons _ _ => cases p <;> cases e
theorem den_any {ps : List PV} {h : PH} {r : PV} (e : Blt.den0 .any ps h = some r) : ∃ xs, ps = [.lst xs] ∧ ((allV blV xs).map fun bs => .bl (bs.any id)) = some r := by
  cases ps with
  | nil => cases e
  | cons p t => cases t with
    | nil => cases p <;> first | exact ⟨_, rfl, e⟩ | cases e
    | cons _ _ => cases p <;> cases e
theorem den_sum {ps : List PV} {h : PH} {r : PV} (e : Blt.den0 .sum ps h = some r) : ∃ xs, ps = [.lst xs] ∧ ((allV intV xs).map fun ns => .int ns.sum) = some r := by
  cases ps with
  | nil => cases e
  | cons p t => cases t with
    | nil => cases p <;> first | exact ⟨_, rfl, e⟩ | cases e
    | cons _ _ => cases p <;> cases e
theorem den_sorted {ps : List PV} {h : PH} {r : PV} (e : Blt.den0 .sorted ps h = some r) : ∃ xs, (ps = [.lst xs] ∨ ps = [.tup xs]) ∧ (sortV xs).map .lst = some r := by
  cases ps with
  | nil => cases e
  | cons p t => cases t with
    | nil => cases p <;> first | exact ⟨_, .inl rfl, e⟩ | exact ⟨_, .inr rfl, e⟩ | cases e
    | cons _ _ => cases p <;> cases e
theorem den_max {ps : List PV} {h : PH} {r : PV} (e : Blt.den0 .max ps h = some r) : ∃ i j, ps = [.int i, .int j] ∧ some (.int (if j > i then j else i)) = some r := by
  unfold Blt.den0 at e
  split at e <;> first | exact ⟨_, _, rfl, e⟩ | (rename_i z; cases z) | cases e
theorem den_min {ps : List PV} {h : PH} {r : PV} (e : Blt.den0 .min ps h = some r) : ∃ i j, ps = [.int i, .int j] ∧ some (.int (if j < i then j else i)) = some r := by
  unfold Blt.den0 at e
  split at e <;> first | exact ⟨_, _, rfl, e⟩ | (rename_i z; cases z) | cases e
def rBlt (K : PySem.W.Frag) (b : Blt) : List V → Hp → VK → Prop := fun vs H Q => ∃ w ps h r, w.H = H ∧ Rel K w h ∧ SeesAll K w ps vs ∧ b.den0 ps h = some r ∧ Aft K w h r Q
section
variable {X : Cx}
theorem cr_len : CallR X (.builtin "len") (rBlt X.K .len) := by
  intro pins s σ H vs us Q I r hh
  obtain ⟨w, ps, h, res, rfl, rel, rs, e, aft⟩ := hh
  obtain ⟨p, rfl, e'⟩ := den_len e
  replace e := e'
  obtain ⟨v, rfl, rp⟩ := rs.one
  unfold lenV at e
  split at e
  · split at e
    · rename_i x hz
      cases e
      obtain rfl := rp.str
      exact call_len_str pins s σ _ _ us Q I r ⟨_, rfl, hz, aft.now rel (.int _)⟩
    · cases e
  · cases hi : itemsV p h with
    | none => rw [hi] at e; cases e
    | some xs =>
      rw [hi] at e
      cases e
      obtain ⟨a, vs, rfl, h1, h2, h3⟩ := itemsV_sees hi rel rp
      refine call_len_seq pins s σ _ _ us Q I r ⟨a, vs, rfl, h3.imp id (fun z => z.1), ?_⟩
      rw [← h1.length]
      exact aft.now rel (.int _)
theorem cr_all' (hc : X.calm = true) : CallR X (.builtin "all") (rBlt X.K .all) := by
  intro pins s σ H vs us Q I r hh
  obtain ⟨w, ps, h, res, rfl, rel, rs, e, aft⟩ := hh
  obtain ⟨xs, rfl, e'⟩ := den_all e
  replace e := e'
  obtain ⟨v, rfl, rp⟩ := rs.one
  obtain ⟨_, vs, rfl, ha, ra, _⟩ := rp.lst
  cases hb : allV blV xs with
  | none => rw [hb] at e; cases e
  | some bs =>
    rw [hb] at e
    cases e
    have ev := allV_bl hb ra
    subst ev
    exact cr_all hc pins s σ _ _ us Q I r ⟨_, bs, rfl, SqL.of ha, aft.now rel (.bl _)⟩
theorem cr_any' (hc : X.calm = true) : CallR X (.builtin "any") (rBlt X.K .any) := by
  intro pins s σ H vs us Q I r hh
  obtain ⟨w, ps, h, res, rfl, rel, rs, e, aft⟩ := hh
  obtain ⟨xs, rfl, e'⟩ := den_any e
  replace e := e'
  obtain ⟨v, rfl, rp⟩ := rs.one
  obtain ⟨_, vs, rfl, ha, ra, _⟩ := rp.lst
  cases hb : allV blV xs with
  | none => rw [hb] at e; cases e
  | some bs =>
    rw [hb] at e
    cases e
    have ev := allV_bl hb ra
    subst ev
    exact cr_any hc pins s σ _ _ us Q I r ⟨_, bs, rfl, SqL.of ha, aft.now rel (.bl _)⟩
theorem cr_sum' (hc : X.calm = true) : CallR X (.builtin "sum") (rBlt X.K .sum) := by
  intro pins s σ H vs us Q I r hh
  obtain ⟨w, ps, h, res, rfl, rel, rs, e, aft⟩ := hh
  obtain ⟨xs, rfl, e'⟩ := den_sum e
  replace e := e'
  obtain ⟨v, rfl, rp⟩ := rs.one
  obtain ⟨_, vs, rfl, ha, ra, _⟩ := rp.lst
  cases hb : allV intV xs with
  | none => rw [hb] at e; cases e
  | some ns =>
    rw [hb] at e
    cases e
    rw [allV_int hb] at ra
    have ev := ra.intsV
    subst ev
    exact cr_sum hc pins s σ _ _ us Q I r ⟨_, ns, rfl, SqL.of ha, aft.now rel (.int _)⟩
theorem cr_tuple : CallR X (.type "tuple") (rBlt X.K .tuple) := by
  intro pins s σ H vs us Q I r hh
  obtain ⟨w, ps, h, res, rfl, rel, rs, e, aft⟩ := hh
  obtain ⟨p, rfl, e'⟩ := den_tuple e
  replace e := e'
  obtain ⟨v, rfl, rp⟩ := rs.one
  cases hi : itemsV p h with
  | none => rw [hi] at e; cases e
  | some xs =>
    rw [hi] at e
    cases e
    obtain ⟨a, vs, rfl, h1, h2, h3⟩ := itemsV_sees hi rel rp
    refine call_tuple_of pins s σ _ _ us Q I r ⟨a, vs, rfl, ?_⟩
    rcases h3 with h3 | ⟨h3, rfl⟩
    · exact .inl ⟨h3, fun l hl => aft.tup rel h1 h2 l hl⟩
    · obtain ⟨_, _, e9, t1, t2⟩ := rp.tup
      rw [e9] at *
      exact .inr ⟨h3, aft.now rel (.tup t1 t2)⟩
theorem cr_list : CallR X (.type "list") (rBlt X.K .list) := by
  intro pins s σ H vs us Q I r hh
  obtain ⟨w, ps, h, res, rfl, rel, rs, e, aft⟩ := hh
  obtain ⟨p, rfl, e'⟩ := den_list e
  replace e := e'
  obtain ⟨v, rfl, rp⟩ := rs.one
  cases hi : itemsV p h with
  | none => rw [hi] at e; cases e
  | some xs =>
    rw [hi] at e
    cases e
    obtain ⟨a, vs, rfl, h1, h2, h3⟩ := itemsV_sees hi rel rp
    exact call_list_of pins s σ _ _ us Q I r ⟨a, vs, rfl, h3.imp id (fun z => z.1), fun l hl => aft.lst rel h1 h2 l hl⟩
theorem cr_max (hc : X.calm = true) : CallR X (.builtin "max") (rBlt X.K .max) := by
  intro pins s σ H vs us Q I r hh
  obtain ⟨w, ps, h, res, rfl, rel, rs, e, aft⟩ := hh
  obtain ⟨i, j, rfl, e'⟩ := den_max e
  replace e := e'
  obtain ⟨v, u, rfl, r1, r2⟩ := rs.two
  cases e; obtain rfl := r1.int; obtain rfl := r2.int
  exact call_max2 hc pins s σ _ _ us Q I r ⟨_, _, rfl, aft.now rel (.int _)⟩
theorem cr_min (hc : X.calm = true) : CallR X (.builtin "min") (rBlt X.K .min) := by
  intro pins s σ H vs us Q I r hh
  obtain ⟨w, ps, h, res, rfl, rel, rs, e, aft⟩ := hh
  obtain ⟨i, j, rfl, e'⟩ := den_min e
  replace e := e'
  obtain ⟨v, u, rfl, r1, r2⟩ := rs.two
  cases e; obtain rfl := r1.int; obtain rfl := r2.int
  exact call_min2 hc pins s σ _ _ us Q I r ⟨_, _, rfl, aft.now rel (.int _)⟩
/-! ### repr -/
theorem noDict_of {d : PyData} (h : d.canLay0 = true) : d.hasDict = false := by
  have key : (∀ d : PyData, d.canLay0 = true → d.hasDict = false) := by
    intro d
    refine PyData.rec (motive_1 := fun d => d.canLay0 = true → d.hasDict = false) (motive_2 := fun ds => PyData.canLayAll0 ds = true → PyData.hasDictAll ds = false) (motive_3 := fun _ => True) (motive_4 := fun _ => True) ?_ ?_ ?_ ?_ ?_ ?_ ?_ ?_ ?_ ?_ ?_ ?_ d
    · intro _; rfl
    · intro _ _; rfl
    · intro _ _; rfl
    · intro _ _; rfl
    · intro xs ih e
      simp only [PyData.hasDict]
      exact ih (by simpa [PyData.canLay0] using e)
    · intro xs ih e
      simp only [PyData.hasDict]
      exact ih (by simpa [PyData.canLay0] using e)
    · intro _ _ e
      simp [PyData.canLay0] at e
    · intro _; simp [PyData.hasDictAll]
    · intro x xs i1 i2 e
      simp only [PyData.canLayAll0, Bool.and_eq_true] at e
      simp only [PyData.hasDictAll, i1 e.1, i2 e.2, Bool.or_self]
    · trivial
    · intros; trivial
    · intros; trivial
  exact key d h
theorem cr_repr (hg : X.A.guards = some []) (hu : X.A.units + 65 < cLine) : CallR X (.builtin "repr") (rBlt X.K .repr) := by
  intro pins s σ H vs us Q I r hh
  obtain ⟨w, ps, h, res, rfl, rel, rs, e, aft⟩ := hh
  obtain ⟨p, rfl, e'⟩ := den_repr e
  replace e := e'
  obtain ⟨v, rfl, rp⟩ := rs.one
  unfold showV at e
  split at e
  · rename_i hf
    rw [Bool.and_eq_true, Bool.and_eq_true, decide_eq_true_eq] at hf
    obtain ⟨⟨h1, h2⟩, h3⟩ := hf
    obtain ⟨d1, d2⟩ := PV.fine_dat h1
    cases e
    have dp := rp.dp d1
    obtain ⟨u, rfl, ru⟩ := vals1 r
    obtain ⟨as, rd⟩ := Dp.reads I _ v u dp ru
    have dep := SeqAt.depth_of_shaped d2
    have nd := noDict_of (SeqAt.canLay_of_shaped d2)
    have big : ∀ a0 : Addr, v = .ref a0 → (∃ xs, p = .tup xs ∨ p = .lst xs) → wpAny (model X.prog X.w) X.A (PySem.call (.builtin "repr") [u]) (EP X pins σ Q) X.xe s := fun a0 e0 _ => by
      subst e0
      cases ru
      exact repr_of_reads' rd h2 (fun z => by rw [nd] at z; cases z) hg (by omega) (fun _ _ z => z) (fun h' t tk hk => ⟨.str _, w.H, I.kept (t' := tk) hk, ⟨t, rfl⟩, aft.now rel (.str _)⟩) (by omega)
    cases rp with
    | live _ _ _ => exact big _ rfl ⟨_, .inr rfl⟩
    | of rp =>
    cases rp with
    | tup ha ra => exact big _ rfl ⟨_, .inl rfl⟩
    | lst ha ra => exact big _ rfl ⟨_, .inr rfl⟩
    | non =>
      cases (show u = Value.none from ru)
      refine PySem.P.repr_of_none ⟨.str "None", w.H, I.tok _, ⟨_, rfl⟩, ?_⟩
      have q := aft.now rel (.str _)
      simpa [PV.dat, PyData.shown] using q
    | bl b =>
      cases (show u = Value.bool b from ru)
      refine PySem.P.repr_of_bool ⟨.str _, w.H, I.tok _, ⟨_, rfl⟩, ?_⟩
      have q := aft.now rel (.str _)
      simpa [PV.dat, PyData.shown] using q
    | int i =>
      obtain ⟨t, rfl⟩ := (show ∃ t, u = Value.int i t from ru)
      refine PySem.P.repr_of_int (by simpa [PV.dat, PyData.showable] using h2) ⟨.str _, w.H, I.tok _, ⟨_, rfl⟩, ?_⟩
      have q := aft.now rel (.str _)
      simpa [PV.dat, PyData.shown] using q
    | str x =>
      obtain ⟨t, rfl⟩ := (show ∃ t, u = Value.str x t from ru)
      refine PySem.P.repr_of_str ⟨.str _, w.H, I.tok _, ⟨_, rfl⟩, ?_⟩ (by have := h3; simp only [PV.dat, PyData.shown] at this; omega)
      have q := aft.now rel (.str _)
      simpa [PV.dat, PyData.shown] using q
    | ty n => simp [PV.isDat] at d1
    | scr n => simp [PV.isDat] at d1
    | ref n => simp [PV.isDat] at d1
    | dct _ _ _ => simp [PV.isDat] at d1
  · cases e
/-! ### sorted -/
theorem each_of {w : Wd} {K : PySem.W.Frag} : ∀ {xs : List PV} {vs : List V} {its : List Value}, Reps K w xs vs → Vals vs its → PySem.W.EachIs (fun u p => ∃ v, RelV v u ∧ Rep K w p v) its xs
  | _, _, _, .nil, .nil => .nil
  | _, _, _, .cons r t, .cons r' t' => .cons ⟨_, r', r⟩ (each_of t t')
theorem of_each {w : Wd} {K : PySem.W.Frag} : ∀ {xs : List PV} {its : List Value}, PySem.W.EachIs (fun u p => ∃ v, RelV v u ∧ Rep K w p v) its xs → ∃ vs, Reps K w xs vs ∧ Vals vs its
  | _, _, .nil => ⟨[], .nil, .nil⟩
  | _, _, .cons ⟨v, r1, r2⟩ t => let ⟨vs, q1, q2⟩ := of_each t; ⟨v :: vs, .cons r2 q1, .cons r1 q2⟩
theorem cr_sorted (hu : X.A.units + 70 < cLine) : CallR X (.builtin "sorted") (rBlt X.K .sorted) := by
  intro pins s σ H vs us Q I r hh
  obtain ⟨w, ps, h, res, rfl, rel, rs, e, aft⟩ := hh
  obtain ⟨xs, hps, e'⟩ := den_sorted e
  replace e := e'
  obtain ⟨a, vs, its, rfl, ra, hsz, rv, hl⟩ : ∃ a vs its, us = [.ref a] ∧ Reps X.K w xs vs ∧ vs.length ≤ sizeLine ∧ Vals vs its ∧ Src s.heap a its.toArray := by
    rcases hps with rfl | rfl
    · obtain ⟨v, rfl, rp⟩ := rs.one
      obtain ⟨a, vs, rfl, ha, ra, hsz⟩ := rp.lst
      obtain ⟨its, rv, hl, hz⟩ := I.list (SqL.of ha)
      exact ⟨a, vs, its, Vals.ref1 r, ra, hsz, rv, .inl hl.isList⟩
    · obtain ⟨v, rfl, rp⟩ := rs.one
      obtain ⟨a, vs, rfl, t1, t2⟩ := rp.tup
      obtain ⟨its, rv, pt, hz⟩ := I.tuple t1.sq
      exact ⟨a, vs, its, Vals.ref1 r, t2, hz, rv, .inr pt⟩
  rw [sortV_eq] at e
  split at e
  · rename_i hf
    rw [Bool.and_eq_true, Bool.and_eq_true] at hf
    obtain ⟨⟨h1, h2⟩, h3⟩ := hf
    cases e
    rw [List.all_eq_true] at h1
    have hal : PySem.W.AllAlike (xs.map PV.dat) := by
      intro d hd d' hd'
      unfold allAlikeB at h2
      rw [List.all_eq_true] at h2
      have := h2 d hd
      rw [List.all_eq_true] at this
      exact this d' hd'
    have ea := each_of ra rv
    have er : PySem.W.EachIs (fun u p => ∃ as, Reads s.heap u (PV.dat p) as) its xs := by
      refine (PySem.W.each_mem ea).mono fun u p ⟨⟨v, r1, r2⟩, hm⟩ => ?_
      exact Dp.reads I _ v u (r2.dp (PV.fine_dat (h1 p hm)).1) r1
    have hl2 : xs.length ≤ sizeLine := by rw [ra.length]; exact hsz
    have hd : ∀ p, p ∈ xs → X.A.units + 2 + (PV.dat p).depth < cLine := fun p hp => by
      have := SeqAt.depth_of_shaped (PV.fine_dat (h1 p hp)).2
      omega
    have fin : ∀ out : List Value, out.length = xs.length → PySem.W.EachIs (fun u p => ∃ v, RelV v u ∧ Rep X.K w p v) out (xs.mergeSort (PySem.W.dataLe false PV.dat)) → EP X pins σ Q (.ref (s.heap.objs.size + 1)) { s with heap := PyProof.Rows.sortedAll s.heap its out.toArray } := fun out lo eo => by
      obtain ⟨vs', q1, q2⟩ := of_each eo
      obtain ⟨ep, he'⟩ := PyProof.Rows.sortedAll_at s.heap its out.toArray
      have hlen : vs'.length ≤ sizeLine := by
        rw [← q1.length, List.length_mergeSort]
        exact hl2
      refine ⟨.ref _, upd w.H (s.heap.objs.size + 1) (.lst vs'), I.laid (t' := s.toks) (fun _ _ => PyProof.Rows.sortedAll_old) (Nat.le_succ _) ⟨hlen, out, ep, q2, he'⟩, rfl, ?_⟩
      exact aft.lst rel q1 hlen _ (I.hok.fresh (Nat.le_succ _))
    unfold sortableB at h3
    rw [Bool.or_eq_true, Bool.or_eq_true] at h3
    rcases h3 with (h3 | h3) | h3
    · refine sorted_dataS hl ea er hal (.inl fun d hd => ?_) hl2 hd fin
      rw [List.all_eq_true] at h3
      have := h3 d hd
      cases d with
      | tuple ys =>
        cases ys with
        | nil => simp [emptyT] at this
        | cons y ys => exact ⟨y, ys, rfl⟩
      | _ => simp [isTupD] at this
    · refine sorted_dataS hl ea er hal (.inr fun d hd => ?_) hl2 hd fin
      rw [List.all_eq_true] at h3
      have := h3 d hd
      cases d with
      | tuple ys => simp [isTupD] at this
      | none => simp at this
      | _ => exact ⟨(fun z => nomatch z), (fun _ z => nomatch z)⟩
    · rw [Bool.and_eq_true] at h3
      obtain ⟨h3, h4⟩ := h3
      rw [List.all_eq_true] at h3
      cases xs with
      | nil => exact sorted_dataS hl ea er hal (.inr fun d hd => by simp at hd) hl2 hd fin
      | cons x0 xr =>
        refine sortedE hl ea er hal (fun d hd => ?_) ?_ hl2 hd fin
        · have := h3 d hd
          cases d with
          | tuple ys => exact ⟨ys, rfl⟩
          | _ => simp [isTupD] at this
        · simp only [List.map_cons, List.head?_cons, Option.map_some, Option.getD_some] at h4 ⊢
          unfold emptyT at h4
          split at h4
          · rename_i e0
            rw [e0]
          · cases h4
  · cases e
end
end R

set_option Elab.async false
set_option linter.all false
set_option maxRecDepth 100000
set_option maxHeartbeats 1000000
/-! R: truth, places, slices, isinstance, methods of lists -/
namespace R
open PySem PySem.Spec L2
section
variable {K : PySem.W.Frag} {w : Wd} {h : PH}
theorem isEmpty_reps {xs : List PV} {vs : List V} (r : Reps K w xs vs) : (!xs.isEmpty) = !vs.isEmpty := by
  cases r <;> rfl
theorem truthV_rep {p : PV} {v : V} {k : Bool} (e : truthV p h = some k) (rel : Rel K w h) (r : Rep K w p v) : TruV K v w.H k := by
  unfold truthV at e
  split at e
  · cases e; cases r; rfl
  · cases e; cases r; rfl
  · cases e; cases r; rfl
  · split at e
    · rename_i hz
      cases e; cases r; exact ⟨hz, rfl⟩
    · cases e
  · cases e
    cases r with
    | tup ha ra => exact .inr (.inl ⟨_, ha.sq, isEmpty_reps ra⟩)
  · cases e
    cases r with
    | lst ha ra => exact .inl ⟨_, ha.sq, isEmpty_reps ra⟩
  · rename_i n
    cases hl : liveL h n with
    | none => rw [hl] at e; cases e
    | some xs =>
      rw [hl] at e
      cases e
      obtain ⟨a, vs, rfl, _, h2, h3, _⟩ := liveL_rep hl rel r
      exact .inl ⟨vs, SqL.of h2, isEmpty_reps h3⟩
  · cases e
theorem atI_reps {xs : List PV} {vs : List V} {i : Int} {p : PV} (r : Reps K w xs vs) (e : atI xs i = some p) : ∃ v, atI vs i = some v ∧ Rep K w p v := by
  unfold atI at e ⊢
  rw [← r.length]
  cases hj : ixN xs.length i with
  | none => rw [hj] at e; cases e
  | some j =>
    rw [hj] at e
    obtain ⟨v, h1, h2⟩ := r.get (i := j) e
    exact ⟨v, h1, h2⟩
theorem cut_reps {xs : List PV} {vs : List V} {lo hi : Option Int} (r : Reps K w xs vs) : Reps K w (cutP xs lo hi) (cutV vs lo hi) := by
  unfold cutP cutV
  rw [← r.length]
  exact (r.drop _).take _
end
def rIdx (K : PySem.W.Frag) : R2 := fun x y H Q => ∃ w p q h r, w.H = H ∧ Rel K w h ∧ Rep K w p x ∧ Rep K w q y ∧ idxV p q h = some r ∧ Aft K w h r Q
def rSlc (K : PySem.W.Frag) : V → Option Int → Option Int → Hp → VK → Prop := fun x lo hi H Q => ∃ w p h r, w.H = H ∧ Rel K w h ∧ Sees K w p x ∧ sliceV p lo hi = some r ∧ Aft K w h r Q
section
variable {X : Cx}
theorem ix_V : IxR X (rIdx X.K) := by
  intro value slice pins s σ H x y v u Q I rx ry hh hsub
  obtain ⟨w, p, q, h, res, rfl, rel, rp, rq, e, aft⟩ := hh
  unfold idxV at e
  split at e
  · rename_i i
    cases rq
    cases hi : itemsV p h with
    | none => rw [hi] at e; cases e
    | some xs =>
      rw [hi] at e
      have e : atI xs i = some res := e
      obtain ⟨a, vs, rfl, h1, h2, h3⟩ := itemsV_rep hi rel rp
      obtain ⟨z, g1, g2⟩ := atI_reps h1 e
      rcases h3 with h3 | ⟨h3, _⟩
      · exact ix_list value slice pins s σ _ _ _ v u Q I rx ry ⟨a, vs, i, z, rfl, rfl, h3, g1, aft.now rel g2⟩ hsub
      · exact ix_tup value slice pins s σ _ _ _ v u Q I rx ry ⟨a, vs, i, z, rfl, rfl, h3, g1, aft.now rel g2⟩ hsub
  · cases e
theorem sl_V : SlR X (rSlc X.K) := by
  intro pins s σ H x v vl vu lo hi sl Q I rx hs pl pu hh
  obtain ⟨w, p, h, res, rfl, rel, rp, e, aft⟩ := hh
  unfold sliceV at e
  split at e
  · cases e
    obtain ⟨a, vs, rfl, ha, ra⟩ := rp.tup
    refine sl_tupA pins s σ _ _ v vl vu lo hi sl Q I rx hs pl pu ⟨a, vs, rfl, ha.sq, fun hw => ?_, fun _ pp hp => aft.tup rel (cut_reps ra) (Nat.le_trans (cutV_length _ _ _) ha.2.2.2) pp hp⟩
    unfold cutP at aft
    rw [ra.length, hw.1, hw.2, List.drop_zero, Nat.sub_zero, ← ra.length, List.take_length] at aft
    exact aft.now rel (.tup ha ra)
  · cases e
    obtain ⟨a, vs, rfl, ha, ra, hz⟩ := rp.lst
    exact sl_list pins s σ _ _ v vl vu lo hi sl Q I rx hs pl pu ⟨a, vs, rfl, SqL.of ha, fun pp hp => aft.lst rel (cut_reps ra) (Nat.le_trans (cutV_length _ _ _) hz) pp hp⟩
  · cases e
/-! ### isinstance -/
theorem tyName_rep {K : PySem.W.Frag} {w : Wd} {h : PH} {p : PV} {v : V} {t : String} (e : tyName p h = some t) (rel : Rel K w h) (r : Rep K w p v) : TyX K w.H v (.type t) := by
  unfold tyName at e
  split at e
  · cases e; cases r; exact .base .non
  · cases e; cases r; exact .base (.bl _)
  · cases e; cases r; exact .base (.int _)
  · cases e; cases r; exact .base (.str _)
  · cases e
    cases r with
    | tup ha ra => exact .base (.tup ha.1)
  · cases e
    cases r with
    | lst ha ra => exact .base (.lst ha.1)
  · rename_i n
    cases hl : liveL h n with
    | none => rw [hl] at e; cases e
    | some xs =>
      rw [hl] at e
      cases e
      obtain ⟨a, vs, rfl, _, h2, h3, _⟩ := liveL_rep hl rel r
      exact .base (.lst h2)
  · cases e
theorem tyName_in {p : PV} {h : PH} {t : String} (e : tyName p h = some t) : t ∈ ["NoneType", "bool", "int", "str", "tuple", "list"] := by
  unfold tyName at e
  split at e <;> first
    | (cases e; done)
    | (cases e; decide)
    | (rename_i n
       cases hl : liveL h n with
       | none => rw [hl] at e; cases e
       | some xs => rw [hl] at e; cases e; exact (by decide : "list" ∈ ["NoneType", "bool", "int", "str", "tuple", "list"]))
theorem kit_tab (K : PySem.W.Frag) {t c : String} (ht : t ∈ ["NoneType", "bool", "int", "str", "tuple", "list"]) (hc : tyOk c = true) : PySem.W.kitOne K (.type t) (.type c) = some (isiTab t c) := by
  have hc' : c ∈ ["int", "bool", "tuple", "str", "list", "dict"] := by
    unfold tyOk at hc
    simpa using hc
  simp only [List.mem_cons, List.not_mem_nil, or_false] at ht hc'
  rcases ht with rfl | rfl | rfl | rfl | rfl | rfl <;> rcases hc' with rfl | rfl | rfl | rfl | rfl | rfl <;> exact kit_ty (by decide +kernel)
def rIsiV (K : PySem.W.Frag) (c : String) : List V → Hp → VK → Prop := fun vs H Q => ∃ w p v h r, vs = [v, .ty c] ∧ w.H = H ∧ Rel K w h ∧ Rep K w p v ∧ isiV p c h = some r ∧ Aft K w h r Q
theorem cr_isi {c : String} (hc : tyOk c = true) : CallR X (.builtin "isinstance") (rIsiV X.K c) := by
  intro pins s σ H vs us Q I r hh
  obtain ⟨w, p, v, h, res, rfl, rfl, rel, rp, e, aft⟩ := hh
  unfold isiV at e
  cases ht : tyName p h with
  | none => rw [ht] at e; cases e
  | some t =>
    rw [ht] at e
    cases e
    exact call_isi pins s σ _ _ us Q I r ⟨v, .ty c, .type t, .type c, _, rfl, .ty c, tyName_rep ht rel rp, kit_tab X.K (tyName_in ht) hc, aft.now rel (.bl _)⟩
/-! ### methods -/
def rMth (K : PySem.W.Frag) (m : Mth) : V → List V → Hp → VK → Prop := fun x vs H Q => ∃ w p ps h r h', w.H = H ∧ Rel K w h ∧ Rep K w p x ∧ Reps K w ps vs ∧ m.den p ps h = some (r, h') ∧ (∀ w' v, Ext w w' → Rel K w' h' → Rep K w' r v → Q v w'.H)
theorem liveWrite {K : PySem.W.Frag} {w : Wd} {h : PH} {n : Nat} {a : Addr} {xs ys : List PV} {vs : List V} (rel : Rel K w h) (hm : w.M[n]? = some a) (e : liveL h n = some xs) (rs : Reps K w ys vs) (hl : vs.length ≤ sizeLine) :
    Ext w (w.add a (.lst vs)) ∧ Rel K (w.add a (.lst vs)) (h.set n (.lst ys)) := by
  have hn : n < h.length := by
    unfold liveL at e
    split at e
    · rename_i zs hz
      exact (List.getElem?_eq_some_iff.mp hz).1
    · cases e
  refine ⟨Ext.write hm, rel.write hm hn ⟨vs, upd_same, rs.mono (Ext.write hm), hl⟩⟩
theorem mden_append {p : PV} {ps : List PV} {h : PH} {r : PV × PH} (e : Mth.den .append p ps h = some r) : ∃ n y, p = .ref n ∧ ps = [y] ∧ ((liveL h n).bind fun xs => if xs.length < sizeLine then some (.non, h.set n (.lst (xs ++ [y]))) else none) = some r := by
  cases p <;> (rcases ps with _ | ⟨y, _ | ⟨z, zs⟩⟩) <;> first | exact ⟨_, _, rfl, rfl, e⟩ | cases e
theorem mden_extend {p : PV} {ps : List PV} {h : PH} {r : PV × PH} (e : Mth.den .extend p ps h = some r) : ∃ n q ys, p = .ref n ∧ ps = [q] ∧ see h q = .lst ys ∧ ((liveL h n).bind fun xs => if xs.length + ys.length ≤ sizeLine then some (.non, h.set n (.lst (xs ++ ys))) else none) = some r := by
  cases p <;> (rcases ps with _ | ⟨y, _ | ⟨z, zs⟩⟩) <;> first | (cases e; done) | skip
  simp only [Mth.den] at e
  split at e
  · rename_i ys hs
    exact ⟨_, _, ys, rfl, rfl, hs, e⟩
  · cases e
theorem mden_pop {p : PV} {ps : List PV} {h : PH} {r : PV × PH} (e : Mth.den .pop p ps h = some r) : ∃ n, p = .ref n ∧ ps = [] ∧ ((liveL h n).bind fun xs => (xs[xs.length - 1]?).map fun y => (y, h.set n (.lst xs.dropLast))) = some r := by
  cases p <;> (rcases ps with _ | ⟨y, _ | ⟨z, zs⟩⟩) <;> first | exact ⟨_, rfl, rfl, e⟩ | cases e
theorem mden_popAt {p : PV} {ps : List PV} {h : PH} {r : PV × PH} (e : Mth.den .popAt p ps h = some r) : ∃ n i, p = .ref n ∧ ps = [.int i] ∧ ((liveL h n).bind fun xs => if i.natAbs < 4611686018427387904 then (seqIndex? i xs.length).bind fun k => (xs[k]?).map fun y => (y, h.set n (.lst (xs.eraseIdx k))) else none) = some r := by
  cases p <;> (rcases ps with _ | ⟨y, _ | ⟨z, zs⟩⟩) <;> first | (cases e; done) | (cases y <;> first | exact ⟨_, _, rfl, rfl, e⟩ | cases e)
theorem mden_count {p : PV} {ps : List PV} {h : PH} {r : PV × PH} (e : Mth.den .count p ps h = some r) : ∃ xs q, p = .lst xs ∧ ps = [q] ∧ (if (PV.lst xs).fine && q.fine then some (PV.int (xs.countP fun x => PyData.eqv x.dat q.dat : Nat), h) else none) = some r := by
  cases p <;> (rcases ps with _ | ⟨y, _ | ⟨z, zs⟩⟩) <;> first | exact ⟨_, _, rfl, rfl, e⟩ | cases e
theorem count_dats (q : PyData) : ∀ xs : List PV, (PV.dats xs).countP (fun y => PyData.eqv y q) = xs.countP fun x => PyData.eqv x.dat q
  | [] => rfl
  | x :: xs => by
    rw [PV.dats, List.countP_cons, List.countP_cons, count_dats q xs]
theorem mt_count' (hu : X.A.units + 70 < cLine) : MtR X "list.count" (rMth X.K .count) := by
  intro pins s σ H x vs v us Q I rx rxs hh
  obtain ⟨w, p, ps, h, res, h', rfl, rel, rp, rs, e, aft⟩ := hh
  obtain ⟨xs, q, rfl, rfl, e'⟩ := mden_count e
  replace e := e'
  split at e
  · rename_i hf
    rw [Bool.and_eq_true] at hf
    cases e
    obtain ⟨yv, rfl, ry⟩ := rs.one
    obtain ⟨u, rfl, ru⟩ := rxs.one
    have dp := rp.dp (PV.fine_dat hf.1).1
    have dq := ry.dp (PV.fine_dat hf.2).1
    have sp := (PV.fine_dat hf.1).2
    have sq := (PV.fine_dat hf.2).2
    obtain ⟨as, r1⟩ := Dp.reads I _ x v dp rx
    obtain ⟨bs, r2⟩ := Dp.reads I _ yv u dq ru
    rw [PV.dat] at r1 sp
    cases r1 with
    | list h1 h2 h3 h4 =>
      rename_i a o items n as2
      obtain ⟨cls, dd, data, sl⟩ := o
      have h2 : cls = .type "list" := h2
      have h3 : data = .seq items n := h3
      subst h2 h3
      have hxs := SeqAt.canLay_of_shaped sp
      refine call_meets PySem.F.slot_list_count ⟨_, h1, rfl⟩ PySem.F.entry_list_count (PySem.F.args_list_count_2 _ _)
        (SeqAt.list_countAt _ _ _ dd sl u (fun y => PyData.eqv (SeqAt.readOf s.heap y) q.dat)) ⟨h1, SeqAt.items_eqAt h4 r2 hxs (SeqAt.canLay_of_shaped sq) (PyProof.Rows.room_in_shaped sq (by omega)), ?_⟩
      have ec : items.toList.countP (fun y => PyData.eqv (SeqAt.readOf s.heap y) q.dat) = xs.countP fun x => PyData.eqv x.dat q.dat := by
        rw [← count_dats, ← SeqAt.readsAll_map _ _ _ hxs h4, List.countP_map]
        rfl
      refine ⟨.int (xs.countP fun x => PyData.eqv x.dat q.dat : Nat), w.H, I.tok _, ⟨s.toks, ?_⟩, aft w _ (Ext.refl w) rel (.int _)⟩
      rw [ec]
  · cases e
theorem mt_append' : MtR X "list.append" (rMth X.K .append) := by
  intro pins s σ H x vs v us Q I rx rxs hh
  obtain ⟨w, p, ps, h, res, h', rfl, rel, rp, rs, e, aft⟩ := hh
  obtain ⟨n, y, rfl, rfl, e'⟩ := mden_append e
  replace e := e'
  cases hl : liveL h n with
  | none => rw [hl] at e; cases e
  | some xs =>
    rw [hl] at e
    simp only [Option.bind_some] at e
    split at e
    · rename_i hz
      cases e
      obtain ⟨yv, rfl, ry⟩ := rs.one
      obtain ⟨a, zs, rfl, hm, h2, h3, h4⟩ := liveL_rep hl rel rp
      have hlen := h3.length
      obtain ⟨x1, r1⟩ := liveWrite rel hm hl (h3.append (.cons ry .nil)) (by rw [List.length_append, List.length_singleton]; omega)
      exact mt_append pins s σ _ _ _ v us Q I rx rxs ⟨a, zs, yv, rfl, rfl, h2, by omega, aft _ _ x1 r1 .non⟩
    · cases e
theorem mt_extend' : MtR X "list.extend" (rMth X.K .extend) := by
  intro pins s σ H x vs v us Q I rx rxs hh
  obtain ⟨w, p, ps, h, res, h', rfl, rel, rp, rs, e, aft⟩ := hh
  obtain ⟨n, q, ys, rfl, rfl, hq, e'⟩ := mden_extend e
  replace e := e'
  cases hl : liveL h n with
  | none => rw [hl] at e; cases e
  | some xs =>
    rw [hl] at e
    simp only [Option.bind_some] at e
    split at e
    · rename_i hz
      cases e
      obtain ⟨yv, rfl, ry⟩ := rs.one
      have sy := see_ok rel ry
      rw [hq] at sy
      obtain ⟨b, us2, rfl, hb, rb, _⟩ := sy.lst
      obtain ⟨a, zs, rfl, hm, h2, h3, h4⟩ := liveL_rep hl rel rp
      have l1 := h3.length
      have l2 := rb.length
      obtain ⟨x1, r1⟩ := liveWrite rel hm hl (h3.append rb) (by rw [List.length_append]; omega)
      exact mt_extend pins s σ _ _ _ v us Q I rx rxs ⟨a, b, zs, us2, rfl, rfl, h2, hb, by omega, aft _ _ x1 r1 .non⟩
    · cases e
theorem mt_pop' : MtR X "list.pop" (rMth X.K .pop) := by
  intro pins s σ H x vs v us Q I rx rxs hh
  obtain ⟨w, p, ps, h, res, h', rfl, rel, rp, rs, e, aft⟩ := hh
  obtain ⟨n, rfl, rfl, e'⟩ := mden_pop e
  replace e := e'
  cases hl : liveL h n with
  | none => rw [hl] at e; cases e
  | some xs =>
    rw [hl] at e
    simp only [Option.bind_some] at e
    cases hy : xs[xs.length - 1]? with
    | none => rw [hy] at e; cases e
    | some y =>
      rw [hy] at e
      cases e
      cases rs
      obtain ⟨a, zs, rfl, hm, h2, h3, h4⟩ := liveL_rep hl rel rp
      obtain ⟨yv, g1, g2⟩ := h3.get hy
      have dl : Reps X.K w xs.dropLast zs.dropLast := by
        rw [List.dropLast_eq_take, List.dropLast_eq_take, h3.length]
        exact h3.take _
      obtain ⟨x1, r1⟩ := liveWrite rel hm hl dl (by rw [List.length_dropLast]; omega)
      rw [h3.length] at g1
      exact mt_pop pins s σ _ _ _ v us Q I rx rxs ⟨a, zs, yv, rfl, rfl, h2, g1, aft _ _ x1 r1 (g2.mono x1)⟩
theorem Reps.erase {K : PySem.W.Frag} {w : Wd} : ∀ {ps : List PV} {vs : List V} (n : Nat), Reps K w ps vs → Reps K w (ps.eraseIdx n) (vs.eraseIdx n)
  | _, _, _, .nil => .nil
  | _, _, 0, .cons _ t => t
  | _, _, n + 1, .cons r t => .cons r (Reps.erase n t)
theorem mt_popAt' : MtR X "list.pop" (rMth X.K .popAt) := by
  intro pins s σ H x vs v us Q I rx rxs hh
  obtain ⟨w, p, ps, h, res, h', rfl, rel, rp, rs, e, aft⟩ := hh
  obtain ⟨n, i, rfl, rfl, e'⟩ := mden_popAt e
  replace e := e'
  cases hl : liveL h n with
  | none => rw [hl] at e; cases e
  | some xs =>
    rw [hl] at e
    simp only [Option.bind_some] at e
    split at e
    · rename_i hz
      cases hk : seqIndex? i xs.length with
      | none => rw [hk] at e; cases e
      | some k =>
        rw [hk] at e
        simp only [Option.bind_some] at e
        cases hy : xs[k]? with
        | none => rw [hy] at e; cases e
        | some y =>
          rw [hy] at e
          cases e
          obtain ⟨iv, rfl, ri⟩ := rs.one
          cases ri
          obtain ⟨a, zs, rfl, hm, h2, h3, h4⟩ := liveL_rep hl rel rp
          obtain ⟨yv, g1, g2⟩ := h3.get hy
          obtain ⟨x1, r1⟩ := liveWrite rel hm hl (h3.erase k) (Nat.le_trans (len_erase _ _) h4)
          rw [h3.length] at hk
          exact mt_popAt pins s σ _ _ _ v us Q I rx rxs ⟨a, zs, i, k, yv, rfl, rfl, h2, by omega, by omega, hk, g1, aft _ _ x1 r1 (g2.mono x1)⟩
    · cases e
end
end R

set_option Elab.async false
set_option linter.all false
set_option maxRecDepth 100000
set_option maxHeartbeats 1000000
/-! G: for in a generator def -/
namespace R
open PySem PySem.Spec PyProof.Rows GenW L2
section
variable {prog : Program} {w : World} {A : Around} {R : GenEnd} {Y : Protocol} {n : Nat} {s₀ s : Shared} {c : Code} {fs : List Frame} {env : Env} {K : Flow → Sem PySem.Fin} {J : Value → Sem PySem.Fin} {gd : Bool → Bool} {lv : List Value → List Value}
/-- what a loop's turn does with an exception -/
def exJ (env : Env) (e : Value) : Sem PySem.Fin := (do noteFrame e env; theTreesLotGoes e : Sem Unit).wrap (fun _ => .raise e) .raise id id
theorem seg_forLoop {target : Expr} {it : Value} {body orelse : List Stmt}
    (h : wpAny (model prog w) (A.over (.forLoop target it body orelse env) fs) (pyNext it) (fun r s1 => match r with
      | none => Seg (model prog w) A R Y n s₀ (.forLoop target it body orelse env) (.pure (.again (.block orelse env))) fs s1
      | some v => wpAny (model prog w) (A.over (.forLoop target it body orelse env) fs) (letOwnedTupleGo target it v) (fun _ s2 => wpAny (model prog w) (A.over (.forLoop target it body orelse env) fs) (assign target env v) (fun _ s3 =>
          Seg (model prog w) A R Y n s₀ (.forLoop target it body orelse env) ((execs body env).wrap (fun f => match f with
            | .next | .cont => .pure (.again (.forLoop target it body orelse env))
            | .brk => .pure (.done .next)
            | .ret v => .pure (.done (.ret v))) (exJ env) id id) fs s3)
        (fun x s' => Seg (model prog w) A R Y n s₀ (.forLoop target it body orelse env) (exJ env x) fs s') s2)
        (fun x s' => Seg (model prog w) A R Y n s₀ (.forLoop target it body orelse env) (exJ env x) fs s') s1)
      (fun x s' => Seg (model prog w) A R Y n s₀ (.forLoop target it body orelse env) (exJ env x) fs s') s) :
    Seg (model prog w) A R Y n s₀ (.forLoop target it body orelse env) ((model prog w).den (.forLoop target it body orelse env)) fs s := by
  have ej : ∀ x s', Seg (model prog w) A R Y n s₀ (.forLoop target it body orelse env) (exJ env x) fs s' → Seg (model prog w) A R Y n s₀ (.forLoop target it body orelse env) ((do noteFrame x env; theTreesLotGoes x : Sem Unit).bind fun _ => .raise x) fs s' := fun x s' hx => by
    unfold exJ at hx
    rw [← Sem.bind_eq_wrap] at hx
    exact hx
  show Seg _ A R Y n s₀ _ ((forTurn target it body orelse env).onRaise (fun x => do noteFrame x env; theTreesLotGoes x)) fs s
  unfold forTurn
  rw [Sem.onRaise_eq_wrap]
  refine seg_bind_wrap (wpAny_standAt ?_)
  refine seg_bind_wrap (wpAny_onRaise (wpAny_mono h (fun r s1 h1 => ?_) fun x s' hx => wpAny_standAt (ej x s' hx)))
  cases r with
  | none => exact h1
  | some v =>
    refine seg_bind_wrap (wpAny_mono h1 (fun _ s2 h2 => ?_) fun x s' hx => ej x s' hx)
    refine seg_bind_wrap (wpAny_mono h2 (fun _ s3 h3 => ?_) fun x s' hx => ej x s' hx)
    rw [Sem.bind_eq_wrap', Sem.wrap_wrap]
    rw [Sem.wrap_congr (execs body env) _ _ (K' := fun f => match f with
            | .next | .cont => .pure (.again (.forLoop target it body orelse env))
            | .brk => .pure (.done .next)
            | .ret v => .pure (.done (.ret v))) (H' := exJ env)
        (fun f => by cases f <;> rfl)
        (fun e => by unfold exJ; first | exact Sem.bind_eq_wrap _ _ | (show (do noteFrame e env; theTreesLotGoes e : Sem Unit).bind (fun _ => .raise e) = _; rw [Sem.bind_eq_wrap]))]
    exact h3
theorem seg_For {M : Model} {target iter : Expr} {body orelse : List Stmt} {pos : Pos} (hs : ∀ x, foldedSetIterable iter env x = pure x)
    (h : wpAny M (A.over c fs) (eval iter env) (fun x s1 => wpAny M (A.over c fs) (pyIter x) (fun it s2 => ∀ p, Seg M A R Y n s₀ (.forLoop target it body orelse env) (M.den (.forLoop target it body orelse env))
      (.ret (fun r => ((match r with | .ok f => (.pure f : Sem Flow) | .error e => .raise e).onRaise (cameBack env)).wrap K J gd lv) none (gd false) (lv []) c p [] :: fs) s2)
        (fun x s' => Seg M A R Y n s₀ c (J x) fs s') s1) (fun x s' => Seg M A R Y n s₀ c (J x) fs s') s) :
    Seg M A R Y n s₀ c ((exec (.For target iter body orelse pos) env).wrap K J gd lv) fs s := by
  rw [exec_For]
  refine seg_bind_wrap (wpAny_standAt ?_)
  refine seg_bind_wrap (wpAny_mono h (fun x s1 h1 => ?_) fun x s' hx => hx)
  refine seg_bind_wrap (wpAny_of_eq (hs x) ?_)
  refine seg_bind_wrap (wpAny_standAt ?_)
  refine seg_bind_wrap (wpAny_holding (wpAny_mono h1 (fun it s2 h2 => ?_) fun x s' hx => hx))
  exact seg_call h2
end
section
variable {X : Cx} {tg : Expr}
def tGFor (wi : TI) (g : TG) (tb : TGn) : TGn := fun D ys σ H => wi σ H fun J H1 => ∃ W : Nat → Nat → List V → L2.St → Hp → Prop, (∃ m, W 0 m ys σ H1) ∧ ∀ i m ys σ H, W i m ys σ H →
  (J.stop i H ∧ D.nx ys σ H) ∨ (J.go i H ∧ ∃ N : List V → L2.St → Hp → Prop, (∀ ys' σ' H', N ys' σ' H' → ∃ m', m' < m ∧ W (i + 1) m' ys' σ' H') ∧ ∀ x H', J.yld i H x H' → g x σ H' fun σ2 H2 => tb { D with nx := N, ct := N, bk := D.nx } ys σ2 H2)
theorem gs_for {iter : Expr} {body : List Stmt} {wi : TI} {g : TG} {tb : TGn} {pos : Pos} (hp : PassesOwn (model X.prog X.w) X.A X.env X.xe) (hcalm : X.calm = true) (hi : PI X tg iter wi) (hgt : PG X tg g) (hb : GSs X body tb)
    (hs : ∀ x, foldedSetIterable iter X.env x = pure x := by intro _; rfl) : GS X (.For tg iter body [] pos) (tGFor wi g tb) := by
  refine ⟨fun A S ip R n ys s₀ c fs K J gd lv s σ H D gc hn k hI ht => ?_⟩
  obtain ⟨acc, cc, r, I⟩ := hI
  refine seg_For hs ?_
  rw [gc.over]
  refine wpAny_mono (hi.run _ s σ H _ I ht) (fun v s1 h1 => ?_) fun x s' hx => k.exc n s₀ x s' hx
  refine wpAny_mono h1 (fun itv s2 h2 => ?_) fun x s' hx => k.exc n s₀ x s' hx
  obtain ⟨it, fp, tn, Jt, H2, e, I2, T, st2, f2, W, ⟨m0, w0⟩, turn⟩ := h2
  subst e
  intro p
  have gl := fun (kk : Result → Sem PySem.Fin) => gc_loop (k := kk) (c' := .forLoop tg (.ref it) body [] X.env) (l := lv []) (kp := []) (p := p) gc rfl rfl
  have stat : ∀ {H' : Hp} {acc : Array Value} {cc : Nat}, (∀ b ∈ fp, H' b = none) → ∀ b ∈ fp, FpOk X ((S, lstObj acc cc) :: ip) H' b := fun {H' acc' cc'} hn b hb => by
    obtain ⟨_, q2, q3, q4, q5, q6⟩ := f2 b hb
    refine ⟨hn b hb, q2, q3, q4, q5, fun p hp => ?_⟩
    rcases List.mem_append.mp hp with z | z
    · exact q6 p (List.mem_append_left _ z)
    · rcases List.mem_cons.mp z with z | z
      · rw [z]; exact q6 (S, lstObj acc cc) (List.mem_append_right _ List.mem_cons_self)
      · exact q6 p (List.mem_append_right _ (List.mem_cons_of_mem _ z))
  have hSfp : ∀ b ∈ fp, b ≠ S := fun b hb z => (f2 b hb).2.2.2.2.2 (S, lstObj acc cc) (List.mem_append_right _ List.mem_cons_self) z.symm
  have ee : ∀ (n : Nat) (s₀ : Shared) (x : Value) (s' : Shared), X.xe x s' → Seg (model X.prog X.w) A R (GY X S) n s₀ (.forLoop tg (.ref it) body [] X.env) (exJ X.env x)
      (.ret (fun r => ((match r with | .ok f => (.pure f : Sem Flow) | .error e => .raise e).onRaise (cameBack X.env)).wrap K J gd lv) none (gd false) (lv []) c p [] :: fs) s' := fun n s₀ x s' hx => by
    unfold exJ
    refine seg_wrap ?_
    rw [(gl _).over]
    refine wpAny_bind (wpAny_mono (hp x s' hx) (fun _ s'' hcb => wpAny_theTreesLotGoes ?_) fun y s'' hcb => ?_)
    · exact seg_leaf (.error x) (seg_cameBack gc k hcb)
    · exact seg_leaf (.error y) (seg_cameBack gc k hcb)
  have loop : ∀ (m i n : Nat) (ys : List V) (s₀ s : Shared) (σ : L2.St) (H : Hp), n + ys.length = sizeLine → W i m ys σ H → GI X S ip ys σ H s → tn i s.heap → (∀ b ∈ fp, H b = none) →
      Seg (model X.prog X.w) A R (GY X S) n s₀ (.forLoop tg (.ref it) body [] X.env) ((model X.prog X.w).den (.forLoop tg (.ref it) body [] X.env))
        (.ret (fun r => ((match r with | .ok f => (.pure f : Sem Flow) | .error e => .raise e).onRaise (cameBack X.env)).wrap K J gd lv) none (gd false) (lv []) c p [] :: fs) s := by
    intro m
    induction m using Nat.strongRecOn with
    | ind m ih =>
      intro i n ys s₀ s3 σ3 H3 hn w3 hI st3 fr3
      obtain ⟨acc, cc, r, I3⟩ := hI
      refine seg_forLoop ?_
      rw [(gl _).over]
      rcases turn i m ys σ3 H3 w3 with ⟨stop, qn⟩ | ⟨go, N, hN, step⟩
      · refine wpAny_mono (T.done X rfl rfl rfl hcalm i _ s3 σ3 H3 X.xe I3 (stat fr3) st3 stop) (fun rr s4 ⟨hr, I4⟩ => ?_) fun x s' hx => ee n s₀ x s' hx
        subst hr
        refine seg_again rfl ?_
        show Seg _ _ _ _ _ _ _ (.pure (.done .next)) _ _
        exact seg_leaf (.ok .next) (k.ok n ys s₀ s4 .next hn ⟨σ3, H3, ⟨acc, cc, r, I4⟩, qn⟩)
      · refine wpAny_mono (T.item X rfl rfl rfl hcalm i _ s3 σ3 H3 X.xe I3 (stat fr3) st3 go) (fun rr s4 ⟨u, hr, h4⟩ => ?_) fun x s' hx => ee n s₀ x s' hx
        subst hr
        refine wpAny_mono h4 (fun _ s5 ⟨x, H5, I5, r5, y5, st5, fr5⟩ => ?_) fun x s' hx => ee n s₀ x s' hx
        have I5' := I5.pinned (stat fr5) (T.obj _ _ st5)
        refine wpAny_mono (hgt.run _ s5 σ3 H5 x u _ I5' r5 (step x H5 y5)) (fun _ s6 ⟨σ6, H6, I6, q6⟩ => ?_) fun x s' hx => ee n s₀ x s' hx
        have G6 : GI X S (ip ++ pinsAt fp s5.heap) ys σ6 H6 s6 := ⟨acc, cc, r, I6⟩
        have gb := gl (fun r => ((match r with | .ok f => (.pure f : Sem Flow) | .error e => .raise e).onRaise (cameBack X.env)).wrap K J gd lv)
        have gb' : GC X S (ip ++ pinsAt fp s5.heap) A (.forLoop tg (.ref it) body [] X.env) (.ret (fun r => ((match r with | .ok f => (.pure f : Sem Flow) | .error e => .raise e).onRaise (cameBack X.env)).wrap K J gd lv) none (gd false) (lv []) c p [] :: fs) id :=
          { pn := gb.pn, ip := fun p hp => (List.mem_append.mp hp).elim (gb.ip p) fun z => hSfp _ (of_pinsAt z).1, apart := gb.apart, over := gb.over, split := gb.split, guard := gb.guard, gd := gb.gd }
        have un : ∀ {ys' : List V} {σ7 : L2.St} {H7 : Hp} {s7 : Shared}, GI X S (ip ++ pinsAt fp s5.heap) ys' σ7 H7 s7 → GI X S ip ys' σ7 H7 s7 ∧ tn (i + 1) s7.heap ∧ ∀ b ∈ fp, H7 b = none := fun {ys' σ7 H7 s7} hG => by
          obtain ⟨acc', cc', r', I7⟩ := hG
          have I7' : Inv X (((S, lstObj acc' cc') :: ip) ++ pinsAt fp s5.heap) σ7 H7 s7 := I7
          refine ⟨⟨acc', cc', r', I7'.unpinned⟩, T.keep _ _ _ st5 fun b hb o e => (I7'.pin (b, o) (List.mem_append_right _ (List.mem_append_right _ (mem_pinsAt hb e)))).1, fun b hb => ?_⟩
          obtain ⟨o, e, d⟩ := T.obj _ _ st5 b hb
          exact (I7'.pin (b, o) (List.mem_append_right _ (List.mem_append_right _ (mem_pinsAt hb e)))).2.1
        refine hb.run A S _ R n ys s₀ _ _ _ _ id id s6 σ6 H6 { D with nx := N, ct := N, bk := D.nx } gb' hn ⟨fun n' ys' s₀' s7 f hn' hs => ?_, fun n' s₀' x s7 hx => ee n' s₀' x s7 hx⟩ G6 q6
        cases f with
        | next =>
          obtain ⟨σ7, H7, I7, n7⟩ := hs
          obtain ⟨u1, u2, u3⟩ := un I7
          obtain ⟨m', hm, w7⟩ := hN ys' σ7 H7 n7
          exact seg_again rfl (ih m' hm (i + 1) n' ys' s₀' s7 σ7 H7 hn' w7 u1 u2 u3)
        | cont =>
          obtain ⟨σ7, H7, I7, n7⟩ := hs
          obtain ⟨u1, u2, u3⟩ := un I7
          obtain ⟨m', hm, w7⟩ := hN ys' σ7 H7 n7
          exact seg_again rfl (ih m' hm (i + 1) n' ys' s₀' s7 σ7 H7 hn' w7 u1 u2 u3)
        | brk =>
          obtain ⟨σ7, H7, I7, q7⟩ := hs
          exact seg_leaf (.ok .next) (k.ok n' ys' s₀' s7 .next hn' ⟨σ7, H7, (un I7).1, q7⟩)
        | ret v =>
          obtain ⟨x7, σ7, H7, I7, r7, q7⟩ := hs
          exact seg_leaf (.ok (.ret v)) (k.ok n' ys' s₀' s7 (.ret v) hn' ⟨x7, σ7, H7, (un I7).1, r7, q7⟩)
  exact loop m0 0 n ys s₀ s2 σ H2 hn w0 ⟨acc, cc, r, I2⟩ st2 fun b hb => (f2 b hb).1
end
end R

set_option Elab.async false
set_option linter.all false
set_option maxRecDepth 100000
set_option maxHeartbeats 1000000
/-! R: calls of defs, the context of a body -/
namespace R
open PySem PySem.Spec L2
section
variable {K : PySem.W.Frag} {W : WX}
theorem bindE {α β γ δ : Type} {rep : Wd → α → β → Prop} {rep' : Wd → γ → δ → Prop} {d : Sl → PH → Res α} {k : α → PH → Res γ} {w : Wd} {σ : St} {H : Hp} {ρ : Sl} {h : PH} {Q : δ → Hp → Prop}
    (at_ : At K w σ H ρ h) (p : PostE K W rep' w σ ((d ρ h).bind k) Q) :
    tDen K W rep d σ H fun v H1 => ∃ w' h' a, Ext w w' ∧ At K w' σ H1 ρ h' ∧ rep w' a v ∧ PostE K W rep' w' σ (k a h') Q := by
  refine ⟨w, ρ, h, at_, ?_⟩
  cases e : d ρ h with
  | ok a h1 =>
    simp only [e, Res.bind_ok] at p
    exact fun w' v x r q => ⟨w', h1, a, x, at_.ext x r, q, p.ext x⟩
  | exc y h1 =>
    simp only [e, Res.bind_exc] at p
    exact p
  | bad =>
    simp only [e, Res.bind_bad] at p
    exact p.elim
theorem outE {α β : Type} {rep : Wd → α → β → Prop} {d : Sl → PH → Res α} {k : α → PH → Out} {w : Wd} {σ : St} {H : Hp} {ρ : Sl} {h : PH} {D : Ends}
    (at_ : At K w σ H ρ h) (p : PostS K W w ((d ρ h).out ρ k) D) :
    tDen K W rep d σ H fun v H1 => ∃ w' h' a, Ext w w' ∧ At K w' σ H1 ρ h' ∧ rep w' a v ∧ PostS K W w' (k a h') D := by
  refine ⟨w, ρ, h, at_, ?_⟩
  cases e : d ρ h with
  | ok a h1 =>
    simp only [e, Res.out_ok] at p
    exact fun w' v x r q => ⟨w', h1, a, x, at_.ext x r, q, p.ext x⟩
  | exc y h1 =>
    simp only [e, Res.out_exc] at p
    exact fun w' cls da x r q => p w' σ cls da x r (at_.sl.mono x) q
  | bad =>
    simp only [e, Res.out_bad] at p
    exact p.elim
theorem tDen.mono {α β : Type} {rep : Wd → α → β → Prop} {d : Sl → PH → Res α} {σ : St} {H : Hp} {Q Q' : β → Hp → Prop} (t : tDen K W rep d σ H Q) (hq : ∀ v H, Q v H → Q' v H) : tDen K W rep d σ H Q' :=
  let ⟨w, ρ, h, a, p⟩ := t
  ⟨w, ρ, h, a, p.mono hq⟩
/-- an option's result -/
theorem postOf {α β : Type} {rep : Wd → α → β → Prop} {w : Wd} {σ : St} {h : PH} {o : Option α} {Q : β → Hp → Prop} (p : PostE K W rep w σ (Res.of o h) Q) : ∃ a, o = some a ∧ ∀ w' v, Ext w w' → Rel K w' h → rep w' a v → Q v w'.H := by
  cases o with
  | none => exact p.elim
  | some a => exact ⟨a, rfl, p⟩
end
/-! ### defs -/
/-- a def's promise: what its meaning says -/
def PostF (K : PySem.W.Frag) (w : Wd) (r : Res PV) (Q : VK) (E : XK) : Prop := match r with
  | .ok p h => ∀ w' v, Ext w w' → w'.M = w.M → Rel K w' h → Rep K w' p v → Q v w'.H
  | .exc x h => ∀ w' cls d, Ext w w' → w'.M = w.M → Rel K w' h → XRep K w' x cls d → E cls d w'.H
  | .bad => False
def PostK (keep : Bool) (K : PySem.W.Frag) (w : Wd) (r : Res PV) (Q : VK) (E : XK) : Prop := match r with
  | .ok p h => ∀ w' v, Ext w w' → Rel K w' h → Rep K w' p v → Q v w'.H
  | .exc x h => ∀ w' cls d, Ext w w' → Rel K w' h → XRep K w' x cls d → E cls d w'.H
  | .bad => False
def spOf (K : PySem.W.Frag) (n : Nat) (d : List PV → PH → Res PV) : Sp := fun vs H Q E => ∃ w ps h, w.H = H ∧ Rel K w h ∧ Reps K w ps vs ∧ ps.length = n ∧ PostK true K w (d ps h) Q E
structure FnG (P : Program) (wo : World) (K : PySem.W.Frag) (mg : Str → Option Value) (base : Heap) (k : Nat) (f : Addr) (fd : FuncData) (ps : List Str) (sp : Sp) (qu : Bool) : Prop where
  len : ∀ vs H Q E, sp vs H Q E → vs.length = ps.length
  run : ∀ (A : Around) (outer : List Env) (s : Shared) (H : Hp) (args : Args) (us : List Value) (vs : List V) (Q : VK) (E : XK), Room (4 * k + 3) A → (qu = false → A.guards = some []) → Env0 P wo K mg base A outer s H → BindsTo s fd args (ps.zip us) → Vals vs us → sp vs H Q E →
    codeAny (model P wo) A (.call (.ref f) args) (CR (L2.CX P wo) outer P wo H s Q E) s
section
variable {X : Cx} {W : WX} {k : Nat} {f : Addr} {fd : FuncData} {ps : List Str} {sp : Sp} {qu : Bool}
theorem runG {pins : List (Addr × Obj)} {σ : St} {H : Hp} {s : Shared} {Q : VK} {us : List Value} {vs : List V} (F : FnG X.prog X.w X.K X.mg X.base k f fd ps sp qu) (hr : Room (4 * k + 3) X.A) (hg : qu = false → X.A.guards = some []) (hb : Binds X.K fd ps [])
    (tk : Takes X W) (I : Inv X pins σ H s) (r : Vals vs us) (h : sp vs H Q (WE W σ)) : wpAny (model X.prog X.w) X.A (PySem.call (.ref f) us) (EP X pins σ Q) X.xe s := by
  have hl : us.length = ps.length := r.length.symm.trans (F.len _ _ _ _ h)
  have b := hb s us I.kIn (by rw [List.append_nil]; exact hl)
  rw [List.append_nil] at b
  refine wpAny_call (codeAny_mono (F.run X.A X.stack s H ⟨us, []⟩ us vs Q (WE W σ) hr hg I.env0 b r h) fun res s' hq => ?_)
  cases res with
  | error e => exact passAt tk σ pins H s e s' I hq
  | ok fl =>
    cases fl with
    | ret u => exact I.after hq
    | next => exact hq.elim
    | brk => exact hq.elim
    | cont => exact hq.elim
theorem pe_callG {x : Str} {p pos : Pos} {e : Expr} {es : List Expr} {t : TA} (F : FnG X.prog X.w X.K X.mg X.base k f fd ps sp qu) (hr : Room (4 * k + 3) X.A) (hgu : qu = false → X.A.guards = some []) (hg : Gl X x) (hm : X.mg x = some (.ref f)) (hk : PySem.W.keepIn X.K (.ref f) = true) (hb : Binds X.K fd ps [])
    (tk : Takes X W) (ha : PA X (e :: es) t) (hdb : (x == ("__debug__" : Str)) = false) (he : starEach (e :: es) X.env = (false, eval e X.env) :: starEach es X.env) (hpl : (backTo pos (starEach es X.env)).any (·.1) = false) :
    PE X (.Call (.Name x p) (e :: es) [] pos) (fun σ H Q => t σ H fun vs H1 => sp vs H1 Q (WE W σ)) := by
  refine ⟨fun pins s σ H Q I h => wpAny_Call_Name_kw (ld_glob I hg hm ?_ hdb)⟩
  refine PySem.W.callWith_K (h₀ := X.base) I.ok.mod.kin hk ?_ he hpl
  refine thn (ha.run pos pins s σ H _ I h) fun us s1 z => ?_
  obtain ⟨vs, H1, I1, r, q⟩ := z
  exact ⟨I1.kIn, runG F hr hgu hb tk I1 r q⟩
end
/-- a def by its body -/
theorem fnG_of {P : Program} {wo : World} {K : PySem.W.Frag} {mg : Str → Option Value} {base : Heap} {x qual : Str} {params : Arguments} {body : List Stmt} {scope : Scope} {dvs : List V} {kws : List (Str × V)} {f : Addr} {fd : FuncData} {N ps : List Str} {k : Nat} {sp : Sp} {qu : Bool}
    (F : FunD K x qual params body scope dvs kws f fd) (S : FnScope N ps scope) (len : ∀ vs H Q E, sp vs H Q E → vs.length = ps.length)
    (hbody : ∀ (cdv : Value) (A : Around) (outer : List Env) (s : Shared) (H : Hp) (vs : List V) (Q : VK) (E : XK), Room (4 * k + 3) (A.deeper (PyProof.Rows.envOfC qual scope s.heap.objs.size f cdv)) → (qu = false → A.guards = some []) → sp vs H Q E →
      ∃ t, PSs (cxOf (L2.CX P wo) P wo K mg base N qual scope f cdv A outer s H E) body t ∧ t { nx := fun _ H' => Q .non H', rt := Q } (start N vs) H) : FnG P wo K mg base (k + 1) f fd ps sp qu := by
  obtain ⟨oc, od, dV, kV, doc, pm, an, cdv, ct, osl, rfl, lk, hcd, _, _⟩ := F.ex
  refine ⟨len, fun A outer s H args us vs Q E hr hg e0 hb r hsp => ?_⟩
  have KX : K.In s.heap := e0.mod.kin.keeps fun b o e => (e0.bs b o e).1
  have nolim : s.heap.NoLimit := e0.mod.nolimit.keeps fun b o e => (e0.bs b o e).1
  have kinds : ∀ y ∈ ps.zip us, scope.names.lookup y.1 = some .local ∨ (scope.names.lookup y.1 = some .cell ∧ ((cellsFrom (s.heap.objs.size + 1) scope.names []).lookup y.1).isSome = true) := by
    rintro ⟨n, v⟩ hy
    rcases S.par n (List.of_mem_zip hy).1 with q | q
    · exact .inl q
    · exact .inr ⟨q, PySem.W.cellsFrom_some _ _ _ (.inl q)⟩
  refine codeAny_call_function hr.depth (KX _ _ lk) rfl S.co S.gen rfl (PySem.W.codeRec_of KX hcd) (hb _ _ _ _ ?_)
  refine wpAny_newFunctionEnv_cells S.kind kinds fun env he s1 ic => ?_
  subst he
  refine ⟨nolim.keeps ic.toInCall.keep, codeAny_func ?_⟩
  obtain ⟨t, ht, hq⟩ := hbody cdv A outer s H vs Q E ((hr.deeper _).mono (by omega)) hg hsp
  have J := inv_start (CX := L2.CX P wo) (E := E) S hr.hd e0 (len _ _ _ _ hsp) r ic
  refine wpAny_mono (ht.run [] s1 (start N vs) H _ J hq) (fun fl s' hs => ?_) fun e s' hs => hs
  cases fl with
  | ret u =>
    obtain ⟨v, σ', H', J', rv, q⟩ := hs
    exact ⟨v, H', J'.os, J'.bare, J'.base, J'.hok, rv, q⟩
  | next =>
    obtain ⟨σ', H', J', q⟩ := hs
    exact ⟨V.non, H', J'.os, J'.bare, J'.base, J'.hok, rfl, q⟩
  | brk => obtain ⟨_, _, _, q⟩ := hs; exact q.elim
  | cont => obtain ⟨_, _, _, q⟩ := hs; exact q.elim

/-- f() -/
theorem pe_callG0 {X : Cx} {W : WX} {k : Nat} {qu : Bool} {f : Addr} {fd : FuncData} {ps : List Str} {sp : Sp} {x : Str} {p pos : Pos} (F : FnG X.prog X.w X.K X.mg X.base k f fd ps sp qu) (hr : Room (4 * k + 3) X.A) (hgu : qu = false → X.A.guards = some []) (hg : Gl X x) (hm : X.mg x = some (.ref f)) (hk : PySem.W.keepIn X.K (.ref f) = true) (hb : Binds X.K fd ps [])
    (tk : Takes X W) (hdb : (x == ("__debug__" : Str)) = false) : PE X (.Call (.Name x p) [] [] pos) (fun σ H Q => sp [] H Q (WE W σ)) := by
  refine ⟨fun pins s σ H Q I h => wpAny_Call_Name_kw (ld_glob I hg hm ?_ hdb)⟩
  exact PySem.W.callWith_K0 I.kIn hk (runG (us := []) F hr hgu hb tk I .nil h)
/-- a promise by positional values -/
def FnP (P : Program) (wo : World) (K : PySem.W.Frag) (mg : Str → Option Value) (base : Heap) (k : Nat) (f : Addr) (sp : Sp) : Prop :=
  ∀ (A : Around) (outer : List Env) (s : Shared) (H : Hp) (us : List Value) (vs : List V) (Q : VK) (E : XK), Room (4 * k + 3) A → A.guards = some [] → Env0 P wo K mg base A outer s H → Vals vs us → sp vs H Q E →
    codeAny (model P wo) A (.call (.ref f) ⟨us, []⟩) (CR (L2.CX P wo) outer P wo H s Q E) s
def spS (K : PySem.W.Frag) (d : List PV → PH → Res PV) : Sp := fun vs H Q E => ∃ w ps h, w.H = H ∧ Rel K w h ∧ Reps K w ps vs ∧ PostK true K w (d ps h) Q E
section
variable {X : Cx} {W : WX} {k : Nat} {f : Addr} {sp : Sp}
theorem runP {pins : List (Addr × Obj)} {σ : St} {H : Hp} {s : Shared} {Q : VK} {us : List Value} {vs : List V} (F : FnP X.prog X.w X.K X.mg X.base k f sp) (hr : Room (4 * k + 3) X.A) (hg : X.A.guards = some [])
    (tk : Takes X W) (I : Inv X pins σ H s) (r : Vals vs us) (h : sp vs H Q (WE W σ)) : wpAny (model X.prog X.w) X.A (PySem.call (.ref f) us) (EP X pins σ Q) X.xe s := by
  refine wpAny_call (codeAny_mono (F X.A X.stack s H us vs Q (WE W σ) hr hg I.env0 r h) fun res s' hq => ?_)
  cases res with
  | error e => exact passAt tk σ pins H s e s' I hq
  | ok fl =>
    cases fl with
    | ret u => exact I.after hq
    | next => exact hq.elim
    | brk => exact hq.elim
    | cont => exact hq.elim
theorem pe_callP {x : Str} {p pos : Pos} {e : Expr} {es : List Expr} {t : TA} (F : FnP X.prog X.w X.K X.mg X.base k f sp) (hr : Room (4 * k + 3) X.A) (hgu : X.A.guards = some []) (hg : Gl X x) (hm : X.mg x = some (.ref f)) (hk : PySem.W.keepIn X.K (.ref f) = true)
    (tk : Takes X W) (ha : PA X (e :: es) t) (hdb : (x == ("__debug__" : Str)) = false) (he : starEach (e :: es) X.env = (false, eval e X.env) :: starEach es X.env) (hpl : (backTo pos (starEach es X.env)).any (·.1) = false) :
    PE X (.Call (.Name x p) (e :: es) [] pos) (fun σ H Q => t σ H fun vs H1 => sp vs H1 Q (WE W σ)) := by
  refine ⟨fun pins s σ H Q I h => wpAny_Call_Name_kw (ld_glob I hg hm ?_ hdb)⟩
  refine PySem.W.callWith_K (h₀ := X.base) I.ok.mod.kin hk ?_ he hpl
  refine thn (ha.run pos pins s σ H _ I h) fun us s1 z => ?_
  obtain ⟨vs, H1, I1, r, q⟩ := z
  exact ⟨I1.kIn, runP F hr hgu tk I1 r q⟩
end
/-- def f(a, .., *v): what is left over is a new tuple -/
theorem fnP_star {P : Program} {wo : World} {K : PySem.W.Frag} {mg : Str → Option Value} {base : Heap} {x qual : Str} {params : Arguments} {body : List Stmt} {scope : Scope} {f : Addr} {fd : FuncData} {N ps : List Str} {pv : Str} {k : Nat} {sp sp' : Sp}
    (F : FunD K x qual params body scope [] [] f fd) (S : FnScope N (ps ++ [pv]) scope)
    (hb : ∀ us rest : List Value, us.length = ps.length → bindArgs fd ⟨us ++ rest, []⟩ = (newTuple rest >>= fun t => pure (ps.zip us ++ [(pv, t)])))
    (hsp : ∀ vs H Q E, sp' vs H Q E → ∃ ws rest, vs = ws ++ rest ∧ ws.length = ps.length ∧ rest.length ≤ sizeLine ∧ ∀ p, H p = Option.none → sp (ws ++ [V.ref p]) (upd H p (.tup rest)) Q E)
    (hbody : ∀ (cdv : Value) (A : Around) (outer : List Env) (s : Shared) (H : Hp) (vs : List V) (Q : VK) (E : XK), Room (4 * k + 3) (A.deeper (PyProof.Rows.envOfC qual scope s.heap.objs.size f cdv)) → A.guards = some [] → sp vs H Q E →
      ∃ t, PSs (cxOf (L2.CX P wo) P wo K mg base N qual scope f cdv A outer s H E) body t ∧ t { nx := fun _ H' => Q .non H', rt := Q } (start N vs) H) : FnP P wo K mg base (k + 1) f sp' := by
  obtain ⟨oc, od, dV, kV, doc, pm, an, cdv, ct, osl, rfl, lk, hcd, _, _⟩ := F.ex
  intro A outer s H us vs Q E hr hg e0 r hh
  obtain ⟨ws, rest, ev, hl, hz, hq⟩ := hsp vs H Q E hh
  subst ev
  obtain ⟨u1, u2, eu, r1, r2⟩ := StX.vals_split r
  subst eu
  have hn : H s.heap.objs.size = Option.none := e0.hok.fresh (Nat.le_refl _)
  have hl1 : u1.length = ps.length := by rw [← r1.length]; exact hl
  have hl2 : u2.length ≤ sizeLine := by rw [← r2.length]; exact hz
  refine StX.run_bnd lk hcd S hr e0 (G := fun xs H2 => ∃ p, H p = Option.none ∧ xs = ws ++ [V.ref p] ∧ H2 = upd H p (.tup rest)) (fun A' Ex Q' h => ?_) fun s2 H2 xs ⟨p, hp, ex, eH⟩ hr' => ?_
  · rw [hb u1 u2 hl1]
    refine wpAny_bind (wpAny_newTuple (wpAny_pure ?_) hl2)
    have new : ObjOk P wo (upd H s.heap.objs.size (.tup rest)) (s.heap.push ({ cls := .type "tuple", data := .seq u2.toArray } : Obj)) s.heap.objs.size (.tup rest) := ⟨hz, u2, r2, ⟨_, Heap.get?_push_size _ rfl, rfl, _, rfl⟩⟩
    have un := StX.un_laid (fs := frs outer) (s := s) (o := ({ cls := .type "tuple", data := .seq u2.toArray } : Obj)) (u := .tup rest) hn
    have z := h _ _ (ws ++ [V.ref s.heap.objs.size]) (u1 ++ [Value.ref s.heap.objs.size]) (StX.env0_laid e0 new) un rfl (fun e s' => StX.cxUp outer s H _ _ E e s' un (fun b o q => Heap.get?_push_of_some _ q) rfl) (r1.append (.cons rfl .nil))
      (by rw [List.length_append, List.length_append, hl] <;> rfl) ⟨_, hn, rfl, rfl⟩
    rw [List.zip_append hl1.symm] at z
    exact z
  · subst ex eH
    exact hbody cdv A outer s2 _ _ Q E (hr'.mono (by omega)) hg (hq p hp)
/-- what a generator hands out -/
def PostGK (K : PySem.W.Frag) (w : Wd) (r : Res PV) (Q : List V → Hp → Prop) : Prop := match r with
  | .ok (.lst xs) h => ∀ w' vs, Ext w w' → Rel K w' h → Reps K w' xs vs → vs.length ≤ sizeLine → Q vs w'.H
  | _ => False
def spG (K : PySem.W.Frag) (n : Nat) (d : List PV → PH → Res PV) : SpG := fun vs H Q _ => ∃ w ps h, w.H = H ∧ Rel K w h ∧ Reps K w ps vs ∧ ps.length = n ∧ PostGK K w (d ps h) Q
/-- what a body's context gives -/
structure Good (C : CC) (Φ : Fns) (k : Nat) (X : Cx) (W : WX) : Prop where
  scope : X.env.scope = C.sc
  names : X.N = C.N
  nd : C.N.Nodup
  calm : X.calm = true
  room : Room (4 * k + 3) X.A
  guards : C.loud = true → X.A.guards = some []
  takes : Takes X W
  fn : X.fn = C.fnc
  blt : ∀ x ∈ C.blts, X.mg x = none
  con : ∀ x c, C.cons.lookup x = some c → ∃ u, X.mg x = some u ∧ RelV c.v u
  fns : ∀ f n, C.defs.lookup f = some (n, 0) → ∃ fa fd ps, X.mg f = some (.ref fa) ∧ PySem.W.keepIn X.K (.ref fa) = true ∧ Binds X.K fd ps [] ∧ FnG X.prog X.w X.K X.mg X.base k fa fd ps (spOf X.K n (Φ f)) (C.quiets.contains f)
  sfns : ∀ f n, C.defs.lookup f = some (n, 1) → ∃ fa, X.mg f = some (.ref fa) ∧ PySem.W.keepIn X.K (.ref fa) = true ∧ FnP X.prog X.w X.K X.mg X.base k fa (spS X.K (Φ f))
  gfns : ∀ f n, C.defs.lookup f = some (n, 2) → ∃ fa fd ps, X.mg f = some (.ref fa) ∧ PySem.W.keepIn X.K (.ref fa) = true ∧ Binds X.K fd ps [] ∧ GFn X.prog X.w X.K X.mg X.base (4 * k) fa fd ps (spG X.K n (Φ f))
section
variable {C : CC} {Φ : Fns} {k : Nat} {X : Cx} {W : WX}
theorem Good.u65 (G : Good C Φ k X W) : X.A.units + 70 < cLine := by have := G.room.un; omega
/-- a comprehension's block -/
theorem Good.blk (G : Good C Φ k X W) (s : Shared) (H : Hp) (scope : Scope) (cl : List (Str × Addr)) (c : Addr) (fp : List Addr) :
    Good (C.blk scope) Φ k (X.blk s H scope (compEnvC scope cl c X.env) fp) (fun _ _ _ _ => False) where
  scope := by
    show relS scope X.env.scope = relS scope C.sc
    rw [G.scope]
  names := G.names
  nd := G.nd
  calm := G.calm
  room := G.room
  guards := G.guards
  takes := takes0
  fn := rfl
  blt := G.blt
  con := G.con
  fns := G.fns
  sfns := G.sfns
  gfns := G.gfns
theorem Good.gl (G : Good C Φ k X W) {x : Str} (h : glB C.sc x = true) : Gl X x := by
  unfold glB at h
  show X.env.scope.names.lookup x = _
  rw [G.scope]
  split at h
  · assumption
  · cases h
theorem Good.vis (G : Good C Φ k X W) {x : Str} (h : visB C.sc x = true) : Vis X.env.scope x := by
  unfold visB at h
  unfold Vis
  rw [G.scope]
  split at h
  · exact .inl (by assumption)
  · exact .inr (.inl (by assumption))
  · exact .inr (.inr (by assumption))
  · cases h
theorem Good.loc (G : Good C Φ k X W) {x : Str} (h : locB C x = true) : L2.Loc X.env.scope x ∧ (X.fn x = true ∨ X.env.scope.names.lookup x = some .local) := by
  unfold locB at h
  unfold L2.Loc
  rw [G.scope, G.fn]
  split at h
  · rename_i e; exact ⟨.inl e, .inr e⟩
  · rename_i e; exact ⟨.inr e, .inl h⟩
  · cases h
theorem nameB_ok {x : Str} (h : nameB x = true) : (x == ("__debug__" : Str)) = false ∧ (x == ("__classdict__" : Str)) = false ∧ x ≠ "__name__" := by
  unfold nameB at h
  simp only [Bool.and_eq_true, Bool.not_eq_true', decide_eq_false_iff_not] at h
  exact ⟨h.1.1, h.1.2, h.2⟩
theorem Good.bltIn (G : Good C Φ k X W) {x : Str} (h : bltIn C x = true) : Gl X x ∧ X.mg x = none ∧ x ≠ "__name__" ∧ (x == ("__debug__" : Str)) = false := by
  unfold R.bltIn at h
  simp only [Bool.and_eq_true, decide_eq_true_eq] at h
  obtain ⟨a, b, c⟩ := nameB_ok h.1.2
  exact ⟨G.gl h.1.1, G.blt x h.2, c, a⟩
end
/-! ### shapes of the text -/
theorem star1 {e : Expr} (h : nostar e = true) (es : List Expr) (env : Env) : starEach (e :: es) env = (false, eval e env) :: starEach es env := by
  cases e <;> first | rfl | cases h
theorem stars {es : List Expr} (h : es.all nostar = true) (pos : Pos) (env : Env) : (backTo pos (starEach es env)).any (·.1) = false := by
  induction es with
  | nil => rfl
  | cons e es ih =>
    rw [List.all_cons, Bool.and_eq_true] at h
    rw [star1 h.1]
    show (false || (backTo pos (starEach es env)).any (·.1)) = false
    rw [ih h.2]
    rfl
theorem plainT {e : Expr} (h : plainTest e = true) (env : Env) (whole : Sem Value) : isTrue e env whole = (do let v ← whole; standAt e.pos; holding [v] (truthy v)) := by
  cases e with
  | UnaryOp op x p => cases op <;> first | rfl | cases h
  | BoolOp _ _ _ => cases h
  | IfExp _ _ _ _ => cases h
  | Compare _ _ _ _ => cases h
  | _ => rfl
theorem plainI {e : Expr} (h : plainIx e = true) : PlainIx e := by
  intro o i
  cases e <;> first | rfl | cases h
theorem baseE {e : Expr} (h : baseOk e = true) (nm : Str) (env : Env) (whole : Sem Value) : attributeBase e nm env whole = whole := by
  cases e <;> first | rfl | cases h
theorem noSetE {e : Expr} (h : noSet e = true) (env : Env) (x : Value) : foldedSetIterable e env x = pure x := by
  cases e <;> first | rfl | cases h
theorem noCompE {e : Expr} (h : noComp e = true) (t : Option Expr) (l : Nat) (env : Env) : swapsWith e t l env = pure false := by
  cases e <;> first | rfl | cases h
end R

set_option Elab.async false
set_option linter.all false
set_option maxRecDepth 100000
set_option maxHeartbeats 1000000
/-! R: enumerate(tuple) -/
namespace PySem
open Sem (wp)
open AutoSeq1 (wpAny_loadPart')
theorem meets_enumerate_newT (l : Addr) (items : Array Value) (n : Nat) (dct : Option Addr) (sl : Array (Option Value)) :
    Meets (Builtin.«enumerate.__new__» ⟨[.type "enumerate", .ref l], []⟩) (fun _ R s => s.heap.get? l = some { cls := .type "tuple", dict := dct, data := .seq items n, slots := sl } ∧
      R (.ok (.ret (.ref (s.heap.push { cls := .type "tuple_iterator", data := .fields #[.ref l, .int 0 0] }).objs.size)))
        { s with heap := (s.heap.push { cls := .type "tuple_iterator", data := .fields #[.ref l, .int 0 0] }).push { cls := .type "enumerate", data := .fields #[.none, .bool false, .ref s.heap.objs.size, rawInt 0, .none, .none] } }) :=
  .of_wp fun prog w A R s h => by
    obtain ⟨hp, g, d, tk, os⟩ := s; obtain ⟨hl, h⟩ := h
    have hsub := sub_enumerate
    have hL : Heap.IsTuple (Shared.heap ⟨hp, g, d, tk, os⟩) l items := ⟨_, hl, rfl, n, rfl⟩
    wp_walk using wpAny_loadPart' hl
    refine wpAny_stack_any fun st => wpAny_pure ?_
    split
    · rename_i c _ _ _ _ _
      cases (c == Value.type "enumerate")
      · wp_walk using wpAny_loadPart' hl, wpAny_pyIter_tuple hL
        exact ⟨_, rfl, h⟩
      · wp_walk using wpAny_loadPart' hl, wpAny_pyIter_tuple hL
        exact ⟨_, rfl, h⟩
    · wp_walk using wpAny_loadPart' hl, wpAny_pyIter_tuple hL
      exact ⟨_, rfl, h⟩
section
variable {prog : Program} {w : World} {A : Around} {E : Value → Shared → Prop} {s : Shared}
theorem call_enumerate_tuple {l : Addr} {items : Array Value} {Q : Value → Shared → Prop} (hL : s.heap.IsTuple l items)
    (h : ∀ h', IsEnum h' (s.heap.objs.size + 1) s.heap.objs.size 0 .none → h'.IsTupleIter s.heap.objs.size l 0 → h'.objs.size = s.heap.objs.size + 2 →
      (∀ b o, s.heap.get? b = some o → h'.get? b = some o) → Q (.ref (s.heap.objs.size + 1)) { s with heap := h' }) :
    wpAny (model prog w) A (call (.type "enumerate") [.ref l]) Q E s := by
  obtain ⟨⟨c, dct, dt, sl⟩, hl, hc, n, hd⟩ := hL
  replace hc : c = .type "tuple" := hc
  replace hd : dt = .seq items n := hd
  subst hc hd
  refine callType_new F.called_enumerate (by decide) (F.typeCall_enumerate_1 _) (F.newCall_enumerate_1 _) (fun obj => F.args_object_init_2 obj _) F.entry_enumerate_new
    (meets_enumerate_newT l items n dct sl) ⟨hl, ?_⟩
  have hz : (s.heap.push { cls := .type "tuple_iterator", data := .fields #[.ref l, .int 0 0] }).objs.size = s.heap.objs.size + 1 := Heap.size_push ..
  show _ ∧ _
  rw [hz]
  have he : IsEnum ((s.heap.push { cls := .type "tuple_iterator", data := .fields #[.ref l, .int 0 0] }).push
      { cls := .type "enumerate", data := .fields #[.none, .bool false, .ref s.heap.objs.size, rawInt 0, .none, .none] }) (s.heap.objs.size + 1) s.heap.objs.size 0 .none := by
    have := Heap.get?_push_size (s.heap.push { cls := .type "tuple_iterator", data := .fields #[.ref l, .int 0 0] })
      (o := { cls := .type "enumerate", data := .fields #[.none, .bool false, .ref s.heap.objs.size, rawInt 0, .none, .none] }) rfl
    rw [hz] at this; exact this
  refine ⟨⟨_, he, rfl⟩, h _ he ⟨_, Heap.get?_push_of_some _ (Heap.get?_push_size _ rfl), rfl, rfl⟩ (by rw [Heap.size_push, hz]) fun b o x => Heap.get?_push_of_some _ (Heap.get?_push_of_some _ x)⟩
end
end PySem
namespace R
open PySem PySem.Spec PyProof.Rows L2
def IteT (K : PySem.W.Frag) (a : Addr) : It :=
  ⟨fun i H => ∃ (xs : List V) (x : V), SqT K H a xs ∧ xs[i]? = some x, fun i H v H' => ∃ T x, v = .ref T ∧ H T = none ∧ H' = upd H T (.tup [.int (i : Nat), x]) ∧ ∀ xs, SqT K H a xs → xs[i]? = some x, fun i H => ∃ xs : List V, SqT K H a xs ∧ xs.length ≤ i⟩
theorem turn_enumT {P : Program} {w : World} {K : PySem.W.Frag} {elts : List Expr} {kk : Nat} {tpos : Pos} (a e it : Addr) (hai : a ≠ it) (hae : a ≠ e) :
    Turn P w K (.Tuple elts kk tpos) (IteT K a) [e, it] e (fun i h => (∃ old, IsEnum h e it ((i : Nat) : Int) old) ∧ h.IsTupleIter it a i ∧ e ≠ it) where
  mem := by simp
  obj := fun i h st b hb => by
    obtain ⟨⟨old, he⟩, ⟨o, ho, hc, hd⟩, _⟩ := st
    have e' : b = e ∨ b = it := by simpa using hb
    rcases e' with z | z
    · rw [z]; exact ⟨_, he, fun v q => nomatch q⟩
    · rw [z]; exact ⟨o, ho, fun v q => by rw [hd] at q; cases q⟩
  keep := fun i h h' st k => let ⟨⟨old, he⟩, hi, hne⟩ := st; ⟨⟨old, k e (by simp) _ he⟩, hi.at fun o q => k it (by simp) o q, hne⟩
  item := by
    intro X hP hw hK hc i pins s σ H E I hf st hg
    subst hP hw hK
    obtain ⟨⟨old, he⟩, hit, hne⟩ := st
    obtain ⟨xs, x, hq, hx⟩ := hg
    obtain ⟨its, rv, p, hz⟩ := I.tuple hq
    obtain ⟨u, hu, ru⟩ := rv.get hx
    have hel : e < s.heap.objs.size := Heap.lt_size he
    have hil : it < s.heap.objs.size := by obtain ⟨_, q, _⟩ := hit; exact Heap.lt_size q
    have D := Draws.tuple (prog := X.prog) (w := X.w) (A := X.A.in1) (I.ok.hd hc) it a hai its.toArray
    have hlt : i < its.toArray.size := by
      have := (List.getElem?_eq_some_iff.mp hu).1
      simpa using this
    refine wpAny_pyNext_enum_itemD D he ⟨hit, p⟩ hlt hne (by simp [hne, Ne.symm hae]) fun y h' tk hy ho hit' hT hsz hk => ?_
    have yu : y = u := by
      have : its.toArray[i]? = some u := by simpa using hu
      rw [this] at hy
      cases hy
      rfl
    subst yu
    refine ⟨_, rfl, wpAny_letOwnedTupleGo_enum (s := { s with heap := h', toks := tk + 1 }) ho fun h'' he' sb => ?_⟩
    have hT2 : h''.get? s.heap.objs.size = some { cls := .type "tuple", data := .seq #[.int i tk, y] } := (sb.2 _ (Nat.ne_of_gt hel)).trans hT
    have new : ObjOk X.prog X.w (upd H s.heap.objs.size (.tup [.int (i : Nat), x])) h'' s.heap.objs.size (.tup [.int (i : Nat), x]) :=
      ⟨by show 2 ≤ sizeLine; decide, [.int i tk, y], .cons ⟨_, rfl⟩ (.cons ru .nil), ⟨_, hT2, rfl, _, rfl⟩⟩
    have I1 : Inv X pins σ (upd H s.heap.objs.size (.tup [.int (i : Nat), x])) { s with heap := h'', toks := tk + 1 } :=
      I.turnedNew (ch := [e, it]) (fun b ob hb q => (sb.2 b (fun z => hb (by simp [z]))).trans (hk b ob (fun z => hb (by simp [z])) (fun z => hb (by simp [z])) q)) hf (Nat.le_refl _) new
    refine ⟨.ref s.heap.objs.size, _, I1, rfl, ⟨_, x, rfl, I.hok.fresh (Nat.le_refl _), rfl, fun ys hy => by rw [I.tuple_inj hy hq]; exact hx⟩, ⟨⟨y, ?_⟩, hit'.1.at fun o q => (sb.2 it (Ne.symm hne)).trans q, hne⟩, fun b hb => ?_⟩
    · have e1 : ((i + 1 : Nat) : Int) = (i : Int) + 1 := by omega
      rw [e1]; exact he'
    · have hb' : b < s.heap.objs.size := by
        have e' : b = e ∨ b = it := by simpa using hb
        rcases e' with z | z
        · rw [z]; exact hel
        · rw [z]; exact hil
      rw [upd_ne (Nat.ne_of_lt hb')]
      exact (hf b hb).1
  done := by
    intro X hP hw hK hc i pins s σ H E I hf st hg
    subst hP hw hK
    obtain ⟨⟨old, he⟩, hit, hne⟩ := st
    obtain ⟨xs, hq, hx⟩ := hg
    obtain ⟨its, rv, p, hz⟩ := I.tuple hq
    obtain ⟨f0, f1, f2, f3, f4, f5⟩ := hf it (by simp)
    have hl := rv.length
    have hT : s.TypeIs (.ref e) "enumerate" := ⟨_, he, rfl⟩
    unfold pyNext
    refine wpAny_bind (wpAny_attempt (wpAny_callSpecial?_slot (name := Str.ofString "__next__") hT PySem.F.slot_enumerate_next
      (wpAny_call_entry PySem.F.slot_enumerate_next hT PySem.F.entry_enumerate_next ?_ (PySem.F.args_enumerate_next_1 _))))
    show wpAny _ _ (field (.ref e) 2 >>= _) _ _ _
    refine wpAny_bind (wpAny_field he rfl (x := .ref it) rfl ?_)
    refine wpAny_bind (wpAny_nextOf_tuple_end (I.ok.hd hc) hit p (by simp; omega) fun h' x eb hx' => ?_)
    obtain ⟨o, ho, hc'⟩ := hx'
    refine wpAny_bind (wpAny_isInstance (T := "StopIteration") (b := true) ⟨o, ho, hc'⟩ isSubtype_stop ?_)
    exact wpAny_pure ⟨rfl, I.turned (t' := s.toks) (fun b o hb q => eb b o hb q) f0 f1 f3 f4 f5⟩
  self := fun A i s Q E st h => let ⟨⟨_, he⟩, _⟩ := st; wpAny_pyIter_enum he h
theorem pi_enumT {X : Cx} {e : Expr} {ta : TA} {p pos tpos : Pos} {elts : List Expr} {kk : Nat} (hg : Gl X "enumerate") (hm : X.mg "enumerate" = none) (ha : PA X [e] ta) (hs : starEach [e] X.env = [(false, eval e X.env)] := by rfl) :
    PI X (.Tuple elts kk tpos) (.Call (.Name "enumerate" p) [e] [] pos) (fun σ H R => ta σ H fun vs H1 => ∃ a xs, vs = [.ref a] ∧ ((SqL X.K H1 a xs ∧ R (Ite X.K a) H1) ∨ (SqT X.K H1 a xs ∧ R (IteT X.K a) H1))) := by
  refine ⟨fun pins s σ H R I h => ?_⟩
  refine Call_ (ld_blt I hg hm boot_enumerate (PyProof.Rows.callWith_type1 (thn (ha.run pos pins s σ H _ I h) fun us s1 ⟨vs, H1, I1, r1, q1⟩ => ?_) hs rfl))
  obtain ⟨a, xs, ex, hq⟩ := q1
  subst ex
  cases r1 with
  | cons r rr =>
    cases rr
    cases r
    have fp : ∀ h' : Heap, (∀ b o, s1.heap.get? b = some o → h'.get? b = some o) → ∀ b ∈ [s1.heap.objs.size + 1, s1.heap.objs.size], FpOk X pins H1 b := fun h' hk b hb => by
      have e' : b = s1.heap.objs.size + 1 ∨ b = s1.heap.objs.size := by simpa using hb
      have hle : s1.heap.objs.size ≤ b := by
        rcases e' with z | z
        · rw [z]; exact Nat.le_add_right _ _
        · rw [z]; exact Nat.le_refl _
      exact I1.fpOk hle (I1.hok.fresh hle)
    rcases hq with ⟨hq, q⟩ | ⟨hq, q⟩
    · obtain ⟨its, rv, p', hz⟩ := I1.list hq
      refine call_enumerate_list p'.isList fun h' he hit hsz hk => wpAny_pyIter_enum he ?_
      have I2 : Inv X pins σ H1 { s1 with heap := h' } := I1.kept (t' := s1.toks) hk
      exact ⟨s1.heap.objs.size + 1, [s1.heap.objs.size + 1, s1.heap.objs.size], _, _, H1, rfl, I2, turn_enum a (s1.heap.objs.size + 1) s1.heap.objs.size, ⟨⟨.none, he⟩, hit, Nat.succ_ne_self _⟩, fp h' hk, q⟩
    · obtain ⟨its, rv, p', hz⟩ := I1.tuple hq
      have hal : a < s1.heap.objs.size := by obtain ⟨o, ho, _⟩ := p'; exact Heap.lt_size ho
      refine call_enumerate_tuple (show s1.heap.IsTuple a its.toArray from p') fun h' he hit hsz hk => wpAny_pyIter_enum he ?_
      have I2 : Inv X pins σ H1 { s1 with heap := h' } := I1.kept (t' := s1.toks) hk
      exact ⟨s1.heap.objs.size + 1, [s1.heap.objs.size + 1, s1.heap.objs.size], _, _, H1, rfl, I2, turn_enumT a (s1.heap.objs.size + 1) s1.heap.objs.size (Nat.ne_of_lt hal) (Nat.ne_of_lt (Nat.lt_succ_of_lt hal)), ⟨⟨.none, he⟩, hit, Nat.succ_ne_self _⟩, fp h' hk, q⟩
end R

set_option Elab.async false
set_option linter.all false
set_option maxRecDepth 100000
set_option maxHeartbeats 1000000
/-! R: walks, targets, comprehensions -/
namespace R
open PySem PySem.Spec L2
/-- J walks the items xs, from w on -/
def WalksR (K : PySem.W.Frag) (w : Wd) (xs : List PV) (J : It) : Prop := xs.length ≤ sizeLine ∧ ∀ w1 h1, ExtW w w1 → Rel K w1 h1 →
  (∀ (i : Nat) (p : PV), xs[i]? = some p → J.go i w1.H ∧ ∀ x H', J.yld i w1.H x H' → ∃ w2, w2.H = H' ∧ Ext w1 w2 ∧ Rel K w2 h1 ∧ Rep K w2 p x) ∧ J.stop xs.length w1.H
section
variable {K : PySem.W.Frag} {w : Wd}
theorem walk_tup {a : Addr} {vs : List V} {xs : List PV} (ha : TupAt w a vs) (ra : Reps K w xs vs) : WalksR K w xs (Itt K a) := by
  refine ⟨by rw [ra.length]; exact ha.2.2.2, fun w1 h1 x r => ⟨fun i p e => ?_, vs, (ha.monoW x).sq, by rw [ra.length]; exact Nat.le_refl _⟩⟩
  obtain ⟨v, g1, g2⟩ := ra.get e
  refine ⟨⟨vs, v, (ha.monoW x).sq, g1⟩, fun y H' hy => ?_⟩
  obtain ⟨rfl, hy⟩ := hy
  have := hy vs (ha.monoW x).sq
  rw [g1] at this
  cases this
  exact ⟨w1, rfl, Ext.refl _, r, g2.monoW x⟩
theorem walk_lst {a : Addr} {vs : List V} {xs : List PV} (ha : LstAt w a vs) (ra : Reps K w xs vs) : WalksR K w xs (Itl K a) := by
  refine ⟨by rw [ra.length]; exact ha.2.2.2, fun w1 h1 x r => ⟨fun i p e => ?_, vs, (ha.monoW x).sq, by rw [ra.length]; exact Nat.le_refl _⟩⟩
  obtain ⟨v, g1, g2⟩ := ra.get e
  refine ⟨⟨vs, v, (ha.monoW x).sq, g1⟩, fun y H' hy => ?_⟩
  obtain ⟨rfl, hy⟩ := hy
  have := hy vs (ha.monoW x).sq
  rw [g1] at this
  cases this
  exact ⟨w1, rfl, Ext.refl _, r, g2.monoW x⟩
theorem walk_rng {lo : Int} {n : Nat} (hn : n ≤ sizeLine) : WalksR K w ((List.range n).map fun (k : Nat) => PV.int (lo + (k : Int))) (Itr lo n) := by
  refine ⟨by simpa using hn, fun w1 h1 x r => ⟨fun i p e => ?_, by show n ≤ _; simp⟩⟩
  rw [List.getElem?_map] at e
  cases hi : (List.range n)[i]? with
  | none => rw [hi] at e; cases e
  | some j =>
    rw [hi] at e
    cases e
    rw [List.getElem?_eq_some_iff] at hi
    obtain ⟨hi, hj⟩ := hi
    rw [List.length_range] at hi
    rw [List.getElem_range] at hj
    subst hj
    refine ⟨hi, fun y H' hy => ?_⟩
    obtain ⟨rfl, rfl⟩ := hy
    exact ⟨w1, rfl, Ext.refl _, r, .int _⟩
theorem zipL_get {xs ys : List PV} {i : Nat} {p : PV} (e : (zipL xs ys)[i]? = some p) : ∃ x y, xs[i]? = some x ∧ ys[i]? = some y ∧ p = .tup [x, y] := by
  unfold zipL at e
  rw [List.getElem?_map] at e
  cases hi : (xs.zip ys)[i]? with
  | none => rw [hi] at e; cases e
  | some q =>
    rw [hi] at e
    cases e
    obtain ⟨x, y⟩ := q
    have := List.getElem?_zip_eq_some.mp hi
    exact ⟨x, y, this.1, this.2, rfl⟩
theorem zipL_len (xs ys : List PV) : (zipL xs ys).length = min xs.length ys.length := by
  unfold zipL
  rw [List.length_map, List.length_zip]
theorem tup2 {w1 : Wd} {h1 : PH} {T : Addr} {x y : PV} {u v : V} (r : Rel K w1 h1) (hT : w1.H T = none) (rx : Rep K w1 x u) (ry : Rep K w1 y v) : ∃ w2, w2.H = upd w1.H T (.tup [u, v]) ∧ Ext w1 w2 ∧ Rel K w2 h1 ∧ Rep K w2 (.tup [x, y]) (.ref T) :=
  ⟨w1.add T (.tup [u, v]), rfl, Ext.add hT, r.add hT, r.tup hT (.cons rx (.cons ry .nil)) (by show 2 ≤ sizeLine; decide)⟩
theorem walk_zipT {a b : Addr} {vs us : List V} {xs ys : List PV} (ha : TupAt w a vs) (ra : Reps K w xs vs) (hb : TupAt w b us) (rb : Reps K w ys us) : WalksR K w (zipL xs ys) (RZ.ItzT K a b) := by
  have l1 := ra.length
  have l2 := rb.length
  have l3 := ha.2.2.2
  refine ⟨by rw [zipL_len]; omega, fun w1 h1 x r => ⟨fun i p e => ?_, vs, us, (ha.monoW x).sq, (hb.monoW x).sq, by rw [zipL_len]; omega⟩⟩
  obtain ⟨px, py, e1, e2, rfl⟩ := zipL_get e
  obtain ⟨v, g1, g2⟩ := ra.get e1
  obtain ⟨u, g3, g4⟩ := rb.get e2
  refine ⟨⟨vs, us, v, u, (ha.monoW x).sq, (hb.monoW x).sq, g1, g3⟩, fun z H' hy => ?_⟩
  obtain ⟨T, y1, y2, rfl, hT, rfl, f1, f2⟩ := hy
  have q1 := f1 vs (ha.monoW x).sq
  have q2 := f2 us (hb.monoW x).sq
  rw [g1] at q1
  rw [g3] at q2
  cases q1; cases q2
  exact tup2 r hT (g2.monoW x) (g4.monoW x)
theorem walk_zipL {a b : Addr} {vs us : List V} {xs ys : List PV} (ha : LstAt w a vs) (ra : Reps K w xs vs) (hb : LstAt w b us) (rb : Reps K w ys us) : WalksR K w (zipL xs ys) (Itz K a b) := by
  have l1 := ra.length
  have l2 := rb.length
  have l3 := ha.2.2.2
  refine ⟨by rw [zipL_len]; omega, fun w1 h1 x r => ⟨fun i p e => ?_, vs, us, (ha.monoW x).sq, (hb.monoW x).sq, by rw [zipL_len]; omega⟩⟩
  obtain ⟨px, py, e1, e2, rfl⟩ := zipL_get e
  obtain ⟨v, g1, g2⟩ := ra.get e1
  obtain ⟨u, g3, g4⟩ := rb.get e2
  refine ⟨⟨vs, us, v, u, (ha.monoW x).sq, (hb.monoW x).sq, g1, g3⟩, fun z H' hy => ?_⟩
  obtain ⟨T, y1, y2, rfl, hT, rfl, f1, f2⟩ := hy
  have q1 := f1 vs (ha.monoW x).sq
  have q2 := f2 us (hb.monoW x).sq
  rw [g1] at q1
  rw [g3] at q2
  cases q1; cases q2
  exact tup2 r hT (g2.monoW x) (g4.monoW x)
theorem walk_enm {a : Addr} {vs : List V} {xs : List PV} (ha : LstAt w a vs) (ra : Reps K w xs vs) : WalksR K w (enumL xs) (Ite K a) := by
  have l1 := ra.length
  have l3 := ha.2.2.2
  have le : (enumL xs).length = xs.length := by unfold enumL; simp
  refine ⟨by omega, fun w1 h1 x r => ⟨fun i p e => ?_, vs, (ha.monoW x).sq, by omega⟩⟩
  have e' : ∃ q, xs[i]? = some q ∧ p = .tup [.int (i : Nat), q] := by
    unfold enumL at e
    rw [List.getElem?_map, List.getElem?_zipIdx] at e
    cases hi : xs[i]? with
    | none => rw [hi] at e; cases e
    | some q =>
      rw [hi] at e
      cases e
      exact ⟨q, rfl, by simp⟩
  obtain ⟨q, e1, rfl⟩ := e'
  obtain ⟨v, g1, g2⟩ := ra.get e1
  refine ⟨⟨vs, v, (ha.monoW x).sq, g1⟩, fun z H' hy => ?_⟩
  obtain ⟨T, y1, rfl, hT, rfl, f1⟩ := hy
  have q1 := f1 vs (ha.monoW x).sq
  rw [g1] at q1
  cases q1
  exact tup2 r hT (.int _) (g2.monoW x)
theorem walk_enmT {a : Addr} {vs : List V} {xs : List PV} (ha : TupAt w a vs) (ra : Reps K w xs vs) : WalksR K w (enumL xs) (IteT K a) := by
  have l1 := ra.length
  have l3 := ha.2.2.2
  have le : (enumL xs).length = xs.length := by unfold enumL; simp
  refine ⟨by omega, fun w1 h1 x r => ⟨fun i p e => ?_, vs, (ha.monoW x).sq, by omega⟩⟩
  have e' : ∃ q, xs[i]? = some q ∧ p = .tup [.int (i : Nat), q] := by
    unfold enumL at e
    rw [List.getElem?_map, List.getElem?_zipIdx] at e
    cases hi : xs[i]? with
    | none => rw [hi] at e; cases e
    | some q =>
      rw [hi] at e
      cases e
      exact ⟨q, rfl, by simp⟩
  obtain ⟨q, e1, rfl⟩ := e'
  obtain ⟨v, g1, g2⟩ := ra.get e1
  refine ⟨⟨vs, v, (ha.monoW x).sq, g1⟩, fun z H' hy => ?_⟩
  obtain ⟨T, y1, rfl, hT, rfl, f1⟩ := hy
  have q1 := f1 vs (ha.monoW x).sq
  rw [g1] at q1
  cases q1
  exact tup2 r hT (.int _) (g2.monoW x)
end
/-- a list or a tuple, walked -/
theorem pi_seq {X : Cx} {tg l : Expr} {tl : TE} (hl : PE X l tl) :
    PI X tg l (fun σ H R => tl σ H fun x H1 => ∃ a, x = .ref a ∧ (((∃ xs, SqL X.K H1 a xs) ∧ R (Itl X.K a) H1) ∨ ((∃ xs, SqT X.K H1 a xs) ∧ R (Itt X.K a) H1))) := by
  refine ⟨fun pins s σ H R I h => thn (hl.run pins s σ H _ I h) fun v s1 z => ?_⟩
  obtain ⟨x, H1, I1, r1, a, rfl, q⟩ := z
  cases r1
  have fp : ∀ b ∈ [s1.heap.objs.size], FpOk X pins H1 b := fun b hb => by
    rw [List.mem_singleton.mp hb]
    exact I1.fpOk (Nat.le_refl _) (I1.hok.fresh (Nat.le_refl _))
  rcases q with ⟨⟨xs, hq⟩, q⟩ | ⟨⟨xs, hq⟩, q⟩
  · obtain ⟨its, rv, p, hz⟩ := I1.list hq
    refine wpAny_pyIter_list p.isList ⟨s1.heap.objs.size, [s1.heap.objs.size], _, _, H1, rfl, I1.kept (t' := s1.toks) fun b o e => Heap.get?_push_of_some _ e, turn_list a _, ?_, fp, q⟩
    exact ⟨_, Heap.get?_push_size _ rfl, rfl, rfl⟩
  · obtain ⟨its, rv, p, hz⟩ := I1.tuple hq
    refine wpAny_pyIter_tuple (show s1.heap.IsTuple a its.toArray from p) ⟨s1.heap.objs.size, [s1.heap.objs.size], _, _, H1, rfl, I1.kept (t' := s1.toks) fun b o e => Heap.get?_push_of_some _ e, turn_tuple a _, ?_, fp, q⟩
    exact ⟨_, Heap.get?_push_size _ rfl, rfl, rfl⟩
theorem PI.imp {X : Cx} {tg it : Expr} {t t' : TI} (h : PI X tg it t) (i : ∀ σ H R, t' σ H R → t σ H R) : PI X tg it t' := ⟨fun pins s σ H R I q => h.run pins s σ H R I (i σ H R q)⟩
/-! ### targets -/
def gGs : List Nat → TGs
  | [] => gNil
  | i :: is => gCons (gName i) (gGs is)
def gG (K : PySem.W.Frag) : G → TG
  | .name i => gName i
  | .tup is => gTup K is.length (gGs is)
section
variable {C : CC} {Φ : Fns} {k : Nat} {X : Cx} {W : WX}
theorem pg_one (G : Good C Φ k X W) {i : Nat} {x : Str} {pos : Pos} (h1 : locB C x = true) (h2 : C.N[i]? = some x) : PG X (.Name x pos) (gName i) :=
  pg_name (by rw [G.names]; exact G.nd) (by rw [G.names]; exact h2) (G.loc h1).1 (G.loc h1).2
theorem chkGs_len {is : List Nat} {es : List Expr} (h : chkGs C is es = true) : es.length = is.length := by
  induction is generalizing es with
  | nil => cases es with
    | nil => rfl
    | cons _ _ => cases h
  | cons i is ih => cases es with
    | nil => cases h
    | cons e es =>
      simp only [chkGs, Bool.and_eq_true] at h
      rw [List.length_cons, List.length_cons, ih h.2]
theorem assignEach1 {e : Expr} (h : nostar e = true) (es : List Expr) (env : Env) : assignEach (e :: es) env = (false, assign e env) :: assignEach es env := by
  cases e <;> first | rfl | cases h
theorem pg_many (G : Good C Φ k X W) : ∀ {is : List Nat} {es : List Expr}, chkGs C is es = true → PGs X es (gGs is) ∧ (assignEach es X.env).length = is.length ∧ (assignEach es X.env).findIdx? (·.1) = none
  | [], [], _ => ⟨pgs_nil, rfl, rfl⟩
  | [], _ :: _, h => by cases h
  | _ :: _, [], h => by cases h
  | i :: is, e :: es, h => by
    simp only [chkGs, Bool.and_eq_true] at h
    obtain ⟨h1, h2⟩ := h
    split at h1
    · rename_i x pos
      rw [Bool.and_eq_true, decide_eq_true_eq] at h1
      obtain ⟨p1, p2, p3⟩ := pg_many G h2
      have e1 := assignEach1 (e := .Name x pos) rfl es X.env
      refine ⟨pgs_cons (pg_one G h1.1 h1.2) p1 (by rw [e1]; rfl), by rw [e1, List.length_cons, p2, List.length_cons], ?_⟩
      rw [e1, List.findIdx?_cons, p3]
      rfl
    · cases h1
theorem pg_V (G : Good C Φ k X W) {g : R.G} {tg : Expr} (h : chkG C g tg = true) : PG X tg (gG X.K g) := by
  cases g with
  | name i =>
    simp only [chkG] at h
    split at h
    · rw [Bool.and_eq_true, decide_eq_true_eq] at h
      exact pg_one G h.1 h.2
    · cases h
  | tup is =>
    simp only [chkG] at h
    split at h
    · obtain ⟨p1, p2, p3⟩ := pg_many G h
      exact pg_tup G.calm p1 p2 p3
    · cases h
end
section
variable {K : PySem.W.Frag} {w : Wd}
theorem putAll_ok : ∀ {is : List Nat} {xs : List PV} {vs : List V} {ρ ρ' : Sl} {σ : St} {H : Hp} {Q : St → Hp → Prop}, putAll is xs ρ = some ρ' → Reps K w xs vs → SloR K w σ ρ → (∀ σ', SloR K w σ' ρ' → Q σ' H) → gGs is vs σ H Q
  | [], [], _, _, _, _, _, _, e, .nil, s, q => by
    simp only [putAll, Option.some.injEq] at e
    subst e
    exact ⟨rfl, q _ s⟩
  | i :: is, x :: xs, _, _, _, _, _, _, e, .cons r t, s, q => by
    simp only [putAll] at e
    exact ⟨_, _, rfl, putAll_ok e t (s.put r i) q⟩
  | [], _ :: _, _, _, _, _, _, _, e, _, _, _ => by cases e
  | _ :: _, [], _, _, _, _, _, _, e, _, _, _ => by cases e
theorem put_ok {g : G} {p : PV} {v : V} {ρ ρ' : Sl} {σ : St} {Q : St → Hp → Prop} (e : g.put p ρ = some ρ') (r : Rep K w p v) (s : SloR K w σ ρ) (q : ∀ σ', SloR K w σ' ρ' → Q σ' w.H) : gG K g v σ w.H Q := by
  cases g with
  | name i =>
    simp only [G.put, Option.some.injEq] at e
    subst e
    exact q _ (s.put r i)
  | tup is =>
    cases p with
    | tup xs =>
      simp only [G.put] at e
      cases r with
      | tup ha ra =>
      refine ⟨_, _, rfl, ha.sq, ?_, putAll_ok e ra s q⟩
      rw [← ra.length]
      have key : ∀ {is : List Nat} {xs : List PV} {ρ ρ' : Sl}, putAll is xs ρ = some ρ' → xs.length = is.length := by
        intro is
        induction is with
        | nil => intro xs ρ ρ' e; cases xs with
          | nil => rfl
          | cons _ _ => cases e
        | cons i is ih => intro xs ρ ρ' e; cases xs with
          | nil => cases e
          | cons x xs => simp only [putAll] at e; rw [List.length_cons, List.length_cons, ih e]
      exact key e
    | _ => cases e
end
/-! ### slots that a target writes are forgotten -/
theorem wipe_set {σ : St} {i : Nat} {v : Option V} : ∀ {vs : List Nat}, i ∈ vs → L2.wipe (σ.set i v) vs = L2.wipe σ vs
  | j :: vs, h => by
    show (L2.wipe (σ.set i v) vs).set j none = (L2.wipe σ vs).set j none
    by_cases hij : i ∈ vs
    · rw [wipe_set hij]
    · have e : i = j := by
        rcases List.mem_cons.mp h with e | h
        · exact e
        · exact absurd h hij
      subst e
      have out : ∀ (ws : List Nat), i ∉ ws → L2.wipe (σ.set i v) ws = (L2.wipe σ ws).set i v := by
        intro ws
        induction ws with
        | nil => intro _; rfl
        | cons u us ih =>
          intro hu
          show (L2.wipe (σ.set i v) us).set u none = ((L2.wipe σ us).set u none).set i v
          rw [ih fun z => hu (List.mem_cons_of_mem _ z)]
          exact List.set_comm _ _ (fun z => hu (by rw [z]; exact List.mem_cons_self))
      rw [out vs hij, List.set_set]
theorem wipe_wipe (σ : St) : ∀ vs : List Nat, (∀ i ∈ vs, True) → L2.wipe (L2.wipe σ vs) vs = L2.wipe σ vs := by
  have key : ∀ (us vs : List Nat), (∀ i ∈ us, i ∈ vs) → L2.wipe (L2.wipe σ us) vs = L2.wipe σ vs := by
    intro us
    induction us with
    | nil => intro vs _; rfl
    | cons u us ih =>
      intro vs h
      show L2.wipe ((L2.wipe σ us).set u none) vs = _
      rw [wipe_set (h u List.mem_cons_self), ih vs fun i hi => h i (List.mem_cons_of_mem _ hi)]
  intro vs _
  exact key vs vs fun _ h => h
theorem gGs_wipe {vs : List Nat} : ∀ {is : List Nat} {xs : List V} {σ : St} {H : Hp} {Q : St → Hp → Prop}, (∀ i ∈ is, i ∈ vs) → gGs is xs σ H Q → gGs is xs σ H fun σ2 H2 => L2.wipe σ2 vs = L2.wipe σ vs ∧ Q σ2 H2
  | [], _, _, _, _, _, h => ⟨h.1, rfl, h.2⟩
  | i :: is, xs, σ, H, Q, hm, h => by
    obtain ⟨v, r, rfl, h⟩ := h
    refine ⟨v, r, rfl, ?_⟩
    have h : gGs is r (σ.set i (some v)) H Q := h
    have h2 := gGs_wipe (fun j hj => hm j (List.mem_cons_of_mem _ hj)) h
    rw [wipe_set (hm i List.mem_cons_self)] at h2
    exact h2
theorem gG_wipe {K : PySem.W.Frag} {vs : List Nat} {g : G} {x : V} {σ : St} {H : Hp} {Q : St → Hp → Prop} (hm : ∀ i ∈ g.slots, i ∈ vs) (h : gG K g x σ H Q) : gG K g x σ H fun σ2 H2 => L2.wipe σ2 vs = L2.wipe σ vs ∧ Q σ2 H2 := by
  cases g with
  | name i => exact ⟨wipe_set (hm i List.mem_cons_self), h⟩
  | tup is =>
    obtain ⟨a, xs, e, hs, hl, h⟩ := h
    exact ⟨a, xs, e, hs, hl, gGs_wipe hm h⟩
/-! ### comprehensions -/
section
variable {K : PySem.W.Frag} {W : WX}
/-- one turn's result, in the block -/
def lcF (g : G) (ρ0 : Sl) (t : Sl → PH → Res Bool) (e : Sl → PH → Res PV) : PV → PH → Res (List PV) := fun x hh => optR (g.put x ρ0) hh fun ρ' =>
  (t ρ' hh).bind fun b h2 => if b = true then (e ρ' h2).bind fun y h3 => .ok [y] h3 else .ok [] h2
abbrev WF : WX := fun _ _ _ _ => False
theorem wipe_id (σ : St) (vs : List Nat) : L2.wipe (L2.wipe σ vs) vs = L2.wipe σ vs := wipe_wipe σ vs fun _ _ => trivial
theorem lc_snd {live : Bool} {own : List Nat} {g : G} {di : Sl → PH → Res (List PV)} {dt : Sl → PH → Res Bool} {de : Sl → PH → Res PV} {σ : St} {H : Hp} {Q : VK} (hm : ∀ i ∈ g.slots, i ∈ own)
    (t : tD K W (fun ρ h => (di ρ h).bind fun xs h1 => (lcL (lcF g (wipeP ρ own) dt de) xs h1).nox.bind fun ys h4 => newLst live ys h4) σ H Q) :
    tLc (tDen K W (WalksR K) di) (gG K g) (tDb K WF dt) (tD K WF de) own σ H Q := by
  obtain ⟨w0, ρ, h0, at0, p0⟩ := t
  refine tDen.mono (bindE (rep := WalksR K) at0 p0) ?_
  rintro J H1 ⟨w1, h1, xs, x01, at1, wk, p1⟩ D hD
  obtain ⟨eH, rel1, sl1⟩ := at1
  subst eH
  refine ⟨fun i m H => m = xs.length - i ∧ i ≤ xs.length ∧ ∃ w2 h2 acc accv, w2.H = H ∧ Ext w1 w2 ∧ D ∈ w2.B ∧ Rel K w2 h2 ∧ w2.H D = some (.lst accv) ∧ Reps K w2 acc accv ∧ accv.length ≤ i ∧
    PostE K W (Rep K) w1 σ ((lcL (lcF g (wipeP ρ own) dt de) (xs.drop i) h2).nox.bind fun zs h4 => newLst live (acc ++ zs) h4) Q, ?_, ?_⟩
  · refine ⟨xs.length, by simp, Nat.zero_le _, w1.busyD D (.lst []), h1, [], [], rfl, Ext.busyD hD, List.mem_cons_self, rel1.busyD hD, upd_same, .nil, Nat.zero_le _, ?_⟩
    simpa using p1
  · rintro i m H ⟨rfl, hi, w2, h2, acc, accv, rfl, x12, hDB, rel2, hDL, rac, hac, p2⟩
    obtain ⟨wkg, wks⟩ := wk.2 w2 h2 x12.weak rel2
    by_cases hlt : i < xs.length
    · have ei : xs[i]? = some xs[i] := List.getElem?_eq_getElem hlt
      obtain ⟨hgo, hy⟩ := wkg i _ ei
      have ed : xs.drop i = xs[i] :: xs.drop (i + 1) := List.drop_eq_getElem_cons hlt
      rw [ed] at p2
      refine .inr ⟨hgo, fun H' => ∃ w3 h3 acc3 accv3, w3.H = H' ∧ Ext w1 w3 ∧ D ∈ w3.B ∧ Rel K w3 h3 ∧ w3.H D = some (.lst accv3) ∧ Reps K w3 acc3 accv3 ∧ accv3.length ≤ i + 1 ∧
        PostE K W (Rep K) w1 σ ((lcL (lcF g (wipeP ρ own) dt de) (xs.drop (i + 1)) h3).nox.bind fun zs h4 => newLst live (acc3 ++ zs) h4) Q, fun H' hN => ⟨xs.length - (i + 1), by omega, rfl, hlt, hN⟩, fun x H' hyl => ?_⟩
      obtain ⟨w3, rfl, x23, rel3, rp3⟩ := hy x H' hyl
      have hDL3 := x23.keep D _ hDL (rel2.busy D hDB).2
      have sl3 : SloR K w3 (L2.wipe σ own) (wipeP ρ own) := (sl1.mono (x12.trans x23)).wipe own
      -- the turn's result
      simp only [lcL] at p2
      cases hp : g.put xs[i] (wipeP ρ own) with
      | none =>
        simp only [lcF, hp, optR, Res.bind_bad, Res.nox_bad] at p2
        exact p2.elim
      | some ρ' =>
        have gw : gG K g x (L2.wipe σ own) w3.H fun σ2 H2 => L2.wipe σ2 own = L2.wipe (L2.wipe σ own) own ∧ (H2 = w3.H ∧ SloR K w3 σ2 ρ') :=
          gG_wipe hm (put_ok hp rp3 sl3 fun σ' hs => ⟨rfl, hs⟩)
        have gmono : ∀ {Q Q' : St → Hp → Prop}, (∀ σ H, Q σ H → Q' σ H) → gG K g x (L2.wipe σ own) w3.H Q → gG K g x (L2.wipe σ own) w3.H Q' := by
          intro Q Q' hq hg
          cases g with
          | name j => exact hq _ _ hg
          | tup is =>
            obtain ⟨a, ys, e, hs, hl, hg⟩ := hg
            refine ⟨a, ys, e, hs, hl, ?_⟩
            have key : ∀ (is : List Nat) (ys : List V) (τ : St), gGs is ys τ w3.H Q → gGs is ys τ w3.H Q' := by
              intro is
              induction is with
              | nil => intro ys τ hz; exact ⟨hz.1, hq _ _ hz.2⟩
              | cons j js ih =>
                intro ys τ hz
                obtain ⟨v, r, e, hz⟩ := hz
                exact ⟨v, r, e, ih r _ hz⟩
            exact key is ys _ hg
        refine gmono ?_ gw
        rintro σ2 H2 ⟨hw, rfl, sl⟩
        rw [wipe_id] at hw
        refine ⟨hw, ?_⟩
        simp only [lcF, hp, optR] at p2
        have at3 : At K w3 σ2 w3.H ρ' h2 := ⟨rfl, rel3, sl⟩
        -- the test
        refine ⟨w3, ρ', h2, at3, ?_⟩
        cases ht : dt ρ' h2 with
        | bad => simp only [ht, Res.bind_bad, Res.nox_bad] at p2; exact p2.elim
        | exc y hh => simp only [ht, Res.bind_exc, Res.nox, Res.bind_bad] at p2; exact p2.elim
        | ok b hb =>
          simp only [ht, Res.bind_ok] at p2
          intro w4 b' x34 rel4 eb
          subst eb
          have hDL4 := x34.keep D _ hDL3.1 hDL3.2.1
          cases b with
          | false =>
            simp only [Bool.false_eq_true, if_false, Res.bind_ok] at p2 ⊢
            refine ⟨w4, hb, acc, accv, rfl, (x12.trans x23).trans x34, hDL4.2.2.mpr (hDL3.2.2.mpr hDB), rel4, hDL4.1, rac.mono (x23.trans x34), by omega, ?_⟩
            cases hr : lcL (lcF g (wipeP ρ own) dt de) (xs.drop (i + 1)) hb with
            | bad => simp only [hr, Res.bind_bad, Res.nox_bad] at p2; exact p2.elim
            | exc y hh => simp only [hr, Res.bind_exc, Res.nox, Res.bind_bad] at p2; exact p2.elim
            | ok zs hz => simp only [hr, Res.bind_ok, Res.nox_ok, List.nil_append] at p2 ⊢; exact p2
          | true =>
            simp only [if_true] at p2 ⊢
            refine ⟨w4, ρ', hb, at3.ext x34 rel4, ?_⟩
            cases he : de ρ' hb with
            | bad => simp only [he, Res.bind_bad, Res.nox_bad] at p2; exact p2.elim
            | exc y hh => simp only [he, Res.bind_exc, Res.nox, Res.bind_bad] at p2; exact p2.elim
            | ok y hy2 =>
              simp only [he, Res.bind_ok] at p2
              intro w5 yv x45 rel5 ry
              have hDL5 := x45.keep D _ hDL4.1 hDL4.2.1
              have hDB5 : D ∈ w5.B := hDL5.2.2.mpr (hDL4.2.2.mpr (hDL3.2.2.mpr hDB))
              have hzl : i < sizeLine := Nat.lt_of_lt_of_le hlt wk.1
              refine ⟨accv, hDL5.1, by omega, w5.add D (.lst (accv ++ [yv])), hy2, acc ++ [y], accv ++ [yv], rfl, ?_, hDB5, rel5.fill hDB5 hDL5.1, upd_same, ?_, by rw [List.length_append, List.length_singleton]; omega, ?_⟩
              · have x15 := ((x12.trans x23).trans x34).trans x45
                obtain ⟨l, el⟩ := x15.pre
                refine ⟨⟨l, el⟩, fun a o h n => ?_⟩
                obtain ⟨k1, k2, k3⟩ := x15.keep a o h n
                exact ⟨by show upd w5.H D _ a = _; rw [upd_ne (ne_of_none h hD)]; exact k1, k2, k3⟩
              · exact ((rac.mono ((x23.trans x34).trans x45)).append (.cons ry .nil)).fill hDB5 hDL5.1
              · cases hr : lcL (lcF g (wipeP ρ own) dt de) (xs.drop (i + 1)) hy2 with
                | bad => simp only [hr, Res.bind_bad, Res.nox_bad] at p2; exact p2.elim
                | exc y hh => simp only [hr, Res.bind_exc, Res.nox, Res.bind_bad] at p2; exact p2.elim
                | ok zs hz => simp only [hr, Res.bind_ok, Res.nox_ok, List.singleton_append, List.append_assoc] at p2 ⊢; exact p2
    · have ei : i = xs.length := by omega
      subst ei
      refine .inl ⟨wks, ?_⟩
      rw [List.drop_length] at p2
      simp only [lcL, Res.nox_ok, Res.bind_ok, List.append_nil, newLst] at p2
      have hl2 : accv.length ≤ sizeLine := Nat.le_trans hac wk.1
      cases live with
      | false =>
        simp only [Bool.false_eq_true, if_false] at p2
        refine p2 (w2.done D false) (.ref D) (x12.done hD) (rel2.done (live := false) hDB hDL rac hl2) (.lst ⟨hDL, (rel2.busy D hDB).2, ?_, hl2⟩ (rac.done hDB hDL))
        intro z
        exact (of_decide_eq_true (List.mem_filter.mp z).2) rfl
      | true =>
        simp only [if_true] at p2
        refine p2 (w2.done D true) (.ref D) (x12.done hD) (rel2.done (live := true) hDB hDL rac hl2) (.ref ?_)
        show (w2.M ++ [D])[h2.length]? = some D
        rw [← rel2.len, List.getElem?_append_right (Nat.le_refl _)]
        simp
end
end R

set_option Elab.async false
set_option linter.all false
set_option maxRecDepth 100000
set_option maxHeartbeats 1000000
/-! R: each form of the small language keeps its word -/
namespace R
open PySem PySem.Spec L2
section
variable {X : Cx} {W : WX} {a b c : Expr} {pos : Pos} {da db dc : Sl → PH → Res PV}
theorem tOne {K : PySem.W.Frag} {da : Sl → PH → Res PV} {r : PV → PH → Option PV} {σ : St} {H : Hp} {Q : VK} (t : tD K W (fun ρ h => (da ρ h).bind fun p h1 => Res.of (r p h1) h1) σ H Q) :
    tD K W da σ H fun x H1 => ∃ w p h res, w.H = H1 ∧ Rel K w h ∧ Rep K w p x ∧ r p h = some res ∧ Aft K w h res Q := by
  obtain ⟨w, ρ, h, at_, p⟩ := t
  refine tDen.mono (bindE (rep := Rep K) at_ p) ?_
  rintro x H1 ⟨w1, h1, p1, x1, at1, r1, q1⟩
  obtain ⟨res, e, aft⟩ := postOf q1
  exact ⟨w1, p1, h1, res, at1.heap, at1.rel, r1, e, aft⟩
theorem tTwo {K : PySem.W.Frag} {da db : Sl → PH → Res PV} {γ δ : Type} {rep : Wd → γ → δ → Prop} {r : PV → PV → PH → Res γ} {σ : St} {H : Hp} {Q : δ → Hp → Prop}
    (t : tDen K W rep (fun ρ h => (da ρ h).bind fun p h1 => (db ρ h1).bind fun q h2 => r p q h2) σ H Q) :
    tD K W da σ H fun x H1 => tD K W db σ H1 fun y H2 => ∃ w ρ p q h, At K w σ H2 ρ h ∧ Rep K w p x ∧ Rep K w q y ∧ PostE K W rep w σ (r p q h) Q := by
  obtain ⟨w, ρ, h, at_, p⟩ := t
  refine tDen.mono (bindE (rep := Rep K) at_ p) ?_
  rintro x H1 ⟨w1, h1, p1, x1, at1, r1, q1⟩
  refine tDen.mono (bindE (rep := Rep K) at1 q1) ?_
  rintro y H2 ⟨w2, h2, p2, x2, at2, r2, q2⟩
  exact ⟨w2, ρ, p1, p2, h2, at2, r1.mono x2, r2, q2⟩
theorem se_var {i : Nat} {x : Str} (hN : X.N[i]? = some x) (hv : Vis X.env.scope x) (h1 : (x == ("__debug__" : Str)) = false) (h2 : (x == ("__classdict__" : Str)) = false) : PE X (.Name x pos) (tD X.K W fun ρ h => Res.of (ρ[i]?.join) h) := by
  refine PE.imp (pe_var hN hv h1 h2) fun σ H Q t => ?_
  obtain ⟨w, ρ, h, at_, p⟩ := t
  obtain ⟨p0, e, aft⟩ := postOf p
  have e' : ρ[i]? = some (some p0) := by
    cases hi : ρ[i]? with
    | none => rw [hi] at e; cases e
    | some o => rw [hi] at e; cases o with
      | none => cases e
      | some q => cases e; rfl
  obtain ⟨v, g1, g2⟩ := at_.sl.at_ i p0 e'
  refine ⟨v, g1, ?_⟩
  have := aft w v (Ext.refl w) at_.rel g2
  rw [at_.heap] at this
  exact this
theorem tC_of {c : SC} {σ : St} {H : Hp} {Q : VK} (t : tD X.K W (fun _ h => .ok c.pv h) σ H Q) : Q c.v H := by
  obtain ⟨w, ρ, h, at_, p⟩ := t
  have r : Rep X.K w c.pv c.v := by cases c <;> constructor
  have := p w _ (Ext.refl w) at_.rel r
  rw [at_.heap] at this
  exact this
theorem se_con {c : SC} {k : Const} {n : Nat} (h : constB c k = true) : PE X (.Constant k n pos) (tD X.K W fun _ h => .ok c.pv h) := by
  cases c <;> cases k <;> first | (cases h; done) | skip
  · exact PE.imp pe_non fun σ H Q t => tC_of t
  · have e := eq_of_beq h
    subst e
    exact PE.imp pe_bl fun σ H Q t => tC_of t
  · have e := of_decide_eq_true h
    subst e
    exact PE.imp pe_int fun σ H Q t => tC_of t
  · have e := of_decide_eq_true h
    subst e
    exact PE.imp pe_str fun σ H Q t => tC_of t
theorem se_glb {c : SC} {x : Str} {u : Value} (hg : Gl X x) (hm : X.mg x = some u) (r : RelV c.v u) (hd : (x == ("__debug__" : Str)) = false) : PE X (.Name x pos) (tD X.K W fun _ h => .ok c.pv h) :=
  PE.imp (pe_glob hg hm r hd) fun σ H Q t => tC_of t
theorem se_bin (o : BinO) (ha : PE X a (tD X.K W da)) (hb : PE X b (tD X.K W db)) : PE X (.BinOp a o.op b pos) (tD X.K W fun ρ h => (da ρ h).bind fun p h1 => (db ρ h1).bind fun q h2 => Res.of (binop o (see h2 p) (see h2 q)) h2) := by
  refine PE.imp (pe_op (op_bin o) ha hb) fun σ H Q t => ?_
  refine tDen.mono (tTwo (rep := Rep X.K) (r := fun p q h2 => Res.of (binop o (see h2 p) (see h2 q)) h2) t) fun x H1 t1 => tDen.mono t1 ?_
  rintro y H2 ⟨w, ρ, p, q, h, at_, r1, r2, q2⟩
  obtain ⟨res, e, aft⟩ := postOf q2
  exact ⟨w, _, _, h, res, at_.heap, at_.rel, see_ok at_.rel r1, see_ok at_.rel r2, e, aft⟩
theorem se_neg (ha : PE X a (tD X.K W da)) : PE X (.UnaryOp .USub a pos) (tD X.K W fun ρ h => (da ρ h).bind fun p h1 => Res.of ((intV p).map fun i => .int (-i)) h1) := by
  refine PE.imp (pe_un un_neg ha) fun σ H Q t => ?_
  refine tDen.mono (tOne (r := fun p _ => (intV p).map fun i => .int (-i)) t) ?_
  rintro x H1 ⟨w, p, h, res, rfl, rel, rp, e, aft⟩
  unfold intV at e
  split at e
  · cases e; cases rp
    exact ⟨_, rfl, aft.now rel (.int _)⟩
  · cases e
theorem se_cmp (o : CmpO) (hu : X.A.units + 65 < cLine) (hm : behindInMarks o.op b = false) (ha : PE X a (tD X.K W da)) (hb : PE X b (tD X.K W db)) : PE X (.Compare a [o.op] [b] pos) (tD X.K W fun ρ h => (da ρ h).bind fun p h1 => (db ρ h1).bind fun q h2 => Res.of ((cmpop o (see h2 p) (see h2 q)).map .bl) h2) := by
  refine PE.imp (pe_cmpR (op_cmpV hu o) ha hb hm) fun σ H Q t => ?_
  refine tDen.mono (tTwo (rep := Rep X.K) (r := fun p q h2 => Res.of ((cmpop o (see h2 p) (see h2 q)).map .bl) h2) t) fun x H1 t1 => tDen.mono t1 ?_
  rintro y H2 ⟨w, ρ, p, q, h, at_, r1, r2, q2⟩
  obtain ⟨res, e, aft⟩ := postOf q2
  cases hc : cmpop o (see h p) (see h q) with
  | none => rw [hc] at e; cases e
  | some k =>
    rw [hc] at e
    cases e
    refine ⟨w, _, _, h, k, at_.heap, at_.rel, see_ok at_.rel r1, see_ok at_.rel r2, hc, ?_⟩
    have := aft w _ (Ext.refl w) at_.rel (.bl k)
    rw [at_.heap] at this
    exact this
theorem st_cmp (o : CmpO) (hu : X.A.units + 65 < cLine) (hm : behindInMarks o.op b = false) (ha : PE X a (tD X.K W da)) (hb : PE X b (tD X.K W db)) : PT X (.Compare a [o.op] [b] pos) (tDb X.K W fun ρ h => (da ρ h).bind fun p h1 => (db ρ h1).bind fun q h2 => Res.of (cmpop o (see h2 p) (see h2 q)) h2) := by
  refine PT.imp (pt_cmpR (op_cmpV hu o) ha hb hm) fun σ H Q t => ?_
  refine tDen.mono (tTwo (rep := fun _ p v => p = v) (r := fun p q h2 => Res.of (cmpop o (see h2 p) (see h2 q)) h2) t) fun x H1 t1 => tDen.mono t1 ?_
  rintro y H2 ⟨w, ρ, p, q, h, at_, r1, r2, q2⟩
  obtain ⟨k, e, aft⟩ := postOf q2
  refine ⟨w, _, _, h, k, at_.heap, at_.rel, see_ok at_.rel r1, see_ok at_.rel r2, e, k, rfl, ?_⟩
  have := aft w k (Ext.refl w) at_.rel rfl
  rw [at_.heap] at this
  exact this
/-- a < b < c -/
theorem tThree {K : PySem.W.Frag} {da db dc : Sl → PH → Res PV} {γ δ : Type} {rep : Wd → γ → δ → Prop} (o o' : CmpO) {f : Option Bool → Option γ} {r0 : γ} {σ : St} {H : Hp} {Q : δ → Hp → Prop}
    (t : tDen K W rep (fun ρ h => (da ρ h).bind fun p h1 => (db ρ h1).bind fun q h2 => (Res.of (cmpop o (see h2 p) (see h2 q)) h2).bind fun k h3 => if k = true then (dc ρ h3).bind fun r h4 => Res.of (f (cmpop o' (see h4 q) (see h4 r))) h4 else .ok r0 h3) σ H Q) :
    tD K W da σ H fun x H1 => tD K W db σ H1 fun y H2 => ∃ w p q h k, w.H = H2 ∧ Rel K w h ∧ Sees K w p x ∧ Sees K w q y ∧ cmpop o p q = some k ∧
      (if k = true then tD K W dc σ H2 fun z H4 => ∃ w p q h g, w.H = H4 ∧ Rel K w h ∧ Sees K w p y ∧ Sees K w q z ∧ f (cmpop o' p q) = some g ∧ ∀ w' v, Ext w w' → Rel K w' h → rep w' g v → Q v w'.H
        else ∀ w' v, Ext w w' → Rel K w' h → rep w' r0 v → Q v w'.H) := by
  obtain ⟨w, ρ, h, at_, p⟩ := t
  refine tDen.mono (bindE (rep := Rep K) at_ p) ?_
  rintro x H1 ⟨w1, h1, p1, x1, at1, r1, q1⟩
  refine tDen.mono (bindE (rep := Rep K) at1 q1) ?_
  rintro y H2 ⟨w2, h2, p2, x2, at2, r2, q2⟩
  cases hc : cmpop o (see h2 p1) (see h2 p2) with
  | none => simp only [hc, Res.of_none, Res.bind_bad] at q2; exact q2.elim
  | some k =>
    simp only [hc, Res.of_some, Res.bind_ok] at q2
    refine ⟨w2, _, _, h2, k, at2.heap, at2.rel, see_ok at2.rel (r1.mono x2), see_ok at2.rel r2, hc, ?_⟩
    cases k with
    | false => simp only [Bool.false_eq_true, if_false] at q2 ⊢; exact q2
    | true =>
      simp only [if_true] at q2 ⊢
      refine tDen.mono (bindE (rep := Rep K) at2 q2) ?_
      rintro z H4 ⟨w3, h3, p3, x3, at3, r3, q3⟩
      obtain ⟨g, e, aft⟩ := postOf q3
      exact ⟨w3, _, _, h3, g, at3.heap, at3.rel, see_ok at3.rel (r2.mono x3), see_ok at3.rel r3, e, aft⟩
theorem se_chn (o o' : CmpO) (hu : X.A.units + 65 < cLine) (hm : lastMarks [o.op, o'.op] [b, c] = false) (ha : PE X a (tD X.K W da)) (hb : PE X b (tD X.K W db)) (hc : PE X c (tD X.K W dc)) :
    PE X (.Compare a [o.op, o'.op] [b, c] pos) (tD X.K W fun ρ h => (da ρ h).bind fun p h1 => (db ρ h1).bind fun q h2 => (Res.of (cmpop o (see h2 p) (see h2 q)) h2).bind fun k h3 => if k = true then (dc ρ h3).bind fun r h4 => Res.of ((cmpop o' (see h4 q) (see h4 r)).map .bl) h4 else .ok (.bl false) h3) := by
  refine PE.imp (pe_chain (op_cmpV hu o) (op_cmpV hu o') ha hb hc hm) fun σ H Q t => ?_
  refine tDen.mono (tThree o o' (rep := Rep X.K) (f := fun z => z.map PV.bl) t) fun x H1 t1 => tDen.mono t1 ?_
  rintro y H2 ⟨w, p, q, h, k, rfl, rel, r1, r2, e, z⟩
  refine ⟨w, p, q, h, k, rfl, rel, r1, r2, e, k, rfl, ?_⟩
  cases k with
  | false => simp only [Bool.false_eq_true, if_false] at z ⊢; exact z w _ (Ext.refl w) rel (.bl false)
  | true =>
    simp only [if_true] at z ⊢
    refine tDen.mono z ?_
    rintro v H4 ⟨w3, p3, q3, h3, g, rfl, rel3, r3, r4, e3, aft⟩
    cases hk : cmpop o' p3 q3 with
    | none => rw [hk] at e3; cases e3
    | some g' =>
      rw [hk] at e3
      cases e3
      exact ⟨w3, p3, q3, h3, g', rfl, rel3, r3, r4, hk, aft w3 _ (Ext.refl w3) rel3 (.bl g')⟩
theorem st_chn (o o' : CmpO) (hu : X.A.units + 65 < cLine) (hm : lastMarks [o.op, o'.op] [b, c] = false) (ha : PE X a (tD X.K W da)) (hb : PE X b (tD X.K W db)) (hc : PE X c (tD X.K W dc)) :
    PT X (.Compare a [o.op, o'.op] [b, c] pos) (tDb X.K W fun ρ h => (da ρ h).bind fun p h1 => (db ρ h1).bind fun q h2 => (Res.of (cmpop o (see h2 p) (see h2 q)) h2).bind fun k h3 => if k = true then (dc ρ h3).bind fun r h4 => Res.of (cmpop o' (see h4 q) (see h4 r)) h4 else .ok false h3) := by
  refine PT.imp (pt_chain (op_cmpV hu o) (op_cmpV hu o') ha hb hc hm) fun σ H Q t => ?_
  refine tDen.mono (tThree (rep := fun _ p v => p = v) o o' (f := fun z => z) t) fun x H1 t1 => tDen.mono t1 ?_
  rintro y H2 ⟨w, p, q, h, k, rfl, rel, r1, r2, e, z⟩
  refine ⟨w, p, q, h, k, rfl, rel, r1, r2, e, k, rfl, ?_⟩
  cases k with
  | false => simp only [Bool.false_eq_true, if_false] at z ⊢; exact ⟨false, rfl, z w _ (Ext.refl w) rel rfl⟩
  | true =>
    simp only [if_true] at z ⊢
    refine tDen.mono z ?_
    rintro v H4 ⟨w3, p3, q3, h3, g, rfl, rel3, r3, r4, e3, aft⟩
    exact ⟨w3, p3, q3, h3, g, rfl, rel3, r3, r4, e3, g, rfl, aft w3 _ (Ext.refl w3) rel3 rfl⟩
theorem se_not (ha : PE X a (tD X.K W da)) : PE X (.UnaryOp .Not a pos) (tD X.K W fun ρ h => (da ρ h).bind fun p h1 => Res.of ((blV p).map fun b => .bl (!b)) h1) := by
  refine PE.imp (pe_not ha) fun σ H Q t => ?_
  refine tDen.mono (tOne (r := fun p _ => (blV p).map fun b => .bl (!b)) t) ?_
  rintro x H1 ⟨w, p, h, res, rfl, rel, rp, e, aft⟩
  unfold blV at e
  split at e
  · cases e; cases rp
    exact ⟨_, rfl, aft.now rel (.bl _)⟩
  · cases e
theorem tBools {K : PySem.W.Frag} {k : Bool} {da : Sl → PH → Res PV} {dr : Sl → PH → Res PV} {σ : St} {H : Hp} {Q : VK} (t : tD K W (fun ρ h => bools k (da ρ h) fun h1 => dr ρ h1) σ H Q) :
    tD K W da σ H fun x H1 => ∃ c, x = .bl c ∧ (if c = k then tD K W dr σ H1 Q else Q (.bl c) H1) := by
  obtain ⟨w, ρ, h, at_, p⟩ := t
  refine tDen.mono (bindE (rep := Rep K) at_ p) ?_
  rintro x H1 ⟨w1, h1, p1, x1, at1, r1, q1⟩
  cases p1 <;> first | exact q1.elim | skip
  rename_i c
  cases r1
  refine ⟨c, rfl, ?_⟩
  by_cases e : c = k
  · rw [if_pos e]
    simp only [e, if_true] at q1
    exact ⟨w1, ρ, h1, at1, q1⟩
  · rw [if_neg e]
    simp only [if_neg e] at q1
    have := q1 w1 _ (Ext.refl w1) at1.rel (.bl c)
    rw [at1.heap] at this
    exact this
theorem se_and {x y : Expr} {ys : List Expr} {dr : Sl → PH → Res PV} (ha : PE X x (tD X.K W da)) (hr : PE X (.BoolOp .And (y :: ys) pos) (tD X.K W dr)) : PE X (.BoolOp .And (x :: y :: ys) pos) (tD X.K W fun ρ h => bools true (da ρ h) fun h1 => dr ρ h1) := by
  refine PE.imp (pe_and ha hr) fun σ H Q t => tDen.mono (tBools t) ?_
  rintro v H1 ⟨c, rfl, z⟩
  refine ⟨c, rfl, ?_⟩
  cases c with
  | true => exact z
  | false => exact z
theorem se_or {x y : Expr} {ys : List Expr} {dr : Sl → PH → Res PV} (ha : PE X x (tD X.K W da)) (hr : PE X (.BoolOp .Or (y :: ys) pos) (tD X.K W dr)) : PE X (.BoolOp .Or (x :: y :: ys) pos) (tD X.K W fun ρ h => bools false (da ρ h) fun h1 => dr ρ h1) := by
  refine PE.imp (pe_or ha hr) fun σ H Q t => tDen.mono (tBools t) ?_
  rintro v H1 ⟨c, rfl, z⟩
  refine ⟨c, rfl, ?_⟩
  cases c with
  | true => exact z
  | false => exact z
/-- a test, then one of two -/
theorem tIte {K : PySem.W.Frag} {dt : Sl → PH → Res Bool} {γ δ : Type} {rep : Wd → γ → δ → Prop} {d1 d2 : Sl → PH → Res γ} {σ : St} {H : Hp} {Q : δ → Hp → Prop}
    (t : tDen K W rep (fun ρ h => (dt ρ h).bind fun c h1 => if c = true then d1 ρ h1 else d2 ρ h1) σ H Q) :
    tDb K W dt σ H fun c H1 => if c = true then tDen K W rep d1 σ H1 Q else tDen K W rep d2 σ H1 Q := by
  obtain ⟨w, ρ, h, at_, p⟩ := t
  refine tDen.mono (bindE (rep := fun _ p v => p = v) at_ p) ?_
  rintro c H1 ⟨w1, h1, p1, x1, at1, rfl, q1⟩
  cases p1 with
  | true => simp only [if_true] at q1 ⊢; exact ⟨w1, ρ, h1, at1, q1⟩
  | false => simp only [Bool.false_eq_true, if_false] at q1 ⊢; exact ⟨w1, ρ, h1, at1, q1⟩
theorem se_ite {dt : Sl → PH → Res Bool} (ht : PT X c (tDb X.K W dt)) (ha : PE X a (tD X.K W da)) (hb : PE X b (tD X.K W db)) : PE X (.IfExp c a b pos) (tD X.K W fun ρ h => (dt ρ h).bind fun c h1 => if c = true then da ρ h1 else db ρ h1) :=
  PE.imp (pe_ifExp ht ha hb) fun σ H Q t => tIte t
/-! ### arguments, displays -/
theorem sa_nil : PA X [] (tDs X.K W fun _ h => .ok [] h) := by
  refine PA.imp pa_nil fun σ H Q t => ?_
  obtain ⟨w, ρ, h, at_, p⟩ := t
  have := p w [] (Ext.refl w) at_.rel .nil
  rw [at_.heap] at this
  exact this
theorem sa_cons {e : Expr} {es : List Expr} {ds : Sl → PH → Res (List PV)} (hs : nostar e = true) (ha : PE X e (tD X.K W da)) (hr : PA X es (tDs X.K W ds)) : PA X (e :: es) (tDs X.K W fun ρ h => (da ρ h).bind fun p h1 => (ds ρ h1).bind fun ps h2 => .ok (p :: ps) h2) := by
  refine PA.imp (pa_cons ha hr (star1 hs es X.env)) fun σ H Q t => ?_
  obtain ⟨w, ρ, h, at_, p⟩ := t
  refine tDen.mono (bindE (rep := Rep X.K) at_ p) ?_
  rintro x H1 ⟨w1, h1, p1, x1, at1, r1, q1⟩
  refine tDen.mono (bindE (rep := Reps X.K) at1 q1) ?_
  rintro xs H2 ⟨w2, h2, p2, x2, at2, r2, q2⟩
  have := q2 w2 _ (Ext.refl w2) at2.rel (.cons (r1.mono x2) r2)
  rw [at2.heap] at this
  exact this
theorem seq_sees {K : PySem.W.Frag} {w : Wd} {p : PV} {v : V} {xs : List PV} (e : seqV p = some xs) (r : Sees K w p v) : ∃ a vs, v = .ref a ∧ Reps K w xs vs ∧ (SqT K w.H a vs ∨ SqL K w.H a vs) := by
  unfold seqV at e
  split at e
  · cases e
    obtain ⟨a, vs, rfl, ha, ra⟩ := r.tup
    exact ⟨a, vs, rfl, ra, .inl ha.sq⟩
  · cases e
    obtain ⟨a, vs, rfl, ha, ra, hz⟩ := r.lst
    exact ⟨a, vs, rfl, ra, .inr (SqL.of ha)⟩
  · cases e
theorem sa_star {e : Expr} {es : List Expr} {sp : Pos} {ds : Sl → PH → Res (List PV)} (ha : PE X e (tD X.K W da)) (hr : PA X es (tDs X.K W ds)) : PA X (.Starred e sp :: es) (tDs X.K W fun ρ h => (da ρ h).bind fun p h1 => (Res.of (seqV (see h1 p)) h1).bind fun xs h2 => (ds ρ h2).bind fun ps h3 => .ok (xs ++ ps) h3) := by
  refine PA.imp (StX.pa_star ha hr) fun σ H Q t => ?_
  obtain ⟨w, ρ, h, at_, p⟩ := t
  refine tDen.mono (bindE (rep := Rep X.K) at_ p) ?_
  rintro x H1 ⟨w1, h1, p1, x1, at1, r1, q1⟩
  cases hs : seqV (see h1 p1) with
  | none => rw [hs] at q1; exact q1.elim
  | some xs =>
    rw [hs] at q1
    obtain ⟨a, vs, rfl, rv, sq⟩ := seq_sees hs (see_ok at1.rel r1)
    refine ⟨a, vs, rfl, by rw [← at1.heap]; exact sq, ?_⟩
    refine tDen.mono (bindE (rep := Reps X.K) at1 q1) ?_
    rintro ys H2 ⟨w2, h2, p2, x2, at2, r2, q2⟩
    have := q2 w2 _ (Ext.refl w2) at2.rel ((rv.mono x2).append r2)
    rw [at2.heap] at this
    exact this
theorem tArgs {K : PySem.W.Frag} {ds : Sl → PH → Res (List PV)} {r : List PV → PH → Res PV} {σ : St} {H : Hp} {Q : VK} (t : tD K W (fun ρ h => (ds ρ h).bind fun ps h1 => r ps h1) σ H Q) :
    tDs K W ds σ H fun vs H1 => ∃ w ps h, w.H = H1 ∧ Rel K w h ∧ Reps K w ps vs ∧ PostE K W (Rep K) w σ (r ps h) Q := by
  obtain ⟨w, ρ, h, at_, p⟩ := t
  refine tDen.mono (bindE (rep := Reps K) at_ p) ?_
  rintro x H1 ⟨w1, h1, p1, x1, at1, r1, q1⟩
  exact ⟨w1, p1, h1, at1.heap, at1.rel, r1, q1⟩
theorem se_tup {es : List Expr} {n : Nat} {ds : Sl → PH → Res (List PV)} (ha : PA X es (tDs X.K W ds)) : PE X (.Tuple es n pos) (tD X.K W fun ρ h => (ds ρ h).bind fun xs h1 => if xs.length ≤ sizeLine then .ok (.tup xs) h1 else .bad) := by
  refine PE.imp (pe_tup ha) fun σ H Q t => tDen.mono (tArgs (r := fun xs h1 => if xs.length ≤ sizeLine then .ok (.tup xs) h1 else .bad) t) ?_
  rintro vs H1 ⟨w, ps, h, rfl, rel, rs, q⟩
  split at q
  · rename_i hl
    rw [rs.length] at hl
    exact ⟨hl, fun pp hp => Aft.tup q rel rs hl pp hp⟩
  · exact q.elim
theorem Aft.live {K : PySem.W.Frag} {w : Wd} {h : PH} {xs : List PV} {vs : List V} {Q : VK} (q : ∀ w' v, Ext w w' → Rel K w' (h ++ [.lst xs]) → Rep K w' (.ref h.length) v → Q v w'.H) (rel : Rel K w h) (rs : Reps K w xs vs) (hl : vs.length ≤ sizeLine) (p : Addr) (hp : w.H p = none) : Q (.ref p) (upd w.H p (.lst vs)) :=
  q (w.live p (.lst vs)) (.ref p) (Ext.live hp) (rel.newLive hp ⟨vs, upd_same, rs.mono (Ext.live hp), hl⟩) rel.ixLive
theorem se_lst {live : Bool} {es : List Expr} {ds : Sl → PH → Res (List PV)} (ha : PA X es (tDs X.K W ds)) : PE X (.List es pos) (tD X.K W fun ρ h => (ds ρ h).bind fun xs h1 => if xs.length ≤ sizeLine then newLst live xs h1 else .bad) := by
  refine PE.imp (pe_lst ha) fun σ H Q t => tDen.mono (tArgs (r := fun xs h1 => if xs.length ≤ sizeLine then newLst live xs h1 else .bad) t) ?_
  rintro vs H1 ⟨w, ps, h, rfl, rel, rs, q⟩
  split at q
  · rename_i hl
    rw [rs.length] at hl
    refine ⟨hl, fun pp hp => ?_⟩
    cases live with
    | false => exact Aft.lst q rel rs hl pp hp
    | true => exact Aft.live q rel rs hl pp hp
  · exact q.elim
theorem se_idx (hi : plainIx b = true) (ha : PE X a (tD X.K W da)) (hb : PE X b (tD X.K W db)) : PE X (.Subscript a b pos) (tD X.K W fun ρ h => (da ρ h).bind fun p h1 => (db ρ h1).bind fun q h2 => Res.of (idxV p q h2) h2) := by
  refine PE.imp (pe_ix ix_V ha hb (plainI hi)) fun σ H Q t => ?_
  refine tDen.mono (tTwo (rep := Rep X.K) (r := fun p q h2 => Res.of (idxV p q h2) h2) t) fun x H1 t1 => tDen.mono t1 ?_
  rintro y H2 ⟨w, ρ, p, q, h, at_, r1, r2, q2⟩
  obtain ⟨res, e, aft⟩ := postOf q2
  exact ⟨w, p, q, h, res, at_.heap, at_.rel, r1, r2, e, aft⟩
/-! ### slices -/
abbrev tDo (K : PySem.W.Frag) (W : WX) (d : Sl → PH → Res (Option Int)) : TO := tDen K W (fun _ p v => p = v) d
theorem PO.imp {e : Option Expr} {t t' : TO} (h : L2.PO X e t) (i : ∀ σ H Q, t' σ H Q → t σ H Q) : L2.PO X e t' := ⟨fun pins s σ H Q I q => h.run pins s σ H Q I (i σ H Q q)⟩
theorem so_none : L2.PO X none (tDo X.K W fun _ h => .ok none h) := by
  refine PO.imp po_none fun σ H Q t => ?_
  obtain ⟨w, ρ, h, at_, p⟩ := t
  have := p w none (Ext.refl w) at_.rel rfl
  rw [at_.heap] at this
  exact this
theorem so_some (ha : PE X a (tD X.K W da)) : L2.PO X (some a) (tDo X.K W fun ρ h => (da ρ h).bind fun p h1 => Res.of ((intV p).map some) h1) := by
  refine PO.imp (po_some ha) fun σ H Q t => ?_
  obtain ⟨w, ρ, h, at_, p⟩ := t
  refine tDen.mono (bindE (rep := Rep X.K) at_ p) ?_
  rintro x H1 ⟨w1, h1, p1, x1, at1, r1, q1⟩
  obtain ⟨res, e, aft⟩ := postOf q1
  unfold intV at e
  split at e
  · cases e; cases r1
    refine ⟨_, rfl, ?_⟩
    have := aft w1 _ (Ext.refl w1) at1.rel rfl
    rw [at1.heap] at this
    exact this
  · cases e
theorem se_slc {lo hi : Option Expr} {dl du : Sl → PH → Res (Option Int)} {p2 : Pos} (ha : PE X a (tD X.K W da)) (hl : L2.PO X lo (tDo X.K W dl)) (hu : L2.PO X hi (tDo X.K W du)) :
    PE X (.Subscript a (.Slice lo hi none p2) pos) (tD X.K W fun ρ h => (da ρ h).bind fun p h1 => (dl ρ h1).bind fun l h2 => (du ρ h2).bind fun u h3 => Res.of (sliceV (see h3 p) l u) h3) := by
  refine PE.imp (pe_slice sl_V ha hl hu) fun σ H Q t => ?_
  obtain ⟨w, ρ, h, at_, p⟩ := t
  refine tDen.mono (bindE (rep := Rep X.K) at_ p) ?_
  rintro x H1 ⟨w1, h1, p1, x1, at1, r1, q1⟩
  refine tDen.mono (bindE (rep := fun _ p v => p = v) at1 q1) ?_
  rintro l H2 ⟨w2, h2, _, x2, at2, rfl, q2⟩
  refine tDen.mono (bindE (rep := fun _ p v => p = v) at2 q2) ?_
  rintro u H3 ⟨w3, h3, _, x3, at3, rfl, q3⟩
  obtain ⟨res, e, aft⟩ := postOf q3
  exact ⟨w3, _, h3, res, at3.heap, at3.rel, see_ok at3.rel (r1.mono (x2.trans x3)), e, aft⟩
theorem se_rev {k : Nat} {p1 p2 p3 : Pos} (ha : PE X a (tD X.K W da)) :
    PE X (.Subscript a (.Slice none none (some (.UnaryOp .USub (.Constant (.int 1) k p1) p2)) p3) pos) (tD X.K W fun ρ h => (da ρ h).bind fun p h1 => Res.of (revV (see h1 p)) h1) := by
  refine PE.imp (pe_rev ha) fun σ H Q t => ?_
  obtain ⟨w, ρ, h, at_, p⟩ := t
  refine tDen.mono (bindE (rep := Rep X.K) at_ p) ?_
  rintro x H1 ⟨w1, h1, p1, x1, at1, r1, q1⟩
  obtain ⟨res, e, aft⟩ := postOf q1
  have rp := see_ok at1.rel r1
  rw [← at1.heap]
  unfold revV at e
  split at e
  · cases e
    rename_i xs he
    rw [he] at rp
    obtain ⟨a, vs, rfl, ha, ra⟩ := rp.tup
    exact ⟨a, vs, rfl, .inr ⟨ha.sq, fun pp hp => Aft.tup aft at1.rel ra.reverse (by rw [List.length_reverse]; exact ha.2.2.2) pp hp⟩⟩
  · cases e
    rename_i xs he
    rw [he] at rp
    obtain ⟨a, vs, rfl, ha, ra, hz⟩ := rp.lst
    exact ⟨a, vs, rfl, .inl ⟨SqL.of ha, fun pp hp => Aft.lst aft at1.rel ra.reverse (by rw [List.length_reverse]; exact hz) pp hp⟩⟩
  · cases e
/-! ### calls -/
theorem se_blt (bb : Blt) {x : Str} {p : Pos} {y : Expr} {ys : List Expr} {ds : Sl → PH → Res (List PV)} (hx : x = bb.name) (hc : X.calm = true) (hgd : bb = .repr → X.A.guards = some []) (hu : X.A.units + 70 < cLine) (hg : Gl X x) (hm : X.mg x = none) (hn : x ≠ "__name__") (hd : (x == ("__debug__" : Str)) = false)
    (h1 : nostar y = true) (h2 : ys.all nostar = true) (ha : PA X (y :: ys) (tDs X.K W ds)) : PE X (.Call (.Name x p) (y :: ys) [] pos) (tD X.K W fun ρ h => (ds ρ h).bind fun xs h1 => Res.of (bb.den xs h1) h1) := by
  have imp : ∀ σ H Q, tD X.K W (fun ρ h => (ds ρ h).bind fun xs h1 => Res.of (bb.den xs h1) h1) σ H Q → tCB (rBlt X.K bb) (tDs X.K W ds) σ H Q := fun σ H Q t => by
    refine tDen.mono (tArgs (r := fun xs h1 => Res.of (bb.den xs h1) h1) t) ?_
    rintro vs H1 ⟨w, ps, h, rfl, rel, rs, q⟩
    obtain ⟨res, e, aft⟩ := postOf q
    exact ⟨w, _, h, res, rfl, rel, sees_all rel rs, e, aft⟩
  have s1 := star1 h1 ys X.env
  have s2 := stars h2 pos X.env
  subst hx
  cases bb with
  | len => exact PE.imp (pe_callB cr_len hg hm (by decide +kernel) ha hn hd s1 s2) imp
  | all => exact PE.imp (pe_callB (cr_all' hc) hg hm (by decide +kernel) ha hn hd s1 s2) imp
  | any => exact PE.imp (pe_callB (cr_any' hc) hg hm (by decide +kernel) ha hn hd s1 s2) imp
  | sum => exact PE.imp (pe_callB (cr_sum' hc) hg hm (by decide +kernel) ha hn hd s1 s2) imp
  | tuple => exact PE.imp (pe_callTy cr_tuple hg hm (by decide +kernel) ha hn hd s1 s2) imp
  | list => exact PE.imp (pe_callTy cr_list hg hm (by decide +kernel) ha hn hd s1 s2) imp
  | sorted => exact PE.imp (pe_callB (cr_sorted hu) hg hm (by decide +kernel) ha hn hd s1 s2) imp
  | «repr» => exact PE.imp (pe_callB (cr_repr (hgd rfl) (by omega)) hg hm (by decide +kernel) ha hn hd s1 s2) imp
  | max => exact PE.imp (pe_callB (cr_max hc) hg hm (by decide +kernel) ha hn hd s1 s2) imp
  | min => exact PE.imp (pe_callB (cr_min hc) hg hm (by decide +kernel) ha hn hd s1 s2) imp
theorem boot_ty {c : String} (h : tyOk c = true) : bootBuiltins (Str.ofString c) = some (.type c) := by
  unfold tyOk at h
  have hc : c ∈ ["int", "bool", "tuple", "str", "list", "dict"] := by simpa using h
  simp only [List.mem_cons, List.not_mem_nil, or_false] at hc
  rcases hc with rfl | rfl | rfl | rfl | rfl | rfl <;> decide +kernel
theorem se_isi {c : String} {x z : Str} {p p2 : Pos} {y : Expr} (hx : x = "isinstance") (hz : z = Str.ofString c) (hc : tyOk c = true) (hg : Gl X x) (hm : X.mg x = none) (hn : x ≠ "__name__") (hd : (x == ("__debug__" : Str)) = false)
    (hg2 : Gl X z) (hm2 : X.mg z = none) (hn2 : z ≠ "__name__") (hd2 : (z == ("__debug__" : Str)) = false) (h1 : nostar y = true) (ha : PE X y (tD X.K W da)) : PE X (.Call (.Name x p) [y, .Name z p2] [] pos) (tD X.K W fun ρ h => (da ρ h).bind fun q h1 => Res.of (isiV q c h1) h1) := by
  subst hx hz
  have pt : PE X (.Name (Str.ofString c) p2) (tC (.ty c)) := pe_bltn hg2 hm2 (boot_ty hc) rfl hn2 hd2
  refine PE.imp (pe_callB (cr_isi hc) hg hm (by decide +kernel) (pa_cons ha (pa_cons pt pa_nil) (star1 h1 _ _)) hn hd (star1 h1 _ _) rfl) fun σ H Q t => ?_
  refine tDen.mono (tOne (r := fun q h1 => isiV q c h1) t) ?_
  rintro v H1 ⟨w, q, h, res, rfl, rel, rp, e, aft⟩
  exact ⟨w, q, v, h, res, rfl, rfl, rel, rp, e, aft⟩
theorem se_call {f : Str} {n : Nat} {Φf : List PV → PH → Res PV} {k : Nat} {fa : Addr} {fd : FuncData} {ps : List Str} {p : Pos} {y : Expr} {ys : List Expr} {ds : Sl → PH → Res (List PV)} {qu : Bool} (F : FnG X.prog X.w X.K X.mg X.base k fa fd ps (spOf X.K n Φf) qu) (hr : Room (4 * k + 3) X.A) (hgu : qu = false → X.A.guards = some [])
    (hg : Gl X f) (hm : X.mg f = some (.ref fa)) (hk : PySem.W.keepIn X.K (.ref fa) = true) (hb : Binds X.K fd ps []) (tk : Takes X W) (hd : (f == ("__debug__" : Str)) = false) (h1 : nostar y = true) (h2 : ys.all nostar = true) (hl : ∀ ρ h xs h', ds ρ h = .ok xs h' → xs.length = n)
    (ha : PA X (y :: ys) (tDs X.K W ds)) : PE X (.Call (.Name f p) (y :: ys) [] pos) (tD X.K W fun ρ h => (ds ρ h).bind fun xs h1 => Φf xs h1) := by
  refine PE.imp (pe_callG F hr hgu hg hm hk hb tk ha hd (star1 h1 ys X.env) (stars h2 pos X.env)) fun σ H Q t => ?_
  obtain ⟨w, ρ, h, at_, p⟩ := t
  refine ⟨w, ρ, h, at_, ?_⟩
  cases e : ds ρ h with
  | bad => simp only [e, Res.bind_bad] at p; exact p.elim
  | exc y hh => simp only [e, Res.bind_exc] at p; exact p
  | ok xs hh =>
    simp only [e, Res.bind_ok] at p
    intro w1 vs x1 rel1 rs
    refine ⟨w1, xs, hh, rfl, rel1, rs, hl ρ h xs hh e, ?_⟩
    cases er : Φf xs hh with
    | bad => rw [er] at p; exact p.elim
    | exc y h3 => rw [er] at p; exact fun w2 cls d x2 r2 q2 => p w2 cls d (x1.trans x2) r2 q2
    | ok q h3 => rw [er] at p; exact fun w2 v x2 r2 q2 => p w2 v (x1.trans x2) r2 q2
theorem se_call0 {f : Str} {Φf : List PV → PH → Res PV} {k : Nat} {fa : Addr} {fd : FuncData} {ps : List Str} {p : Pos} {qu : Bool} (F : FnG X.prog X.w X.K X.mg X.base k fa fd ps (spOf X.K 0 Φf) qu) (hr : Room (4 * k + 3) X.A) (hgu : qu = false → X.A.guards = some [])
    (hg : Gl X f) (hm : X.mg f = some (.ref fa)) (hk : PySem.W.keepIn X.K (.ref fa) = true) (hb : Binds X.K fd ps []) (tk : Takes X W) (hd : (f == ("__debug__" : Str)) = false) :
    PE X (.Call (.Name f p) [] [] pos) (tD X.K W fun ρ h => Φf [] h) := by
  refine PE.imp (pe_callG0 F hr hgu hg hm hk hb tk hd) fun σ H Q t => ?_
  obtain ⟨w, ρ, h, at_, p⟩ := t
  have p : PostE X.K W (Rep X.K) w σ (Φf [] h) Q := p
  obtain ⟨rfl, rel, sl⟩ := at_
  refine ⟨w, [], h, rfl, rel, .nil, rfl, ?_⟩
  cases er : Φf [] h with
  | bad => rw [er] at p; exact p.elim
  | exc y h3 => rw [er] at p; exact fun w2 cls d x2 r2 q2 => p w2 cls d x2 r2 q2
  | ok q h3 => rw [er] at p; exact fun w2 v x2 r2 q2 => p w2 v x2 r2 q2
theorem se_callS {f : Str} {Φf : List PV → PH → Res PV} {k : Nat} {fa : Addr} {p : Pos} {y : Expr} {ys : List Expr} {ds : Sl → PH → Res (List PV)} (F : FnP X.prog X.w X.K X.mg X.base k fa (spS X.K Φf)) (hr : Room (4 * k + 3) X.A) (hgu : X.A.guards = some [])
    (hg : Gl X f) (hm : X.mg f = some (.ref fa)) (hk : PySem.W.keepIn X.K (.ref fa) = true) (tk : Takes X W) (hd : (f == ("__debug__" : Str)) = false) (h1 : nostar y = true) (h2 : ys.all nostar = true)
    (ha : PA X (y :: ys) (tDs X.K W ds)) : PE X (.Call (.Name f p) (y :: ys) [] pos) (tD X.K W fun ρ h => (ds ρ h).bind fun xs h1 => Φf xs h1) := by
  refine PE.imp (pe_callP F hr hgu hg hm hk tk ha hd (star1 h1 ys X.env) (stars h2 pos X.env)) fun σ H Q t => ?_
  obtain ⟨w, ρ, h, at_, p⟩ := t
  refine ⟨w, ρ, h, at_, ?_⟩
  cases e : ds ρ h with
  | bad => simp only [e, Res.bind_bad] at p; exact p.elim
  | exc y hh => simp only [e, Res.bind_exc] at p; exact p
  | ok xs hh =>
    simp only [e, Res.bind_ok] at p
    intro w1 vs x1 rel1 rs
    refine ⟨w1, xs, hh, rfl, rel1, rs, ?_⟩
    cases er : Φf xs hh with
    | bad => rw [er] at p; exact p.elim
    | exc y h3 => rw [er] at p; exact fun w2 cls d x2 r2 q2 => p w2 cls d (x1.trans x2) r2 q2
    | ok q h3 => rw [er] at p; exact fun w2 v x2 r2 q2 => p w2 v (x1.trans x2) r2 q2
theorem noCX {P : Program} {w : World} {outer : List Env} {H : Hp} {s s' : Shared} {e : Value} (h : L2.CX P w outer H s (fun _ _ _ => False) e s') : False := by
  unfold L2.CX at h
  obtain ⟨a, B, H', cls, d, _, _, _, _, _, _, _, z⟩ := h
  exact z
/-- list(g(..)) -/
theorem se_gnL {f x : Str} {n k : Nat} {Φf : List PV → PH → Res PV} {fa : Addr} {fd : FuncData} {ps : List Str} {p p' pos' : Pos} {y : Expr} {ys : List Expr} {ds : Sl → PH → Res (List PV)} (hx : x = "list") (hr : Room (4 * k + 3) X.A)
    (hg : Gl X x) (hm : X.mg x = none) (h0 : nostar (.Call (.Name f p') (y :: ys) [] pos') = true) (hg2 : Gl X f) (hm2 : X.mg f = some (.ref fa)) (hk : PySem.W.keepIn X.K (.ref fa) = true) (hb : Binds X.K fd ps []) (F : GFn X.prog X.w X.K X.mg X.base (4 * k) fa fd ps (spG X.K n Φf))
    (hd : (f == ("__debug__" : Str)) = false) (h1 : nostar y = true) (h2 : ys.all nostar = true) (hl : ∀ ρ h xs h', ds ρ h = .ok xs h' → xs.length = n)
    (ha : PA X (y :: ys) (tDs X.K W ds)) : PE X (.Call (.Name x p) [.Call (.Name f p') (y :: ys) [] pos'] [] pos) (tD X.K W fun ρ h => (ds ρ h).bind fun xs h1 => genR (Φf xs h1)) := by
  subst hx
  have pg : PGen X (4 * k) (.Call (.Name f p') (y :: ys) [] pos') (tCallG (spG X.K n Φf) [] (fun _ _ _ => False) (tDs X.K W ds)) (fun _ _ _ => False) :=
    pgen_call F (hr.mono (by omega)) hg2 hm2 hk hb .nil ha hd (star1 h1 ys X.env) (stars h2 pos' X.env)
  refine PE.imp (pe_listG pg (fun pins σ H s e s' I c => (noCX c).elim) (fun cls d H z => z.elim) hr hg hm (by decide +kernel) (by decide) (by decide) (star1 h0 [] X.env)) fun σ H Q t => ?_
  obtain ⟨w, ρ, h, at_, p⟩ := t
  refine ⟨w, ρ, h, at_, ?_⟩
  cases e : ds ρ h with
  | bad => simp only [e, Res.bind_bad] at p; exact p.elim
  | exc y hh => simp only [e, Res.bind_exc] at p; exact p
  | ok xs hh =>
    simp only [e, Res.bind_ok] at p
    intro w1 vs x1 rel1 rs
    rw [List.append_nil]
    refine ⟨w1, xs, hh, rfl, rel1, rs, hl ρ h xs hh e, ?_⟩
    cases er : Φf xs hh with
    | bad => rw [er] at p; exact p.elim
    | exc y h3 => rw [er] at p; exact p.elim
    | ok q h3 =>
      rw [er] at p
      cases q with
      | lst zs => exact fun w2 vs2 x2 r2 q2 hz pp hp => p _ _ ((x1.trans x2).trans (Ext.add hp)) (r2.add hp) (r2.lst hp q2 hz)
      | _ => exact p.elim
theorem reps_rg {K : PySem.W.Frag} {w : Wd} (j : Int) : Reps K w ((List.range (j - 0).toNat).map fun (k : Nat) => PV.int (0 + (k : Int))) (rgV 0 j) := by
  have key : ∀ l : List Nat, Reps K w (l.map fun (k : Nat) => PV.int (0 + (k : Int))) (l.map fun (k : Nat) => V.int (0 + (k : Nat))) := by
    intro l
    induction l with
    | nil => exact .nil
    | cons a l ih => exact .cons (.int _) ih
  exact key _
theorem se_lrng {x z : Str} {p p' pos' : Pos} (hx : x = "list") (hz : z = "range") (hc : X.calm = true) (hg : Gl X x) (hm : X.mg x = none) (hg' : Gl X z) (hm' : X.mg z = none) (h1 : nostar a = true) (ha : PE X a (tD X.K W da)) :
    PE X (.Call (.Name x p) [.Call (.Name z p') [a] [] pos'] [] pos) (tD X.K W fun ρ h => (da ρ h).bind fun p h1 => Res.of (((intV p).bind fun j => rngL 0 j).map .lst) h1) := by
  subst hx hz
  refine PE.imp (pe_listRg hc hg hm (prg_1 hg' hm' ha (star1 h1 _ _))) fun σ H Q t => ?_
  obtain ⟨w, ρ, h, at_, p⟩ := t
  refine tDen.mono (bindE (rep := Rep X.K) at_ p) ?_
  rintro x H1 ⟨w1, h1, p1, x1, at1, r1, q1⟩
  obtain ⟨xs, e, aft⟩ := postOf q1
  obtain ⟨eh, rel1, sl1⟩ := at1
  subst eh
  cases p1 <;> first | (simp [intV] at e; done) | skip
  rename_i j
  simp only [intV, Option.bind_some] at e
  unfold rngL at e
  split at e
  · rename_i hz
    cases e
    cases r1
    have aft : Aft X.K w1 h1 (.lst ((List.range (j - 0).toNat).map fun (k : Nat) => PV.int (0 + (k : Int)))) Q := aft
    refine ⟨j, rfl, ⟨by omega, by omega, by omega, by omega, by omega⟩, fun q hq => aft.lst rel1 (reps_rg j) ?_ q hq⟩
    rw [rgV_length, sizeLine_eq]
    omega
  · cases e
theorem fewOk {xs : List Expr} (h : xs.all nostar = true) (hl : xs.length < 20) (cp : Pos) (env : Env) : ((backTo cp (starEach xs env)).all (fun x => !x.1) && (backToKw cp (keywordEach [] env)).all (fun x => x.1.isSome)
      && decide (xs.length + ([] : List Keyword).length + (if ([] : List Keyword).isEmpty then 0 else 1) < 30)) = true := by
  have e1 : (backTo cp (starEach xs env)).all (fun x => !x.1) = true := by
    induction xs with
    | nil => rfl
    | cons e es ih =>
      rw [List.all_cons, Bool.and_eq_true] at h
      rw [star1 h.1]
      show (!false && (backTo cp (starEach es env)).all (fun x => !x.1)) = true
      rw [ih h.2 (by rw [List.length_cons] at hl; omega)]
      rfl
  rw [e1, Bool.true_and, Bool.and_eq_true]
  exact ⟨rfl, decide_eq_true (by show xs.length + 0 + 0 < 30; omega)⟩
theorem tyV_list {K : PySem.W.Frag} {w : Wd} {h : PH} {p : PV} {v : V} {xs : List PV} {n : Nat} (rel : Rel K w h) (r : Rep K w (.ref n) v) (e : liveL h n = some xs) : tyV K "list" v w.H := by
  obtain ⟨a, vs, rfl, _, h2, _⟩ := liveL_rep e rel r
  exact .inl ⟨rfl, _, SqL.of h2⟩
theorem isLive_ty {K : PySem.W.Frag} {w : Wd} {h : PH} {p : PV} {v : V} {u : Unit} (rel : Rel K w h) (r : Rep K w p v) (e : isLive p h = some u) : tyV K "list" v w.H := by
  unfold isLive at e
  split at e
  · rename_i n
    cases hl : liveL h n with
    | none => rw [hl] at e; cases e
    | some xs => exact tyV_list (p := .ref n) rel r hl
  · cases r with
    | lst ha ra => exact .inl ⟨rfl, _, SqL.of ha.1⟩
  · cases e
theorem tMth {K : PySem.W.Frag} {m : Mth} {da : Sl → PH → Res PV} {ds : Sl → PH → Res (List PV)} {σ : St} {H : Hp} {Q : VK} (t : tD K W (fun ρ h => (da ρ h).bind fun p h1 => (Res.of (isLive p h1) h1).bind fun _ h1' => (ds ρ h1').bind fun xs h2 => mthR m p xs h2) σ H Q) :
    tD K W da σ H fun x H1 => tyV K "list" x H1 ∧ tDs K W ds σ H1 fun vs H2 => rMth K m x vs H2 Q := by
  obtain ⟨w, ρ, h, at_, p⟩ := t
  refine tDen.mono (bindE (rep := Rep K) at_ p) ?_
  rintro x H1 ⟨w1, h1, p1, x1, at1, r1, q1⟩
  cases hl : isLive p1 h1 with
  | none => simp only [hl, Res.of_none, Res.bind_bad] at q1; exact q1.elim
  | some u =>
    simp only [hl, Res.of_some, Res.bind_ok] at q1
    obtain ⟨eh, rel1, sl1⟩ := at1
    subst eh
    refine ⟨isLive_ty rel1 r1 hl, tDen.mono (bindE (rep := Reps K) (K := K) ⟨rfl, rel1, sl1⟩ q1) ?_⟩
    rintro vs H2 ⟨w2, h2, ps, x2, at2, r2, q2⟩
    unfold mthR at q2
    split at q2
    · rename_i r h3 e
      exact ⟨w2, p1, ps, h2, r, h3, at2.heap, at2.rel, r1.mono x2, r2, e, q2⟩
    · exact q2.elim
theorem mthIs (X : Cx) (hu : X.A.units + 70 < cLine) (m : Mth) : ∃ id, Slot "list" m.name id ∧ typeOf (.builtin id) = pure (.type "method_descriptor") ∧ MtR X id (rMth X.K m) := by
  cases m with
  | append => exact ⟨_, PySem.F.slot_list_append, PySem.F.type_list_append, mt_append'⟩
  | extend => exact ⟨_, PySem.F.slot_list_extend, PySem.F.type_list_extend, mt_extend'⟩
  | pop => exact ⟨_, PySem.F.slot_list_pop, PySem.F.type_list_pop, mt_pop'⟩
  | popAt => exact ⟨_, PySem.F.slot_list_pop, PySem.F.type_list_pop, mt_popAt'⟩
  | count => exact ⟨_, PySem.F.slot_list_count, PySem.F.type_list_count, mt_count' hu⟩
theorem se_mth (hu : X.A.units + 70 < cLine) (m : Mth) {o : Expr} {y : Expr} {ys : List Expr} {nm : Str} {ap cp : Pos} {ds : Sl → PH → Res (List PV)} (hn : nm = m.name) (hb : baseOk o = true) (hline : (ap.endLine == cp.line) = true) (hs : (y :: ys).all nostar = true) (hl : (y :: ys).length < 20)
    (ho : PE X o (tD X.K W da)) (ha : PA X (y :: ys) (tDs X.K W ds)) : PE X (.Call (.Attribute o nm ap) (y :: ys) [] cp) (tD X.K W fun ρ h => (da ρ h).bind fun p h1 => (Res.of (isLive p h1) h1).bind fun _ h1' => (ds ρ h1').bind fun xs h2 => mthR m p xs h2) := by
  obtain ⟨id, slot, ty, mt⟩ := mthIs X hu m
  subst hn
  have hs' := hs
  rw [List.all_cons, Bool.and_eq_true] at hs'
  exact PE.imp (pe_bm PySem.F.plainAttrs_list slot ty mt ho ha (baseE hb _ _ _) (fewOk hs hl _ _) hline (star1 hs'.1 _ _) (stars hs'.2 _ _)) fun σ H Q t => tDen.mono (tMth t) fun x H1 z => z
theorem se_mth0 (hu : X.A.units + 70 < cLine) (m : Mth) {o : Expr} {nm : Str} {ap cp : Pos} (hn : nm = m.name) (hb : baseOk o = true) (hline : (ap.endLine == cp.line) = true)
    (ho : PE X o (tD X.K W da)) : PE X (.Call (.Attribute o nm ap) [] [] cp) (tD X.K W fun ρ h => (da ρ h).bind fun p h1 => (Res.of (isLive p h1) h1).bind fun _ h1' => (Res.ok [] h1').bind fun xs h2 => mthR m p xs h2) := by
  obtain ⟨id, slot, ty, mt⟩ := mthIs X hu m
  subst hn
  refine PE.imp (pe_bm0 PySem.F.plainAttrs_list slot ty mt ho (baseE hb _ _ _) hline) fun σ H Q t => tDen.mono (tMth (ds := fun _ h => .ok [] h) t) ?_
  rintro x H1 ⟨h1, w, ρ, h, at_, p⟩
  refine ⟨h1, ?_⟩
  have := p w [] (Ext.refl w) at_.rel .nil
  rw [at_.heap] at this
  exact this
/-! ### comprehensions -/
theorem se_lc {live : Bool} {own : List Nat} {g : R.G} {C : CC} {Φ : Fns} {k : Nat} {elt tg iter : Expr} {ifs : List Expr} {scope : Scope} {di : Sl → PH → Res (List PV)} {dt : Sl → PH → Res Bool} {de : Sl → PH → Res PV} (G : Good C Φ k X W) (hk : blkC C.N C.sc scope (ownN C own) = true) (hset : noSet iter = true)
    (hi : PI X tg iter (tDen X.K W (WalksR X.K) di)) (hg : chkG (C.blk scope) g tg = true) (hsl : ∀ i ∈ g.slots, i ∈ own) (ht : ∀ {X' : Cx} {W' : WX}, Good (C.blk scope) Φ k X' W' → PTs X' ifs (tDb X'.K W' dt)) (he : ∀ {X' : Cx} {W' : WX}, Good (C.blk scope) Φ k X' W' → PE X' elt (tD X'.K W' de)) :
    PE X (.ListComp elt [⟨tg, iter, ifs, 0⟩] scope pos) (tD X.K W fun ρ h => (di ρ h).bind fun xs h1 => (lcL (lcF g (wipeP ρ own) dt de) xs h1).nox.bind fun ys h4 => newLst live ys h4) := by
  have bk : BlkOk X.N X.env.scope scope (ownN C own) := by rw [G.names, G.scope]; exact blkOk_by hk
  have eo : (ownN C own).map (·.2) = own := by unfold ownN; rw [List.map_map]; exact List.map_id' own
  have pe := pe_lc (X := X) (tg := tg) (iter := iter) (ifs := ifs) (elt := elt) (scope := scope) (own := ownN C own) (pos := pos) (g := gG X.K g) (tt := tDb X.K WF dt) (te := tD X.K WF de) G.calm (by rw [G.names]; exact G.nd) hi bk
    (fun s H c cl fp => pg_V (G.blk s H scope cl c fp) hg) (fun s H c cl fp => ht (G.blk s H scope cl c fp)) (fun s H c cl fp => he (G.blk s H scope cl c fp)) (fun x => noSetE hset X.env x)
  rw [eo] at pe
  exact PE.imp pe fun σ H Q t => lc_snd hsl t
theorem ss_lc {live : Bool} {own : List Nat} {g : R.G} {C : CC} {Φ : Fns} {k i : Nat} {x : Str} {py spos : Pos} {elt tg iter : Expr} {ifs : List Expr} {scope : Scope} {di : Sl → PH → Res (List PV)} {dt : Sl → PH → Res Bool} {de : Sl → PH → Res PV} (G : Good C Φ k X W) (hk : blkC C.N C.sc scope (ownN C own) = true) (hset : noSet iter = true)
    (hi : PI X tg iter (tDen X.K W (WalksR X.K) di)) (hg : chkG (C.blk scope) g tg = true) (hsl : ∀ i ∈ g.slots, i ∈ own) (ht : ∀ {X' : Cx} {W' : WX}, Good (C.blk scope) Φ k X' W' → PTs X' ifs (tDb X'.K W' dt)) (he : ∀ {X' : Cx} {W' : WX}, Good (C.blk scope) Φ k X' W' → PE X' elt (tD X'.K W' de))
    (hx : C.N[i]? = some x) (hxl : onlyLoc C.sc x = true) (hsw : swapsWith (.ListComp elt [⟨tg, iter, ifs, 0⟩] scope pos) (some (.Name x py)) spos.line X.env = pure true) :
    PS X (.Assign [.Name x py] (.ListComp elt [⟨tg, iter, ifs, 0⟩] scope pos) spos) (tDS X.K W fun ρ h => ((di ρ h).bind fun xs h1 => (lcL (lcF g (wipeP ρ own) dt de) xs h1).nox.bind fun ys h4 => newLst live ys h4).out ρ fun p h1 => .nx (ρ.set i (some p)) h1) := by
  have bk : BlkOk X.N X.env.scope scope (ownN C own) := by rw [G.names, G.scope]; exact blkOk_by hk
  have eo : (ownN C own).map (·.2) = own := by unfold ownN; rw [List.map_map]; exact List.map_id' own
  have hl : X.env.scope.names.lookup x = some .local := by
    unfold onlyLoc at hxl
    rw [G.scope]
    split at hxl
    · assumption
    · cases hxl
  have ps := ps_setLc (X := X) (i := i) (y := x) (py := py) (tg := tg) (iter := iter) (ifs := ifs) (elt := elt) (scope := scope) (own := ownN C own) (pos := pos) (spos := spos) (g := gG X.K g) (tt := tDb X.K WF dt) (te := tD X.K WF de) G.calm (by rw [G.names]; exact G.nd) (by rw [G.names]; exact hx) hl hsw hi bk
    (fun s H c cl fp => pg_V (G.blk s H scope cl c fp) hg) (fun s H c cl fp => ht (G.blk s H scope cl c fp)) (fun s H c cl fp => he (G.blk s H scope cl c fp)) (fun x => noSetE hset X.env x)
  rw [eo] at ps
  refine PS.imp ps fun D σ H t => lc_snd (live := live) hsl ?_
  obtain ⟨w, ρ, h, at_, p⟩ := t
  refine tDen.mono (outE (rep := Rep X.K) (d := fun ρ h => (di ρ h).bind fun xs h1 => (lcL (lcF g (wipeP ρ own) dt de) xs h1).nox.bind fun ys h4 => newLst live ys h4) at_ p) ?_
  rintro v H1 ⟨w1, h1, p1, x1, at1, r1, q1⟩
  have := q1 w1 _ (Ext.refl w1) at1.rel (at1.sl.put r1 i)
  rw [at1.heap] at this
  exact this
/-! ### tests -/
theorem st_val (hp : plainTest a = true) (ha : PE X a (tD X.K W da)) : PT X a (tDb X.K W fun ρ h => (da ρ h).bind fun p h1 => Res.of (truthV p h1) h1) := by
  refine PT.imp (pt_truth ha (plainT hp X.env)) fun σ H Q t => ?_
  obtain ⟨w, ρ, h, at_, p⟩ := t
  refine tDen.mono (bindE (rep := Rep X.K) at_ p) ?_
  rintro x H1 ⟨w1, h1, p1, x1, at1, r1, q1⟩
  obtain ⟨k, e, aft⟩ := postOf q1
  obtain ⟨eh, rel1, sl1⟩ := at1
  subst eh
  exact ⟨k, truthV_rep e rel1 r1, aft w1 k (Ext.refl w1) rel1 rfl⟩
theorem st_not {dt : Sl → PH → Res Bool} (ht : PT X a (tDb X.K W dt)) : PT X (.UnaryOp .Not a pos) (tDb X.K W fun ρ h => (dt ρ h).bind fun b h1 => .ok (!b) h1) := by
  refine PT.imp (pt_not ht) fun σ H Q t => ?_
  obtain ⟨w, ρ, h, at_, p⟩ := t
  refine tDen.mono (bindE (rep := fun _ p v => p = v) at_ p) ?_
  rintro c H1 ⟨w1, h1, _, x1, at1, rfl, q1⟩
  have := q1 w1 _ (Ext.refl w1) at1.rel rfl
  rw [at1.heap] at this
  exact this
theorem tAndB {K : PySem.W.Frag} {k : Bool} {dt dr : Sl → PH → Res Bool} {σ : St} {H : Hp} {Q : Bool → Hp → Prop} (t : tDb K W (fun ρ h => (dt ρ h).bind fun b h1 => if b = k then dr ρ h1 else .ok b h1) σ H Q) :
    tDb K W dt σ H fun c H1 => if c = k then tDb K W dr σ H1 Q else Q c H1 := by
  obtain ⟨w, ρ, h, at_, p⟩ := t
  refine tDen.mono (bindE (rep := fun _ p v => p = v) at_ p) ?_
  rintro c H1 ⟨w1, h1, _, x1, at1, rfl, q1⟩
  rename_i c
  by_cases e : c = k
  · rw [if_pos e]
    simp only [e, if_true] at q1
    exact ⟨w1, ρ, h1, at1, q1⟩
  · rw [if_neg e]
    simp only [if_neg e] at q1
    have := q1 w1 _ (Ext.refl w1) at1.rel rfl
    rw [at1.heap] at this
    exact this
theorem tLast {K : PySem.W.Frag} {k : Bool} {dt : Sl → PH → Res Bool} {σ : St} {H : Hp} {Q : Bool → Hp → Prop} (t : tDb K W (fun ρ h => (dt ρ h).bind fun b h1 => if b = k then .ok k h1 else .ok b h1) σ H Q) : tDb K W dt σ H Q := by
  obtain ⟨w, ρ, h, at_, p⟩ := t
  refine ⟨w, ρ, h, at_, ?_⟩
  cases e : dt ρ h with
  | bad => simp only [e, Res.bind_bad] at p; exact p.elim
  | exc y hh => simp only [e, Res.bind_exc] at p; exact p
  | ok b hh =>
    simp only [e, Res.bind_ok] at p
    by_cases eb : b = k
    · simp only [eb, if_true] at p; rw [eb]; exact p
    · simp only [if_neg eb] at p; exact p
theorem sw_and1 {x : Expr} {dt : Sl → PH → Res Bool} (ht : PT X x (tDb X.K W dt)) : PW X (.BoolOp .And [x] pos) (tDb X.K W fun ρ h => (dt ρ h).bind fun b h1 => if b = true then .ok true h1 else .ok b h1) :=
  ⟨fun wh pins s σ H Q I t => (pw_and1 ht).run wh pins s σ H Q I (tLast t)⟩
theorem sw_or1 {x : Expr} {dt : Sl → PH → Res Bool} (ht : PT X x (tDb X.K W dt)) : PW X (.BoolOp .Or [x] pos) (tDb X.K W fun ρ h => (dt ρ h).bind fun b h1 => if b = false then .ok false h1 else .ok b h1) :=
  ⟨fun wh pins s σ H Q I t => (pw_or1 ht).run wh pins s σ H Q I (tLast t)⟩
theorem sw_and {x y : Expr} {ys : List Expr} {dt dr : Sl → PH → Res Bool} (ht : PT X x (tDb X.K W dt)) (hr : PW X (.BoolOp .And (y :: ys) pos) (tDb X.K W dr)) : PW X (.BoolOp .And (x :: y :: ys) pos) (tDb X.K W fun ρ h => (dt ρ h).bind fun b h1 => if b = true then dr ρ h1 else .ok b h1) := by
  refine ⟨fun wh pins s σ H Q I t => (pw_and ht hr).run wh pins s σ H Q I (tDen.mono (tAndB t) ?_)⟩
  intro c H1 z
  cases c with
  | true => exact z
  | false => exact z
theorem sw_or {x y : Expr} {ys : List Expr} {dt dr : Sl → PH → Res Bool} (ht : PT X x (tDb X.K W dt)) (hr : PW X (.BoolOp .Or (y :: ys) pos) (tDb X.K W dr)) : PW X (.BoolOp .Or (x :: y :: ys) pos) (tDb X.K W fun ρ h => (dt ρ h).bind fun b h1 => if b = false then dr ρ h1 else .ok b h1) := by
  refine ⟨fun wh pins s σ H Q I t => (pw_or ht hr).run wh pins s σ H Q I (tDen.mono (tAndB t) ?_)⟩
  intro c H1 z
  cases c with
  | true => exact z
  | false => exact z
/-! ### what is walked -/
theorem si_seq {tg : Expr} (ha : PE X a (tD X.K W da)) : PI X tg a (tDen X.K W (WalksR X.K) fun ρ h => (da ρ h).bind fun p h1 => Res.of (seqV p) h1) := by
  refine PI.imp (pi_seq ha) fun σ H R t => ?_
  obtain ⟨w, ρ, h, at_, p⟩ := t
  refine tDen.mono (bindE (rep := Rep X.K) at_ p) ?_
  rintro x H1 ⟨w1, h1, p1, x1, at1, r1, q1⟩
  obtain ⟨xs, e, aft⟩ := postOf q1
  obtain ⟨eh, rel1, sl1⟩ := at1
  subst eh
  unfold seqV at e
  split at e
  · cases e
    cases r1 with
    | tup ha ra => exact ⟨_, rfl, .inr ⟨⟨_, ha.sq⟩, aft w1 _ (Ext.refl w1) rel1 (walk_tup ha ra)⟩⟩
  · cases e
    cases r1 with
    | lst ha ra => exact ⟨_, rfl, .inl ⟨⟨_, ha.sq⟩, aft w1 _ (Ext.refl w1) rel1 (walk_lst ha ra)⟩⟩
  · cases e
theorem si_rng {tg : Expr} {x : Str} {p : Pos} (hx : x = "range") (hg : Gl X x) (hm : X.mg x = none) (h1 : nostar a = true) (ha : PE X a (tD X.K W da)) : PI X tg (.Call (.Name x p) [a] [] pos) (tDen X.K W (WalksR X.K) fun ρ h => (da ρ h).bind fun p h1 => Res.of ((intV p).bind fun j => rngL 0 j) h1) := by
  subst hx
  refine PI.imp (pi_range1 hg hm (pa_cons ha pa_nil (star1 h1 _ _)) (star1 h1 _ _)) fun σ H R t => ?_
  obtain ⟨w, ρ, h, at_, p⟩ := t
  refine tDen.mono (bindE (rep := Rep X.K) at_ p) ?_
  rintro x H1 ⟨w1, h1, p1, x1, at1, r1, q1⟩
  obtain ⟨xs, e, aft⟩ := postOf q1
  obtain ⟨eh, rel1, sl1⟩ := at1
  subst eh
  cases p1 <;> first | (simp [intV] at e; done) | skip
  rename_i j
  simp only [intV, Option.bind_some] at e
  unfold rngL at e
  split at e
  · rename_i hz
    cases e
    cases r1
    refine ⟨j, rfl, by omega, by omega, ?_⟩
    have e0 : (j - 0).toNat = j.toNat := by simp
    rw [e0] at aft
    exact aft w1 _ (Ext.refl w1) rel1 (walk_rng (by rw [sizeLine_eq]; omega))
  · cases e
theorem si_rng2 {tg : Expr} {x : Str} {p : Pos} (hx : x = "range") (hg : Gl X x) (hm : X.mg x = none) (h1 : nostar a = true) (h2 : nostar b = true) (ha : PE X a (tD X.K W da)) (hb : PE X b (tD X.K W db)) :
    PI X tg (.Call (.Name x p) [a, b] [] pos) (tDen X.K W (WalksR X.K) fun ρ h => (da ρ h).bind fun p h1 => (db ρ h1).bind fun q h2 => Res.of ((intV p).bind fun i => (intV q).bind fun j => rngL i j) h2) := by
  subst hx
  refine PI.imp (pi_range2 hg hm (pa_cons ha (pa_cons hb pa_nil (star1 h2 _ _)) (star1 h1 _ _)) (by rw [star1 h1, star1 h2]; rfl) (by rw [star1 h2]; rfl)) fun σ H R t => ?_
  refine tDen.mono (tTwo (rep := WalksR X.K) (r := fun p q h2 => Res.of ((intV p).bind fun i => (intV q).bind fun j => rngL i j) h2) t) fun x H1 t1 => tDen.mono t1 ?_
  rintro y H2 ⟨w1, ρ, p1, p2, h1, at1, r1, r2, q1⟩
  obtain ⟨xs, e, aft⟩ := postOf q1
  obtain ⟨eh, rel1, sl1⟩ := at1
  subst eh
  cases p1 <;> first | (simp [intV] at e; done) | skip
  cases p2 <;> first | (simp [intV] at e; done) | skip
  rename_i i j
  simp only [intV, Option.bind_some] at e
  unfold rngL at e
  split at e
  · rename_i hz
    cases e
    cases r1
    cases r2
    exact ⟨i, j, rfl, ⟨by omega, by omega, by omega, by omega⟩, aft w1 _ (Ext.refl w1) rel1 (walk_rng (by rw [sizeLine_eq]; omega))⟩
  · cases e
def zipR (p q : PV) (h : PH) : Res (List PV) := match p, q with
  | .tup xs, .tup ys => .ok (zipL xs ys) h
  | .lst xs, .lst ys => .ok (zipL xs ys) h
  | _, _ => .bad
theorem si_zip {tg : Expr} {x : Str} {p : Pos} (hx : x = "zip") (hg : Gl X x) (hm : X.mg x = none) (ht : isTupE tg = true) (h1 : nostar a = true) (h2 : nostar b = true) (ha : PE X a (tD X.K W da)) (hb : PE X b (tD X.K W db)) :
    PI X tg (.Call (.Name x p) [a, b] [] pos) (tDen X.K W (WalksR X.K) fun ρ h => (da ρ h).bind fun p h1 => (db ρ h1).bind fun q h2 => zipR p q h2) := by
  subst hx
  cases tg <;> first | (cases ht; done) | skip
  refine PI.imp (RZ.pi_zipA hg hm (pa_cons ha (pa_cons hb pa_nil (star1 h2 _ _)) (star1 h1 _ _)) (star1 h1 _ _) (stars (by rw [List.all_cons, h2]; rfl) _ _)) fun σ H R t => ?_
  refine tDen.mono (tTwo (rep := WalksR X.K) (r := zipR) t) fun x H1 t1 => tDen.mono t1 ?_
  rintro y H2 ⟨w1, ρ, p1, p2, h1, at1, r1, r2, q1⟩
  obtain ⟨eh, rel1, sl1⟩ := at1
  subst eh
  unfold zipR at q1
  split at q1
  · cases r1 with
    | tup h3 r3 =>
    cases r2 with
    | tup h4 r4 => exact ⟨_, _, _, _, rfl, .inr ⟨h3.sq, h4.sq, q1 w1 _ (Ext.refl w1) rel1 (walk_zipT h3 r3 h4 r4)⟩⟩
  · cases r1 with
    | lst h3 r3 =>
    cases r2 with
    | lst h4 r4 => exact ⟨_, _, _, _, rfl, .inl ⟨h3.sq, h4.sq, q1 w1 _ (Ext.refl w1) rel1 (walk_zipL h3 r3 h4 r4)⟩⟩
  · exact q1.elim
def enmR (p : PV) (h : PH) : Res (List PV) := match p with
  | .lst xs => .ok (enumL xs) h
  | .tup xs => .ok (enumL xs) h
  | _ => .bad
theorem si_enm {tg : Expr} {x : Str} {p : Pos} (hx : x = "enumerate") (hg : Gl X x) (hm : X.mg x = none) (ht : isTupE tg = true) (h1 : nostar a = true) (ha : PE X a (tD X.K W da)) :
    PI X tg (.Call (.Name x p) [a] [] pos) (tDen X.K W (WalksR X.K) fun ρ h => (da ρ h).bind fun p h1 => enmR p h1) := by
  subst hx
  cases tg <;> first | (cases ht; done) | skip
  refine PI.imp (pi_enumT hg hm (pa_cons ha pa_nil (star1 h1 _ _)) (star1 h1 _ _)) fun σ H R t => ?_
  obtain ⟨w, ρ, h, at_, p⟩ := t
  refine tDen.mono (bindE (rep := Rep X.K) at_ p) ?_
  rintro x H1 ⟨w1, h1, p1, x1, at1, r1, q1⟩
  obtain ⟨eh, rel1, sl1⟩ := at1
  subst eh
  unfold enmR at q1
  split at q1
  · cases r1 with
    | lst h3 r3 => exact ⟨_, _, rfl, .inl ⟨h3.sq, q1 w1 _ (Ext.refl w1) rel1 (walk_enm h3 r3)⟩⟩
  · cases r1 with
    | tup h3 r3 => exact ⟨_, _, rfl, .inr ⟨h3.sq, q1 w1 _ (Ext.refl w1) rel1 (walk_enmT h3 r3)⟩⟩
  · exact q1.elim
end
end R

set_option Elab.async false
set_option linter.all false
set_option maxRecDepth 100000
set_option maxHeartbeats 1000000
/-! R: two walks in one comprehension; sets -/
namespace R
open PySem PySem.Spec L2
section
variable {K : PySem.W.Frag} {W : WX}
theorem gG_mono {g : G} {x : V} {σ : St} {H : Hp} {Q Q' : St → Hp → Prop} (hq : ∀ τ H, Q τ H → Q' τ H) (hg : gG K g x σ H Q) : gG K g x σ H Q' := by
  cases g with
  | name j => exact hq _ _ hg
  | tup is =>
    obtain ⟨a, ys, e, hs, hl, hg⟩ := hg
    refine ⟨a, ys, e, hs, hl, ?_⟩
    have key : ∀ (is : List Nat) (ys : List V) (τ : St), gGs is ys τ H Q → gGs is ys τ H Q' := by
      intro is
      induction is with
      | nil => intro ys τ hz; exact ⟨hz.1, hq _ _ hz.2⟩
      | cons j js ih =>
        intro ys τ hz
        obtain ⟨v, r, e, hz⟩ := hz
        exact ⟨v, r, e, ih r _ hz⟩
    exact key is ys _ hg
/-- the list at D has acc; what is left is kont -/
def AccAt (K : PySem.W.Frag) (W : WX) (w1 wb : Wd) (σ : St) (D : Addr) (Q : VK) (kont : List PV → PH → Res PV) (H : Hp) : Prop := ∃ w2 h2 acc accv, w2.H = H ∧ Ext w1 w2 ∧ ExtW wb w2 ∧ D ∈ w2.B ∧ Rel K w2 h2 ∧ w2.H D = some (.lst accv) ∧ Reps K w2 acc accv ∧ PostE K W (Rep K) w1 σ (kont acc h2) Q
def kontL (F : PV → PH → Res (List PV)) (xs : List PV) (kont : List PV → PH → Res PV) : List PV → PH → Res PV := fun acc h => (lcL F xs h).nox.bind fun zs h4 => kont (acc ++ zs) h4
theorem kontL_nil {F : PV → PH → Res (List PV)} {kont : List PV → PH → Res PV} {acc : List PV} {h : PH} : kontL F [] kont acc h = kont acc h := by
  simp [kontL, lcL]
theorem kontL_cons {F : PV → PH → Res (List PV)} {x : PV} {xs : List PV} {kont : List PV → PH → Res PV} {acc : List PV} {h : PH} : kontL F (x :: xs) kont acc h = (F x h).nox.bind fun ys h1 => kontL F xs kont (acc ++ ys) h1 := by
  simp only [kontL, lcL]
  cases e : F x h with
  | bad => simp
  | exc y hh => simp [Res.nox]
  | ok ys h1 =>
    simp only [Res.bind_ok, Res.nox_ok]
    cases e2 : lcL F xs h1 with
    | bad => simp
    | exc y hh => simp [Res.nox]
    | ok zs h2 => simp
/-- fill: the base stays -/
theorem AccAt.push {w1 wb w5 : Wd} {σ : St} {D : Addr} {Q : VK} {kont : List PV → PH → Res PV} {h : PH} {acc : List PV} {accv : List V} {y : PV} {yv : V} (hD : w1.H D = none) (x15 : Ext w1 w5) (xb : ExtW wb w5) (hB : D ∈ w5.B) (rel : Rel K w5 h) (hL : w5.H D = some (.lst accv)) (ra : Reps K w5 acc accv) (ry : Rep K w5 y yv)
    (p : PostE K W (Rep K) w1 σ (kont (acc ++ [y]) h) Q) : AccAt K W w1 wb σ D Q kont (upd w5.H D (.lst (accv ++ [yv]))) := by
  refine ⟨w5.add D (.lst (accv ++ [yv])), h, acc ++ [y], accv ++ [yv], rfl, ?_, xb.trans (ExtW.fill hB hL), hB, rel.fill hB hL, upd_same, (ra.append (.cons ry .nil)).fill hB hL, p⟩
  obtain ⟨l, el⟩ := x15.pre
  refine ⟨⟨l, el⟩, fun a o h n => ?_⟩
  obtain ⟨k1, k2, k3⟩ := x15.keep a o h n
  exact ⟨by show upd w5.H D _ a = _; rw [upd_ne (ne_of_none h hD)]; exact k1, k2, k3⟩
/-- one turn of the inner walk -/
theorem turn_ok {g : G} {vs : List Nat} {ρ : Sl} {dt : Sl → PH → Res Bool} {de : Sl → PH → Res PV} {xs : List PV} {J : It} {w1 wb : Wd} {σ0 σ : St} {D : Addr} {Q : VK} {kont : List PV → PH → Res PV} (hm : ∀ i ∈ g.slots, i ∈ vs) (hD : w1.H D = none) (wk : WalksR K wb xs J) (sl : SloR K wb σ ρ)
    (few : ∀ acc h, PostE K W (Rep K) w1 σ0 (kont acc h) Q → acc.length ≤ sizeLine) {i : Nat} {H : Hp} (hi : i ≤ xs.length) (h : AccAt K W w1 wb σ0 D Q (kontL (lcF g (wipeP ρ vs) dt de) (xs.drop i) kont) H) :
    (i = xs.length ∧ J.stop i H ∧ AccAt K W w1 wb σ0 D Q kont H) ∨ (i < xs.length ∧ J.go i H ∧ ∀ x H', J.yld i H x H' → gG K g x (L2.wipe σ vs) H' fun σ2 H2 => L2.wipe σ2 vs = L2.wipe σ vs ∧ tDb K WF dt σ2 H2 fun b H3 =>
      if b = true then tD K WF de σ2 H3 fun y H4 => ∃ acc, H4 D = some (.lst acc) ∧ acc.length < sizeLine ∧ AccAt K W w1 wb σ0 D Q (kontL (lcF g (wipeP ρ vs) dt de) (xs.drop (i + 1)) kont) (upd H4 D (.lst (acc ++ [y])))
      else AccAt K W w1 wb σ0 D Q (kontL (lcF g (wipeP ρ vs) dt de) (xs.drop (i + 1)) kont) H3) := by
  have few' : ∀ (l : List PV) acc h, PostE K W (Rep K) w1 σ0 (kontL (lcF g (wipeP ρ vs) dt de) l kont acc h) Q → acc.length ≤ sizeLine := by
    intro l acc h p
    unfold kontL at p
    cases e : lcL (lcF g (wipeP ρ vs) dt de) l h with
    | bad => rw [e] at p; simp only [Res.nox_bad, Res.bind_bad] at p; exact p.elim
    | exc y hh => rw [e] at p; simp only [Res.nox, Res.bind_bad] at p; exact p.elim
    | ok zs hz =>
      rw [e] at p
      simp only [Res.nox_ok, Res.bind_ok] at p
      have := few _ _ p
      rw [List.length_append] at this
      omega
  obtain ⟨w2, h2, acc, accv, rfl, x12, xb2, hB, rel2, hL, rac, p2⟩ := h
  obtain ⟨wkg, wks⟩ := wk.2 w2 h2 xb2 rel2
  by_cases hlt : i < xs.length
  · refine .inr ⟨hlt, ?_⟩
    have ei : xs[i]? = some xs[i] := List.getElem?_eq_getElem hlt
    obtain ⟨hgo, hy⟩ := wkg i _ ei
    rw [List.drop_eq_getElem_cons hlt, kontL_cons] at p2
    refine ⟨hgo, fun x H' hyl => ?_⟩
    obtain ⟨w3, rfl, x23, rel3, rp3⟩ := hy x H' hyl
    have hL3 := x23.keep D _ hL (rel2.busy D hB).2
    have sl3 : SloR K w3 (L2.wipe σ vs) (wipeP ρ vs) := (sl.monoW (xb2.trans x23.weak)).wipe vs
    cases hp : g.put xs[i] (wipeP ρ vs) with
    | none =>
      simp only [lcF, hp, optR, Res.bind_bad, Res.nox_bad] at p2
      exact p2.elim
    | some ρ' =>
      refine gG_mono ?_ (gG_wipe hm (put_ok hp rp3 sl3 (Q := fun τ H2 => H2 = w3.H ∧ SloR K w3 τ ρ') fun σ' hs => ⟨rfl, hs⟩))
      rintro σ2 H2 ⟨hw, rfl, sl2⟩
      rw [wipe_id] at hw
      refine ⟨hw, w3, ρ', h2, ⟨rfl, rel3, sl2⟩, ?_⟩
      simp only [lcF, hp, optR] at p2
      cases ht : dt ρ' h2 with
      | bad => simp only [ht, Res.bind_bad, Res.nox_bad] at p2; exact p2.elim
      | exc y hh => simp only [ht, Res.bind_exc, Res.nox, Res.bind_bad] at p2; exact p2.elim
      | ok b hb =>
        simp only [ht, Res.bind_ok] at p2
        intro w4 b' x34 rel4 eb
        subst eb
        have hL4 := x34.keep D _ hL3.1 hL3.2.1
        have hB4 : D ∈ w4.B := hL4.2.2.mpr (hL3.2.2.mpr hB)
        cases b with
        | false =>
          simp only [Bool.false_eq_true, if_false, Res.nox_ok, Res.bind_ok, List.append_nil] at p2 ⊢
          exact ⟨w4, hb, acc, accv, rfl, (x12.trans x23).trans x34, xb2.trans (x23.trans x34).weak, hB4, rel4, hL4.1, rac.mono (x23.trans x34), p2⟩
        | true =>
          simp only [if_true] at p2 ⊢
          refine ⟨w4, ρ', hb, ⟨rfl, rel4, sl2.mono x34⟩, ?_⟩
          cases he : de ρ' hb with
          | bad => simp only [he, Res.bind_bad, Res.nox_bad] at p2; exact p2.elim
          | exc y hh => simp only [he, Res.bind_exc, Res.nox, Res.bind_bad] at p2; exact p2.elim
          | ok y hy2 =>
            simp only [he, Res.bind_ok, Res.nox_ok] at p2
            intro w5 yv x45 rel5 ry
            have hL5 := x45.keep D _ hL4.1 hL4.2.1
            have hB5 : D ∈ w5.B := hL5.2.2.mpr hB4
            have fw := few' _ _ _ p2
            rw [List.length_append, List.length_singleton, rac.length] at fw
            exact ⟨accv, hL5.1, by omega, AccAt.push hD (((x12.trans x23).trans x34).trans x45) (xb2.trans ((x23.trans x34).trans x45).weak) hB5 rel5 hL5.1 (rac.mono ((x23.trans x34).trans x45)) ry p2⟩
  · have ei : i = xs.length := by omega
    subst ei
    rw [List.drop_length, kontL_nil] at p2
    exact .inl ⟨rfl, wks, w2, h2, acc, accv, rfl, x12, xb2, hB, rel2, hL, rac, p2⟩
def lcF2 (g : G) (ρ0 : Sl) (t : Sl → PH → Res Bool) (i1 : Sl → PH → Res (List PV)) (g1 : G) (vs1 : List Nat) (t1 : Sl → PH → Res Bool) (e : Sl → PH → Res PV) : PV → PH → Res (List PV) := fun x hh => optR (g.put x ρ0) hh fun ρ' =>
  (t ρ' hh).bind fun b h2 => if b = true then (i1 ρ' h2).bind fun zs h3 => lcL (lcF g1 (wipeP ρ' vs1) t1 e) zs h3 else .ok [] h2
def finL (ys : List PV) (h : PH) : Res PV := if ys.length ≤ sizeLine then .ok (.lst ys) h else .bad
theorem lc2_snd {own vs1 : List Nat} {g g1 : G} {di di1 : Sl → PH → Res (List PV)} {dt dt1 : Sl → PH → Res Bool} {de : Sl → PH → Res PV} {σ : St} {H : Hp} {Q : VK} (hm : ∀ i ∈ g.slots, i ∈ own) (hm1 : ∀ i ∈ g1.slots, i ∈ vs1)
    (t : tD K W (fun ρ h => (di ρ h).bind fun xs h1 => (lcL (lcF2 g (wipeP ρ own) dt di1 g1 vs1 dt1 de) xs h1).nox.bind fun ys h4 => finL ys h4) σ H Q) :
    tLc2 (tDen K W (WalksR K) di) (gG K g) (tDb K WF dt) (tDen K WF (WalksR K) di1) (gG K g1) (tDb K WF dt1) (tD K WF de) own vs1 σ H Q := by
  obtain ⟨w0, ρ, h0, at0, p0⟩ := t
  refine tDen.mono (bindE (rep := WalksR K) at0 p0) ?_
  rintro J H1 ⟨w1, h1, xs, x01, at1, wk, p1⟩ D hD
  obtain ⟨eH, rel1, sl1⟩ := at1
  subst eH
  have fin : ∀ acc h, PostE K W (Rep K) w1 σ (finL acc h) Q → acc.length ≤ sizeLine := fun acc h p => by
    unfold finL at p
    split at p
    · assumption
    · exact p.elim
  have finK : ∀ (F : PV → PH → Res (List PV)) (l acc : List PV) (h : PH), PostE K W (Rep K) w1 σ (kontL F l finL acc h) Q → acc.length ≤ sizeLine := fun F l acc h p => by
    unfold kontL at p
    cases e : lcL F l h with
    | bad => rw [e] at p; simp only [Res.nox_bad, Res.bind_bad] at p; exact p.elim
    | exc y hh => rw [e] at p; simp only [Res.nox, Res.bind_bad] at p; exact p.elim
    | ok zs hz =>
      rw [e] at p
      simp only [Res.nox_ok, Res.bind_ok] at p
      have := fin _ _ p
      rw [List.length_append] at this
      omega
  refine ⟨fun i m H => m = xs.length - i ∧ i ≤ xs.length ∧ AccAt K W w1 w1 σ D Q (kontL (lcF2 g (wipeP ρ own) dt di1 g1 vs1 dt1 de) (xs.drop i) finL) H, ?_, ?_⟩
  · refine ⟨xs.length, by simp, Nat.zero_le _, w1.busyD D (.lst []), h1, [], [], rfl, Ext.busyD hD, (Ext.busyD hD).weak, List.mem_cons_self, rel1.busyD hD, upd_same, .nil, ?_⟩
    simpa [kontL] using p1
  · rintro i m H ⟨rfl, hi, w2, h2, acc, accv, rfl, x12, xb2, hB, rel2, hL, rac, p2⟩
    obtain ⟨wkg, wks⟩ := wk.2 w2 h2 xb2 rel2
    by_cases hlt : i < xs.length
    · have ei : xs[i]? = some xs[i] := List.getElem?_eq_getElem hlt
      obtain ⟨hgo, hy⟩ := wkg i _ ei
      rw [List.drop_eq_getElem_cons hlt, kontL_cons] at p2
      refine .inr ⟨hgo, AccAt K W w1 w1 σ D Q (kontL (lcF2 g (wipeP ρ own) dt di1 g1 vs1 dt1 de) (xs.drop (i + 1)) finL), fun H' hN => ⟨xs.length - (i + 1), by omega, rfl, hlt, hN⟩, fun x H' hyl => ?_⟩
      obtain ⟨w3, rfl, x23, rel3, rp3⟩ := hy x H' hyl
      have hL3 := x23.keep D _ hL (rel2.busy D hB).2
      have sl3 : SloR K w3 (L2.wipe σ own) (wipeP ρ own) := (sl1.mono (x12.trans x23)).wipe own
      cases hp : g.put xs[i] (wipeP ρ own) with
      | none =>
        simp only [lcF2, hp, optR, Res.bind_bad, Res.nox_bad] at p2
        exact p2.elim
      | some ρ' =>
        refine gG_mono ?_ (gG_wipe hm (put_ok hp rp3 sl3 (Q := fun τ H2 => H2 = w3.H ∧ SloR K w3 τ ρ') fun σ' hs => ⟨rfl, hs⟩))
        rintro σ2 H2 ⟨hw, rfl, sl2⟩
        rw [wipe_id] at hw
        refine ⟨hw, w3, ρ', h2, ⟨rfl, rel3, sl2⟩, ?_⟩
        simp only [lcF2, hp, optR] at p2
        cases ht : dt ρ' h2 with
        | bad => simp only [ht, Res.bind_bad, Res.nox_bad] at p2; exact p2.elim
        | exc y hh => simp only [ht, Res.bind_exc, Res.nox, Res.bind_bad] at p2; exact p2.elim
        | ok b hb =>
          simp only [ht, Res.bind_ok] at p2
          intro w4 b' x34 rel4 eb
          subst eb
          have hL4 := x34.keep D _ hL3.1 hL3.2.1
          have hB4 : D ∈ w4.B := hL4.2.2.mpr (hL3.2.2.mpr hB)
          cases b with
          | false =>
            simp only [Bool.false_eq_true, if_false, Res.nox_ok, Res.bind_ok, List.append_nil] at p2 ⊢
            exact ⟨w4, hb, acc, accv, rfl, (x12.trans x23).trans x34, ((x12.trans x23).trans x34).weak, hB4, rel4, hL4.1, rac.mono (x23.trans x34), p2⟩
          | true =>
            simp only [if_true] at p2 ⊢
            refine ⟨w4, ρ', hb, ⟨rfl, rel4, sl2.mono x34⟩, ?_⟩
            cases hz : di1 ρ' hb with
            | bad => simp only [hz, Res.bind_bad, Res.nox_bad] at p2; exact p2.elim
            | exc y hh => simp only [hz, Res.bind_exc, Res.nox, Res.bind_bad] at p2; exact p2.elim
            | ok zs hh =>
              simp only [hz, Res.bind_ok] at p2
              intro w5 J1 x45 rel5 wk1
              have hL5 := x45.keep D _ hL4.1 hL4.2.1
              have hB5 : D ∈ w5.B := hL5.2.2.mpr hB4
              have x15 := ((x12.trans x23).trans x34).trans x45
              have sl5 : SloR K w5 σ2 ρ' := sl2.mono (x34.trans x45)
              refine ⟨fun j k H => k = zs.length - j ∧ j ≤ zs.length ∧ AccAt K W w1 w5 σ D Q (kontL (lcF g1 (wipeP ρ' vs1) dt1 de) (zs.drop j) (kontL (lcF2 g (wipeP ρ own) dt di1 g1 vs1 dt1 de) (xs.drop (i + 1)) finL)) H, ?_, ?_⟩
              · exact ⟨zs.length, by simp, Nat.zero_le _, w5, hh, acc, accv, rfl, x15, ExtW.refl _, hB5, rel5, hL5.1, rac.mono ((x23.trans x34).trans x45), by rw [List.drop_zero]; exact p2⟩
              · rintro j k H ⟨rfl, hj, ha⟩
                rcases turn_ok hm1 hD wk1 sl5 (fun acc h p => finK _ _ acc h p) hj ha with ⟨e, st, fa⟩ | ⟨lt, go, tr⟩
                · refine .inl ⟨st, ?_⟩
                  obtain ⟨w6, h6, a6, v6, e6, x16, _, r6⟩ := fa
                  exact ⟨w6, h6, a6, v6, e6, x16, x16.weak, r6⟩
                · exact .inr ⟨go, _, fun H' hN => ⟨zs.length - (j + 1), by omega, rfl, lt, hN⟩, tr⟩
    · have ei : i = xs.length := by omega
      subst ei
      refine .inl ⟨wks, ?_⟩
      rw [List.drop_length, kontL_nil] at p2
      unfold finL at p2
      split at p2
      · rename_i hl
        rw [rac.length] at hl
        refine p2 (w2.done D false) (.ref D) (x12.done hD) (rel2.done (live := false) hB hL rac hl) (.lst ⟨hL, (rel2.busy D hB).2, ?_, hl⟩ (rac.done hB hL))
        intro z
        exact (of_decide_eq_true (List.mem_filter.mp z).2) rfl
      · exact p2.elim
end
section
variable {X : Cx} {W : WX} {a b c : Expr} {pos : Pos} {da db dc : Sl → PH → Res PV}
theorem se_lc2 {own vs1 : List Nat} {g g1 : R.G} {C : CC} {Φ : Fns} {k : Nat} {elt tg iter tg1 iter1 : Expr} {ifs ifs1 : List Expr} {scope : Scope} {di di1 : Sl → PH → Res (List PV)} {dt dt1 : Sl → PH → Res Bool} {de : Sl → PH → Res PV} (G : Good C Φ k X W) (hk : blkC C.N C.sc scope (ownN C own) = true) (hset : noSet iter = true) (hset1 : noSet iter1 = true)
    (hi : PI X tg iter (tDen X.K W (WalksR X.K) di)) (hg : chkG (C.blk scope) g tg = true) (hsl : ∀ i ∈ g.slots, i ∈ own) (ht : ∀ {X' : Cx} {W' : WX}, Good (C.blk scope) Φ k X' W' → PTs X' ifs (tDb X'.K W' dt)) (hv : ∀ i ∈ vs1, i ∈ own)
    (hi1 : ∀ {X' : Cx} {W' : WX}, Good (C.blk scope) Φ k X' W' → PI X' tg1 iter1 (tDen X'.K W' (WalksR X'.K) di1)) (hg1 : chkG (C.blk scope) g1 tg1 = true) (hsl1 : ∀ i ∈ g1.slots, i ∈ vs1)
    (ht1 : ∀ {X' : Cx} {W' : WX}, Good (C.blk scope) Φ k X' W' → PTs X' ifs1 (tDb X'.K W' dt1)) (he : ∀ {X' : Cx} {W' : WX}, Good (C.blk scope) Φ k X' W' → PE X' elt (tD X'.K W' de)) :
    PE X (.ListComp elt [⟨tg, iter, ifs, 0⟩, ⟨tg1, iter1, ifs1, 0⟩] scope pos) (tD X.K W fun ρ h => (di ρ h).bind fun xs h1 => (lcL (lcF2 g (wipeP ρ own) dt di1 g1 vs1 dt1 de) xs h1).nox.bind fun ys h4 => finL ys h4) := by
  have bk : BlkOk X.N X.env.scope scope (ownN C own) := by rw [G.names, G.scope]; exact blkOk_by hk
  have eo : (ownN C own).map (·.2) = own := by unfold ownN; rw [List.map_map]; exact List.map_id' own
  have pe := pe_lc2 (X := X) (tg := tg) (iter := iter) (ifs := ifs) (elt := elt) (scope := scope) (own := ownN C own) (vs1 := vs1) (pos := pos) (g := gG X.K g) (g1 := gG X.K g1) (tt := tDb X.K WF dt) (tt1 := tDb X.K WF dt1) (te := tD X.K WF de) (wi1 := tDen X.K WF (WalksR X.K) di1) G.calm (by rw [G.names]; exact G.nd) hi bk (by rw [eo]; exact hv)
    (fun s H c cl fp => pg_V (G.blk s H scope cl c fp) hg) (fun s H c cl fp => ht (G.blk s H scope cl c fp)) (fun s H c cl fp => hi1 (G.blk s H scope cl c fp)) (fun s H c cl fp => pg_V (G.blk s H scope cl c fp) hg1) (fun s H c cl fp => ht1 (G.blk s H scope cl c fp)) (fun s H c cl fp => he (G.blk s H scope cl c fp)) (fun x => noSetE hset X.env x) (fun env x => noSetE hset1 env x)
  rw [eo] at pe
  exact PE.imp pe fun σ H Q t => lc2_snd hsl hsl1 t
/-! ### sets -/
mutual
theorem PV.key_pure : ∀ (p : PV), pureKey p.key = true
  | .int i => by rw [PV.key]; rfl
  | .tup xs => by rw [PV.key, pureKey]; exact PV.keys_pure xs
  | .non => by rw [PV.key]; rfl; all_goals simp
  | .bl _ => by rw [PV.key]; rfl; all_goals simp
  | .str _ => by rw [PV.key]; rfl; all_goals simp
  | .lst _ => by rw [PV.key]; rfl; all_goals simp
  | .ref _ => by rw [PV.key]; rfl; all_goals simp
  | .ty _ => by rw [PV.key]; rfl; all_goals simp
  | .scr _ => by rw [PV.key]; rfl; all_goals simp
  | .dct _ _ => by rw [PV.key]; rfl; all_goals simp
  | .obj _ _ _ => by rw [PV.key]; rfl; all_goals simp
theorem PV.keys_pure : ∀ (ps : List PV), pureKeys (PV.keys ps) = true
  | [] => by rw [PV.keys]; rfl
  | p :: ps => by rw [PV.keys, pureKeys, PV.key_pure p, PV.keys_pure ps]; rfl
end
theorem PV.keys_eq : ∀ ps : List PV, PV.keys ps = ps.map PV.key
  | [] => by rw [PV.keys]; rfl
  | p :: ps => by rw [PV.keys, PV.keys_eq ps]; rfl
/-- the members as rows -/
theorem ents_of {w : Wd} {pins : List (Addr × Obj)} {σ : St} {s : Shared} (I : Inv X pins σ w.H s) : ∀ {ps : List PV} {vs : List V} {us : List Value}, Reps X.K w ps vs → Vals vs us → PV.keysB ps = true → ps.all isTupV = true → (PV.keys ps).all (fun k => decide (k.depth ≤ 8)) = true →
    ∃ ks : List Ent, us = ks.map (fun e => Value.ref e.ad) ∧ ks.map Ent.key = PV.keys ps ∧ ∀ e ∈ ks, NK s.heap e.key e.ad
  | _, _, _, .nil, .nil, _, _, _ => ⟨[], rfl, by rw [PV.keys]; rfl, fun e he => by cases he⟩
  | _, _, _, .cons (x := p) r t, .cons r' t', e, h2, h3 => by
    rw [PV.keysB, Bool.and_eq_true] at e
    rw [List.all_cons, Bool.and_eq_true] at h2
    rw [PV.keys, List.all_cons, Bool.and_eq_true, decide_eq_true_eq] at h3
    obtain ⟨ks, k1, k2, k3⟩ := ents_of I t t' e.2 h2.2 h3.2
    have nst := Rep.nested I r r' e.1
    cases p <;> first | (simp [isTupV] at h2; done) | skip
    rename_i xs
    cases r with
    | tup ha ra =>
      cases r'
      rename_i ad _
      refine ⟨⟨ad, (PV.tup xs).key⟩ :: ks, by rw [k1]; rfl, by rw [PV.keys, List.map_cons, k2], fun z hz => ?_⟩
      rcases List.mem_cons.mp hz with q | q
      · rw [q]; exact ⟨nst, h3.1, PV.key_pure _⟩
      · exact k3 z q
theorem se_lenSet {x z : Str} {p p2 pos2 : Pos} {y : Expr} (hx : x = "len") (hz : z = "set") (hc : X.calm = true) (hu : X.A.units + 70 < cLine) (hg : Gl X x) (hm : X.mg x = none) (hg2 : Gl X z) (hm2 : X.mg z = none) (h1 : nostar y = true) (ha : PE X y (tD X.K W da)) :
    PE X (.Call (.Name x p) [.Call (.Name z p2) [y] [] pos2] [] pos) (tD X.K W fun ρ h => (da ρ h).bind fun q h1 => Res.of ((tupV q).bind lenSetV) h1) := by
  subst hx hz
  refine ⟨fun pins s σ H Q I t => ?_⟩
  have t := tOne (r := fun q _ => (tupV q).bind lenSetV) t
  refine PyProof.Rows.Call_ (ld_blt I hg hm boot_len ?_)
  refine PyProof.Rows.callWith_builtin1 (PyProof.Rows.args_cons ?_ rfl) rfl rfl
  refine PyProof.Rows.Call_ (ld_blt I hg2 hm2 PyProof.Rows.boot_set ?_)
  refine PyProof.Rows.callWith_type1 (PyProof.Rows.args_cons (thn (ha.run pins s σ H _ I t) fun v s1 ⟨vx, H1, I1, r1, q1⟩ => PyProof.Rows.args_nil ?_) (star1 h1 _ _)) (star1 h1 _ _) rfl
  obtain ⟨w, pq, hh, res, rfl, rel, rp, e, aft⟩ := q1
  cases pq <;> first | (cases e; done) | skip
  rename_i xs
  simp only [tupV, Option.bind_some] at e
  cases rp with
  | tup hta rta =>
  cases r1
  obtain ⟨its, rv, pt, hz⟩ := I1.tuple hta.sq
  have ptt : s1.heap.IsTuple _ its.toArray := pt
  unfold lenSetV at e
  split at e
  · rename_i hf
    simp only [Bool.and_eq_true, decide_eq_true_eq] at hf
    obtain ⟨⟨⟨f1, f2⟩, f3⟩, f4⟩ := hf
    obtain ⟨ks, k1, k2, k3⟩ := ents_of I1 rta rv f1 f2 f3
    have kl : ks.length = xs.length := by
      have := congrArg List.length k2
      rwa [List.length_map, PV.keys_eq, List.length_map] at this
    cases e
    refine call_set_nest ks (I1.ok.hd hc) ptt (by simpa using k1) k3 (by omega) (by omega) fun h' tk L es ep t0 R0 g0 hk => ?_
    refine PyProof.Rows.args_nil ?_
    obtain ⟨o, ho, hex, hd⟩ := R0.obj
    have cnt := g0.count R0
    rw [k2] at cnt
    have I2 : Inv X pins σ w.H { s1 with heap := h', toks := tk } := I1.kept fun b o e => hk b o e
    have sz := NSet.len (s := { s1 with heap := h', toks := tk }) R0
    have lle : L.length ≤ 76 := by have := g0.len; omega
    have szz : es.size = (dedupK (PV.keys xs)).length := by rw [sz, cnt]
    exact call_len_set ho hex hd (NSet.fits (s := { s1 with heap := h', toks := tk }) R0) (by rw [sz]; omega) ⟨.int (dedupK (PV.keys xs)).length, w.H, I2.tok _, ⟨_, by rw [szz]⟩, aft.now rel (.int _)⟩
  · cases hi : allV intV xs with
    | none => rw [hi] at e; cases e
    | some ns =>
      rw [hi] at e
      simp only [Option.bind_some] at e
      split at e
      · rename_i hl
        cases e
        have ex := allV_int hi
        subst ex
        have ev := rta.intsV
        subst ev
        refine call_set_tupI ns (I1.ok.hd hc) ptt (by simpa using RZ.intsAre_vals rv) (by unfold scanBound; omega) fun h' tk cc R0 hcc hk => ?_
        refine PyProof.Rows.args_nil ?_
        obtain ⟨o, es, ep, t0, ho, hex, hd, _, nd, mm, _, hf, hn, _⟩ := R0
        have I2 : Inv X pins σ w.H { s1 with heap := h', toks := tk } := I1.kept fun b o e => hk b o e
        have szz : es.size = (dedupK ns).length := by
          rw [← Array.length_toList, ← List.length_map (f := L2.keyOf)]
          refine len_of_same nd (dedupK_nodup ns) fun k => ?_
          rw [← mm k, decide_eq_true_eq, dedupK_mem]
        exact call_len_set ho hex hd hf (by rw [hn]; omega) ⟨.int (dedupK ns).length, w.H, I2.tok _, ⟨_, by rw [szz]⟩, aft.now rel (.int _)⟩
      · cases e
theorem sort_uniq {a b : List Int} (ha : a.Pairwise (· < ·)) (hb : b.Pairwise (· ≤ ·)) (nb : b.Nodup) (h : ∀ x, x ∈ a ↔ x ∈ b) : a = b := by
  have na : a.Nodup := ha.imp fun h => by omega
  have pm : a.Perm b := (List.perm_ext_iff_of_nodup na nb).mpr h
  exact pm.eq_of_pairwise (le := fun x y => x ≤ y) (fun x y _ _ h1 h2 => by omega) (ha.imp fun h => by omega) hb
theorem sorted_after {w : Wd} {hh : PH} {pins : List (Addr × Obj)} {σ : St} {s : Shared} {ns : List Int} {ad : Addr} {cc : Nat} {Q : VK} (I : Inv X pins σ w.H s) (R0 : SetR X.w s.heap ad (fun j => decide (j ∈ ns)) cc) (hc : X.calm = true) (hl : ns.length < 60) (hcc : cc ≤ ns.length) (rel : Rel X.K w hh)
    (aft : Aft X.K w hh (.lst ((dedupK ns).mergeSort.map .int)) Q) : wpAny (model X.prog X.w) X.A (PySem.call (.builtin "sorted") [.ref ad]) (EP X pins σ Q) X.xe s := by
  refine sorted_set R0 (I.ok.hd hc) (by omega) fun s' pp out c ms k g o hp hgt hin hs hmm hlen => ?_
  have hmz : ms.length ≤ sizeLine := by rw [hlen, sizeLine_eq]; omega
  have hlen' : (ms.map V.int).length ≤ sizeLine := by rw [List.length_map]; exact hmz
  have hn : w.H pp = none := I.hok.fresh hp
  have J : Inv X pins σ (upd w.H pp (.lst (ms.map V.int))) { s with heap := s'.heap, gens := s'.gens, drawn := s'.drawn, toks := s'.toks } :=
    I.call (ch := []) (Un.laid k hp hn) (I.hok.laid k hp ⟨hlen', out.toList, c, vals_of_ints hin, hgt⟩) (by rw [g]; exact I.bare) (fun _ z => nomatch z)
  have es' : s' = { s with heap := s'.heap, gens := s'.gens, drawn := s'.drawn, toks := s'.toks } := by
    cases s'
    cases s
    cases o
    rfl
  rw [es']
  have eqs : ms = (dedupK ns).mergeSort := by
    have pmS := List.mergeSort_perm (dedupK ns) (fun a b => decide (a ≤ b))
    refine sort_uniq hs ?_ (pmS.nodup_iff.mpr (dedupK_nodup ns)) fun x => ?_
    · have := List.pairwise_mergeSort (le := fun a b : Int => decide (a ≤ b)) (fun a b c h1 h2 => by simp only [decide_eq_true_eq] at *; omega) (fun a b => by simp only [Bool.or_eq_true, decide_eq_true_eq]; omega) (dedupK ns)
      exact this.imp fun h => by simpa using h
    · rw [hmm x, decide_eq_true_eq, pmS.mem_iff, dedupK_mem]
  refine ⟨.ref pp, _, J, rfl, ?_⟩
  rw [← eqs] at aft
  exact aft.lst rel (Reps.ints ms) hlen' pp hn
theorem se_sortedSet {x z : Str} {p p2 pos2 : Pos} {y : Expr} (hx : x = "sorted") (hz : z = "set") (hc : X.calm = true) (hu : X.A.units + 70 < cLine) (hg : Gl X x) (hm : X.mg x = none) (hg2 : Gl X z) (hm2 : X.mg z = none) (h1 : nostar y = true) (ha : PE X y (tD X.K W da)) :
    PE X (.Call (.Name x p) [.Call (.Name z p2) [y] [] pos2] [] pos) (tD X.K W fun ρ h => (da ρ h).bind fun q h1 => Res.of ((tupV q).bind sortedSetV) h1) := by
  subst hx hz
  refine ⟨fun pins s σ H Q I t => ?_⟩
  have t := tOne (r := fun q _ => (tupV q).bind sortedSetV) t
  refine PyProof.Rows.Call_ (ld_blt I hg hm (by decide +kernel : bootBuiltins "sorted" = some (.builtin "sorted")) ?_)
  refine PyProof.Rows.callWith_builtin1 (PyProof.Rows.args_cons ?_ rfl) rfl rfl
  refine PyProof.Rows.Call_ (ld_blt I hg2 hm2 PyProof.Rows.boot_set ?_)
  refine PyProof.Rows.callWith_type1 (PyProof.Rows.args_cons (thn (ha.run pins s σ H _ I t) fun v s1 ⟨vx, H1, I1, r1, q1⟩ => PyProof.Rows.args_nil ?_) (star1 h1 _ _)) (star1 h1 _ _) rfl
  obtain ⟨w, pq, hh, res, rfl, rel, rp, e, aft⟩ := q1
  cases pq <;> first | (cases e; done) | skip
  rename_i xs
  simp only [tupV, Option.bind_some] at e
  cases rp with
  | tup hta rta =>
  cases r1
  obtain ⟨its, rv, pt, hz⟩ := I1.tuple hta.sq
  have ptt : s1.heap.IsTuple _ its.toArray := pt
  rw [sortedSetV_eq] at e
  cases hi : allV intV xs with
  | none => rw [hi] at e; cases e
  | some ns =>
    rw [hi] at e
    simp only [Option.bind_some] at e
    split at e
    · rename_i hl
      cases e
      have ex := allV_int hi
      subst ex
      have ev := rta.intsV
      subst ev
      refine call_set_tupI ns (I1.ok.hd hc) ptt (by simpa using RZ.intsAre_vals rv) (by unfold scanBound; omega) fun h' tk cc R0 hcc hk => ?_
      refine PyProof.Rows.args_nil ?_
      have I2 : Inv X pins σ w.H { s1 with heap := h', toks := tk } := I1.kept fun b o e => hk b o e
      exact sorted_after I2 R0 hc hl (by omega) rel aft
    · cases e
end
end R

set_option Elab.async false
set_option linter.all false
set_option maxRecDepth 100000
set_option maxHeartbeats 1000000
/-! D: for .. in a dict whose keys are tuples -/
namespace R
open PySem PySem.Spec L2
/-- the keys of the dict at d, in their order -/
def ItD (d : Addr) (es : Array DictEntry) (ep : Nat) (vs : List V) : It :=
  ⟨fun i H => H d = some (.ext (dctφ d es ep)) ∧ i < vs.length, fun i H x H' => H' = H ∧ vs[i]? = some x, fun i H => H d = some (.ext (dctφ d es ep)) ∧ vs.length ≤ i⟩
theorem turn_dct {P : Program} {w : World} {K : PySem.W.Frag} {tg : Expr} {d : Addr} {es : Array DictEntry} {ep : Nat} {vs : List V} (it : Addr) (hsz : es.size = vs.length) (hv : ∀ (i : Nat) (v : V), vs[i]? = some v → ∃ en : DictEntry, es[i]? = some en ∧ RelV v en.key) :
    Turn P w K tg (ItD d es ep vs) [it] it (fun i h => h.IsKeyIter it d i vs.length ep) where
  mem := by simp
  obj := fun i h st b hb => by
    have e : b = it := by simpa using hb
    subst e
    obtain ⟨oi, e, _, dd⟩ := st
    exact ⟨oi, e, fun v z => by rw [dd] at z; cases z⟩
  keep := fun i h h' st k => st.at fun oi e => k it (by simp) oi e
  item := by
    intro X hP hw hK hc i pins s σ H E I hf st hg
    subst hP hw hK
    obtain ⟨hd, hi⟩ := hg
    obtain ⟨f0, f1, _, f3, f4, f5⟩ := hf it (by simp)
    obtain ⟨⟨o, g1, _, g3⟩, _, _⟩ := I.hok d _ hd
    have hx : vs[i]? = some vs[i] := List.getElem?_eq_getElem hi
    obtain ⟨en, hen, rv⟩ := hv i _ hx
    refine next_key_item st g1 g3 hsz hen fun h' st' sb => ?_
    have I1 : Inv X pins σ H { s with heap := h' } := I.turned (t' := s.toks) (fun b ob hb e => (sb.2 b hb).trans e) f0 f1 f3 f4 f5
    obtain ⟨oi, e, c, dd⟩ := id st'
    exact ⟨en.key, rfl, go_of (s := { s with heap := h' }) e c dd (by decide) ⟨_, H, I1, rv, ⟨rfl, hx⟩, st', fun b hb => (hf b hb).1⟩⟩
  done := by
    intro X hP hw hK hc i pins s σ H E I hf st hg
    subst hP hw hK
    obtain ⟨hd, hi⟩ := hg
    obtain ⟨f0, f1, _, f3, f4, f5⟩ := hf it (by simp)
    obtain ⟨⟨o, g1, _, g3⟩, _, _⟩ := I.hok d _ hd
    exact next_key_end (I.ok.hd hc) st g1 g3 hsz hi fun h' eb => ⟨rfl, I.turned (t' := s.toks) (fun b ob hb e => eb b ob hb e) f0 f1 f3 f4 f5⟩
  self := fun A i s Q E st h => wpAny_pyIter_keyiter st h
section
variable {X : Cx} {W : WX} {a tg : Expr} {da : Sl → PH → Res PV}
theorem si_dks (ha : PE X a (tD X.K W da)) : PI X tg a (tDen X.K W (WalksR X.K) fun ρ h => (da ρ h).bind fun p h1 => Res.of (dksV p) h1) := by
  refine ⟨fun pins s σ H R I t => ?_⟩
  obtain ⟨w, ρ, h, at_, p⟩ := t
  refine thn (ha.run pins s σ H _ I (bindE (rep := Rep X.K) at_ p)) fun u s1 z => ?_
  obtain ⟨x, H1, I1, rx, w1, h1, p1, x1, at1, r1, q1⟩ := z
  obtain ⟨xs, e, aft⟩ := postOf q1
  obtain ⟨eh, rel1, sl1⟩ := at1
  subst eh
  unfold dksV at e
  split at e
  · cases e
    cases r1 with
    | @dct ad _ _ d ra kb =>
      cases rx
      have d0 := d
      obtain ⟨es, ep, ys, h1', h2, h3, h4, h5, h6, h7, rfl, h9, h10⟩ := d
      obtain ⟨⟨o, g1, g2, g3⟩, _, _⟩ := I1.hok _ _ h1'
      have he := h6 X.prog X.w
      have hsz : es.size = (ys.map fun x => V.ref x.2.1).length := by
        have := congrArg List.length he
        simpa using this
      have hv : ∀ (i : Nat) (v : V), (ys.map fun x => V.ref x.2.1)[i]? = some v → ∃ en : DictEntry, es[i]? = some en ∧ RelV v en.key := fun i v hv => by
        rw [List.getElem?_map] at hv
        cases hy : ys[i]? with
        | none => rw [hy] at hv; cases hv
        | some y =>
          rw [hy] at hv
          cases hv
          refine ⟨entryOfKey (nestedKind X.prog X.w) y, ?_, rfl⟩
          rw [← Array.getElem?_toList, he, List.getElem?_map, hy]
          rfl
      refine iter_keys h5 g1 g2 g3 (pi_one (tk := s1.toks) I1 _ (turn_dct (d := ad) (ep := ep) (vs := ys.map fun x => V.ref x.2.1) _ hsz hv) ⟨_, Heap.get?_push_size _ rfl, rfl, ?_⟩ ?_)
      · rw [hsz] <;> rfl
      · refine aft w1 _ (Ext.refl w1) rel1 ⟨by rw [ra.length]; exact h4, fun w2 hh2 x2 rel2 => ?_⟩
        have hd2 : w2.H _ = some (.ext (dctφ _ es ep)) := (x2.keep _ _ h1' h2 (.inl h3)).1
        refine ⟨fun i p ei => ?_, hd2, by rw [ra.length]; exact Nat.le_refl _⟩
        obtain ⟨v, k1, k2⟩ := ra.get ei
        refine ⟨⟨hd2, (List.getElem?_eq_some_iff.mp k1).1⟩, fun y H' hy => ?_⟩
        obtain ⟨rfl, hy⟩ := hy
        rw [k1] at hy
        cases hy
        exact ⟨w2, rfl, Ext.refl _, rel2, k2.monoW x2⟩
  · cases e
end
end R

set_option Elab.async false
set_option linter.all false
set_option maxRecDepth 100000
set_option maxHeartbeats 1000000
/-! D: {x: True for x in ..}, x tuples -/
namespace R
open PySem PySem.Spec L2
/-- a key is put behind -/
def putE (es : Array DictEntry) (k : NestedKey) (wo : World) (b : Addr) : Array DictEntry := es.push ⟨k.hash wo, .ref b, .bool true⟩
theorem put_dct {X : Cx} {pins : List (Addr × Obj)} {σ : St} {H : Hp} {s : Shared} {E : Value → Shared → Prop} {D b : Addr} {es : Array DictEntry} {ep : Nat} {ys : List (NestedKey × Addr × Value)} {k : NestedKey} {Q : Unit → Shared → Prop} (hu : X.A.units + 20 < cLine) (I : Inv X pins σ H s)
    (hD : H D = some (.ext (dctφ D es ep))) (he : es.toList = ys.map (entryOfKey (nestedKind X.prog X.w))) (his : ∀ y ∈ ys, NestedIs s.heap y.1 (.ref y.2.1) ∧ y.1.depth ≤ 8) (nd : (ys.map (·.1)).Nodup) (hk : NestedIs s.heap k (.ref b)) (dk : k.depth ≤ 8) (new : k ∉ ys.map (·.1)) (hz : ys.length ≤ sizeLine)
    (h : ∀ (s' : Shared) (es' : Array DictEntry) (ep' : Nat), es'.toList = (ys ++ [(k, b, Value.bool true)]).map (entryOfKey (nestedKind X.prog X.w)) → Inv X pins σ (upd H D (.ext (dctφ D es' ep'))) s' → Q () s') : wpAny (model X.prog X.w) X.A (dictSet D (.ref b) (.bool true)) Q E s := by
  obtain ⟨⟨o, g1, g2, g3⟩, _, _⟩ := I.hok D _ hD
  refine wpAny_dictSet_heap (knd := nestedKind X.prog X.w) (xs := ys) (hsz := hz) (by show X.A.units + 8 < cLine; omega) ⟨hk, dk⟩ ⟨o, es, ep, g1, g2, g3, he, his, nd⟩ fun h' dd hs => ?_
  have na : atKey ys k = none := by
    have := atKey_iff ys k
    rw [decide_eq_false new] at this
    cases q : atKey ys k with
    | none => rfl
    | some p => rw [q] at this; cases this
  rw [storedH_new na] at dd
  obtain ⟨o', es', ep', q1, q2, q3, q4, q5, q6⟩ := dd
  refine h _ es' ep' q4 (d_write I (by rw [hD]; exact True.intro) hs ⟨o', q1⟩ ⟨⟨o', q1, q2, q3⟩, ⟨o', q1⟩, fun h1 h2 ⟨oo, z1, z2, z3⟩ k => ⟨oo, k oo z1, z2, z3⟩⟩)
end R

set_option Elab.async false
set_option linter.all false
set_option maxRecDepth 100000
set_option maxHeartbeats 1000000
/-! D: name = {x: True for x in t}, x tuples -/
namespace R
open PySem PySem.Spec PyProof.Rows L2
mutual
theorem key_hash (w w' : World) : ∀ p : PV, p.keyB = true → p.key.hash w = p.key.hash w'
  | .non, _ => rfl
  | .int _, _ => rfl
  | .tup xs, h => by
    rw [PV.keyB] at h
    rw [PV.key, NestedKey.hash, NestedKey.hash, keys_hash w w' xs h]
  | .bl _, h => by simp [PV.keyB] at h
  | .str _, h => by simp [PV.keyB] at h
  | .ty _, h => by simp [PV.keyB] at h
  | .lst _, h => by simp [PV.keyB] at h
  | .scr _, h => by simp [PV.keyB] at h
  | .ref _, h => by simp [PV.keyB] at h
  | .dct _ _, h => by simp [PV.keyB] at h
  | .obj _ _ _, h => by simp [PV.keyB] at h
theorem keys_hash (w w' : World) : ∀ ps : List PV, PV.keysB ps = true → NestedKey.hashes w (PV.keys ps) = NestedKey.hashes w' (PV.keys ps)
  | [], _ => rfl
  | p :: ps, h => by
    rw [PV.keysB, Bool.and_eq_true] at h
    rw [PV.keys, NestedKey.hashes, NestedKey.hashes, key_hash w w' p h.1, keys_hash w w' ps h.2]
end
/-- a key is put into the dict that is being made -/
def DPutN (K : PySem.W.Frag) (D : Addr) (y : V) (H : Hp) (Nx : Hp → Prop) : Prop := ∃ (w : Wd) (p : PV) (b : Addr) (es : Array DictEntry) (ep : Nat) (ys : List (NestedKey × Addr × Value)) (xs : List PV), w.H = H ∧ y = .ref b ∧ Rep K w p y ∧ p.keyB = true ∧ p.key.depth ≤ 8 ∧
  H D = some (.ext (dctφ D es ep)) ∧ (∀ P wo, es.toList = ys.map (entryOfKey (nestedKind P wo))) ∧ ys.map (·.1) = PV.keys xs ∧ Reps K w xs (ys.map fun x => V.ref x.2.1) ∧ PV.keysB xs = true ∧ (∀ k ∈ PV.keys xs, k.depth ≤ 8) ∧ (PV.keys xs).Nodup ∧ p.key ∉ PV.keys xs ∧ ys.length ≤ sizeLine ∧
  ∀ es' ep', (∀ P wo, es'.toList = (ys ++ [(p.key, b, Value.bool true)]).map (entryOfKey (nestedKind P wo))) → Nx (upd H D (.ext (dctφ D es' ep')))
def tDcN (K : PySem.W.Frag) (wi : TI) (g : TG) (tk : TE) (vs : List Nat) : TE := fun σ H Q => wi σ H fun J H1 => ∀ D, H1 D = none → (D == sysModules) = false → ∃ W : Nat → Nat → Hp → Prop, (∃ m, W 0 m (upd H1 D (.ext (dctφ D #[] 0)))) ∧ ∀ i m H, W i m H →
  (J.stop i H ∧ Q (.ref D) H) ∨ (J.go i H ∧ ∃ Nx : Hp → Prop, (∀ H', Nx H' → ∃ m', m' < m ∧ W (i + 1) m' H') ∧ ∀ x H', J.yld i H x H' → g x (wipe σ vs) H' fun σ2 H2 => wipe σ2 vs = wipe σ vs ∧ tk σ2 H2 fun y H4 => DPutN K D y H4 Nx)
section
variable {X : Cx}
theorem dcN_core {pins : List (Addr × Obj)} {s : Shared} {σ : L2.St} {H : Hp} {Q : VK} {kx tg iter : Expr} {scope : Scope} {own : List (Str × Nat)} {pos pos' pc : Pos} {kc : Nat} {wi : TI} {g : TG} {tk : TE} {use : Option (Value → Sem Unit)} {Qf : Value → Shared → Prop}
    (hu : X.A.units + 20 < cLine) (hc : X.calm = true) (hN : X.N.Nodup) (I : Inv X pins σ H s) (hi : PI X tg iter wi) (ok : BlkOk X.N X.env.scope scope own)
    (hg : ∀ (s : Shared) (H : Hp) (C : Addr) (cl : List (Str × Addr)) (fp : List Addr), PG (X.blk s H scope (compEnvC scope cl C X.env) fp) tg g)
    (hk : ∀ (s : Shared) (H : Hp) (C : Addr) (cl : List (Str × Addr)) (fp : List Addr), PE (X.blk s H scope (compEnvC scope cl C X.env) fp) kx tk)
    (hs : ∀ x, foldedSetIterable iter X.env x = pure x)
    (h : tDcN X.K wi g tk (own.map (·.2)) σ H Q)
    (hRR : ∀ D C s' m H', Inv X pins σ H' s' → Q (.ref D) H' → s'.heap.Ns C m → FpOk X pins H' C → compPost (model X.prog X.w) X.A X.xe use Qf (.ref D) C (.ok .next) s') :
    wpAny (model X.prog X.w) X.A (comprehension (.DictComp kx (.Constant (.bool true) kc pc) [⟨tg, iter, [], 0⟩] scope pos) scope X.env pos' newDict false (eval iter X.env) use) Qf X.xe s := by
  have hfree : ∀ y ∈ scope.names, y.2 = .free → ∃ c, X.env.cells.lookup y.1 = some c := fun y hy e => by
    rcases ok.free y hy e with k | k
    · exact I.ok.has _ (.inl k)
    · exact I.ok.has _ (.inr k)
  refine wpAny_comprehension_free (use := use) rfl hs (closure_ok hfree) ok.kind (fun y hy e => by rw [ok.uniq y hy, e])
    (thn (hi.run pins s σ H _ I h) fun xv s1 hx => thn hx fun itv s2 h2 => ?_)
  obtain ⟨it, fp, tn, J, H2, e, I2, T, st2, f2, q⟩ := h2
  subst e
  refine wpAny_newObj_type (newEnv_comp ?_)
  generalize hD : s2.heap.objs.size = D
  have hDn : H2 D = none := I2.hok.fresh (Nat.le_of_eq hD)
  have hDs : (D == sysModules) = false := by rw [← hD]; exact beq_eq_false_iff_ne.mpr (Ne.symm (Nat.ne_of_lt I2.big))
  obtain ⟨W, ⟨m0, w0⟩, turn⟩ := q D hDn hDs
  -- the new list
  generalize hs3 : ({ s2 with heap := s2.heap.push { cls := .type "dict", data := .dict #[] } } : Shared) = s3
  have I3 : Inv X pins σ (upd H2 D (.ext (dctφ D #[] 0))) s3 := by
    rw [← hs3]
    refine I2.laid (t' := s2.toks) (fun b o e => Heap.get?_push_of_some _ e) (Nat.le_of_eq hD) ?_
    rw [← hD]
    exact ⟨⟨_, Heap.get?_push_size _ rfl, ⟨rfl, rfl, rfl⟩, rfl⟩, ⟨_, Heap.get?_push_size _ rfl⟩, fun h1 h2 ⟨oo, z1, z2, z3⟩ k => ⟨oo, k oo z1, z2, z3⟩⟩
  have h3 : s3.heap = s2.heap.push { cls := .type "dict", data := .dict #[] } := by rw [← hs3]
  have sz : ∀ b ∈ fp, b < s2.heap.objs.size := fun b hb => by
    obtain ⟨o, e, _⟩ := T.obj _ _ st2 b hb
    exact Heap.lt_size e
  have f3 : ∀ b ∈ fp, FpOk X pins (upd H2 D (.ext (dctφ D #[] 0))) b ∧ b < s3.heap.objs.size := fun b hb => by
    have hlt := sz b hb
    refine ⟨⟨?_, (f2 b hb).2⟩, by rw [h3, Heap.size_push]; exact Nat.lt_succ_of_lt hlt⟩
    rw [upd_ne (by rw [← hD]; exact Nat.ne_of_lt hlt)]
    exact (f2 b hb).1
  have st3 : tn 0 s3.heap := T.keep _ _ _ st2 fun b _ o e => by rw [h3]; exact Heap.get?_push_of_some _ e
  have I4 := block_start I3 ok hN f3
  have pg := hg s3 (upd H2 D (.ext (dctφ D #[] 0))) s3.heap.objs.size (cellsFrom (s3.heap.objs.size + 1) scope.names (cloFrom X.env.cells scope.names [])) fp
  have pk := hk s3 (upd H2 D (.ext (dctφ D #[] 0))) s3.heap.objs.size (cellsFrom (s3.heap.objs.size + 1) scope.names (cloFrom X.env.cells scope.names [])) fp
  show codeAny _ _ (.compStart (.DictComp kx (.Constant (.bool true) kc pc) [⟨tg, iter, [], 0⟩] scope pos) 0 (.ref it) (.ref D) (compEnvC scope (cellsFrom (s3.heap.objs.size + 1) scope.names (cloFrom X.env.cells scope.names [])) s3.heap.objs.size X.env)) (compPost (model X.prog X.w) X.A X.xe use Qf (.ref D) s3.heap.objs.size) { s3 with heap := pushCells (s3.heap.push { cls := .type "dict", data := .dict #[] }) scope.names }
  have nfp : ∀ b ∈ fp, (upd H2 D (.ext (dctφ D #[] 0))) b = none := fun b hb => (f3 b hb).1.1
  generalize hce : compEnvC scope (cellsFrom (s3.heap.objs.size + 1) scope.names (cloFrom X.env.cells scope.names [])) s3.heap.objs.size X.env = ce at I4 pg pk ⊢
  have cL : ce.locals = s3.heap.objs.size := by subst hce; rfl
  generalize hH3 : upd H2 D (.ext (dctφ D #[] 0)) = H3 at I3 I4 pg pk w0 nfp f3
  generalize hs4 : ({ s3 with heap := pushCells (s3.heap.push { cls := .type "dict", data := .dict #[] }) scope.names } : Shared) = s4 at I4 ⊢
  have st4 : tn 0 s4.heap := T.keep _ _ _ st3 fun b _ o e => by rw [← hs4]; exact pushCells_keeps _ _ _ _ (Heap.get?_push_of_some _ e)
  have stat : ∀ {σ' : L2.St} {H' : Hp} {s' : Shared}, Inv (X.blk s3 H3 scope ce fp) [] σ' H' s' → (∀ b ∈ fp, H' b = none) → ∀ b ∈ fp, FpOk (X.blk s3 H3 scope ce fp) [] H' b := fun {σ' H' s'} I' hn b hb =>
    ⟨hn b hb, (I'.ok.exf b hb).1, I'.ok.exfs b hb, .inl hb, fun x c e => (I'.ok.exf b hb).2 x c e, fun p hp => absurd (show p ∈ ([] : List (Addr × Obj)) ++ [] from hp) (by simp)⟩
  have loop : codeAny (model X.prog X.w) X.A (.compLoop (.DictComp kx (.Constant (.bool true) kc pc) [⟨tg, iter, [], 0⟩] scope pos) 0 (.ref it) (.ref D) ce) (compPost (model X.prog X.w) X.A X.xe use Qf (.ref D) s3.heap.objs.size) s4 := by
    refine compLoop_anyD (fun n s' => ∃ i H', Inv (X.blk s3 H3 scope ce fp) [] (wipe σ (own.map (·.2))) H' s' ∧ tn i s'.heap ∧ (∀ b ∈ fp, H' b = none) ∧ W i n H') ?_ m0 ⟨0, H3, I4, st4, nfp, w0⟩
    rintro n s5 ⟨i, H5, I5, st5, n5, w5⟩
    rcases turn i n H5 w5 with ⟨stop, qq⟩ | ⟨go, Nx, hNx, step⟩
    · have td := T.done (X.blk s3 H3 scope ce fp) rfl rfl rfl hc i [] s5 _ H5 (fun _ _ => False) I5 (stat I5 n5) st5 stop
      refine thnF td fun r s6 ⟨hr, I6⟩ => ?_
      subst hr
      -- back in the def's context
      have I7 : Inv X pins σ H5 s6 := I3.call' (ch := fp) I6.os I6.base I6.hok I6.bare fun b hb => ⟨(f3 b hb).1.2.2.2.1, (f3 b hb).1.2.1, (f3 b hb).1.2.2.2.2.1, (f3 b hb).1.2.2.2.2.2⟩
      have nC : H5 s3.heap.objs.size = none := by
        have z : H5 ce.locals = none := I6.free
        rw [cL] at z
        exact z
      obtain ⟨m, hn, _⟩ := I6.loc
      have hn : s6.heap.Ns ce.locals m := hn
      rw [cL] at hn
      exact hRR D s3.heap.objs.size s6 m H5 I7 qq hn (I3.fpOk (Nat.le_refl _) nC)
    · have ti := T.item (X.blk s3 H3 scope ce fp) rfl rfl rfl hc i [] s5 _ H5 (fun _ _ => False) I5 (stat I5 n5) st5 go
      refine thnF ti fun r s6 ⟨u, hr, h6⟩ => ?_
      subst hr
      refine thnF h6 fun _ s7 ⟨x, H7, I7, r7, y7, st7, n7⟩ => ?_
      have I7' := I7.pinned (stat I7 n7) (T.obj _ _ st7)
      refine thnF (pg.run _ s7 _ H7 x u _ I7' r7 (step x H7 y7)) fun _ s8 ⟨σ8, H8, I8, hw8, q8⟩ => ?_
      -- the turn's end
      have fin : ∀ {s' : Shared} {H' : Hp}, Inv (X.blk s3 H3 scope ce fp) ([] ++ pinsAt fp s7.heap) σ8 H' s' → Nx H' → ∃ m, m < n ∧ ∃ i H', Inv (X.blk s3 H3 scope ce fp) [] (wipe σ (own.map (·.2))) H' s' ∧ tn i s'.heap ∧ (∀ b ∈ fp, H' b = none) ∧ W i m H' := fun {s' H'} I' nx => by
        obtain ⟨m', hm, w'⟩ := hNx H' nx
        have pin' : ∀ b ∈ fp, ∀ o, s7.heap.get? b = some o → s'.heap.get? b = some o ∧ H' b = none := fun b hb o e =>
          let z := I'.pin (b, o) (List.mem_append_right _ (List.mem_append_right _ (mem_pinsAt hb e)))
          ⟨z.1, z.2.1⟩
        have hl : (wipe σ (own.map (·.2))).length = σ8.length := by rw [← hw8, wipe_length]
        refine ⟨m', hm, i + 1, H', (I'.unpinned (pins := [])).weak hl (fun j v e => ?_), T.keep _ _ _ st7 fun b hb o e => (pin' b hb o e).1, fun b hb => ?_, w'⟩
        · rw [← hw8] at e
          exact (wipe_some e).1
        · obtain ⟨o, e, _⟩ := T.obj _ _ st7 b hb
          exact (pin' b hb o e).2
      refine thnF ((pts_nil (X := X.blk s3 H3 scope ce fp)).run _ s8 σ8 H8 (fun b H => b = true ∧ H = H8) I8 ⟨rfl, rfl⟩) fun bb s9 ⟨H9, I9, hb9, hH9⟩ => ?_
      subst hb9 hH9
      simp only [if_true]
      refine thnF (pk.run _ s9 σ8 H9 _ I9 q8) fun z s10 ⟨yk, H10, I10, r10, q10⟩ => ?_
      obtain ⟨w5', p5, b5, es5, ep5, ys5, xs5, eH5, ey5, rp5, kb5, dk5, hD5, he5, hk5, hrs5, hkb5, hdep5, hnd5, hnew5, hsz5, nx5⟩ := q10
      subst ey5 eH5
      cases r10
      refine thnF ((pe_bl (X := X.blk s3 H3 scope ce fp)).run _ s10 σ8 w5'.H (fun v H => v = .bl true ∧ H = w5'.H) I10 ⟨rfl, rfl⟩) fun z2 s11 ⟨yv, H11, I11, r11, ev11, eH11⟩ => ?_
      subst ev11 eH11
      cases r11
      refine put_dct (X := X.blk s3 H3 scope ce fp) (k := p5.key) (ys := ys5) hu I11 hD5 (he5 _ _) (fun y hy => ⟨nest_all I11 ys5 xs5 hrs5 hk5 hkb5 y hy, hdep5 y.1 (by rw [← hk5]; exact List.mem_map_of_mem hy)⟩) (by rw [hk5]; exact hnd5) (Rep.nested I11 rp5 rfl kb5) dk5 (by rw [hk5]; exact hnew5) hsz5 fun s12 es' ep' he' I12 => fin I12 (nx5 es' ep' fun P wo => ?_)
      rw [he', List.map_append, List.map_append, ← he5, he5 P wo]
      simp only [List.map_cons, List.map_nil, entryOfKey, nestedKind, key_hash X.w wo p5 kb5]
  exact codeAny_compStart_dict loop (T.self X.A 0 _ _ _ st4 loop)
theorem Reps.refs {K : PySem.W.Frag} {w : Wd} : ∀ {xs : List PV} {vs : List V}, Reps K w xs vs → xs.all isTupV = true → ∃ bs : List Addr, vs = bs.map V.ref
  | _, _, .nil, _ => ⟨[], rfl⟩
  | _, _, .cons r t, h => by
    rw [List.all_cons, Bool.and_eq_true] at h
    obtain ⟨bs, rfl⟩ := Reps.refs t h.2
    cases r with
    | tup ha ra => exact ⟨_ :: bs, rfl⟩
    | _ => simp [isTupV] at h
theorem keys_eq : ∀ xs : List PV, PV.keys xs = xs.map PV.key
  | [] => rfl
  | x :: xs => by rw [PV.keys, keys_eq xs]; rfl
theorem keysB_eq : ∀ xs : List PV, PV.keysB xs = xs.all PV.keyB
  | [] => rfl
  | x :: xs => by rw [PV.keysB, keysB_eq xs]; rfl
/-- {x: True for x in t} -/
theorem se_dcN {W : WX} {C : CC} {Φ : Fns} {k j : Nat} {x : Str} {pos p1 p2 p3 : Pos} {kc : Nat} {iter : Expr} {scope : Scope} {own : List Nat} {da : Sl → PH → Res PV} (G : Good C Φ k X W)
    (hb : blkC C.N C.sc scope (ownN C own) = true) (hset : noSet iter = true) (ha : PE X iter (tD X.K W da)) (hg : chkG (C.blk scope) (.name j) (.Name x p3) = true) (hj : j ∈ own) (hx : visB (C.blk scope).sc x = true) (hxn : nameB x = true) (hjN : C.N[j]? = some x) :
    PE X (.DictComp (.Name x p1) (.Constant (.bool true) kc p2) [⟨.Name x p3, iter, [], 0⟩] scope pos) (tD X.K W fun ρ h => (da ρ h).bind fun p h1 => if j < ρ.length then Res.of (dictOf p) h1 else .bad) := by
  have bk : BlkOk X.N X.env.scope scope (ownN C own) := by rw [G.names, G.scope]; exact blkOk_by hb
  have eo : (ownN C own).map (·.2) = own := by unfold ownN; rw [List.map_map]; exact List.map_id' own
  refine ⟨fun pins s σ H Q I t => ?_⟩
  rw [arm_eval_DictComp]
  have hq : tDcN X.K (iTup X.K (tD X.K W da)) (gG X.K (.name j)) (tVar j) own σ H Q := by
    obtain ⟨w, ρ, h, at_, p⟩ := t
    refine tDen.mono (bindE (rep := Rep X.K) at_ p) ?_
    rintro v H1 ⟨w1, h1, pv, x1, at1, r1, q1⟩
    have hj' : j < ρ.length := Classical.byContradiction fun hz => by rw [if_neg hz] at q1; exact q1.elim
    rw [if_pos hj'] at q1
    cases hd : dictOf pv with
    | none => simp only [hd] at q1; exact q1.elim
    | some d =>
      simp only [hd, Res.of_some] at q1
      cases pv <;> first | (cases hd; done) | skip
      rename_i xs
      unfold dictOf at hd
      simp only at hd
      split at hd
      · rename_i hf
        cases hd
        simp only [Bool.and_eq_true, decide_eq_true_eq] at hf
        obtain ⟨⟨⟨f1, f2⟩, f3⟩, f4⟩ := hf
        rw [List.all_eq_true] at f3
        cases r1 with
        | @tup a _ _ hta ra =>
        obtain ⟨bs, rfl⟩ := ra.refs f2
        obtain ⟨eH, rel1, sl1⟩ := at1
        subst eH
        have hlen : xs.length = bs.length := by rw [ra.length, List.length_map]
        refine ⟨_, rfl, ⟨_, hta.sq⟩, fun D0 hD0 hDs => ?_⟩
        obtain ⟨zs, hzs⟩ : ∃ zs : List (NestedKey × Addr × Value), zs = ((PV.keys xs).zip bs).map fun p => (p.1, p.2, Value.bool true) := ⟨_, rfl⟩
        have kl : (PV.keys xs).length = bs.length := by rw [keys_eq, List.length_map, hlen]
        have z1 : zs.map (·.1) = PV.keys xs := by
          rw [hzs, List.map_map]
          show ((PV.keys xs).zip bs).map (fun p => p.1) = _
          exact List.map_fst_zip (Nat.le_of_eq kl)
        have z2 : zs.map (fun x => V.ref x.2.1) = bs.map V.ref := by
          rw [hzs, List.map_map]
          have : ((PV.keys xs).zip bs).map (fun p => p.2) = bs := List.map_snd_zip (Nat.le_of_eq kl.symm)
          rw [← congrArg (List.map V.ref) this, List.map_map]
          rfl
        have zl : zs.length = xs.length := by rw [← List.length_map (f := (·.1)), z1, kl, hlen]
        have sq : ∀ o, SqT X.K (upd w1.H D0 o) a (bs.map V.ref) := fun o => .inl (.inl (by rw [upd_ne (ne_of_none hta.1 hD0)]; exact hta.1))
        refine ⟨fun n m H => m = xs.length - n ∧ n ≤ xs.length ∧ ∃ es ep, H = upd w1.H D0 (.ext (dctφ D0 es ep)) ∧ ∀ P wo, es.toList = (zs.take n).map (entryOfKey (nestedKind P wo)), ⟨xs.length, by simp, Nat.zero_le _, #[], 0, rfl, fun P wo => by simp⟩, ?_⟩
        rintro n m H ⟨rfl, hn, es, ep, rfl, he⟩
        by_cases hlt : n < xs.length
        · have hbn : n < bs.length := by omega
          have gn : (bs.map V.ref)[n]? = some (V.ref bs[n]) := by rw [List.getElem?_map, List.getElem?_eq_getElem hbn]; rfl
          refine .inr ⟨⟨_, V.ref bs[n], sq _, gn⟩, fun H' => ∃ es ep, H' = upd w1.H D0 (.ext (dctφ D0 es ep)) ∧ ∀ P wo, es.toList = (zs.take (n + 1)).map (entryOfKey (nestedKind P wo)), fun H' hN => ⟨xs.length - (n + 1), by omega, rfl, hlt, hN⟩, fun z H' hyl => ?_⟩
          obtain ⟨rfl, hyl⟩ := hyl
          have hz := hyl _ (sq _)
          rw [gn] at hz
          cases hz
          refine ⟨by rw [wipe_set hj, wipe_id], V.ref bs[n], ?_, ?_⟩
          · rw [List.getElem?_set_self]
            rw [wipe_length, sl1.len]
            exact hj'
          · obtain ⟨vv, g1, g2⟩ := ra.get (i := n) (List.getElem?_eq_getElem hlt)
            rw [gn] at g1
            cases g1
            have xe := Ext.add (w := w1) (o := .ext (dctφ D0 es ep)) hD0
            have kn : (PV.keys xs)[n]? = some xs[n].key := by rw [keys_eq, List.getElem?_map, List.getElem?_eq_getElem hlt]; rfl
            have kt : (zs.take n).map (·.1) = PV.keys (xs.take n) := by rw [List.map_take, z1, keys_eq, keys_eq, List.map_take]
            have mem : ∀ q ∈ PV.keys (xs.take n), q ∈ PV.keys xs := fun q hq => by
              rw [keys_eq, List.map_take, ← keys_eq] at hq
              exact List.mem_of_mem_take hq
            have kb : xs[n].keyB = true := by
              rw [keysB_eq, List.all_eq_true] at f1
              exact f1 _ (List.getElem_mem hlt)
            refine ⟨w1.add D0 (.ext (dctφ D0 es ep)), xs[n], bs[n], es, ep, zs.take n, xs.take n, rfl, rfl, g2.mono xe, kb, ?_, upd_same, he, kt, ?_, ?_, ?_, ?_, ?_, ?_, fun es' ep' he' => ⟨es', ep', ?_, fun P wo => ?_⟩⟩
            · have := f3 _ (List.mem_of_getElem? kn)
              exact of_decide_eq_true this
            · rw [List.map_take, z2]
              exact (ra.take n).mono xe
            · rw [keysB_eq, List.all_eq_true] at f1 ⊢
              exact fun q hq => f1 q (List.mem_of_mem_take hq)
            · exact fun q hq => of_decide_eq_true (f3 q (mem q hq))
            · rw [keys_eq, List.map_take, ← keys_eq]
              exact f4.sublist (List.take_sublist _ _)
            · rw [keys_eq, List.map_take, ← keys_eq]
              intro hm
              obtain ⟨i', hi', e'⟩ := List.getElem_of_mem hm
              rw [List.length_take] at hi'
              have : (PV.keys xs)[i']? = some xs[n].key := by
                rw [List.getElem_take] at e'
                rw [List.getElem?_eq_getElem (by omega), e']
              have := ixInj f4 this kn
              omega
            · rw [List.length_take]
              have := hta.2.2.2
              rw [List.length_map] at this
              omega
            · funext b
              show upd (upd w1.H D0 _) D0 _ b = upd w1.H D0 _ b
              by_cases hb : b = D0
              · subst hb; rw [upd_same, upd_same]
              · rw [upd_ne hb, upd_ne hb, upd_ne hb]
            · rw [he' P wo]
              congr 1
              rw [List.take_add_one]
              congr 1
              have : zs[n]? = some (xs[n].key, bs[n], Value.bool true) := by
                rw [hzs, List.getElem?_map, (List.getElem?_zip_eq_some (z := (xs[n].key, bs[n]))).mpr ⟨kn, List.getElem?_eq_getElem hbn⟩]
                rfl
              rw [this]
              rfl
        · have en : n = xs.length := by omega
          subst en
          refine .inl ⟨⟨_, sq _, by rw [List.length_map]; omega⟩, ?_⟩
          rw [← zl, List.take_length] at he
          have xe := Ext.add (w := w1) (o := .ext (dctφ D0 es ep)) hD0
          have fr := rel1.fresh hD0
          refine q1 (w1.add D0 (.ext (dctφ D0 es ep))) (.ref D0) xe (rel1.add hD0) (.dct ⟨es, ep, zs, upd_same, fr.1, fr.2, ?_, hDs, he, z1, z2.symm, f4, fun q hq => of_decide_eq_true (f3 q hq)⟩ (ra.mono xe) f1)
          rw [List.length_map, ← hlen]
          have := hta.2.2.2
          rw [List.length_map] at this
          omega
      · cases hd
  rw [← eo] at hq
  refine dcN_core (by have := G.u65; omega) G.calm (by rw [G.names]; exact G.nd) I (pi_tup ha) bk (fun s H c cl fp => pg_V (G.blk s H scope cl c fp) hg) (fun s H c cl fp => pe_var (by show X.N[j]? = _; rw [G.names]; exact hjN) ((G.blk s H scope cl c fp).vis hx) (nameB_ok hxn).1 (nameB_ok hxn).2.1) (fun x => noSetE hset X.env x) hq fun D C' s' m H' I' q hn f => ⟨m, hn, fun h'' sb => ?_⟩
  obtain ⟨f0, f1, f2, f3, f4, f5⟩ := f
  exact ⟨.ref D, H', I'.turned (t' := s'.toks) (fun b o hb e => (sb.2 b hb).trans e) f0 f1 f3 f4 f5, rfl, q⟩
end
end R

set_option Elab.async false
set_option linter.all false
set_option maxRecDepth 100000
set_option maxHeartbeats 1000000
/-! R: every expression that passes the checker means what den says -/
namespace R
open PySem PySem.Spec L2
def Es.plain : Es → Bool
  | .nil => true
  | .cons _ es => es.plain
  | .star _ _ => false
theorem chkEs_plain {C : CC} : ∀ {es : Es} {xs : List Expr}, xs.all nostar = true → chkEs C es xs = true → es.plain = true
  | .nil, _, _, _ => rfl
  | .cons e es, xs, hs, h => by
    obtain ⟨⟨y, ys⟩, e1, hh1⟩ := optB_ok (o := asC xs) h
    obtain rfl := asC_ok e1
    simp only [Bool.and_eq_true] at hh1
    rw [List.all_cons, Bool.and_eq_true] at hs
    exact chkEs_plain (es := es) hs.2 hh1.2
  | .star e es, xs, hs, h => by
    obtain ⟨⟨y, ys⟩, e1, hh1⟩ := optB_ok (o := asC xs) h
    obtain rfl := asC_ok e1
    obtain ⟨z, e2, _⟩ := optB_ok hh1
    obtain ⟨p, rfl⟩ := asStar_ok e2
    rw [List.all_cons] at hs
    cases hs
theorem Es.den_len (Φ : Fns) : ∀ (es : Es) (_ : es.plain = true) (ρ : Sl) (h : PH) (xs : List PV) (h' : PH), es.den Φ ρ h = .ok xs h' → xs.length = es.len
  | .star _ _, hp, ρ, h, xs, h', e => by cases hp
  | .nil, hp, ρ, h, xs, h', e => by
    simp only [Es.den, Res.ok.injEq] at e
    rw [← e.1]
    rfl
  | .cons a es, hp, ρ, h, xs, h', e => by
    simp only [Es.den] at e
    cases e1 : a.den Φ ρ h with
    | bad => rw [e1] at e; cases e
    | exc _ _ => rw [e1] at e; cases e
    | ok p h1 =>
      rw [e1] at e
      simp only [Res.bind_ok] at e
      cases e2 : es.den Φ ρ h1 with
      | bad => rw [e2] at e; cases e
      | exc _ _ => rw [e2] at e; cases e
      | ok ps h2 =>
        rw [e2] at e
        simp only [Res.bind_ok, Res.ok.injEq] at e
        rw [← e.1, List.length_cons, Es.den_len Φ es hp ρ h1 ps h2 e2]
        rfl
mutual
theorem sE {Φ : Fns} {k : Nat} : ∀ (e : E) {C : CC} {X : Cx} {W : WX} (_ : Good C Φ k X W) {a : Expr}, chkE C e a = true → PE X a (tD X.K W (e.den Φ))
  | .var i, C, X, W, G, a, h => by
    obtain ⟨x, e1, hh1⟩ := optB_ok (o := asName a) h
    obtain ⟨pos, rfl⟩ := asName_ok e1
    simp only [Bool.and_eq_true, decide_eq_true_eq] at hh1
    exact se_var (by rw [G.names]; exact hh1.1.1) (G.vis hh1.1.2) (nameB_ok hh1.2).1 (nameB_ok hh1.2).2.1
  | .con c, C, X, W, G, a, h => by
    obtain ⟨x, e1, hh1⟩ := optB_ok (o := asConst a) h
    obtain ⟨n, pos, rfl⟩ := asConst_ok e1
    exact se_con hh1
  | .glb y c, C, X, W, G, a, h => by
    obtain ⟨x, e1, hh1⟩ := optB_ok (o := asName a) h
    obtain ⟨pos, rfl⟩ := asName_ok e1
    simp only [Bool.and_eq_true, decide_eq_true_eq] at hh1
    obtain ⟨u, m1, m2⟩ := G.con _ _ hh1.2
    exact se_glb (G.gl hh1.1.1.2) m1 m2 (nameB_ok hh1.1.2).1
  | .bin o e f, C, X, W, G, a, h => by
    obtain ⟨⟨l, op, r⟩, e1, hh1⟩ := optB_ok (o := asBin a) h
    obtain ⟨pos, rfl⟩ := asBin_ok e1
    simp only [Bool.and_eq_true, decide_eq_true_eq] at hh1
    obtain ⟨⟨rfl, h1⟩, h2⟩ := hh1
    exact se_bin o (sE e G h1) (sE f G h2)
  | .neg e, C, X, W, G, a, h => by
    obtain ⟨⟨o, x⟩, e1, hh1⟩ := optB_ok (o := asUn a) h
    obtain ⟨pos, rfl⟩ := asUn_ok e1
    simp only [Bool.and_eq_true] at hh1
    obtain rfl := isNeg_ok hh1.1
    exact se_neg (sE e G hh1.2)
  | .cmp o e f, C, X, W, G, a, h => by
    obtain ⟨⟨l, os, rs⟩, e1, hh1⟩ := optB_ok (o := asCmp a) h
    obtain ⟨pos, rfl⟩ := asCmp_ok e1
    obtain ⟨op, e2, hh2⟩ := optB_ok hh1
    obtain ⟨r, e3, hh3⟩ := optB_ok hh2
    obtain rfl := as1_ok e2
    obtain rfl := as1_ok e3
    simp only [Bool.and_eq_true, decide_eq_true_eq, Bool.not_eq_true'] at hh3
    obtain ⟨⟨⟨rfl, h0⟩, h1⟩, h2⟩ := hh3
    exact se_cmp o (by have := G.u65; omega) h0 (sE e G h1) (sE f G h2)
  | .chn o o' e f g, C, X, W, G, a, h => by
    obtain ⟨⟨l, os, rs⟩, e1, hh1⟩ := optB_ok (o := asCmp a) h
    obtain ⟨pos, rfl⟩ := asCmp_ok e1
    obtain ⟨⟨op, op'⟩, e2, hh2⟩ := optB_ok hh1
    obtain ⟨⟨m, r⟩, e3, hh3⟩ := optB_ok hh2
    obtain rfl := as2_ok e2
    obtain rfl := as2_ok e3
    simp only [Bool.and_eq_true, decide_eq_true_eq, Bool.not_eq_true'] at hh3
    obtain ⟨⟨⟨⟨⟨rfl, rfl⟩, h0⟩, h1⟩, h2⟩, h3⟩ := hh3
    exact se_chn o o' (by have := G.u65; omega) h0 (sE e G h1) (sE f G h2) (sE g G h3)
  | .not e, C, X, W, G, a, h => by
    obtain ⟨⟨o, x⟩, e1, hh1⟩ := optB_ok (o := asUn a) h
    obtain ⟨pos, rfl⟩ := asUn_ok e1
    simp only [Bool.and_eq_true] at hh1
    obtain rfl := isNot_ok hh1.1
    exact se_not (sE e G hh1.2)
  | .and es, C, X, W, G, a, h => by
    obtain ⟨⟨o, xs⟩, e1, hh1⟩ := optB_ok (o := asBool a) h
    obtain ⟨pos, rfl⟩ := asBool_ok e1
    simp only [Bool.and_eq_true] at hh1
    obtain rfl := isAnd_ok hh1.1
    exact sAnd es G hh1.2
  | .or es, C, X, W, G, a, h => by
    obtain ⟨⟨o, xs⟩, e1, hh1⟩ := optB_ok (o := asBool a) h
    obtain ⟨pos, rfl⟩ := asBool_ok e1
    simp only [Bool.and_eq_true, Bool.not_eq_true'] at hh1
    obtain rfl := isOr_ok hh1.1
    exact sOr es G hh1.2
  | .ite t e f, C, X, W, G, a, h => by
    obtain ⟨⟨c, x, y⟩, e1, hh1⟩ := optB_ok (o := asIf a) h
    obtain ⟨pos, rfl⟩ := asIf_ok e1
    simp only [Bool.and_eq_true] at hh1
    exact se_ite (sT t G hh1.1.1) (sE e G hh1.1.2) (sE f G hh1.2)
  | .tup es, C, X, W, G, a, h => by
    obtain ⟨xs, e1, hh1⟩ := optB_ok (o := asTup a) h
    obtain ⟨n, pos, rfl⟩ := asTup_ok e1
    exact se_tup (sEs es G hh1)
  | .lst live es, C, X, W, G, a, h => by
    obtain ⟨xs, e1, hh1⟩ := optB_ok (o := asLst a) h
    obtain ⟨pos, rfl⟩ := asLst_ok e1
    simp only [Bool.and_eq_true] at hh1
    exact se_lst (sEs es G hh1.2)
  | .idx e f, C, X, W, G, a, h => by
    obtain ⟨⟨x, y⟩, e1, hh1⟩ := optB_ok (o := asSub a) h
    obtain ⟨pos, rfl⟩ := asSub_ok e1
    simp only [Bool.and_eq_true] at hh1
    exact se_idx hh1.1.1 (sE e G hh1.1.2) (sE f G hh1.2)
  | .slc e lo hi, C, X, W, G, a, h => by
    obtain ⟨⟨x, y⟩, e1, hh1⟩ := optB_ok (o := asSub a) h
    obtain ⟨pos, rfl⟩ := asSub_ok e1
    obtain ⟨⟨l, u⟩, e2, hh2⟩ := optB_ok hh1
    obtain ⟨p2, rfl⟩ := asSlc_ok e2
    simp only [Bool.and_eq_true] at hh2
    exact se_slc (sE e G hh2.1.1) (sO lo G hh2.1.2) (sO hi G hh2.2)
  | .rev e, C, X, W, G, a, h => by
    obtain ⟨⟨x, y⟩, e1, hh1⟩ := optB_ok (o := asSub a) h
    obtain ⟨pos, rfl⟩ := asSub_ok e1
    simp only [Bool.and_eq_true] at hh1
    obtain ⟨k, p1, p2, p3, rfl⟩ := isRevS_ok hh1.1
    exact se_rev (sE e G hh1.2)
  | .call f es, C, X, W, G, a, h => by
    obtain ⟨⟨fn, xs⟩, e1, hh1⟩ := optB_ok (o := asCall a) h
    obtain ⟨pos, rfl⟩ := asCall_ok e1
    obtain ⟨x, e2, hh2⟩ := optB_ok hh1
    obtain ⟨p2, rfl⟩ := asName_ok e2
    simp only [Bool.and_eq_true, decide_eq_true_eq] at hh2
    obtain ⟨⟨⟨⟨⟨⟨rfl, h1⟩, h2⟩, h3⟩, h4⟩, hq⟩, h6⟩ := hh2
    obtain ⟨fa, fd, ps, g1, g2, g3, g4⟩ := G.fns _ _ h3
    have hgu : C.quiets.contains x = false → X.A.guards = some [] := fun z => by
      rw [z, Bool.or_false] at hq
      exact G.guards hq
    cases xs with
    | nil =>
      cases es with
      | nil => exact se_call0 (f := x) (Φf := Φ x) g4 G.room hgu (G.gl h1) g1 g2 g3 G.takes (nameB_ok h2).1
      | cons f fs =>
        obtain ⟨p, e9, _⟩ := optB_ok (o := asC []) h6
        cases e9
      | star f fs =>
        obtain ⟨p, e9, _⟩ := optB_ok (o := asC []) h6
        cases e9
    | cons y ys =>
      have hs := h4
      rw [List.all_cons, Bool.and_eq_true] at h4
      exact se_call g4 G.room hgu (G.gl h1) g1 g2 g3 G.takes (nameB_ok h2).1 h4.1 h4.2 (fun ρ hh3 xs h' e => Es.den_len Φ es (chkEs_plain hs h6) ρ hh3 xs h' e) (sEs es G h6)
  | .callS f es, C, X, W, G, a, h => by
    obtain ⟨⟨fn, xs⟩, e1, hh1⟩ := optB_ok (o := asCall a) h
    obtain ⟨pos, rfl⟩ := asCall_ok e1
    obtain ⟨x, e2, hh2⟩ := optB_ok hh1
    obtain ⟨p2, rfl⟩ := asName_ok e2
    obtain ⟨⟨y, ys⟩, e3, hh3⟩ := optB_ok hh2
    obtain rfl := asC_ok e3
    simp only [Bool.and_eq_true, decide_eq_true_eq] at hh3
    obtain ⟨⟨⟨⟨⟨⟨⟨rfl, h1⟩, h2⟩, h3⟩, h4⟩, h5⟩, hq⟩, h6⟩ := hh3
    obtain ⟨⟨n3, b3⟩, e7, h3⟩ := optB_ok h3
    simp only [decide_eq_true_eq] at h3
    subst h3
    obtain ⟨fa, g1, g2, g4⟩ := G.sfns _ _ e7
    exact se_callS g4 G.room (G.guards hq) (G.gl h1) g1 g2 G.takes (nameB_ok h2).1 h4 h5 (sEs es G h6)
  | .lrng e, C, X, W, G, a, h => by
    obtain ⟨⟨fn, xs⟩, e1, hh1⟩ := optB_ok (o := asCall a) h
    obtain ⟨pos, rfl⟩ := asCall_ok e1
    obtain ⟨x, e2, hh2⟩ := optB_ok hh1
    obtain ⟨p2, rfl⟩ := asName_ok e2
    obtain ⟨q, e3, hh3⟩ := optB_ok hh2
    obtain rfl := as1_ok e3
    obtain ⟨⟨fn2, xs2⟩, e4, hh4⟩ := optB_ok hh3
    obtain ⟨pos2, rfl⟩ := asCall_ok e4
    obtain ⟨z, e5, hh5⟩ := optB_ok hh4
    obtain ⟨p3, rfl⟩ := asName_ok e5
    obtain ⟨y, e6, hh6⟩ := optB_ok hh5
    obtain rfl := as1_ok e6
    simp only [Bool.and_eq_true, decide_eq_true_eq] at hh6
    obtain ⟨⟨⟨⟨⟨h1, h2⟩, h3⟩, h4⟩, h5⟩, h6⟩ := hh6
    obtain ⟨g1, g2, g3, g4⟩ := G.bltIn h2
    obtain ⟨k1, k2, k3, k4⟩ := G.bltIn h4
    exact se_lrng h1 h3 G.calm g1 g2 k1 k2 h5 (sE e G h6)
  | .gnL f es, C, X, W, G, a, h => by
    obtain ⟨⟨fn, xs⟩, e1, hh1⟩ := optB_ok (o := asCall a) h
    obtain ⟨pos, rfl⟩ := asCall_ok e1
    obtain ⟨x, e2, hh2⟩ := optB_ok hh1
    obtain ⟨p2, rfl⟩ := asName_ok e2
    obtain ⟨q, e3, hh3⟩ := optB_ok hh2
    obtain rfl := as1_ok e3
    obtain ⟨⟨fn2, xs2⟩, e4, hh4⟩ := optB_ok hh3
    obtain ⟨pos2, rfl⟩ := asCall_ok e4
    obtain ⟨z, e5, hh5⟩ := optB_ok hh4
    obtain ⟨p3, rfl⟩ := asName_ok e5
    obtain ⟨⟨y, ys⟩, e6, hh6⟩ := optB_ok hh5
    obtain rfl := asC_ok e6
    simp only [Bool.and_eq_true, decide_eq_true_eq] at hh6
    obtain ⟨⟨⟨⟨⟨⟨⟨⟨⟨h1, h2⟩, h0⟩, rfl⟩, h3⟩, h4⟩, h5⟩, h6⟩, h7⟩, h8⟩ := hh6
    obtain ⟨g1, g2, g3, g4⟩ := G.bltIn h2
    obtain ⟨fa, fd, ps, k1, k2, k3, k4⟩ := G.gfns _ _ h5
    have hs : (y :: ys).all nostar = true := by rw [List.all_cons, h6, h7]; rfl
    exact se_gnL h1 G.room g1 g2 h0 (G.gl h3) k1 k2 k3 k4 (nameB_ok h4).1 h6 h7 (fun ρ hh3 xs h' e => Es.den_len Φ es (chkEs_plain hs h8) ρ hh3 xs h' e) (sEs es G h8)
  | .blt bb es, C, X, W, G, a, h => by
    obtain ⟨⟨fn, xs⟩, e1, hh1⟩ := optB_ok (o := asCall a) h
    obtain ⟨pos, rfl⟩ := asCall_ok e1
    obtain ⟨x, e2, hh2⟩ := optB_ok hh1
    obtain ⟨p2, rfl⟩ := asName_ok e2
    obtain ⟨⟨y, ys⟩, e3, hh3⟩ := optB_ok hh2
    obtain rfl := asC_ok e3
    simp only [Bool.and_eq_true, decide_eq_true_eq] at hh3
    obtain ⟨⟨⟨⟨⟨h1, h2⟩, h3⟩, h4⟩, hq⟩, h5⟩ := hh3
    obtain ⟨g1, g2, g3, g4⟩ := G.bltIn h2
    have hs : (y :: ys).all nostar = true := by rw [List.all_cons, h3, h4]; rfl
    exact se_blt bb h1 G.calm (fun z => by subst z; exact G.guards hq) G.u65 g1 g2 g3 g4 h3 h4 (sEs es G h5)
  | .isi e c, C, X, W, G, a, h => by
    obtain ⟨⟨fn, xs⟩, e1, hh1⟩ := optB_ok (o := asCall a) h
    obtain ⟨pos, rfl⟩ := asCall_ok e1
    obtain ⟨x, e2, hh2⟩ := optB_ok hh1
    obtain ⟨p2, rfl⟩ := asName_ok e2
    obtain ⟨⟨y, zz⟩, e3, hh3⟩ := optB_ok hh2
    obtain rfl := as2_ok e3
    obtain ⟨z, e4, hh4⟩ := optB_ok hh3
    obtain ⟨p3, rfl⟩ := asName_ok e4
    simp only [Bool.and_eq_true, decide_eq_true_eq] at hh4
    obtain ⟨⟨⟨⟨⟨⟨h1, h2⟩, h3⟩, h4⟩, h5⟩, h6⟩, h7⟩ := hh4
    obtain ⟨g1, g2, g3, g4⟩ := G.bltIn h2
    obtain ⟨k1, k2, k3, k4⟩ := G.bltIn h5
    exact se_isi h1 h4 h6 g1 g2 g3 g4 k1 k2 k3 k4 h3 (sE e G h7)
  | .lenSet e, C, X, W, G, a, h => by
    obtain ⟨⟨fn, xs⟩, e1, hh1⟩ := optB_ok (o := asCall a) h
    obtain ⟨pos, rfl⟩ := asCall_ok e1
    obtain ⟨x, e2, hh2⟩ := optB_ok hh1
    obtain ⟨p2, rfl⟩ := asName_ok e2
    obtain ⟨q, e3, hh3⟩ := optB_ok hh2
    obtain rfl := as1_ok e3
    obtain ⟨⟨fn2, xs2⟩, e4, hh4⟩ := optB_ok hh3
    obtain ⟨pos2, rfl⟩ := asCall_ok e4
    obtain ⟨z, e5, hh5⟩ := optB_ok hh4
    obtain ⟨p3, rfl⟩ := asName_ok e5
    obtain ⟨y, e6, hh6⟩ := optB_ok hh5
    obtain rfl := as1_ok e6
    simp only [Bool.and_eq_true, decide_eq_true_eq] at hh6
    obtain ⟨⟨⟨⟨⟨h1, h2⟩, h3⟩, h4⟩, h5⟩, h6⟩ := hh6
    obtain ⟨g1, g2, g3, g4⟩ := G.bltIn h2
    obtain ⟨k1, k2, k3, k4⟩ := G.bltIn h4
    exact se_lenSet h1 h3 G.calm G.u65 g1 g2 k1 k2 h5 (sE e G h6)
  | .sortedSet e, C, X, W, G, a, h => by
    obtain ⟨⟨fn, xs⟩, e1, hh1⟩ := optB_ok (o := asCall a) h
    obtain ⟨pos, rfl⟩ := asCall_ok e1
    obtain ⟨x, e2, hh2⟩ := optB_ok hh1
    obtain ⟨p2, rfl⟩ := asName_ok e2
    obtain ⟨q, e3, hh3⟩ := optB_ok hh2
    obtain rfl := as1_ok e3
    obtain ⟨⟨fn2, xs2⟩, e4, hh4⟩ := optB_ok hh3
    obtain ⟨pos2, rfl⟩ := asCall_ok e4
    obtain ⟨z, e5, hh5⟩ := optB_ok hh4
    obtain ⟨p3, rfl⟩ := asName_ok e5
    obtain ⟨y, e6, hh6⟩ := optB_ok hh5
    obtain rfl := as1_ok e6
    simp only [Bool.and_eq_true, decide_eq_true_eq] at hh6
    obtain ⟨⟨⟨⟨⟨h1, h2⟩, h3⟩, h4⟩, h5⟩, h6⟩ := hh6
    obtain ⟨g1, g2, g3, g4⟩ := G.bltIn h2
    obtain ⟨k1, k2, k3, k4⟩ := G.bltIn h4
    exact se_sortedSet h1 h3 G.calm G.u65 g1 g2 k1 k2 h5 (sE e G h6)
  | .mth m e es, C, X, W, G, a, h => by
    obtain ⟨⟨o, nm, xs⟩, e1, hh1⟩ := optB_ok (o := asMeth a) h
    obtain ⟨ap, cp, rfl, h3⟩ := asMeth_ok e1
    simp only [Bool.and_eq_true, decide_eq_true_eq] at hh1
    obtain ⟨⟨⟨⟨⟨h1, h2⟩, h4⟩, h5⟩, h6⟩, h7⟩ := hh1
    cases xs with
    | nil =>
      cases es with
      | nil => exact se_mth0 G.u65 m h1 h2 h3 (sE e G h6)
      | cons f fs =>
        obtain ⟨p, e9, _⟩ := optB_ok (o := asC []) h7
        cases e9
      | star f fs =>
        obtain ⟨p, e9, _⟩ := optB_ok (o := asC []) h7
        cases e9
    | cons y ys => exact se_mth G.u65 m h1 h2 h3 h4 h5 (sE e G h6) (sEs es G h7)
  | .dcN j own e, C, X, W, G, a, h => by
    obtain ⟨⟨⟨x, p3⟩, it, sc, pos⟩, e3, hh3⟩ := optB_ok (o := asDcN a) h
    obtain ⟨p1, kc, p2, rfl⟩ := asDcN_ok e3
    simp only [Bool.and_eq_true, decide_eq_true_eq] at hh3
    obtain ⟨⟨⟨⟨⟨⟨⟨h5, h6⟩, h7⟩, h8⟩, h9⟩, h10⟩, h11⟩, h12⟩ := hh3
    exact se_dcN (j := j) G h5 h6 (sE e G h7) h8 (by simpa using h9) h10 h11 h12
  | .lc live own g it t e, C, X, W, G, a, h => by
    obtain ⟨⟨elt, gs, scope⟩, e1, hh1⟩ := optB_ok (o := asLc a) h
    obtain ⟨pos, rfl⟩ := asLc_ok e1
    obtain ⟨c, e2, hh2⟩ := optB_ok hh1
    obtain rfl := as1_ok e2
    obtain ⟨⟨tg, iter, ifs⟩, e3, hh3⟩ := optB_ok hh2
    obtain rfl := asGen_ok e3
    simp only [Bool.and_eq_true] at hh3
    obtain ⟨⟨⟨⟨⟨⟨h1, h2⟩, h3⟩, h4⟩, h5⟩, h7⟩, h8⟩ := hh3
    exact se_lc (live := live) G h1 h2 (sI it G h3) h4 (fun i hi => by
      rw [List.all_eq_true] at h5
      simpa using h5 i hi) (fun G' => sTif t G' h7) (fun G' => sE e G' h8)
  | .lc2 own vs1 g it t g1 it1 t1 e, C, X, W, G, a, h => by
    obtain ⟨⟨elt, gs, scope⟩, e1, hh1⟩ := optB_ok (o := asLc a) h
    obtain ⟨pos, rfl⟩ := asLc_ok e1
    obtain ⟨⟨c, c1⟩, e2, hh2⟩ := optB_ok hh1
    obtain rfl := as2_ok e2
    obtain ⟨⟨tg, iter, ifs⟩, e3, hh3⟩ := optB_ok hh2
    obtain rfl := asGen_ok e3
    obtain ⟨⟨tg1, iter1, ifs1⟩, e4, hh4⟩ := optB_ok hh3
    obtain rfl := asGen_ok e4
    simp only [Bool.and_eq_true] at hh4
    obtain ⟨⟨⟨⟨⟨⟨⟨⟨⟨⟨⟨⟨h1, h2⟩, h2b⟩, h3⟩, h4⟩, h5⟩, h6⟩, h7⟩, h8⟩, h9⟩, h10⟩, h11⟩, h12⟩ := hh4
    exact se_lc2 G h1 h2 h2b (sI it G h3) h4 (fun i hi => by
      rw [List.all_eq_true] at h5
      simpa using h5 i hi) (fun G' => sTif t G' h6) (fun i hi => by
      rw [List.all_eq_true] at h7
      simpa using h7 i hi) (fun G' => sI it1 G' h8) h9 (fun i hi => by
      rw [List.all_eq_true] at h10
      simpa using h10 i hi) (fun G' => sTif t1 G' h11) (fun G' => sE e G' h12)
theorem sEs {Φ : Fns} {k : Nat} : ∀ (es : Es) {C : CC} {X : Cx} {W : WX} (_ : Good C Φ k X W) {xs : List Expr}, chkEs C es xs = true → PA X xs (tDs X.K W (es.den Φ))
  | .nil, C, X, W, G, xs, h => by
    obtain rfl := asN_ok (l := xs) h
    exact sa_nil
  | .cons e es, C, X, W, G, xs, h => by
    obtain ⟨⟨y, ys⟩, e1, hh1⟩ := optB_ok (o := asC xs) h
    obtain rfl := asC_ok e1
    simp only [Bool.and_eq_true] at hh1
    exact sa_cons hh1.1.1 (sE e G hh1.1.2) (sEs es G hh1.2)
  | .star e es, C, X, W, G, xs, h => by
    obtain ⟨⟨y, ys⟩, e1, hh1⟩ := optB_ok (o := asC xs) h
    obtain rfl := asC_ok e1
    obtain ⟨z, e2, hh2⟩ := optB_ok hh1
    obtain ⟨p, rfl⟩ := asStar_ok e2
    simp only [Bool.and_eq_true] at hh2
    exact sa_star (sE e G hh2.1) (sEs es G hh2.2)
theorem sAnd {Φ : Fns} {k : Nat} : ∀ (es : Es) {C : CC} {X : Cx} {W : WX} (_ : Good C Φ k X W) {xs : List Expr} {pos : Pos}, chkEs C es xs = true → PE X (.BoolOp .And xs pos) (tD X.K W (es.denB Φ true))
  | .nil, C, X, W, G, xs, pos, h => by
    exact ⟨fun pins s σ H Q I t => by obtain ⟨w, ρ, hh, at_, p⟩ := t; exact p.elim⟩
  | .star _ _, C, X, W, G, xs, pos, h => by
    exact ⟨fun pins s σ H Q I t => by obtain ⟨w, ρ, hh, at_, p⟩ := t; exact p.elim⟩
  | .cons e (.star f es), C, X, W, G, xs, pos, h => by
    obtain ⟨⟨y, ys⟩, e1, hh1⟩ := optB_ok (o := asC xs) h
    obtain rfl := asC_ok e1
    simp only [Bool.and_eq_true] at hh1
    have h2 := hh1.2
    obtain ⟨⟨z, zs⟩, e2, _⟩ := optB_ok (o := asC ys) hh1.2
    obtain rfl := asC_ok e2
    exact se_and (sE e G hh1.1.2) (sAnd (.star f es) G h2)
  | .cons e .nil, C, X, W, G, xs, pos, h => by
    obtain ⟨⟨y, ys⟩, e1, hh1⟩ := optB_ok (o := asC xs) h
    obtain rfl := asC_ok e1
    simp only [Bool.and_eq_true] at hh1
    obtain rfl := asN_ok (l := ys) hh1.2
    exact pe_one (sE e G hh1.1.2)
  | .cons e (.cons f es), C, X, W, G, xs, pos, h => by
    obtain ⟨⟨y, ys⟩, e1, hh1⟩ := optB_ok (o := asC xs) h
    obtain rfl := asC_ok e1
    simp only [Bool.and_eq_true] at hh1
    have h2 := hh1.2
    obtain ⟨⟨z, zs⟩, e2, _⟩ := optB_ok (o := asC ys) hh1.2
    obtain rfl := asC_ok e2
    exact se_and (sE e G hh1.1.2) (sAnd (.cons f es) G h2)
theorem sOr {Φ : Fns} {k : Nat} : ∀ (es : Es) {C : CC} {X : Cx} {W : WX} (_ : Good C Φ k X W) {xs : List Expr} {pos : Pos}, chkEs C es xs = true → PE X (.BoolOp .Or xs pos) (tD X.K W (es.denB Φ false))
  | .nil, C, X, W, G, xs, pos, h => by
    exact ⟨fun pins s σ H Q I t => by obtain ⟨w, ρ, hh, at_, p⟩ := t; exact p.elim⟩
  | .star _ _, C, X, W, G, xs, pos, h => by
    exact ⟨fun pins s σ H Q I t => by obtain ⟨w, ρ, hh, at_, p⟩ := t; exact p.elim⟩
  | .cons e (.star f es), C, X, W, G, xs, pos, h => by
    obtain ⟨⟨y, ys⟩, e1, hh1⟩ := optB_ok (o := asC xs) h
    obtain rfl := asC_ok e1
    simp only [Bool.and_eq_true] at hh1
    have h2 := hh1.2
    obtain ⟨⟨z, zs⟩, e2, _⟩ := optB_ok (o := asC ys) hh1.2
    obtain rfl := asC_ok e2
    exact se_or (sE e G hh1.1.2) (sOr (.star f es) G h2)
  | .cons e .nil, C, X, W, G, xs, pos, h => by
    obtain ⟨⟨y, ys⟩, e1, hh1⟩ := optB_ok (o := asC xs) h
    obtain rfl := asC_ok e1
    simp only [Bool.and_eq_true] at hh1
    obtain rfl := asN_ok (l := ys) hh1.2
    exact pe_one (sE e G hh1.1.2)
  | .cons e (.cons f es), C, X, W, G, xs, pos, h => by
    obtain ⟨⟨y, ys⟩, e1, hh1⟩ := optB_ok (o := asC xs) h
    obtain rfl := asC_ok e1
    simp only [Bool.and_eq_true] at hh1
    have h2 := hh1.2
    obtain ⟨⟨z, zs⟩, e2, _⟩ := optB_ok (o := asC ys) hh1.2
    obtain rfl := asC_ok e2
    exact se_or (sE e G hh1.1.2) (sOr (.cons f es) G h2)
theorem sT {Φ : Fns} {k : Nat} : ∀ (t : T) {C : CC} {X : Cx} {W : WX} (_ : Good C Φ k X W) {a : Expr}, chkT C t a = true → PT X a (tDb X.K W (t.den Φ))
  | .val e, C, X, W, G, a, h => by
    have h : (plainTest a && chkE C e a) = true := h
    rw [Bool.and_eq_true] at h
    exact st_val h.1 (sE e G h.2)
  | .cmp o e f, C, X, W, G, a, h => by
    obtain ⟨⟨l, os, rs⟩, e1, hh1⟩ := optB_ok (o := asCmp a) h
    obtain ⟨pos, rfl⟩ := asCmp_ok e1
    obtain ⟨op, e2, hh2⟩ := optB_ok hh1
    obtain ⟨r, e3, hh3⟩ := optB_ok hh2
    obtain rfl := as1_ok e2
    obtain rfl := as1_ok e3
    simp only [Bool.and_eq_true, decide_eq_true_eq, Bool.not_eq_true'] at hh3
    obtain ⟨⟨⟨rfl, h0⟩, h1⟩, h2⟩ := hh3
    exact st_cmp o (by have := G.u65; omega) h0 (sE e G h1) (sE f G h2)
  | .chn o o' e f g, C, X, W, G, a, h => by
    obtain ⟨⟨l, os, rs⟩, e1, hh1⟩ := optB_ok (o := asCmp a) h
    obtain ⟨pos, rfl⟩ := asCmp_ok e1
    obtain ⟨⟨op, op'⟩, e2, hh2⟩ := optB_ok hh1
    obtain ⟨⟨m, r⟩, e3, hh3⟩ := optB_ok hh2
    obtain rfl := as2_ok e2
    obtain rfl := as2_ok e3
    simp only [Bool.and_eq_true, decide_eq_true_eq, Bool.not_eq_true'] at hh3
    obtain ⟨⟨⟨⟨⟨rfl, rfl⟩, h0⟩, h1⟩, h2⟩, h3⟩ := hh3
    exact st_chn o o' (by have := G.u65; omega) h0 (sE e G h1) (sE f G h2) (sE g G h3)
  | .not t, C, X, W, G, a, h => by
    obtain ⟨⟨o, x⟩, e1, hh1⟩ := optB_ok (o := asUn a) h
    obtain ⟨pos, rfl⟩ := asUn_ok e1
    simp only [Bool.and_eq_true] at hh1
    obtain rfl := isNot_ok hh1.1
    exact st_not (sT t G hh1.2)
  | .and ts, C, X, W, G, a, h => by
    obtain ⟨⟨o, xs⟩, e1, hh1⟩ := optB_ok (o := asBool a) h
    obtain ⟨pos, rfl⟩ := asBool_ok e1
    simp only [Bool.and_eq_true] at hh1
    obtain rfl := isAnd_ok hh1.1
    exact (sTand ts G hh1.2).pt
  | .or ts, C, X, W, G, a, h => by
    obtain ⟨⟨o, xs⟩, e1, hh1⟩ := optB_ok (o := asBool a) h
    obtain ⟨pos, rfl⟩ := asBool_ok e1
    simp only [Bool.and_eq_true, Bool.not_eq_true'] at hh1
    obtain rfl := isOr_ok hh1.1
    exact (sTor ts G hh1.2).pt
  | .yes, C, X, W, G, a, h => by
    have h : false = true := h
    cases h
theorem sTand {Φ : Fns} {k : Nat} : ∀ (ts : Ts) {C : CC} {X : Cx} {W : WX} (_ : Good C Φ k X W) {xs : List Expr} {pos : Pos}, chkTs C ts xs = true → PW X (.BoolOp .And xs pos) (tDb X.K W (ts.den Φ true))
  | .nil, C, X, W, G, xs, pos, h => by
    obtain rfl := asN_ok (l := xs) h
    refine ⟨fun wh pins s σ H Q I t => PyProof.Rows.isTrue_and_nil ⟨H, I, ?_⟩⟩
    obtain ⟨w, ρ, hh, at_, p⟩ := t
    have := p w true (Ext.refl w) at_.rel rfl
    rw [at_.heap] at this
    exact this
  | .cons t .nil, C, X, W, G, xs, pos, h => by
    obtain ⟨⟨y, ys⟩, e1, hh1⟩ := optB_ok (o := asC xs) h
    obtain rfl := asC_ok e1
    simp only [Bool.and_eq_true] at hh1
    obtain rfl := asN_ok (l := ys) hh1.2
    exact sw_and1 (sT t G hh1.1)
  | .cons t (.cons u us), C, X, W, G, xs, pos, h => by
    obtain ⟨⟨y, ys⟩, e1, hh1⟩ := optB_ok (o := asC xs) h
    obtain rfl := asC_ok e1
    simp only [Bool.and_eq_true] at hh1
    have h2 := hh1.2
    obtain ⟨⟨z, zs⟩, e2, _⟩ := optB_ok (o := asC ys) hh1.2
    obtain rfl := asC_ok e2
    exact sw_and (sT t G hh1.1) (sTand (.cons u us) G h2)
theorem sTor {Φ : Fns} {k : Nat} : ∀ (ts : Ts) {C : CC} {X : Cx} {W : WX} (_ : Good C Φ k X W) {xs : List Expr} {pos : Pos}, chkTs C ts xs = true → PW X (.BoolOp .Or xs pos) (tDb X.K W (ts.den Φ false))
  | .nil, C, X, W, G, xs, pos, h => by
    obtain rfl := asN_ok (l := xs) h
    refine ⟨fun wh pins s σ H Q I t => PyProof.Rows.isTrue_or_nil ⟨H, I, ?_⟩⟩
    obtain ⟨w, ρ, hh, at_, p⟩ := t
    have := p w false (Ext.refl w) at_.rel rfl
    rw [at_.heap] at this
    exact this
  | .cons t .nil, C, X, W, G, xs, pos, h => by
    obtain ⟨⟨y, ys⟩, e1, hh1⟩ := optB_ok (o := asC xs) h
    obtain rfl := asC_ok e1
    simp only [Bool.and_eq_true] at hh1
    obtain rfl := asN_ok (l := ys) hh1.2
    exact sw_or1 (sT t G hh1.1)
  | .cons t (.cons u us), C, X, W, G, xs, pos, h => by
    obtain ⟨⟨y, ys⟩, e1, hh1⟩ := optB_ok (o := asC xs) h
    obtain rfl := asC_ok e1
    simp only [Bool.and_eq_true] at hh1
    have h2 := hh1.2
    obtain ⟨⟨z, zs⟩, e2, _⟩ := optB_ok (o := asC ys) hh1.2
    obtain rfl := asC_ok e2
    exact sw_or (sT t G hh1.1) (sTor (.cons u us) G h2)
theorem sTif {Φ : Fns} {k : Nat} : ∀ (t : T) {C : CC} {X : Cx} {W : WX} (_ : Good C Φ k X W) {xs : List Expr}, chkTif C t xs = true → PTs X xs (tDb X.K W (t.den Φ))
  | t, C, X, W, G, xs, h => by
    rcases chkTif_ok h with ⟨rfl, rfl⟩ | ⟨c, rfl, hc⟩
    · refine ⟨fun pins s σ H Q I t => pts_nil.run pins s σ H Q I ?_⟩
      obtain ⟨w, ρ, hh, at_, p⟩ := t
      have := p w true (Ext.refl w) at_.rel rfl
      rw [at_.heap] at this
      exact this
    · exact pts_one (sT t G hc)
theorem sI {Φ : Fns} {k : Nat} : ∀ (it : I) {C : CC} {X : Cx} {W : WX} (_ : Good C Φ k X W) {tg a : Expr}, chkI C it tg a = true → PI X tg a (tDen X.K W (WalksR X.K) (it.den Φ))
  | .seq e, C, X, W, G, tg, a, h => by
    have h : chkE C e a = true := h
    exact si_seq (sE e G h)
  | .rng e, C, X, W, G, tg, a, h => by
    obtain ⟨⟨fn, xs⟩, e1, hh1⟩ := optB_ok (o := asCall a) h
    obtain ⟨pos, rfl⟩ := asCall_ok e1
    obtain ⟨x, e2, hh2⟩ := optB_ok hh1
    obtain ⟨p2, rfl⟩ := asName_ok e2
    obtain ⟨y, e3, hh3⟩ := optB_ok hh2
    obtain rfl := as1_ok e3
    simp only [Bool.and_eq_true, decide_eq_true_eq] at hh3
    obtain ⟨⟨⟨h1, h2⟩, h3⟩, h4⟩ := hh3
    exact si_rng h1 (G.bltIn h2).1 (G.bltIn h2).2.1 h3 (sE e G h4)
  | .rng2 e f, C, X, W, G, tg, a, h => by
    obtain ⟨⟨fn, xs⟩, e1, hh1⟩ := optB_ok (o := asCall a) h
    obtain ⟨pos, rfl⟩ := asCall_ok e1
    obtain ⟨x, e2, hh2⟩ := optB_ok hh1
    obtain ⟨p2, rfl⟩ := asName_ok e2
    obtain ⟨⟨y, z⟩, e3, hh3⟩ := optB_ok hh2
    obtain rfl := as2_ok e3
    simp only [Bool.and_eq_true, decide_eq_true_eq] at hh3
    obtain ⟨⟨⟨⟨⟨h1, h2⟩, h3⟩, h4⟩, h5⟩, h6⟩ := hh3
    exact si_rng2 h1 (G.bltIn h2).1 (G.bltIn h2).2.1 h3 h4 (sE e G h5) (sE f G h6)
  | .zip e f, C, X, W, G, tg, a, h => by
    obtain ⟨⟨fn, xs⟩, e1, hh1⟩ := optB_ok (o := asCall a) h
    obtain ⟨pos, rfl⟩ := asCall_ok e1
    obtain ⟨x, e2, hh2⟩ := optB_ok hh1
    obtain ⟨p2, rfl⟩ := asName_ok e2
    obtain ⟨⟨y, z⟩, e3, hh3⟩ := optB_ok hh2
    obtain rfl := as2_ok e3
    simp only [Bool.and_eq_true, decide_eq_true_eq] at hh3
    obtain ⟨⟨⟨⟨⟨⟨h1, h2⟩, h3⟩, h4⟩, h5⟩, h6⟩, h7⟩ := hh3
    exact si_zip h1 (G.bltIn h2).1 (G.bltIn h2).2.1 h5 h3 h4 (sE e G h6) (sE f G h7)
  | .enm e, C, X, W, G, tg, a, h => by
    obtain ⟨⟨fn, xs⟩, e1, hh1⟩ := optB_ok (o := asCall a) h
    obtain ⟨pos, rfl⟩ := asCall_ok e1
    obtain ⟨x, e2, hh2⟩ := optB_ok hh1
    obtain ⟨p2, rfl⟩ := asName_ok e2
    obtain ⟨y, e3, hh3⟩ := optB_ok hh2
    obtain rfl := as1_ok e3
    simp only [Bool.and_eq_true, decide_eq_true_eq] at hh3
    obtain ⟨⟨⟨⟨h1, h2⟩, h3⟩, h4⟩, h5⟩ := hh3
    exact si_enm h1 (G.bltIn h2).1 (G.bltIn h2).2.1 h4 h3 (sE e G h5)
  | .dks e, C, X, W, G, tg, a, h => by
    have h : chkE C e a = true := h
    exact si_dks (sE e G h)
theorem sO {Φ : Fns} {k : Nat} : ∀ (o : O) {C : CC} {X : Cx} {W : WX} (_ : Good C Φ k X W) {a : Option Expr}, chkO C o a = true → L2.PO X a (tDo X.K W (o.den Φ))
  | .none, C, X, W, G, a, h => by
    cases a with
    | none => exact so_none
    | some x => cases h
  | .some e, C, X, W, G, a, h => by
    obtain ⟨x, rfl, hh1⟩ := optB_ok (o := a) h
    exact so_some (sE e G hh1)
end
end R

set_option Elab.async false
set_option linter.all false
set_option maxRecDepth 100000
set_option maxHeartbeats 1000000
/-! R: statements mean what den says -/
namespace R
open PySem PySem.Spec L2
structure GoodS (X : Cx) : Prop where
  own : PassesOwn (model X.prog X.w) X.A X.env X.xe
  kind : X.env.blockKind = .function
section
variable {X : Cx} {W : WX} {a b c : Expr} {pos : Pos} {da db dc : Sl → PH → Res PV}
theorem PostS.nx {K : PySem.W.Frag} {w : Wd} {σ : St} {ρ : Sl} {h : PH} {D : Ends} {H : Hp} (p : PostS K W w (.nx ρ h) D) (at_ : At K w σ H ρ h) : D.nx σ H := by
  have := p w σ (Ext.refl w) at_.rel at_.sl
  rwa [at_.heap] at this
theorem ss_asg {C : CC} {Φ : Fns} {k : Nat} {g : G} {tg : Expr} (G0 : Good C Φ k X W) (hg : chkG C g tg = true) (ha : PE X a (tD X.K W da)) (hs : swapsWithSole [tg] a pos.line X.env = pure false) (hw : swappedStores [tg] a X.env = pure none) :
    PS X (.Assign [tg] a pos) (tDS X.K W fun ρ h => (da ρ h).out ρ fun p h1 => match g.put p ρ with
      | some ρ' => .nx ρ' h1
      | none => .bad) := by
  have h1 : (assignEach [tg] X.env).map (·.2) = [assign tg X.env] := by
    cases g <;> (simp only [chkG] at hg; split at hg <;> first | rfl | cases hg)
  refine PS.imp (ps_asg ha (pg_V G0 hg) hs hw h1) fun D σ H t => ?_
  obtain ⟨w, ρ, h, at_, p⟩ := t
  refine tDen.mono (outE (rep := Rep X.K) (d := da) at_ p) ?_
  rintro v H1 ⟨w1, h1, p1, x1, at1, r1, q1⟩
  cases hp : g.put p1 ρ with
  | none => simp only [hp] at q1; exact q1.elim
  | some ρ' =>
    simp only [hp] at q1
    obtain ⟨eh, rel1, sl1⟩ := at1
    subst eh
    exact put_ok hp r1 sl1 fun σ' hs => q1 w1 σ' (Ext.refl w1) rel1 hs
theorem ss_par {i j : Nat} {x y : Str} {px py pt pt2 : Pos} {kt k2} (hc : X.calm = true) (hN : X.N.Nodup) (hi : X.N[i]? = some x) (hj : X.N[j]? = some y) (hij : i ≠ j) (hx : X.env.scope.names.lookup x = some .local) (hy : X.env.scope.names.lookup y = some .local)
    (h1 : nostar a = true) (h2 : nostar b = true) (ha : PE X a (tD X.K W da)) (hb : PE X b (tD X.K W db)) (hw : swappedStores [.Tuple [.Name x px, .Name y py] kt pt] (.Tuple [a, b] k2 pt2) X.env = pure (some [x, y])) :
    PS X (.Assign [.Tuple [.Name x px, .Name y py] kt pt] (.Tuple [a, b] k2 pt2) pos) (tDS X.K W fun ρ h => (da ρ h).out ρ fun p h1 => (db ρ h1).out ρ fun q h2 => .nx ((ρ.set i (some p)).set j (some q)) h2) := by
  refine PS.imp (ps_par hc hN hi hj hij hx hy (pa_cons ha (pa_cons hb pa_nil (star1 h2 _ _)) (star1 h1 _ _)) hw) fun D σ H t => ?_
  obtain ⟨w, ρ, h, at_, p⟩ := t
  refine tDen.mono (outE (rep := Rep X.K) (d := da) at_ p) ?_
  rintro v H1 ⟨w1, h1, p1, x1, at1, r1, q1⟩
  refine tDen.mono (outE (rep := Rep X.K) (d := db) at1 q1) ?_
  rintro u H2 ⟨w2, h2, p2, x2, at2, r2, q2⟩
  refine ⟨v, u, rfl, ?_⟩
  have := q2 w2 _ (Ext.refl w2) at2.rel ((at2.sl.put (r1.mono x2) i).put r2 j)
  rwa [at2.heap] at this
theorem ss_par3 {i j l : Nat} {x y z : Str} {c : Expr} {dc : Sl → PH → Res PV} {px py pz pt pt2 : Pos} {kt k2} (hc : X.calm = true) (hN : X.N.Nodup) (hi : X.N[i]? = some x) (hj : X.N[j]? = some y) (hl : X.N[l]? = some z) (hij : i ≠ j) (hil : i ≠ l) (hjl : j ≠ l) (hx : X.env.scope.names.lookup x = some .local) (hy : X.env.scope.names.lookup y = some .local) (hz : X.env.scope.names.lookup z = some .local)
    (h1 : nostar a = true) (h2 : nostar b = true) (h3 : nostar c = true) (ha : PE X a (tD X.K W da)) (hb : PE X b (tD X.K W db)) (hcc : PE X c (tD X.K W dc)) (hw : swappedStores [.Tuple [.Name x px, .Name y py, .Name z pz] kt pt] (.Tuple [a, b, c] k2 pt2) X.env = pure (some [x, y, z])) :
    PS X (.Assign [.Tuple [.Name x px, .Name y py, .Name z pz] kt pt] (.Tuple [a, b, c] k2 pt2) pos) (tDS X.K W fun ρ h => (da ρ h).out ρ fun p h1 => (db ρ h1).out ρ fun q h2 => (dc ρ h2).out ρ fun r h3 => .nx (((ρ.set i (some p)).set j (some q)).set l (some r)) h3) := by
  refine PS.imp (ps_par3 hc hN hi hj hl hij hil hjl hx hy hz (pa_cons ha (pa_cons hb (pa_cons hcc pa_nil (star1 h3 _ _)) (star1 h2 _ _)) (star1 h1 _ _)) hw) fun D σ H t => ?_
  obtain ⟨w, ρ, h, at_, p⟩ := t
  refine tDen.mono (outE (rep := Rep X.K) (d := da) at_ p) ?_
  rintro v H1 ⟨w1, h1, p1, x1, at1, r1, q1⟩
  refine tDen.mono (outE (rep := Rep X.K) (d := db) at1 q1) ?_
  rintro u H2 ⟨w2, h2, p2, x2, at2, r2, q2⟩
  refine tDen.mono (outE (rep := Rep X.K) (d := dc) at2 q2) ?_
  rintro u3 H3 ⟨w3, h3, p3, x3, at3, r3, q3⟩
  refine ⟨v, u, u3, rfl, ?_⟩
  have := q3 w3 _ (Ext.refl w3) at3.rel (((at3.sl.put (r1.mono (x2.trans x3)) i).put (r2.mono x3) j).put r3 l)
  rwa [at3.heap] at this
theorem ss_setI {e : Expr} {p0 : Pos} {de : Sl → PH → Res PV} (hi : plainIx b = true) (ha : PE X a (tD X.K W da)) (hb : PE X b (tD X.K W db)) (he : PE X e (tD X.K W de)) (hs : swapsWithSole [.Subscript a b p0] e pos.line X.env = pure false) :
    PS X (.Assign [.Subscript a b p0] e pos) (tDS X.K W fun ρ h => (de ρ h).out ρ fun v h1 => (da ρ h1).out ρ fun p h2 => (db ρ h2).out ρ fun q h3 => match p, q with
    | .ref n, .int i => match liveL h3 n with
      | some xs => match ixN xs.length i with
        | some j => .nx ρ (h3.set n (.lst (xs.set j v)))
        | none => .bad
      | none => .bad
    | _, _ => .bad) := by
  refine PS.imp (ps_asg he (pg_sub ha hb set_list (fun v => by cases b <;> first | rfl | cases hi)) hs rfl rfl) fun D σ H t => ?_
  obtain ⟨w, ρ, h, at_, p⟩ := t
  refine tDen.mono (outE (rep := Rep X.K) (d := de) at_ p) ?_
  rintro v H1 ⟨w1, h1, p1, x1, at1, r1, q1⟩
  refine tDen.mono (outE (rep := Rep X.K) (d := da) at1 q1) ?_
  rintro u H2 ⟨w2, h2, p2, x2, at2, r2, q2⟩
  refine tDen.mono (outE (rep := Rep X.K) (d := db) at2 q2) ?_
  rintro z H3 ⟨w3, h3, p3, x3, at3, r3, q3⟩
  obtain ⟨eh, rel3, sl3⟩ := at3
  subst eh
  split at q3
  · rename_i n i
    split at q3
    · rename_i xs hl
      split at q3
      · rename_i j hj
        obtain ⟨ad, vs, rfl, hm, hH, rs, hlen⟩ := liveL_rep hl rel3 (r2.mono x3)
        cases r3
        obtain ⟨xx, rr⟩ := liveWrite rel3 hm hl (rs.set (r1.mono (x2.trans x3)) j) (by rw [List.length_set]; exact hlen)
        exact ⟨ad, vs, i, j, rfl, rfl, hH, by rw [← rs.length]; exact hj, q3 _ _ xx rr (sl3.mono xx)⟩
      · exact q3.elim
    · exact q3.elim
  · exact q3.elim
theorem ss_ex (hn : noComp a = true) (ha : PE X a (tD X.K W da)) : PS X (.Expr a pos) (tDS X.K W fun ρ h => (da ρ h).out ρ fun _ h1 => .nx ρ h1) := by
  refine PS.imp (ps_expr ha (noCompE hn _ _ _)) fun D σ H t => ?_
  obtain ⟨w, ρ, h, at_, p⟩ := t
  refine tDen.mono (outE (rep := Rep X.K) (d := da) at_ p) ?_
  rintro v H1 ⟨w1, h1, p1, x1, at1, r1, q1⟩
  exact PostS.nx q1 at1
theorem ss_ret (ha : PE X a (tD X.K W da)) : PS X (.Return (some a) pos) (tDS X.K W fun ρ h => (da ρ h).out ρ fun p h1 => .rt p h1) := by
  refine PS.imp (ps_ret ha) fun D σ H t => ?_
  obtain ⟨w, ρ, h, at_, p⟩ := t
  refine tDen.mono (outE (rep := Rep X.K) (d := da) at_ p) ?_
  rintro v H1 ⟨w1, h1, p1, x1, at1, r1, q1⟩
  have := q1 w1 v (Ext.refl w1) at1.rel r1
  rwa [at1.heap] at this
theorem ss_retN : PS X (.Return none pos) (tDS X.K W fun _ h => .rt .non h) := by
  refine PS.imp ps_retN fun D σ H t => ?_
  obtain ⟨w, ρ, h, at_, p⟩ := t
  have := p w .non (Ext.refl w) at_.rel .non
  rwa [at_.heap] at this
theorem ss_if {p q : List Stmt} {dt : Sl → PH → Res Bool} {d1 d2 : Sl → PH → Out} (hc : PT X c (tDb X.K W dt)) (hp : PSs X p (tDS X.K W d1)) (hq : PSs X q (tDS X.K W d2)) : PS X (.If c p q pos) (tDS X.K W fun ρ h => (dt ρ h).out ρ fun b h1 => if b = true then d1 ρ h1 else d2 ρ h1) := by
  refine PS.imp (ps_if hc hp hq) fun D σ H t => ?_
  obtain ⟨w, ρ, h, at_, p⟩ := t
  refine tDen.mono (outE (rep := fun _ p v => p = v) (d := dt) at_ p) ?_
  rintro b H1 ⟨w1, h1, _, x1, at1, rfl, q1⟩
  rename_i b
  cases b with
  | true => simp only [if_true] at q1 ⊢; exact ⟨w1, ρ, h1, at1, q1⟩
  | false => simp only [Bool.false_eq_true, if_false] at q1 ⊢; exact ⟨w1, ρ, h1, at1, q1⟩
theorem ss_for {C : CC} {Φ : Fns} {k : Nat} {g : G} {tg iter : Expr} {body : List Stmt} {di : Sl → PH → Res (List PV)} {d : Sl → PH → Out} (G0 : Good C Φ k X W) (S0 : GoodS X) (hset : noSet iter = true) (hi : PI X tg iter (tDen X.K W (WalksR X.K) di)) (hg : chkG C g tg = true) (hb : PSs X body (tDS X.K W d)) :
    PS X (.For tg iter body [] pos) (tDS X.K W fun ρ h => (di ρ h).out ρ fun xs h1 => forL (fun x ρ1 h2 => match g.put x ρ1 with
      | some ρ2 => d ρ2 h2
      | none => .bad) xs ρ h1) := by
  refine PS.imp (ps_for S0.own G0.calm hi (pg_V G0 hg) hb (fun x => noSetE hset X.env x)) fun D σ H t => ?_
  obtain ⟨w, ρ, h, at_, p⟩ := t
  refine tDen.mono (outE (rep := WalksR X.K) (d := di) at_ p) ?_
  rintro J H1 ⟨w1, h1, xs, x1, at1, wk, p1⟩
  obtain ⟨eh, rel1, sl1⟩ := at1
  subst eh
  generalize hF : (fun x ρ1 h2 => match g.put x ρ1 with
      | some ρ2 => d ρ2 h2
      | none => .bad : PV → Sl → PH → Out) = F at p1
  refine ⟨fun i m σ H => m = xs.length - i ∧ i ≤ xs.length ∧ ∃ w2 ρ2 h2, w2.H = H ∧ Ext w1 w2 ∧ Rel X.K w2 h2 ∧ SloR X.K w2 σ ρ2 ∧ PostS X.K W w2 (forL F (xs.drop i) ρ2 h2) D, ⟨xs.length, by simp, Nat.zero_le _, w1, ρ, h1, rfl, Ext.refl _, rel1, sl1, by rw [List.drop_zero]; exact p1⟩, ?_⟩
  rintro i m σ' H' ⟨rfl, hi, w2, ρ2, h2, rfl, x12, rel2, sl2, p2⟩
  obtain ⟨wkg, wks⟩ := wk.2 w2 h2 x12.weak rel2
  by_cases hlt : i < xs.length
  · have ei : xs[i]? = some xs[i] := List.getElem?_eq_getElem hlt
    obtain ⟨hgo, hy⟩ := wkg i _ ei
    rw [List.drop_eq_getElem_cons hlt] at p2
    refine .inr ⟨hgo, fun σ'' H'' => ∃ w3 ρ3 h3, w3.H = H'' ∧ Ext w1 w3 ∧ Rel X.K w3 h3 ∧ SloR X.K w3 σ'' ρ3 ∧ PostS X.K W w3 (forL F (xs.drop (i + 1)) ρ3 h3) D, fun σ'' H'' hN => ⟨xs.length - (i + 1), by omega, rfl, hlt, hN⟩, fun x H'' hyl => ?_⟩
    obtain ⟨w3, rfl, x23, rel3, rp3⟩ := hy x H'' hyl
    simp only [forL] at p2
    rw [← hF] at p2
    simp only at p2
    cases hp : g.put xs[i] ρ2 with
    | none => simp only [hp] at p2; exact p2.elim
    | some ρ3 =>
      simp only [hp] at p2
      refine put_ok hp rp3 (sl2.mono x23) fun σ3 sl3 => ⟨w3, ρ3, h2, ⟨rfl, rel3, sl3⟩, ?_⟩
      have x13 := x12.trans x23
      rw [hF] at p2
      cases ho : d ρ3 h2 with
      | nx ρ4 h4 => simp only [ho] at p2; exact fun w4 σ4 x34 rel4 sl4 => ⟨w4, ρ4, h4, rfl, x13.trans x34, rel4, sl4, p2.ext (x23.trans x34)⟩
      | ct ρ4 h4 => simp only [ho] at p2; exact fun w4 σ4 x34 rel4 sl4 => ⟨w4, ρ4, h4, rfl, x13.trans x34, rel4, sl4, p2.ext (x23.trans x34)⟩
      | bk ρ4 h4 => simp only [ho] at p2; exact fun w4 σ4 x34 rel4 sl4 => p2 w4 σ4 (x23.trans x34) rel4 sl4
      | rt v h4 => simp only [ho] at p2; exact fun w4 v4 x34 rel4 r4 => p2 w4 v4 (x23.trans x34) rel4 r4
      | exc e ρ4 h4 => simp only [ho] at p2; exact fun w4 σ4 cls dd x34 rel4 sl4 r4 => p2 w4 σ4 cls dd (x23.trans x34) rel4 sl4 r4
      | bad => simp only [ho] at p2; exact p2.elim
  · have ei : i = xs.length := by omega
    subst ei
    refine .inl ⟨wks, ?_⟩
    rw [List.drop_length] at p2
    simp only [forL] at p2
    exact PostS.nx p2 ⟨rfl, rel2, sl2⟩
/-- what a while's turn leaves -/
theorem whl_turn {K : PySem.W.Frag} {w w2 : Wd} {t : Sl → PH → Res (Bool × Sl)} {f : Sl → PH → Out} {n : Nat} {ρ : Sl} {h : PH} {D : Ends} {N : St → Hp → Prop} (x : Ext w w2) (p : PostS K W w (match f ρ h with
      | .nx ρ1 h2 => whileL t f n ρ1 h2
      | .ct ρ1 h2 => whileL t f n ρ1 h2
      | .bk ρ1 h2 => .nx ρ1 h2
      | o => o) D) (hN : ∀ w3 σ3 ρ3 h3, Ext w2 w3 → Rel K w3 h3 → SloR K w3 σ3 ρ3 → PostS K W w (whileL t f n ρ3 h3) D → N σ3 w3.H) : PostS K W w2 (f ρ h) { D with nx := N, ct := N, bk := D.nx } := by
  cases ho : f ρ h with
  | nx ρ4 h4 => simp only [ho] at p; exact fun w4 σ4 x34 rel4 sl4 => hN w4 σ4 ρ4 h4 x34 rel4 sl4 p
  | ct ρ4 h4 => simp only [ho] at p; exact fun w4 σ4 x34 rel4 sl4 => hN w4 σ4 ρ4 h4 x34 rel4 sl4 p
  | bk ρ4 h4 => simp only [ho] at p; exact fun w4 σ4 x34 rel4 sl4 => p w4 σ4 (x.trans x34) rel4 sl4
  | rt v h4 => simp only [ho] at p; exact fun w4 v4 x34 rel4 r4 => p w4 v4 (x.trans x34) rel4 r4
  | exc e ρ4 h4 => simp only [ho] at p; exact fun w4 σ4 cls dd x34 rel4 sl4 r4 => p w4 σ4 cls dd (x.trans x34) rel4 sl4 r4
  | bad => simp only [ho] at p; exact p.elim
theorem ss_whl {body : List Stmt} {dt : Sl → PH → Res Bool} {d : Sl → PH → Out} (S0 : GoodS X) (hc : PT X c (tDb X.K W dt)) (hb : PSs X body (tDS X.K W d)) :
    PS X (.While c body [] pos) (tDS X.K W fun ρ h => whileL (fun ρ1 h1 => (dt ρ1 h1).bind fun c h2 => .ok (c, ρ1) h2) d wMost ρ h) := by
  refine PS.imp (ps_while S0.own hc hb) fun D σ H t => ?_
  obtain ⟨w, ρ, h, at_, p⟩ := t
  obtain ⟨eh, rel, sl⟩ := at_
  subst eh
  generalize wMost = n at p
  refine ⟨fun m σ H => ∃ w2 ρ2 h2, w2.H = H ∧ Ext w w2 ∧ Rel X.K w2 h2 ∧ SloR X.K w2 σ ρ2 ∧ PostS X.K W w2 (whileL (fun ρ1 h1 => (dt ρ1 h1).bind fun c h2 => .ok (c, ρ1) h2) d m ρ2 h2) D, ⟨n, w, ρ, h, rfl, Ext.refl _, rel, sl, p⟩, ?_⟩
  rintro m σ' H' ⟨w2, ρ2, h2, rfl, x2, rel2, sl2, p2⟩
  cases m with
  | zero => exact p2.elim
  | succ m =>
    simp only [whileL] at p2
    refine ⟨w2, ρ2, h2, ⟨rfl, rel2, sl2⟩, ?_⟩
    cases ht : dt ρ2 h2 with
    | bad => simp only [ht, Res.bind_bad, Res.out_bad] at p2; exact p2.elim
    | exc y hh => simp only [ht, Res.bind_exc, Res.out_exc] at p2; exact fun w3 cls dd x3 r3 q3 => p2 w3 σ' cls dd x3 r3 (sl2.mono x3) q3
    | ok b hb =>
      simp only [ht, Res.bind_ok, Res.out_ok] at p2
      intro w3 b' x23 rel3 eb
      subst eb
      cases b with
      | false =>
        simp only [Bool.false_eq_true, if_false] at p2 ⊢
        exact p2 w3 σ' x23 rel3 (sl2.mono x23)
      | true =>
        simp only [if_true] at p2 ⊢
        refine ⟨fun σ4 H4 => ∃ w4 ρ4 h4, w4.H = H4 ∧ Ext w w4 ∧ Rel X.K w4 h4 ∧ SloR X.K w4 σ4 ρ4 ∧ PostS X.K W w4 (whileL (fun ρ1 h1 => (dt ρ1 h1).bind fun c h2 => .ok (c, ρ1) h2) d m ρ4 h4) D, fun σ4 H4 hN => ⟨m, Nat.lt_succ_self m, hN⟩, w3, ρ2, hb, ⟨rfl, rel3, sl2.mono x23⟩, ?_⟩
        exact whl_turn x23 p2 fun w4 σ4 ρ4 h4 x34 rel4 sl4 p4 => ⟨w4, ρ4, h4, rfl, (x2.trans x23).trans x34, rel4, sl4, p4.ext (x23.trans x34)⟩
theorem asWal_f {c e : Expr} {x : Str} (h : asWal false c = some (x, e)) : ∃ p q, c = .NamedExpr (.Name x p) e q := by
  unfold asWal at h
  split at h
  · cases h; exact ⟨_, _, rfl⟩
  · rename_i z; exact nomatch z
  · cases h
theorem asWal_t {c e : Expr} {x : Str} (h : asWal true c = some (x, e)) : ∃ p q n p2 q2, c = .Compare (.NamedExpr (.Name x p) e q) [.IsNot] [.Constant .none n p2] q2 := by
  unfold asWal at h
  split at h
  · rename_i z; exact nomatch z
  · cases h; exact ⟨_, _, _, _, _, rfl⟩
  · cases h
theorem ss_whlW {i : Nat} {nn : Bool} {x : Str} {e : Expr} {body : List Stmt} {de : Sl → PH → Res PV} {d : Sl → PH → Out} (S0 : GoodS X) (hu : X.A.units + 65 < cLine) (hN : X.N.Nodup) (hi : X.N[i]? = some x) (hx : L2.Loc X.env.scope x) (hf : X.fn x = true ∨ X.env.scope.names.lookup x = some .local) (hw : asWal nn c = some (x, e)) (he : PE X e (tD X.K W de)) (hb : PSs X body (tDS X.K W d)) :
    PS X (.While c body [] pos) (tDS X.K W fun ρ h => whileL (fun ρ1 h1 => (de ρ1 h1).bind fun p h2 => (Res.of (if nn = true then cmpop .notN p .non else truthV p h2) h2).bind fun c h3 => .ok (c, ρ1.set i (some p)) h3) d wMost ρ h) := by
  -- the test, in both forms
  have key : ∃ tc : TTw, PTw X c tc ∧ ∀ σ H (Q : Bool → St → Hp → Prop), (tD X.K W de σ H fun v H1 => ∃ w p h k, w.H = H1 ∧ Rel X.K w h ∧ Rep X.K w p v ∧ (if nn = true then cmpop .notN p .non else truthV p h) = some k ∧ Q k (σ.set i (some v)) H1) → tc σ H Q := by
    cases nn with
    | false =>
      obtain ⟨p1, p2, rfl⟩ := asWal_f hw
      refine ⟨_, ptw_truth (pew_named hN hi hx (pew_of he) hf), fun σ H Q t => ?_⟩
      refine tDen.mono t ?_
      rintro v H1 ⟨w, p, h, k, rfl, rel, rp, e, q⟩
      simp only [Bool.false_eq_true, if_false] at e
      exact ⟨k, truthV_rep e rel rp, q⟩
    | true =>
      obtain ⟨p1, p2, n3, p4, p5, rfl⟩ := asWal_t hw
      refine ⟨_, ptw_cmp (op := .IsNot) (op_cmpV hu .notN) (pew_named hN hi hx (pew_of he) hf) (pe_non (X := X)) rfl, fun σ H Q t => ?_⟩
      refine tDen.mono t ?_
      rintro v H1 ⟨w, p, h, k, rfl, rel, rp, e, q⟩
      simp only [if_true] at e
      exact ⟨w, p, .non, h, k, rfl, rel, .of rp, .of .non, e, k, rfl, q⟩
  obtain ⟨tc, htc, imp⟩ := key
  refine PS.imp (ps_whileW S0.own htc hb pss_nil) fun D σ H t => ?_
  obtain ⟨w, ρ, h, at_, p⟩ := t
  obtain ⟨eh, rel, sl⟩ := at_
  subst eh
  generalize hT : (fun ρ1 h1 => (de ρ1 h1).bind fun p h2 => (Res.of (if nn = true then cmpop .notN p .non else truthV p h2) h2).bind fun c h3 => .ok (c, ρ1.set i (some p)) h3 : Sl → PH → Res (Bool × Sl)) = T at p
  generalize wMost = n at p
  refine ⟨fun m σ H => ∃ w2 ρ2 h2, w2.H = H ∧ Ext w w2 ∧ Rel X.K w2 h2 ∧ SloR X.K w2 σ ρ2 ∧ PostS X.K W w2 (whileL T d m ρ2 h2) D, ⟨n, w, ρ, h, rfl, Ext.refl _, rel, sl, p⟩, ?_⟩
  rintro m σ' H' ⟨w2, ρ2, h2, rfl, x2, rel2, sl2, p2⟩
  cases m with
  | zero => exact p2.elim
  | succ m =>
    refine imp _ _ _ ?_
    simp only [whileL] at p2
    rw [← hT] at p2
    simp only at p2
    refine ⟨w2, ρ2, h2, ⟨rfl, rel2, sl2⟩, ?_⟩
    cases ht : de ρ2 h2 with
    | bad => simp only [ht, Res.bind_bad, Res.out_bad] at p2; exact p2.elim
    | exc y hh => simp only [ht, Res.bind_exc, Res.out_exc] at p2; exact fun w3 cls dd x3 r3 q3 => p2 w3 σ' cls dd x3 r3 (sl2.mono x3) q3
    | ok pv hb =>
      simp only [ht, Res.bind_ok] at p2
      intro w3 v x23 rel3 rv
      cases hk : (if nn = true then cmpop .notN pv .non else truthV pv hb) with
      | none => simp only [hk, Res.of_none, Res.bind_bad, Res.out_bad] at p2; exact p2.elim
      | some b =>
        simp only [hk, Res.of_some, Res.bind_ok, Res.out_ok] at p2
        refine ⟨w3, pv, hb, b, rfl, rel3, rv, hk, ?_⟩
        have sl3 := (sl2.mono x23).put rv i
        cases b with
        | false =>
          simp only [Bool.false_eq_true, if_false] at p2 ⊢
          exact p2 w3 _ x23 rel3 sl3
        | true =>
          simp only [if_true] at p2 ⊢
          rw [hT] at p2
          refine ⟨fun σ4 H4 => ∃ w4 ρ4 h4, w4.H = H4 ∧ Ext w w4 ∧ Rel X.K w4 h4 ∧ SloR X.K w4 σ4 ρ4 ∧ PostS X.K W w4 (whileL T d m ρ4 h4) D, fun σ4 H4 hN => ⟨m, Nat.lt_succ_self m, hN⟩, w3, _, hb, ⟨rfl, rel3, sl3⟩, ?_⟩
          exact whl_turn x23 p2 fun w4 σ4 ρ4 h4 x34 rel4 sl4 p4 => ⟨w4, ρ4, h4, rfl, (x2.trans x23).trans x34, rel4, sl4, p4.ext (x23.trans x34)⟩
theorem ss_pass {st : Stmt} (h : isPass st = true) : PS X st (tDS X.K W fun ρ h => .nx ρ h) := by
  have imp : ∀ D σ H, tDS X.K W (fun ρ h => .nx ρ h) D σ H → D.nx σ H := fun D σ H ⟨w, ρ, h, at_, p⟩ => PostS.nx p at_
  unfold isPass at h
  split at h
  · exact PS.imp ps_pass imp
  · exact PS.imp ps_doc imp
  · cases h
theorem ss_brk {st : Stmt} (h : isBrk st = true) : PS X st (tDS X.K W fun ρ h => .bk ρ h) := by
  unfold isBrk at h
  split at h
  · refine PS.imp ps_break fun D σ H t => ?_
    obtain ⟨w, ρ, h, at_, p⟩ := t
    have := p w σ (Ext.refl w) at_.rel at_.sl
    rwa [at_.heap] at this
  · cases h
theorem ss_cnt {st : Stmt} (h : isCnt st = true) : PS X st (tDS X.K W fun ρ h => .ct ρ h) := by
  unfold isCnt at h
  split at h
  · refine PS.imp ps_continue fun D σ H t => ?_
    obtain ⟨w, ρ, h, at_, p⟩ := t
    have := p w σ (Ext.refl w) at_.rel at_.sl
    rwa [at_.heap] at this
  · cases h
theorem ss_never {st : Stmt} : PS X st (tDS X.K W fun _ _ => .bad) := ⟨fun pins s σ H D I t => by obtain ⟨w, ρ, h, at_, p⟩ := t; exact p.elim⟩
theorem ss_nil : PSs X [] (tDS X.K W fun ρ h => .nx ρ h) := PSs.imp pss_nil fun D σ H ⟨w, ρ, h, at_, p⟩ => PostS.nx p at_
theorem ss_cons {st : Stmt} {sts : List Stmt} {d1 d2 : Sl → PH → Out} (h1 : PS X st (tDS X.K W d1)) (h2 : PSs X sts (tDS X.K W d2)) : PSs X (st :: sts) (tDS X.K W fun ρ h => (d1 ρ h).bind fun ρ1 h1 => d2 ρ1 h1) := by
  refine PSs.imp (pss_cons h1 h2) fun D σ H t => ?_
  obtain ⟨w, ρ, h, at_, p⟩ := t
  refine ⟨w, ρ, h, at_, ?_⟩
  cases ho : d1 ρ h with
  | nx ρ4 h4 => simp only [ho, Out.bind_nx] at p; exact fun w4 σ4 x34 rel4 sl4 => ⟨w4, ρ4, h4, ⟨rfl, rel4, sl4⟩, p.ext x34⟩
  | ct ρ4 h4 => simp only [ho, Out.bind_ct] at p; exact p
  | bk ρ4 h4 => simp only [ho, Out.bind_bk] at p; exact p
  | rt v h4 => simp only [ho, Out.bind_rt] at p; exact p
  | exc e ρ4 h4 => simp only [ho, Out.bind_exc] at p; exact p
  | bad => simp only [ho, Out.bind_bad] at p; exact p.elim
end
end R

set_option Elab.async false
set_option linter.all false
set_option maxRecDepth 100000
set_option maxHeartbeats 1000000
/-! R: blocks and defs mean what den says -/
namespace R
open PySem PySem.Spec L2
theorem sole_tup {es : List Expr} {n : Nat} {p : Pos} {v : Expr} {l : Nat} {env : Env} : swapsWithSole [.Tuple es n p] v l env = pure false := by
  show swapsWith v (some (.Tuple es n p)) l env = pure false
  cases v <;> rfl
theorem sole_name {sc : Scope} {x : Str} {py : Pos} {v : Expr} {l : Nat} {env : Env} (he : env.scope = sc) (h : (noComp v || (match v with | .ListComp _ _ _ _ => !swB sc x py v | .DictComp _ _ _ _ _ => !onlyLoc sc x | _ => false)) = true) : swapsWithSole [.Name x py] v l env = pure false := by
  show swapsWith v (some (.Name x py)) l env = pure false
  rw [Bool.or_eq_true] at h
  rcases h with h | h
  · exact noCompE h _ _ _
  · split at h
    · rename_i elt gs scope pos
      unfold swapsWith
      have key : (env.blockKind == .function && env.kindOf x == some .local && py.line == pos.line && !(scope.names.any fun (n, k) => n == x && (k == .local || k == .cell))) = false := by
        simp only [Bool.not_eq_true'] at h
        unfold swB onlyLoc at h
        unfold Env.kindOf
        rw [he]
        cases hb : (env.blockKind == .function) with
        | false => simp
        | true =>
          simp only [Bool.true_and]
          cases hk : sc.names.lookup x with
          | none => simp
          | some k =>
            rw [hk] at h
            cases k <;> first | (simp only [Bool.true_and] at h; rw [show ((some NameKind.local : Option NameKind) == some NameKind.local) = true from rfl, Bool.true_and]; exact h) | rfl
      simp only [Expr.pos]
      rw [key]
    · unfold swapsWith
      simp only [Bool.not_eq_true'] at h
      have ky : (env.kindOf x == some .local) = false := by
        unfold onlyLoc at h
        unfold Env.kindOf
        rw [he]
        cases hk : sc.names.lookup x with
        | none => rfl
        | some k =>
          rw [hk] at h
          cases k <;> first | rfl | cases h
      simp only [ky, Bool.and_false, Bool.false_and]
    · cases h
theorem swNone_ok {sc : Scope} {ts : List Expr} {n : Nat} {p : Pos} {v : Expr} {env : Env} (he : env.scope = sc) (h : swNone sc (.Tuple ts n p) v = true) : swappedStores [.Tuple ts n p] v env = pure none := by
  cases v <;> first | rfl | skip
  rename_i vs n2 p2
  unfold swNone at h
  simp only at h
  unfold swappedStores
  try simp only [pure_bind]
  split
  · rfl
  · rename_i c1
    split
    · rfl
    · rename_i c2
      split
      · rfl
      · rename_i c3
        rw [Bool.or_eq_true, Bool.or_eq_true] at h
        rcases h with (h | h) | h
        · exact absurd (by simp only [Bool.or_eq_true]; exact .inl (.inl h)) c1
        · exfalso
          simp only [Bool.or_eq_true, not_or, bne_iff_ne, ne_eq, Decidable.not_not] at c3
          have c3 := c3.1
          rw [List.any_eq_true] at h
          obtain ⟨t, ht, hb⟩ := h
          have : ∀ (l : List Expr) (f : Expr → Option Str), (l.filterMap f).length = l.length → ∀ t ∈ l, f t ≠ none := by
            intro l f
            induction l with
            | nil => intro _ t ht; cases ht
            | cons a l ih =>
              intro e t ht
              cases hf : f a with
              | none =>
                rw [List.filterMap_cons_none hf] at e
                have := List.length_filterMap_le f l
                simp at e
                omega
              | some b =>
                rw [List.filterMap_cons_some hf] at e
                simp only [List.length_cons, Nat.add_right_cancel_iff] at e
                rcases List.mem_cons.mp ht with z | z
                · rw [z, hf]; intro q; cases q
                · exact ih e t z
          refine this ts _ c3 t ht ?_
          cases t <;> first | rfl | skip
          rename_i x px
          simp only at hb ⊢
          unfold onlyLoc at hb
          unfold Env.kindOf
          rw [he]
          cases hk : sc.names.lookup x with
          | none => simp
          | some k =>
            rw [hk] at hb
            cases k <;> first | (simp at hb; done) | (rw [if_neg]; intro z; rw [Bool.and_eq_true] at z; exact absurd z.1 (by decide))
        · rw [if_pos h]
theorem par_ok {x y : Str} {px py pt pt2 : Pos} {kt k2 : Nat} {a b : Expr} {env : Env} (hk : env.blockKind = .function) (h1 : nostar a = true) (h2 : nostar b = true) (hx : env.scope.names.lookup x = some .local) (hy : env.scope.names.lookup y = some .local) (hxy : x ≠ y) (hl : (py.line == px.line) = true)
    (hf : ([a, b].all (foldedForSure 8)) = false) (hc : ([a, b].all (constantsAlone 8)) = false) : swappedStores [.Tuple [.Name x px, .Name y py] kt pt] (.Tuple [a, b] k2 pt2) env = pure (some [x, y]) := by
  have s0 : ([a, b].any fun | .Starred .. => true | _ => false) = false := by
    have : ∀ e : Expr, nostar e = true → (match e with | .Starred .. => true | _ => false) = false := fun e he => by cases e <;> first | rfl | cases he
    simp only [List.any_cons, List.any_nil, Bool.or_false]
    rw [this a h1, this b h2]
    rfl
  have kx : env.kindOf x = some .local := hx
  have ky : env.kindOf y = some .local := hy
  have e2 : ([x, y] : List Str).eraseDups.length = 2 := by
    have : (y == x) = false := by
      cases hb : (y == x) with
      | false => rfl
      | true => exact absurd (eq_of_beq hb).symm hxy
    simp [List.eraseDups_cons, this]
  unfold swappedStores
  try simp only [pure_bind]
  split
  · rename_i c1; rw [hk] at c1; simp at c1
  · split
    · rename_i c2
      exact absurd (show ([a, b].any fun | .Starred .. => true | _ => false) = true from c2) (by rw [s0]; decide)
    · simp only [List.head?_cons, Option.map_some, Option.getD_some, Expr.pos, List.filterMap_cons, kx, ky, List.filterMap_nil, hl, beq_self_eq_true, Bool.and_self, if_true]
      rw [if_neg (by rw [e2]; simp), if_neg (by rw [hf]; decide), if_neg (by rw [hc]; decide)]
theorem par3_ok {x y z : Str} {px py pz pt pt2 : Pos} {kt k2 : Nat} {a b c : Expr} {env : Env} (hk : env.blockKind = .function) (h1 : nostar a = true) (h2 : nostar b = true) (h3 : nostar c = true) (hx : env.scope.names.lookup x = some .local) (hy : env.scope.names.lookup y = some .local) (hz : env.scope.names.lookup z = some .local) (hxy : x ≠ y) (hxz : x ≠ z) (hyz : y ≠ z) (hl : (py.line == px.line) = true) (hl2 : (pz.line == px.line) = true)
    (hf : ([a, b, c].all (foldedForSure 8)) = false) (hc : ([a, b, c].all (constantsAlone 8)) = false) : swappedStores [.Tuple [.Name x px, .Name y py, .Name z pz] kt pt] (.Tuple [a, b, c] k2 pt2) env = pure (some [x, y, z]) := by
  have s0 : ([a, b, c].any fun | .Starred .. => true | _ => false) = false := by
    have : ∀ e : Expr, nostar e = true → (match e with | .Starred .. => true | _ => false) = false := fun e he => by cases e <;> first | rfl | cases he
    simp only [List.any_cons, List.any_nil, Bool.or_false]
    rw [this a h1, this b h2, this c h3]
    rfl
  have kx : env.kindOf x = some .local := hx
  have ky : env.kindOf y = some .local := hy
  have kz : env.kindOf z = some .local := hz
  have ne : ∀ {u v : Str}, u ≠ v → (v == u) = false := fun {u v} h => by
    cases hb : (v == u) with
    | false => rfl
    | true => exact absurd (eq_of_beq hb).symm h
  have e2 : ([x, y, z] : List Str).eraseDups.length = 3 := by
    simp [List.eraseDups_cons, ne hxy, ne hxz, ne hyz]
  unfold swappedStores
  try simp only [pure_bind]
  split
  · rename_i c1; rw [hk] at c1; simp at c1
  · split
    · rename_i c2
      exact absurd (show ([a, b, c].any fun | .Starred .. => true | _ => false) = true from c2) (by rw [s0]; decide)
    · simp only [List.head?_cons, Option.map_some, Option.getD_some, Expr.pos, List.filterMap_cons, kx, ky, kz, List.filterMap_nil, hl, hl2, beq_self_eq_true, Bool.and_self, if_true]
      rw [if_neg (by rw [e2]; simp), if_neg (by rw [hf]; decide), if_neg (by rw [hc]; decide)]
section
variable {X : Cx} {W : WX} {pos : Pos}
theorem ss_lc2 {own vs1 : List Nat} {g g1 : R.G} {C : CC} {Φ : Fns} {k i : Nat} {x : Str} {py spos : Pos} {elt tg iter tg1 iter1 : Expr} {ifs ifs1 : List Expr} {scope : Scope} {di di1 : Sl → PH → Res (List PV)} {dt dt1 : Sl → PH → Res Bool} {de : Sl → PH → Res PV} (G : Good C Φ k X W) (hk : blkC C.N C.sc scope (ownN C own) = true) (hset : noSet iter = true) (hset1 : noSet iter1 = true)
    (hi : PI X tg iter (tDen X.K W (WalksR X.K) di)) (hg : chkG (C.blk scope) g tg = true) (hsl : ∀ i ∈ g.slots, i ∈ own) (ht : ∀ {X' : Cx} {W' : WX}, Good (C.blk scope) Φ k X' W' → PTs X' ifs (tDb X'.K W' dt)) (hv : ∀ i ∈ vs1, i ∈ own)
    (hi1 : ∀ {X' : Cx} {W' : WX}, Good (C.blk scope) Φ k X' W' → PI X' tg1 iter1 (tDen X'.K W' (WalksR X'.K) di1)) (hg1 : chkG (C.blk scope) g1 tg1 = true) (hsl1 : ∀ i ∈ g1.slots, i ∈ vs1)
    (ht1 : ∀ {X' : Cx} {W' : WX}, Good (C.blk scope) Φ k X' W' → PTs X' ifs1 (tDb X'.K W' dt1)) (he : ∀ {X' : Cx} {W' : WX}, Good (C.blk scope) Φ k X' W' → PE X' elt (tD X'.K W' de))
    (hx : C.N[i]? = some x) (hxl : onlyLoc C.sc x = true) (hsw : swapsWith (.ListComp elt [⟨tg, iter, ifs, 0⟩, ⟨tg1, iter1, ifs1, 0⟩] scope pos) (some (.Name x py)) spos.line X.env = pure true) :
    PS X (.Assign [.Name x py] (.ListComp elt [⟨tg, iter, ifs, 0⟩, ⟨tg1, iter1, ifs1, 0⟩] scope pos) spos) (tDS X.K W fun ρ h => ((di ρ h).bind fun xs h1 => (lcL (lcF2 g (wipeP ρ own) dt di1 g1 vs1 dt1 de) xs h1).nox.bind fun ys h4 => finL ys h4).out ρ fun p h1 => .nx (ρ.set i (some p)) h1) := by
  have bk : BlkOk X.N X.env.scope scope (ownN C own) := by rw [G.names, G.scope]; exact blkOk_by hk
  have eo : (ownN C own).map (·.2) = own := by unfold ownN; rw [List.map_map]; exact List.map_id' own
  have hl : X.env.scope.names.lookup x = some .local := by
    unfold onlyLoc at hxl
    rw [G.scope]
    split at hxl
    · assumption
    · cases hxl
  have ps := ps_setLc2 (X := X) (i := i) (y := x) (py := py) (tg := tg) (iter := iter) (ifs := ifs) (elt := elt) (scope := scope) (own := ownN C own) (vs1 := vs1) (pos := pos) (spos := spos) (g := gG X.K g) (g1 := gG X.K g1) (tt := tDb X.K WF dt) (tt1 := tDb X.K WF dt1) (te := tD X.K WF de) (wi1 := tDen X.K WF (WalksR X.K) di1) G.calm (by rw [G.names]; exact G.nd) (by rw [G.names]; exact hx) hl hsw hi bk (by rw [eo]; exact hv)
    (fun s H c cl fp => pg_V (G.blk s H scope cl c fp) hg) (fun s H c cl fp => ht (G.blk s H scope cl c fp)) (fun s H c cl fp => hi1 (G.blk s H scope cl c fp)) (fun s H c cl fp => pg_V (G.blk s H scope cl c fp) hg1) (fun s H c cl fp => ht1 (G.blk s H scope cl c fp)) (fun s H c cl fp => he (G.blk s H scope cl c fp)) (fun x => noSetE hset X.env x) (fun env x => noSetE hset1 env x)
  rw [eo] at ps
  refine PS.imp ps fun D σ H t => lc2_snd hsl hsl1 ?_
  obtain ⟨w, ρ, h, at_, p⟩ := t
  refine tDen.mono (outE (rep := Rep X.K) (d := fun ρ h => (di ρ h).bind fun xs h1 => (lcL (lcF2 g (wipeP ρ own) dt di1 g1 vs1 dt1 de) xs h1).nox.bind fun ys h4 => finL ys h4) at_ p) ?_
  rintro v H1 ⟨w1, h1, p1, x1, at1, r1, q1⟩
  have := q1 w1 _ (Ext.refl w1) at1.rel (at1.sl.put r1 i)
  rw [at1.heap] at this
  exact this
/-- name = [.. for ..], stored as a whole -/
theorem sAsgC {Φ : Fns} {k : Nat} {C : CC} (G : Good C Φ k X W) (S0 : GoodS X) {i : Nat} {x : Str} {py spos : Pos} {v : Expr} (hsw : swB C.sc x py v = true) (hi : C.N[i]? = some x) : ∀ (e : E), chkE C e v = true →
    PS X (.Assign [.Name x py] v spos) (tDS X.K W fun ρ h => (e.den Φ ρ h).out ρ fun p h1 => .nx (ρ.set i (some p)) h1) := by
  cases v <;> first | (cases hsw; done) | skip
  rename_i elt gs scope pos
  unfold swB at hsw
  simp only [Bool.and_eq_true, Bool.not_eq_true'] at hsw
  obtain ⟨⟨s1, s2⟩, s3⟩ := hsw
  have hl : X.env.scope.names.lookup x = some .local := by
    have s1' := s1
    unfold onlyLoc at s1'
    rw [G.scope]
    split at s1'
    · assumption
    · cases s1'
  have hk : X.env.scope.kind = .function ∨ X.env.blockKind = .function := .inr S0.kind
  have sw : ∀ gs', swapsWith (.ListComp elt gs' scope pos) (some (.Name x py)) spos.line X.env = pure true := fun gs' => by
    have ky : X.env.kindOf x = some .local := hl
    unfold swapsWith
    simp only [S0.kind, ky, s3, Expr.pos, s2]
    rfl
  intro e h
  cases e with
  | lc live own g it t e =>
    obtain ⟨⟨elt, gs, scope⟩, e1, hh1⟩ := optB_ok (o := asLc (.ListComp elt gs scope pos)) h
    obtain ⟨pos, e0⟩ := asLc_ok e1
    cases e0
    obtain ⟨c, e2, hh2⟩ := optB_ok hh1
    obtain rfl := as1_ok e2
    obtain ⟨⟨tg, iter, ifs⟩, e3, hh3⟩ := optB_ok hh2
    obtain rfl := asGen_ok e3
    simp only [Bool.and_eq_true] at hh3
    obtain ⟨⟨⟨⟨⟨⟨h1, h2⟩, h3⟩, h4⟩, h5⟩, h7⟩, h8⟩ := hh3
    exact ss_lc (live := live) G h1 h2 (sI it G h3) h4 (fun i hi => by
      rw [List.all_eq_true] at h5
      simpa using h5 i hi) (fun G' => sTif t G' h7) (fun G' => sE e G' h8) hi s1 (sw _)
  | lc2 own vs1 g it t g1 it1 t1 e =>
    obtain ⟨⟨elt, gs, scope⟩, e1, hh1⟩ := optB_ok (o := asLc (.ListComp elt gs scope pos)) h
    obtain ⟨pos, e0⟩ := asLc_ok e1
    cases e0
    obtain ⟨⟨c, c1⟩, e2, hh2⟩ := optB_ok hh1
    obtain rfl := as2_ok e2
    obtain ⟨⟨tg, iter, ifs⟩, e3, hh3⟩ := optB_ok hh2
    obtain rfl := asGen_ok e3
    obtain ⟨⟨tg1, iter1, ifs1⟩, e4, hh4⟩ := optB_ok hh3
    obtain rfl := asGen_ok e4
    simp only [Bool.and_eq_true] at hh4
    obtain ⟨⟨⟨⟨⟨⟨⟨⟨⟨⟨⟨⟨h1, h2⟩, h2b⟩, h3⟩, h4⟩, h5⟩, h6⟩, h7⟩, h8⟩, h9⟩, h10⟩, h11⟩, h12⟩ := hh4
    exact ss_lc2 G h1 h2 h2b (sI it G h3) h4 (fun i hi => by
      rw [List.all_eq_true] at h5
      simpa using h5 i hi) (fun G' => sTif t G' h6) (fun i hi => by
      rw [List.all_eq_true] at h7
      simpa using h7 i hi) (fun G' => sI it1 G' h8) h9 (fun i hi => by
      rw [List.all_eq_true] at h10
      simpa using h10 i hi) (fun G' => sTif t1 G' h11) (fun G' => sE e G' h12) hi s1 (sw _)
  | _ => exact absurd h (by simp [chkE, asDcN, asName, asConst, asBin, asUn, asCmp, asBool, asIf, asTup, asLst, asSub, asCall, asMeth, optB])
end
mutual
theorem sS {Φ : Fns} {k : Nat} : ∀ (s : S) {C : CC} {X : Cx} {W : WX} (_ : Good C Φ k X W) (_ : GoodS X) {a : Stmt}, chkS C s a = true → PS X a (tDS X.K W (s.den Φ))
  | .asg g e, C, X, W, G, S0, a, h => by
    obtain ⟨⟨t, v, n⟩, e1, hh1⟩ := optB_ok (o := asAsg a) h
    obtain ⟨p, rfl, rfl⟩ := asAsg_ok e1
    simp only [Bool.and_eq_true] at hh1
    obtain ⟨⟨h1, h2⟩, h3⟩ := hh1
    cases t <;> first | (cases g <;> (simp only [chkG] at h1; cases h1); done) | skip
    · exact ss_asg G h1 (sE e G h2) (sole_name G.scope h3) rfl
    · exact ss_asg G h1 (sE e G h2) sole_tup (swNone_ok G.scope h3)
  | .asgC i e, C, X, W, G, S0, a, h => by
    obtain ⟨⟨t, v, n⟩, e1, hh1⟩ := optB_ok (o := asAsg a) h
    obtain ⟨p, rfl, rfl⟩ := asAsg_ok e1
    obtain ⟨⟨x, py⟩, e2, hh2⟩ := optB_ok hh1
    obtain rfl := asNameP_ok e2
    simp only [Bool.and_eq_true, decide_eq_true_eq] at hh2
    obtain ⟨⟨h1, h2⟩, h3⟩ := hh2
    exact sAsgC G S0 h1 h2 e h3
  | .par i j e f, C, X, W, G, S0, a, h => by
    obtain ⟨⟨t, v, n⟩, e1, hh1⟩ := optB_ok (o := asAsg a) h
    obtain ⟨p, rfl, rfl⟩ := asAsg_ok e1
    obtain ⟨ts, e2, hh2⟩ := optB_ok hh1
    obtain ⟨n1, p1, rfl⟩ := asTup_ok e2
    obtain ⟨⟨t1, t2⟩, e3, hh3⟩ := optB_ok hh2
    obtain rfl := as2_ok e3
    obtain ⟨⟨x, px⟩, e4, hh4⟩ := optB_ok hh3
    obtain rfl := asNameP_ok e4
    obtain ⟨⟨y, py⟩, e5, hh5⟩ := optB_ok hh4
    obtain rfl := asNameP_ok e5
    obtain ⟨vs, e6, hh6⟩ := optB_ok hh5
    obtain ⟨n2, p2, rfl⟩ := asTup_ok e6
    obtain ⟨⟨v1, v2⟩, e7, hh7⟩ := optB_ok hh6
    obtain rfl := as2_ok e7
    simp only [Bool.and_eq_true, decide_eq_true_eq, Bool.not_eq_true'] at hh7
    obtain ⟨⟨⟨⟨⟨⟨⟨⟨⟨⟨⟨⟨h1, h2⟩, h3⟩, h4⟩, h5⟩, h6⟩, h7⟩, h8⟩, h9⟩, h10⟩, h11⟩, h12⟩, h13⟩ := hh7
    have loc : ∀ z, onlyLoc C.sc z = true → X.env.scope.names.lookup z = some .local := fun z hz => by
      unfold onlyLoc at hz
      rw [G.scope]
      split at hz
      · assumption
      · cases hz
    exact ss_par G.calm (by rw [G.names]; exact G.nd) (by rw [G.names]; exact h3) (by rw [G.names]; exact h4) h5 (loc _ h1) (loc _ h2) h10 h11 (sE e G h12) (sE f G h13) (par_ok S0.kind h10 h11 (loc _ h1) (loc _ h2) h6 h7 h8 h9)
  | .par3 i j l e f g, C, X, W, G, S0, a, h => by
    obtain ⟨⟨t, v, n⟩, e1, hh1⟩ := optB_ok (o := asAsg a) h
    obtain ⟨p, rfl, rfl⟩ := asAsg_ok e1
    obtain ⟨ts, e2, hh2⟩ := optB_ok hh1
    obtain ⟨n1, p1, rfl⟩ := asTup_ok e2
    obtain ⟨⟨t1, t2, t3⟩, e3, hh3⟩ := optB_ok hh2
    obtain rfl := as3_ok e3
    obtain ⟨⟨x, px⟩, e4, hh4⟩ := optB_ok hh3
    obtain rfl := asNameP_ok e4
    obtain ⟨⟨y, py⟩, e5, hh5⟩ := optB_ok hh4
    obtain rfl := asNameP_ok e5
    obtain ⟨⟨z, pz⟩, e5', hh5'⟩ := optB_ok hh5
    obtain rfl := asNameP_ok e5'
    obtain ⟨vs, e6, hh6⟩ := optB_ok hh5'
    obtain ⟨n2, p2, rfl⟩ := asTup_ok e6
    obtain ⟨⟨v1, v2, v3⟩, e7, hh7⟩ := optB_ok hh6
    obtain rfl := as3_ok e7
    simp only [Bool.and_eq_true, decide_eq_true_eq, Bool.not_eq_true'] at hh7
    obtain ⟨⟨⟨⟨⟨⟨⟨⟨⟨⟨⟨⟨⟨⟨⟨⟨⟨⟨⟨⟨⟨l1, l2⟩, l3⟩, n1⟩, n2⟩, n3⟩, d1⟩, d2⟩, d3⟩, e1⟩, e2⟩, e3⟩, q1⟩, q2⟩, f1⟩, f2⟩, s1⟩, s2⟩, s3⟩, c1⟩, c2⟩, c3⟩ := hh7
    have loc : ∀ z, onlyLoc C.sc z = true → X.env.scope.names.lookup z = some .local := fun z hz => by
      unfold onlyLoc at hz
      rw [G.scope]
      split at hz
      · assumption
      · cases hz
    exact ss_par3 G.calm (by rw [G.names]; exact G.nd) (by rw [G.names]; exact n1) (by rw [G.names]; exact n2) (by rw [G.names]; exact n3) d1 d2 d3 (loc _ l1) (loc _ l2) (loc _ l3) s1 s2 s3 (sE e G c1) (sE f G c2) (sE g G c3) (par3_ok S0.kind s1 s2 s3 (loc _ l1) (loc _ l2) (loc _ l3) e1 e2 e3 q1 q2 f1 f2)
  | .setI e f g, C, X, W, G, S0, a, h => by
    obtain ⟨⟨t, v, n⟩, e1, hh1⟩ := optB_ok (o := asAsg a) h
    obtain ⟨p, rfl, rfl⟩ := asAsg_ok e1
    obtain ⟨⟨x, y⟩, e2, hh2⟩ := optB_ok hh1
    obtain ⟨p2, rfl⟩ := asSub_ok e2
    simp only [Bool.and_eq_true] at hh2
    obtain ⟨⟨⟨h1, h2⟩, h3⟩, h4⟩ := hh2
    exact ss_setI h1 (sE e G h2) (sE f G h3) (sE g G h4) (by
      show swapsWith v (some (.Subscript x y p2)) p.line X.env = pure false
      cases v <;> rfl)
  | .ex e, C, X, W, G, S0, a, h => by
    obtain ⟨v, e1, hh1⟩ := optB_ok (o := asEx a) h
    obtain ⟨p, rfl⟩ := asEx_ok e1
    simp only [Bool.and_eq_true] at hh1
    exact ss_ex hh1.1 (sE e G hh1.2)
  | .ret e, C, X, W, G, S0, a, h => by
    obtain ⟨o, e1, hh1⟩ := optB_ok (o := asRet a) h
    obtain ⟨p, rfl⟩ := asRet_ok e1
    obtain ⟨v, rfl, hh2⟩ := optB_ok hh1
    exact ss_ret (sE e G hh2)
  | .retN, C, X, W, G, S0, a, h => by
    obtain ⟨o, e1, hh1⟩ := optB_ok (o := asRet a) h
    obtain ⟨p, rfl⟩ := asRet_ok e1
    cases o with
    | none => exact ss_retN
    | some v => cases hh1
  | .ite t p q, C, X, W, G, S0, a, h => by
    obtain ⟨⟨c, xs, ys⟩, e1, hh1⟩ := optB_ok (o := asIfS a) h
    obtain ⟨ps, rfl⟩ := asIfS_ok e1
    simp only [Bool.and_eq_true] at hh1
    exact ss_if (sT t G hh1.1.1) (sSs p G S0 hh1.1.2) (sSs q G S0 hh1.2)
  | .for_ g it b, C, X, W, G, S0, a, h => by
    obtain ⟨⟨t, i, xs⟩, e1, hh1⟩ := optB_ok (o := asFor a) h
    obtain ⟨ps, rfl⟩ := asFor_ok e1
    simp only [Bool.and_eq_true] at hh1
    obtain ⟨⟨⟨h1, h2⟩, h3⟩, h4⟩ := hh1
    exact ss_for G S0 h1 (sI it G h2) h3 (sSs b G S0 h4)
  | .whl t b, C, X, W, G, S0, a, h => by
    obtain ⟨⟨c, xs⟩, e1, hh1⟩ := optB_ok (o := asWhl a) h
    obtain ⟨ps, rfl⟩ := asWhl_ok e1
    simp only [Bool.and_eq_true] at hh1
    exact ss_whl S0 (sT t G hh1.1) (sSs b G S0 hh1.2)
  | .whlW i nn e b, C, X, W, G, S0, a, h => by
    obtain ⟨⟨c, xs⟩, e1, hh1⟩ := optB_ok (o := asWhl a) h
    obtain ⟨ps, rfl⟩ := asWhl_ok e1
    obtain ⟨⟨x, v⟩, e2, hh2⟩ := optB_ok hh1
    simp only [Bool.and_eq_true, decide_eq_true_eq] at hh2
    obtain ⟨⟨⟨h1, h2⟩, h3⟩, h4⟩ := hh2
    exact ss_whlW S0 (by have := G.u65; omega) (by rw [G.names]; exact G.nd) (by rw [G.names]; exact h2) (G.loc h1).1 (G.loc h1).2 e2 (sE e G h3) (sSs b G S0 h4)
  | .pass, C, X, W, G, S0, a, h => ss_pass h
  | .brk, C, X, W, G, S0, a, h => ss_brk h
  | .cnt, C, X, W, G, S0, a, h => ss_cnt h
  | .never, C, X, W, G, S0, a, h => ss_never
  | .gen _ _, C, X, W, G, S0, a, h => (by cases h)
  | .mtch e cs, C, X, W, G, S0, a, h => by
    obtain ⟨⟨v, xs⟩, e1, hh1⟩ := optB_ok (o := asMat a) h
    obtain ⟨p, rfl⟩ := asMat_ok e1
    simp only [Bool.and_eq_true] at hh1
    refine ⟨fun pins s σ H D I t => wpAny_Match ?_⟩
    obtain ⟨w, ρ, hh, at_, po⟩ := t
    refine thn ((sE e G hh1.1).run pins s σ H _ I (outE (rep := Rep X.K) at_ po)) fun u s1 q => ?_
    obtain ⟨v1, H1, I1, r1, w1, h1, a1, x1, at1, rp, q1⟩ := q
    cases a1 <;> first | exact q1.elim | skip
    rename_i x
    cases rp
    obtain ⟨tk, rfl⟩ := r1
    exact sCs cs G S0 hh1.2 x tk true pins s1 σ H1 D I1 ⟨w1, ρ, h1, at1, q1⟩
theorem sSs {Φ : Fns} {k : Nat} : ∀ (ss : Ss) {C : CC} {X : Cx} {W : WX} (_ : Good C Φ k X W) (_ : GoodS X) {xs : List Stmt}, chkSs C ss xs = true → PSs X xs (tDS X.K W (ss.den Φ))
  | .nil, C, X, W, G, S0, xs, h => by
    obtain rfl := asN_ok (l := xs) h
    exact ss_nil
  | .cons s ss, C, X, W, G, S0, xs, h => by
    obtain ⟨⟨y, ys⟩, e1, hh1⟩ := optB_ok (o := asC xs) h
    obtain rfl := asC_ok e1
    simp only [Bool.and_eq_true] at hh1
    exact ss_cons (sS s G S0 hh1.1) (sSs ss G S0 hh1.2)
theorem sCs {Φ : Fns} {k : Nat} : ∀ (cs : Cs) {C : CC} {X : Cx} {W : WX} (_ : Good C Φ k X W) (_ : GoodS X) {xs : List MatchCase}, chkCs C cs xs = true → ∀ (x : Str) (tk : Tok) (first : Bool) (pins : List (Addr × Obj)) (s : Shared) (σ : St) (H : Hp) (D : Ends), Inv X pins σ H s →
    tDS X.K W (cs.den Φ x) D σ H → wpAny (model X.prog X.w) X.A (matchCases xs X.env (.str x tk) first) (SP X pins D) X.xe s
  | .nil, C, X, W, G, S0, xs, h => by
    intro x tk first pins s σ H D I t
    obtain rfl := asN_ok (l := xs) h
    obtain ⟨w, ρ, hh, at_, p⟩ := t
    exact wpAny_matchCases_nil ⟨σ, H, I, PostS.nx p at_⟩
  | .cons y b cs, C, X, W, G, S0, xs, h => by
    intro x tk first pins s σ H D I t
    obtain ⟨⟨c, ys⟩, e1, hh1⟩ := optB_ok (o := asC xs) h
    obtain rfl := asC_ok e1
    obtain ⟨⟨z, bd⟩, e2, hh2⟩ := optB_ok hh1
    obtain ⟨n, p1, p2, rfl⟩ := asCase_ok e2
    simp only [Bool.and_eq_true, decide_eq_true_eq] at hh2
    obtain ⟨⟨rfl, h2⟩, h3⟩ := hh2
    refine wpAny_matchCases_cons (wpAny_matchPattern_Value ?_)
    refine thn ((pe_str (X := X)).run pins s σ H (fun v H1 => v = .str z ∧ H1 = H) I ⟨rfl, rfl⟩) fun v s1 q => ?_
    obtain ⟨v1, H1, I1, r1, e3, e4⟩ := q
    subst e3 e4
    refine thn (op_eq pins s1 σ H1 (.str x) (.str z) (.str x tk) v (fun v H2 => v = .bl (decide (x = z)) ∧ H2 = H1) I1 ⟨_, rfl⟩ r1 ⟨rfl, by simp⟩) fun c s2 q => ?_
    obtain ⟨v2, H2, I2, r2, e5, e6⟩ := q
    subst e5 e6
    obtain rfl : c = Value.bool (decide (x = z)) := r2
    refine wpAny_truthy_bool ?_
    obtain ⟨w, ρ, hh, at_, p⟩ := t
    by_cases cx : x = z
    · subst cx
      simp only [decide_true, if_true, List.map_nil]
      refine wpAny_pure ?_
      refine (sSs b G S0 h2).run pins s2 σ H2 D I2 ⟨w, ρ, hh, at_, ?_⟩
      have e : (Cs.cons x b cs).den Φ x ρ hh = b.den Φ ρ hh := by rw [Cs.den, if_pos rfl]
      rw [e] at p
      exact p
    · simp only [cx, decide_false, Bool.false_eq_true, if_false]
      refine sCs cs G S0 h3 x tk false pins s2 σ H2 D I2 ⟨w, ρ, hh, at_, ?_⟩
      have e : (Cs.cons z b cs).den Φ x ρ hh = cs.den Φ x ρ hh := by rw [Cs.den, if_neg cx]
      rw [e] at p
      exact p
end
end R

set_option Elab.async false
set_option linter.all false
set_option maxRecDepth 100000
set_option maxHeartbeats 1000000
/-! R: generator defs -/
namespace R
open PySem PySem.Spec L2
def asYld : List Stmt → Option Str
  | [.Expr (.Yield (some (.Name x _)) _) _] => some x
  | _ => none
theorem asYld_ok {l : List Stmt} {x : Str} (h : asYld l = some x) : ∃ p q r, l = [.Expr (.Yield (some (.Name x p)) q) r] := by
  unfold asYld at h
  split at h <;> cases h
  exact ⟨_, _, _, rfl⟩
def chkGen (C : CC) : Ss → List Stmt → Bool
  | .cons (.gen i e) .nil, xs => optB (as1 xs) fun a => optB (asFor a) fun s => optB (asName s.1) fun x => optB (asYld s.2.2) fun y => decide (x = y) && noSet s.2.1 && chkG C (.name i) s.1 && decide (C.N[i]? = some y) && visB C.sc y && nameB y && chkE C e s.2.1
  | .cons (.ex e) ss, xs => optB (asC xs) fun p => optB (asEx p.1) fun v => noComp v && chkE C e v && chkGen C ss p.2
  | _, _ => false
def PostG (K : PySem.W.Frag) (w : Wd) (o : Out) (D : GEnds) : Prop := match o with
  | .rt (.lst xs) h => ∀ w' σ' vs, Ext w w' → Rel K w' h → Reps K w' xs vs → vs.length ≤ sizeLine → D.nx vs σ' w'.H
  | _ => False
theorem PostG.ext {K : PySem.W.Frag} {w w1 : Wd} {o : Out} {D : GEnds} (p : PostG K w o D) (x : Ext w w1) : PostG K w1 o D := by
  cases o with
  | rt v h => cases v with
    | lst xs => exact fun w' σ' vs x' r' q' z => p w' σ' vs (x.trans x') r' q' z
    | _ => exact p
  | _ => exact p
def tGD (K : PySem.W.Frag) (d : Sl → PH → Out) : TGn := fun D ys σ H => ys = [] ∧ ∃ w ρ h, At K w σ H ρ h ∧ PostG K w (d ρ h) D
section
variable {X : Cx} {W : WX}
theorem GSs.imp {l : List Stmt} {t t' : TGn} (h : GSs X l t) (i : ∀ D ys σ H, t' D ys σ H → t D ys σ H) : GSs X l t' :=
  ⟨fun A S ip R n ys s₀ c fs K J gd lv s σ H D g hn k hI ht => h.run A S ip R n ys s₀ c fs K J gd lv s σ H D g hn k hI (i D ys σ H ht)⟩
theorem gs_last {C : CC} {Φ : Fns} {k i : Nat} {x : Str} {px p q r pos : Pos} {iter : Expr} {da : Sl → PH → Res PV} (G0 : Good C Φ k X W) (S0 : GoodS X) (hset : noSet iter = true) (ha : PE X iter (tD X.K W da)) (hg : chkG C (.name i) (.Name x px) = true)
    (hN : X.N[i]? = some x) (hv : Vis X.env.scope x) (h1 : (x == ("__debug__" : Str)) = false) (h2 : (x == ("__classdict__" : Str)) = false) (hco : X.env.scope.isCoroutine = false) (hin : interactive X.env = false) :
    GSs X [.For (.Name x px) iter [.Expr (.Yield (some (.Name x p)) q) r] [] pos] (tGD X.K fun ρ h => if i < ρ.length then (da ρ h).out ρ fun p h1 => match seqV p with
      | some xs => .rt (.lst xs) h1
      | none => .bad
      else .bad) := by
  have hy : GSs X [.Expr (.Yield (some (.Name x p)) q) r] (tGThen (tGYield (tD X.K W fun ρ h => Res.of (ρ[i]?.join) h)) tG0) := gss_cons (gs_yield (se_var hN hv h1 h2) hco hin) gss_nil
  refine GSs.imp (gss_cons (gs_for S0.own G0.calm (si_seq (tg := .Name x px) ha) (pg_V G0 hg) hy (fun x => noSetE hset X.env x)) gss_nil) fun D ys σ H t => ?_
  obtain ⟨rfl, w, ρ, h, at_, po⟩ := t
  dsimp only at po
  have hi : i < ρ.length := Classical.byContradiction fun hi => by rw [if_neg hi] at po; exact po.elim
  rw [if_pos hi] at po
  refine ⟨w, ρ, h, at_, ?_⟩
  cases e : da ρ h with
  | bad => rw [e] at po; exact po.elim
  | exc z hh => rw [e] at po; exact po.elim
  | ok v h1 =>
    rw [e] at po
    simp only [Res.out_ok] at po
    show PostE X.K W (WalksR X.K) w σ ((da ρ h).bind fun p h1 => Res.of (seqV p) h1) _
    rw [e, Res.bind_ok]
    cases es : seqV v with
    | none => simp only [es] at po; exact po.elim
    | some xs =>
      simp only [es] at po
      rw [Res.of_some]
      intro w1 J x1 rel1 wk
      have hle := wk.1
      refine ⟨fun j m ys' σ' H' => m = xs.length - j ∧ j ≤ xs.length ∧ ∃ w2 ρ2, w2.H = H' ∧ Ext w1 w2 ∧ Rel X.K w2 h1 ∧ SloR X.K w2 σ' ρ2 ∧ i < ρ2.length ∧ Reps X.K w2 (xs.take j) ys', ⟨xs.length, by simp, Nat.zero_le _, w1, ρ, rfl, Ext.refl _, rel1, at_.sl.mono x1, hi, by rw [List.take_zero]; exact .nil⟩, ?_⟩
      rintro j m ys' σ' H' ⟨rfl, hj, w2, ρ2, rfl, x12, rel2, sl2, hi2, rp2⟩
      obtain ⟨wkg, wks⟩ := wk.2 w2 h1 x12.weak rel2
      have hyl : ys'.length = j := by
        have := rp2.length
        rw [List.length_take] at this
        omega
      by_cases hlt : j < xs.length
      · have ej : xs[j]? = some xs[j] := List.getElem?_eq_getElem hlt
        obtain ⟨hgo, hyd⟩ := wkg j _ ej
        refine .inr ⟨hgo, fun ys'' σ'' H'' => ∃ w3 ρ3, w3.H = H'' ∧ Ext w1 w3 ∧ Rel X.K w3 h1 ∧ SloR X.K w3 σ'' ρ3 ∧ i < ρ3.length ∧ Reps X.K w3 (xs.take (j + 1)) ys'', fun ys'' σ'' H'' hN => ⟨xs.length - (j + 1), by omega, rfl, hlt, hN⟩, fun z H'' hz => ?_⟩
        obtain ⟨w3, rfl, x23, rel3, rp3⟩ := hyd z H'' hz
        refine put_ok (g := .name i) (ρ' := ρ2.set i (some xs[j])) rfl rp3 (sl2.mono x23) fun σ3 sl3 => ⟨by omega, w3, _, h1, ⟨rfl, rel3, sl3⟩, ?_⟩
        have eg : (ρ2.set i (some xs[j]))[i]?.join = some xs[j] := by
          rw [List.getElem?_set_self hi2]; rfl
        dsimp only
        rw [eg, Res.of_some]
        intro w4 v4 x34 rel4 r4
        refine ⟨w4, ρ2.set i (some xs[j]), rfl, (x12.trans x23).trans x34, rel4, sl3.mono x34, by rw [List.length_set]; exact hi2, ?_⟩
        rw [List.take_add_one, ej]
        exact (rp2.mono (x23.trans x34)).append (.cons r4 .nil)
      · have ej : j = xs.length := by omega
        subst ej
        refine .inl ⟨wks, ?_⟩
        rw [List.take_length] at rp2
        exact po w2 σ' ys' (x1.trans x12) rel2 rp2 (by omega)
theorem sGen {Φ : Fns} {k : Nat} {C : CC} (G : Good C Φ k X W) (S0 : GoodS X) (hco : X.env.scope.isCoroutine = false) (hin : interactive X.env = false) : ∀ (ss : Ss) {xs : List Stmt}, chkGen C ss xs = true → GSs X xs (tGD X.K (ss.den Φ))
  | .nil, xs, h => by simp [chkGen] at h
  | .cons s ss, xs, h => by
    cases s with
    | ex e =>
      obtain ⟨⟨y, ys⟩, e1, hh1⟩ := optB_ok (o := asC xs) h
      obtain rfl := asC_ok e1
      obtain ⟨v, e2, hh2⟩ := optB_ok hh1
      obtain ⟨p, rfl⟩ := asEx_ok e2
      simp only [Bool.and_eq_true] at hh2
      obtain ⟨⟨h1, h2⟩, h3⟩ := hh2
      refine GSs.imp (gss_cons (gs_ps (ss_ex (pos := p) h1 (sE e G h2))) (sGen G S0 hco hin ss h3)) fun D zs σ H t => ?_
      obtain ⟨rfl, w, ρ, hh, at_, po⟩ := t
      refine ⟨w, ρ, hh, at_, ?_⟩
      simp only [Ss.den, S.den] at po
      cases ee : e.den Φ ρ hh with
      | bad => rw [ee] at po; exact po.elim
      | exc z h4 => rw [ee] at po; exact po.elim
      | ok q h4 =>
        rw [ee] at po
        simp only [Res.out_ok, Out.bind_nx] at po
        show PostS X.K W w ((e.den Φ ρ hh).out ρ fun _ h1 => .nx ρ h1) _
        rw [ee, Res.out_ok]
        intro w' σ' x' rel' sl'
        exact ⟨rfl, w', ρ, h4, ⟨rfl, rel', sl'⟩, po.ext x'⟩
    | gen i e =>
      cases ss with
      | cons s2 ss2 => simp [chkGen] at h
      | nil =>
        obtain ⟨a, e1, hh1⟩ := optB_ok (o := as1 xs) h
        obtain rfl := as1_ok e1
        obtain ⟨⟨tg, it, bd⟩, e2, hh2⟩ := optB_ok hh1
        obtain ⟨p, rfl⟩ := asFor_ok e2
        obtain ⟨x, e3, hh3⟩ := optB_ok hh2
        obtain ⟨px, rfl⟩ := asName_ok e3
        obtain ⟨y, e4, hh4⟩ := optB_ok hh3
        obtain ⟨q1, q2, q3, rfl⟩ := asYld_ok e4
        simp only [Bool.and_eq_true, decide_eq_true_eq] at hh4
        obtain ⟨⟨⟨⟨⟨⟨rfl, h1⟩, h2⟩, h3⟩, h4⟩, h5⟩, h6⟩ := hh4
        refine GSs.imp (gs_last (i := i) G S0 h1 (sE e G h6) h2 (by rw [G.names]; exact h3) (G.vis h4) (nameB_ok h5).1 (nameB_ok h5).2.1 hco hin) fun D zs σ H t => ?_
        obtain ⟨rfl, w, ρ, hh, at_, po⟩ := t
        refine ⟨rfl, w, ρ, hh, at_, ?_⟩
        simp only [Ss.den, S.den] at po
        dsimp only
        split
        · rename_i hi
          rw [if_pos hi] at po
          cases ee : e.den Φ ρ hh with
          | bad => rw [ee] at po; exact po.elim
          | exc z h4 => rw [ee] at po; exact po.elim
          | ok v h4 =>
            rw [ee] at po
            simp only [Res.out_ok] at po ⊢
            cases es : seqV v with
            | none => simp only [es] at po; exact po.elim
            | some xs => simp only [es] at po ⊢; exact po
        · rename_i hi
          rw [if_neg hi] at po
          exact po.elim
    | _ => simp [chkGen] at h
theorem gen_rt {Φ : Fns} {C : CC} : ∀ (ss : Ss) {xs : List Stmt}, chkGen C ss xs = true → ∀ (ρ : Sl) (h h4 : PH) (v : PV), ss.den Φ ρ h = .rt v h4 → ∃ ys, v = .lst ys
  | .nil, xs, h => by simp [chkGen] at h
  | .cons s ss, xs, hc => by
    cases s with
    | ex e =>
      intro ρ h h4 v eq
      obtain ⟨⟨y, ys⟩, e1, hh1⟩ := optB_ok (o := asC xs) hc
      obtain ⟨v2, e2, hh2⟩ := optB_ok hh1
      simp only [Bool.and_eq_true] at hh2
      simp only [Ss.den, S.den] at eq
      cases ee : e.den Φ ρ h with
      | bad => rw [ee] at eq; cases eq
      | exc z h4 => rw [ee] at eq; cases eq
      | ok q h5 =>
        rw [ee] at eq
        simp only [Res.out_ok, Out.bind_nx] at eq
        exact gen_rt ss hh2.2 _ _ _ _ eq
    | gen i e =>
      cases ss with
      | cons s2 ss2 => simp [chkGen] at hc
      | nil =>
        intro ρ h h4 v eq
        simp only [Ss.den, S.den] at eq
        split at eq
        · cases ee : e.den Φ ρ h with
          | bad => rw [ee] at eq; cases eq
          | exc z h4 => rw [ee] at eq; cases eq
          | ok q h5 =>
            rw [ee] at eq
            simp only [Res.out_ok] at eq
            cases es : seqV q with
            | none => simp only [es] at eq; cases eq
            | some zs => simp only [es] at eq; cases eq; exact ⟨_, rfl⟩
        · cases eq
    | _ => simp [chkGen] at hc
end
end R

set_option Elab.async false
set_option linter.all false
set_option maxRecDepth 100000
set_option maxHeartbeats 1000000
/-! R: defs mean what call says -/
namespace R
open PySem PySem.Spec L2
/-! ### a call's end: what was made within is given up -/
def Wd.cut (w : Wd) (n : Nat) : Wd := { w with M := w.M.take n }
section
variable {K : PySem.W.Frag} {w : Wd} {n : Nat}
theorem cut_out {a : Addr} (h : a ∉ w.M) : a ∉ (w.cut n).M := fun z => h (List.mem_of_mem_take z)
mutual
theorem Rep.cut : ∀ {p : PV} {v : V}, Rep K w p v → p.under n = true → Rep K (w.cut n) p v
  | _, _, .non, _ => .non
  | _, _, .bl b, _ => .bl b
  | _, _, .int i, _ => .int i
  | _, _, .str z, _ => .str z
  | _, _, .ty n, _ => .ty n
  | _, _, .tup h r, e => .tup ⟨h.1, cut_out h.2.1, h.2.2⟩ (Reps.cut r (by rw [PV.under] at e; exact e))
  | _, _, .lst h r, e => .lst ⟨h.1, cut_out h.2.1, h.2.2⟩ (Reps.cut r (by rw [PV.under] at e; exact e))
  | _, _, .scr h, _ => .scr ⟨h.1.imp (fun ⟨o, r, m⟩ => ⟨o, r, cut_out m⟩) id, h.2⟩
  | _, _, .dct h r e0, e => .dct (let ⟨es, ep, xs, h1, h2, h3, h4⟩ := h; ⟨es, ep, xs, h1, cut_out h2, h3, h4⟩) (Reps.cut r (by rw [PV.under, Bool.and_eq_true] at e; exact e.1)) e0
  | _, _, .ref (n := k) h, e => .ref (by
    rw [PV.under, decide_eq_true_eq] at e
    show (w.M.take n)[k]? = _
    rw [List.getElem?_take, if_pos e]
    exact h)
theorem Reps.cut : ∀ {p : List PV} {v : List V}, Reps K w p v → PV.unders n p = true → Reps K (w.cut n) p v
  | _, _, .nil, _ => .nil
  | _, _, .cons h r, e => by
    rw [PV.unders, Bool.and_eq_true] at e
    exact .cons (Rep.cut h e.1) (Reps.cut r e.2)
end
theorem ORep.cut {o : PO} {a : Addr} (h : ORep K w o a) (e : o.under n = true) : ORep K (w.cut n) o a := by
  cases o with
  | lst xs => obtain ⟨vs, h1, r, z⟩ := h; exact ⟨vs, h1, r.cut e, z⟩
  | ins c ns xs => obtain ⟨dx, vs, h1, r, z⟩ := h; exact ⟨dx, vs, h1, r.cut e, z⟩
theorem Rel.cut {h : PH} (r : Rel K w h) (e : (h.take n).all (PO.under n) = true) : Rel K (w.cut n) (h.take n) where
  nd := List.Sublist.nodup (List.take_sublist n w.M) r.nd
  len := by
    show (w.M.take n).length = _
    rw [List.length_take, List.length_take, r.len]
  objs := fun k o a h1 h2 => by
    have h2 : (w.M.take n)[k]? = some a := h2
    have ho := List.mem_of_getElem? h1
    rw [List.all_eq_true] at e
    rw [List.getElem?_take] at h1 h2
    split at h1
    · rename_i hk
      rw [if_pos hk] at h2
      exact (r.objs k o a h1 h2).cut (e o ho)
    · cases h1
  busy := fun b hb => ⟨(r.busy b hb).1, cut_out (r.busy b hb).2⟩
theorem Ext.cut {w0 : Wd} (x : Ext w0 w) (hn : w0.M.length = n) : Ext w0 (w.cut n) := by
  obtain ⟨l, e⟩ := x.pre
  refine ⟨⟨[], ?_⟩, fun a o h m => ?_⟩
  · show w.M.take n = w0.M ++ []
    rw [e, ← hn, List.take_left, List.append_nil]
  · obtain ⟨k1, k2, k3⟩ := x.keep a o h m
    exact ⟨k1, cut_out k2, k3⟩
end
theorem fix_ok {K : PySem.W.Frag} {keep : Bool} {w0 w : Wd} {h0 h : PH} {p : PV} {v : V} {Q : VK} {E : XK} (rel0 : Rel K w0 h0) (x : Ext w0 w) (rel : Rel K w h) (r : Rep K w p v) (post : PostK true K w0 (fixR keep h0.length p h) Q E) : Q v w.H := by
  unfold fixR at post
  split at post
  · exact post w v x rel r
  · rename_i hk
    split at post
    · rename_i ha
      have xc := x.cut rel0.len
      have rc := rel.cut ha
      split at post
      · rename_i k
        split at post
        · rename_i hlt
          exact post (w.cut h0.length) v xc rc (r.cut (by rw [PV.under]; exact decide_eq_true hlt))
        · rename_i hge
          split at post
          · rename_i xs hl
            split at post
            · rename_i hu
              obtain ⟨a, vs, rfl, hm, hH, rs, hz⟩ := liveL_rep hl rel r
              refine post (w.cut h0.length) (.ref a) xc rc (.lst ⟨hH, ?_, ?_, hz⟩ (rs.cut hu))
              · intro z
                obtain ⟨j, hj, e⟩ := List.getElem_of_mem (show a ∈ w.M.take h0.length from z)
                rw [List.length_take] at hj
                have e2 : w.M[j]? = some a := by
                  have : (w.M.take h0.length)[j]? = some a := by rw [List.getElem?_eq_getElem (by rw [List.length_take]; exact hj), e]
                  rw [List.getElem?_take] at this
                  split at this
                  · exact this
                  · cases this
                have := ixInj rel.nd e2 hm
                omega
              · intro z
                exact (rel.busy a z).2 (List.mem_of_getElem? hm)
            · exact post.elim
          · exact post.elim
      · split at post
        · rename_i hu
          exact post (w.cut h0.length) v xc rc (r.cut hu)
        · exact post.elim
    · exact post.elim
theorem fixX_ok {K : PySem.W.Frag} {w0 w : Wd} {h0 h : PH} {y : PX} {cls : Value} {d : Option Addr} {Q : VK} {E : XK} (rel0 : Rel K w0 h0) (x : Ext w0 w) (rel : Rel K w h) (r : XRep K w y cls d) (post : PostK true K w0 (fixX h0.length y h) Q E) : E cls d w.H := by
  unfold fixX at post
  split at post
  · exact post w cls d x rel r
  · split at post
    · rename_i ha
      rw [Bool.and_eq_true] at ha
      refine post (w.cut h0.length) cls d (x.cut rel0.len) (rel.cut ha.1) ⟨r.1, fun hn => ?_⟩
      obtain ⟨da, vs, e1, e2, e3, e4⟩ := r.2 hn
      exact ⟨da, vs, e1, e2.cut ha.2, e3, e4⟩
    · exact post.elim
theorem start_slo {K : PySem.W.Frag} {w : Wd} {N : List Str} {ps : List PV} {vs : List V} (r : Reps K w ps vs) : SloR K w (L2.start N vs) (startP N.length ps) := by
  have hl := r.length
  unfold L2.start startP
  refine ⟨by simp [hl], fun i p e => ?_⟩
  by_cases hi : i < ps.length
  · rw [List.getElem?_append_left (by simpa using hi), List.getElem?_map] at e
    cases hp : ps[i]? with
    | none => rw [hp] at e; cases e
    | some q =>
      rw [hp] at e
      cases e
      obtain ⟨v, g1, g2⟩ := r.get hp
      refine ⟨v, ?_, g2⟩
      rw [List.getElem?_append_left (by rw [List.length_map, ← hl]; exact hi), List.getElem?_map, g1]
      rfl
  · rw [List.getElem?_append_right (by simpa using hi), List.getElem?_replicate] at e
    split at e <;> cases e
/-- what is known of a def -/
structure DefOk (P : Program) (wo : World) (K : PySem.W.Frag) (mg : Str → Option Value) (C0 : CC) (f : Str) (fn : Fn) : Prop where
  ex : ∃ (qual : Str) (params : Arguments) (body : List Stmt) (scope : Scope) (fa : Addr) (fd : FuncData) (N ps : List Str), mg f = some (.ref fa) ∧ FunD K f qual params body scope [] [] fa fd ∧ Binds K fd ps [] ∧ FnScope N ps scope ∧ fn.np = ps.length ∧ fn.ns = N.length ∧
    chkSs { C0 with sc := scope, N := N, fnc := fun _ => true, loud := !C0.quiets.contains f } fn.body body = true
structure DefOkS (P : Program) (wo : World) (K : PySem.W.Frag) (mg : Str → Option Value) (C0 : CC) (f : Str) (fn : Fn) : Prop where
  ex : ∃ (qual : Str) (params : Arguments) (body : List Stmt) (scope : Scope) (fa : Addr) (fd : FuncData) (N ps : List Str) (pv : Str), mg f = some (.ref fa) ∧ FunD K f qual params body scope [] [] fa fd ∧
    (∀ us rest : List Value, us.length = ps.length → bindArgs fd ⟨us ++ rest, []⟩ = (newTuple rest >>= fun t => pure (ps.zip us ++ [(pv, t)]))) ∧ FnScope N (ps ++ [pv]) scope ∧ fn.np = ps.length + 1 ∧ fn.ns = N.length ∧
    chkSs { C0 with sc := scope, N := N, fnc := fun _ => true } fn.body body = true
structure DefOkG (P : Program) (wo : World) (K : PySem.W.Frag) (mg : Str → Option Value) (C0 : CC) (f : Str) (fn : Fn) : Prop where
  ex : ∃ (qual : Str) (params : Arguments) (body : List Stmt) (scope : Scope) (fa : Addr) (fd : FuncData) (N ps : List Str), mg f = some (.ref fa) ∧ FunD K f qual params body scope [] [] fa fd ∧ Binds K fd ps [] ∧ GScope N ps scope ∧ fn.np = ps.length ∧ fn.ns = N.length ∧
    chkGen { C0 with sc := scope, N := N, fnc := fun _ => true, loud := false } fn.body body = true
structure Prg (P : Program) (wo : World) (K : PySem.W.Frag) (mg : Str → Option Value) (C0 : CC) (T : Tab) : Prop where
  defs : ∀ f n, C0.defs.lookup f = some (n, 0) → ∃ fn, T f = some fn ∧ fn.np = n ∧ fn.star = false ∧ DefOk P wo K mg C0 f fn
  sdefs : ∀ f n, C0.defs.lookup f = some (n, 1) → ∃ fn, T f = some fn ∧ fn.star = true ∧ DefOkS P wo K mg C0 f fn
  gdefs : ∀ f n, C0.defs.lookup f = some (n, 2) → ∃ fn, T f = some fn ∧ fn.np = n ∧ fn.star = false ∧ DefOkG P wo K mg C0 f fn
  blt : ∀ x ∈ C0.blts, mg x = none
  con : ∀ x c, C0.cons.lookup x = some c → ∃ u, mg x = some u ∧ RelV c.v u
theorem PostK.ext {K : PySem.W.Frag} {w w' : Wd} {r : Res PV} {Q : VK} {E : XK} (p : PostK true K w r Q E) (x : Ext w w') : PostK true K w' r Q E := by
  cases r with
  | ok a h => exact fun w2 v x2 r2 q2 => p w2 v (x.trans x2) r2 q2
  | exc e h => exact fun w2 c d x2 r2 q2 => p w2 c d (x.trans x2) r2 q2
  | bad => exact p
section
variable {P : Program} {wo : World} {K : PySem.W.Frag} {mg : Str → Option Value} {C0 : CC} {T : Tab}
theorem sp_len {n : Nat} {d : List PV → PH → Res PV} : ∀ vs H Q E, spOf K n d vs H Q E → vs.length = n := by
  rintro vs H Q E ⟨w, ps, h, _, _, rs, hl, _⟩
  rw [← rs.length]; exact hl
/-- a def's body, by what its calls mean -/
theorem body_ok (G : Prg P wo K mg C0 T) {k : Nat} {base : Heap} {qual : Str} {body : List Stmt} {scope : Scope} {fa : Addr} {N ps : List Str} {fn : Fn} {n : Nat} (S : FnScope N ps scope) (e2 : fn.ns = N.length) {ld : Bool} (hc : chkSs { C0 with sc := scope, N := N, fnc := fun _ => true, loud := ld } fn.body body = true)
    (i1 : ∀ f n, C0.defs.lookup f = some (n, 0) → ∃ fa fd ps, mg f = some (.ref fa) ∧ PySem.W.keepIn K (.ref fa) = true ∧ Binds K fd ps [] ∧ ps.length = n ∧ ∀ base : Heap, FnG P wo K mg base k fa fd ps (spOf K n (call T k f)) (C0.quiets.contains f))
    (i2 : ∀ f n, C0.defs.lookup f = some (n, 1) → ∃ fa, mg f = some (.ref fa) ∧ PySem.W.keepIn K (.ref fa) = true ∧ ∀ base : Heap, FnP P wo K mg base k fa (spS K (call T k f)))
    (i3 : ∀ f n, C0.defs.lookup f = some (n, 2) → ∃ fa fd ps, mg f = some (.ref fa) ∧ PySem.W.keepIn K (.ref fa) = true ∧ Binds K fd ps [] ∧ ∀ base : Heap, GFn P wo K mg base (4 * k) fa fd ps (spG K n (call T k f)))
    (cdv : Value) (A : Around) (outer : List Env) (s : Shared) (H : Hp) (vs : List V) (Q : VK) (E : XK) (hr : Room (4 * k + 3) (A.deeper (PyProof.Rows.envOfC qual scope s.heap.objs.size fa cdv))) (hg : ld = true → A.guards = some []) (sp : spOf K n (fn.runB (call T k)) vs H Q E) :
    ∃ t, PSs (cxOf (L2.CX P wo) P wo K mg base N qual scope fa cdv A outer s H E) body t ∧ t { nx := fun _ H' => Q .non H', rt := Q } (start N vs) H := by
  have GG : Good { C0 with sc := scope, N := N, fnc := fun _ => true, loud := ld } (call T k) k (cxOf (L2.CX P wo) P wo K mg base N qual scope fa cdv A outer s H E) (fun cls d _ H => E cls d H) := {
    scope := rfl
    names := rfl
    nd := S.nd
    calm := rfl
    room := hr
    guards := hg
    takes := takes_of rfl rfl rfl rfl
    fn := rfl
    blt := G.blt
    con := G.con
    fns := fun f n h => let ⟨fa, fd, ps, a1, a2, a3, _, a4⟩ := i1 f n h; ⟨fa, fd, ps, a1, a2, a3, a4 base⟩
    sfns := fun f n h => let ⟨fa, a1, a2, a4⟩ := i2 f n h; ⟨fa, a1, a2, a4 base⟩
    gfns := fun f n h => let ⟨fa, fd, ps, a1, a2, a3, a4⟩ := i3 f n h; ⟨fa, fd, ps, a1, a2, a3, a4 base⟩ }
  have GS : GoodS (cxOf (L2.CX P wo) P wo K mg base N qual scope fa cdv A outer s H E) := ⟨passes_of rfl, by
    show (if scope.kind.isAnnotationScope then ScopeKind.function else scope.kind) = _
    rw [S.kind]; rfl⟩
  refine ⟨_, sSs fn.body GG GS hc, ?_⟩
  obtain ⟨w, qs, h, rfl, rel, rs, hl, post⟩ := sp
  refine ⟨w, startP fn.ns qs, h, ⟨rfl, rel, by rw [e2]; exact start_slo rs⟩, ?_⟩
  unfold Fn.runB at post
  cases ho : fn.body.den (call T k) (startP fn.ns qs) h with
  | nx ρ4 h4 => simp only [ho] at post; exact fun w4 σ4 x4 rel4 _ => fix_ok rel x4 rel4 .non post
  | rt v h4 => simp only [ho] at post; exact fun w4 v4 x4 rel4 r4 => fix_ok rel x4 rel4 r4 post
  | exc e ρ4 h4 => simp only [ho] at post; exact fun w4 σ4 cls dd x4 rel4 _ r4 => fixX_ok rel x4 rel4 r4 post
  | ct ρ4 h4 => simp only [ho] at post; exact post.elim
  | bk ρ4 h4 => simp only [ho] at post; exact post.elim
  | bad => simp only [ho] at post; exact post.elim
/-- a generator def's body -/
theorem body_okG (G : Prg P wo K mg C0 T) {k : Nat} {base : Heap} {qual : Str} {body : List Stmt} {scope : Scope} {fa : Addr} {N ps : List Str} {fn : Fn} {n : Nat} (S : GScope N ps scope) (e2 : fn.ns = N.length) (hc : chkGen { C0 with sc := scope, N := N, fnc := fun _ => true, loud := false } fn.body body = true)
    (i1 : ∀ f n, C0.defs.lookup f = some (n, 0) → ∃ fa fd ps, mg f = some (.ref fa) ∧ PySem.W.keepIn K (.ref fa) = true ∧ Binds K fd ps [] ∧ ps.length = n ∧ ∀ base : Heap, FnG P wo K mg base k fa fd ps (spOf K n (call T k f)) (C0.quiets.contains f))
    (i2 : ∀ f n, C0.defs.lookup f = some (n, 1) → ∃ fa, mg f = some (.ref fa) ∧ PySem.W.keepIn K (.ref fa) = true ∧ ∀ base : Heap, FnP P wo K mg base k fa (spS K (call T k f)))
    (i3 : ∀ f n, C0.defs.lookup f = some (n, 2) → ∃ fa fd ps, mg f = some (.ref fa) ∧ PySem.W.keepIn K (.ref fa) = true ∧ Binds K fd ps [] ∧ ∀ base : Heap, GFn P wo K mg base (4 * k) fa fd ps (spG K n (call T k f)))
    (cdv : Value) (A : Around) (outer : List Env) (s : Shared) (H : Hp) (vs : List V) (Q : List V → Hp → Prop) (E : XK) (pn : List (Addr × Obj)) (hr : Room (4 * k + 3) (A.deeper (PyProof.Rows.envOfC qual scope s.heap.objs.size fa cdv))) (sp : spG K n (fn.runB (call T k)) vs H Q E) :
    ∃ t, GSs (gcxOf P wo K mg base N qual scope fa cdv A outer s H E pn) body t ∧ t { nx := fun ys _ H' => Q ys H', rt := fun ys v H' => v = .non ∧ Q ys H' } [] (start N vs) H := by
  have GG : Good { C0 with sc := scope, N := N, fnc := fun _ => true, loud := false } (call T k) k (gcxOf P wo K mg base N qual scope fa cdv A outer s H E pn) (fun cls d _ H => E cls d H) := {
    scope := rfl
    names := rfl
    nd := S.nd
    calm := rfl
    room := hr
    guards := fun z => by cases z
    takes := takes_gcx
    fn := rfl
    blt := G.blt
    con := G.con
    fns := fun f n h => let ⟨fa, fd, ps, a1, a2, a3, _, a4⟩ := i1 f n h; ⟨fa, fd, ps, a1, a2, a3, a4 base⟩
    sfns := fun f n h => let ⟨fa, a1, a2, a4⟩ := i2 f n h; ⟨fa, a1, a2, a4 base⟩
    gfns := fun f n h => let ⟨fa, fd, ps, a1, a2, a3, a4⟩ := i3 f n h; ⟨fa, fd, ps, a1, a2, a3, a4 base⟩ }
  have GS : GoodS (gcxOf P wo K mg base N qual scope fa cdv A outer s H E pn) := ⟨owns_gcx, by
    show (if scope.kind.isAnnotationScope then ScopeKind.function else scope.kind) = _
    rw [S.kind]; rfl⟩
  refine ⟨_, sGen GG GS S.co (by
    show (scope.kind == .module && _) = false
    rw [S.kind]; rfl) fn.body hc, ?_⟩
  obtain ⟨w, qs, h, rfl, rel, rs, hl, post⟩ := sp
  refine ⟨rfl, w, startP fn.ns qs, h, ⟨rfl, rel, by rw [e2]; exact start_slo rs⟩, ?_⟩
  unfold Fn.runB at post
  cases ho : fn.body.den (call T k) (startP fn.ns qs) h with
  | rt v h4 =>
    simp only [ho] at post
    obtain ⟨xs, rfl⟩ := gen_rt fn.body hc _ _ _ _ ho
    · intro w4 σ4 vs4 x4 rel4 r4 hz
      unfold fixR at post
      split at post
      · exact post w4 vs4 x4 rel4 r4 hz
      · split at post
        · rename_i ha
          simp only at post
          split at post
          · rename_i hu
            rw [PV.under] at hu
            exact post (w4.cut h.length) vs4 (x4.cut rel.len) (rel4.cut ha) (r4.cut hu) hz
          · exact post.elim
        · exact post.elim
  | nx ρ4 h4 =>
    simp only [ho] at post
    unfold fixR at post
    split at post
    · exact post.elim
    · split at post
      · simp only at post
        split at post <;> exact post.elim
      · exact post.elim
  | exc e ρ4 h4 =>
    simp only [ho] at post
    unfold fixX at post
    split at post
    · exact post.elim
    · split at post <;> exact post.elim
  | ct ρ4 h4 => simp only [ho] at post; exact post.elim
  | bk ρ4 h4 => simp only [ho] at post; exact post.elim
  | bad => simp only [ho] at post; exact post.elim
theorem defs_ok2 (G : Prg P wo K mg C0 T) : ∀ k, (∀ f n, C0.defs.lookup f = some (n, 0) → ∃ fa fd ps, mg f = some (.ref fa) ∧ PySem.W.keepIn K (.ref fa) = true ∧ Binds K fd ps [] ∧ ps.length = n ∧ ∀ base : Heap, FnG P wo K mg base k fa fd ps (spOf K n (call T k f)) (C0.quiets.contains f)) ∧
    (∀ f n, C0.defs.lookup f = some (n, 1) → ∃ fa, mg f = some (.ref fa) ∧ PySem.W.keepIn K (.ref fa) = true ∧ ∀ base : Heap, FnP P wo K mg base k fa (spS K (call T k f))) ∧
    (∀ f n, C0.defs.lookup f = some (n, 2) → ∃ fa fd ps, mg f = some (.ref fa) ∧ PySem.W.keepIn K (.ref fa) = true ∧ Binds K fd ps [] ∧ ∀ base : Heap, GFn P wo K mg base (4 * k) fa fd ps (spG K n (call T k f))) := by
  intro k
  induction k with
  | zero =>
    refine ⟨fun f n hf => ?_, fun f n hf => ?_, fun f n hf => ?_⟩
    · obtain ⟨fn, h1, h2, hst, D⟩ := G.defs f n hf
      obtain ⟨qual, params, body, scope, fa, fd, N, ps, m1, F, b, S, e1, e2, hc⟩ := D.ex
      refine ⟨fa, fd, ps, m1, F.kp, b, by rw [← h2]; exact e1.symm, fun base => ⟨fun vs H Q E sp => ?_, fun A outer s H args us vs Q E _ _ _ _ _ sp => ?_⟩⟩
      · rw [sp_len vs H Q E sp, ← h2]; exact e1
      · obtain ⟨w, qs, h, _, _, _, _, post⟩ := sp
        rw [call_zero] at post
        exact post.elim
    · obtain ⟨fn, h1, hst, D⟩ := G.sdefs f n hf
      obtain ⟨qual, params, body, scope, fa, fd, N, ps, pv, m1, F, b, S, e1, e2, hc⟩ := D.ex
      refine ⟨fa, m1, F.kp, fun base A outer s H us vs Q E _ _ _ _ sp => ?_⟩
      obtain ⟨w, qs, h, _, _, _, post⟩ := sp
      rw [call_zero] at post
      exact post.elim
    · obtain ⟨fn, h1, h2, hst, D⟩ := G.gdefs f n hf
      obtain ⟨qual, params, body, scope, fa, fd, N, ps, m1, F, b, S, e1, e2, hc⟩ := D.ex
      refine ⟨fa, fd, ps, m1, F.kp, b, fun base => ⟨fun vs H Q E sp => ?_, fun A outer s H args us vs Q E _ _ _ _ sp => ?_⟩⟩
      · obtain ⟨w, qs, h, _, _, rs, hl, _⟩ := sp
        rw [← rs.length, hl, ← h2]; exact e1
      · obtain ⟨w, qs, h, _, _, _, _, post⟩ := sp
        rw [call_zero] at post
        exact post.elim
  | succ k ih =>
    refine ⟨fun f n hf => ?_, fun f n hf => ?_, fun f n hf => ?_⟩
    · obtain ⟨fn, h1, h2, hst, D⟩ := G.defs f n hf
      obtain ⟨qual, params, body, scope, fa, fd, N, ps, m1, F, b, S, e1, e2, hc⟩ := D.ex
      refine ⟨fa, fd, ps, m1, F.kp, b, by rw [← h2]; exact e1.symm, fun base => fnG_of F S (fun vs H Q E sp => by rw [sp_len vs H Q E sp, ← h2]; exact e1) fun cdv A outer s H vs Q E hr hg sp => ?_⟩
      refine body_ok (n := n) G S e2 hc ih.1 ih.2.1 ih.2.2 cdv A outer s H vs Q E hr (fun z => hg (by simpa using z)) ?_
      obtain ⟨w, qs, h, rfl, rel, rs, hl, post⟩ := sp
      rw [call_succ, h1] at post
      simp only at post
      rw [run_plain hst (by rw [hl, h2])] at post
      exact ⟨w, qs, h, rfl, rel, rs, hl, post⟩
    · obtain ⟨fn, h1, hst, D⟩ := G.sdefs f n hf
      obtain ⟨qual, params, body, scope, fa, fd, N, ps, pv, m1, F, b, S, e1, e2, hc⟩ := D.ex
      refine ⟨fa, m1, F.kp, fun base => fnP_star (sp := spOf K (ps.length + 1) (fn.runB (call T k))) F S b (fun vs H Q E sp => ?_) fun cdv A outer s H vs Q E hr hg sp => body_ok (n := ps.length + 1) (ld := C0.loud) G S e2 hc ih.1 ih.2.1 ih.2.2 cdv A outer s H vs Q E hr (fun _ => hg) sp⟩
      obtain ⟨w, qs, h, rfl, rel, rs, post⟩ := sp
      rw [call_succ, h1] at post
      simp only at post
      have hn : 0 < fn.np ∧ fn.np ≤ qs.length + 1 ∧ qs.length ≤ sizeLine := by
        unfold Fn.run at post
        rw [if_pos hst] at post
        split at post
        · assumption
        · exact post.elim
      rw [run_star hst hn] at post
      have hl := rs.length
      have e3 : fn.np - 1 = ps.length := by omega
      rw [e3] at post
      refine ⟨vs.take ps.length, vs.drop ps.length, (List.take_append_drop _ _).symm, by rw [List.length_take]; omega, by rw [List.length_drop]; omega, fun p hp => ?_⟩
      refine ⟨w.add p (.tup (vs.drop ps.length)), qs.take ps.length ++ [.tup (qs.drop ps.length)], h, rfl, rel.add hp, ((rs.take _).mono (Ext.add hp)).append (.cons (rel.tup hp (rs.drop _) (by rw [List.length_drop]; omega)) .nil), by rw [List.length_append, List.length_take]; simp; omega, post.ext (Ext.add hp)⟩
    · obtain ⟨fn, h1, h2, hst, D⟩ := G.gdefs f n hf
      obtain ⟨qual, params, body, scope, fa, fd, N, ps, m1, F, b, S, e1, e2, hc⟩ := D.ex
      obtain ⟨oc, od, dV, kV, doc, pm, an, cdv, ct, osl, rfl, lk, hcd, _, _⟩ := F.ex
      refine ⟨fa, _, ps, m1, F.kp, b, fun base => gfn_of (k := 4 * k + 3) lk hcd S (fun vs H Q E sp => ?_) fun A outer s H vs Q E pn hr sp => ?_⟩
      · obtain ⟨w, qs, h, _, _, rs, hl, _⟩ := sp
        rw [← rs.length, hl, ← h2]; exact e1
      · refine body_okG (n := n) G S e2 hc ih.1 ih.2.1 ih.2.2 cdv A outer s H vs Q E pn hr ?_
        obtain ⟨w, qs, h, rfl, rel, rs, hl, post⟩ := sp
        rw [call_succ, h1] at post
        simp only at post
        rw [run_plain hst (by rw [hl, h2])] at post
        exact ⟨w, qs, h, rfl, rel, rs, hl, post⟩
theorem defs_ok (G : Prg P wo K mg C0 T) : ∀ k f n, C0.defs.lookup f = some (n, 0) → ∃ fa fd ps, mg f = some (.ref fa) ∧ PySem.W.keepIn K (.ref fa) = true ∧ Binds K fd ps [] ∧ ps.length = n ∧ ∀ base : Heap, FnG P wo K mg base k fa fd ps (spOf K n (call T k f)) (C0.quiets.contains f) :=
  fun k => (defs_ok2 G k).1
end
end R

set_option Elab.async false
set_option linter.all false
set_option maxRecDepth 100000
set_option maxHeartbeats 1000000
/-! R: a program's defs by one check; the end -/
namespace R
open PySem PySem.Spec PyProof.Rows L2
/-! ### plain parameters -/
def plainP (p : Arguments) : Bool := p.posonlyargs.isEmpty && p.vararg.isNone && p.kwonlyargs.isEmpty && p.kwarg.isNone && p.defaults.isEmpty
theorem zip_lookup {α : Type} : ∀ {ps : List Str} {us : List α} {x : Str}, ps.length = us.length → x ∈ ps → ((ps.zip us).lookup x).isSome = true
  | [], _, _, _, h => by cases h
  | _ :: _, [], _, h, _ => by simp at h
  | p :: ps, u :: us, x, hl, h => by
    rw [List.zip_cons_cons, List.lookup_cons]
    cases hb : (x == p) with
    | true => rfl
    | false =>
      simp only
      refine zip_lookup (by simpa using hl) ?_
      rcases List.mem_cons.mp h with e | h
      · rw [e, beq_self_eq_true] at hb; cases hb
      · exact h
theorem zip_keep {α : Type} : ∀ {ps : List Str} {us : List α}, ps.Nodup → ps.length = us.length → (ps.filterMap fun n => ((ps.zip us).lookup n).map (n, ·)) = ps.zip us := by
  have key : ∀ (ps : List Str) (us : List α) (pre : List (Str × α)), ps.Nodup → ps.length = us.length → (∀ x ∈ ps, pre.lookup x = none) → (ps.filterMap fun n => ((pre ++ ps.zip us).lookup n).map (n, ·)) = ps.zip us := by
    intro ps
    induction ps with
    | nil => intro us pre _ hl _; rfl
    | cons p ps ih =>
      intro us pre nd hl hp
      cases us with
      | nil => simp at hl
      | cons u us =>
        have n1 := List.nodup_cons.mp nd
        have look : (pre ++ (p, u) :: ps.zip us).lookup p = some u := by
          rw [List.lookup_append, hp p List.mem_cons_self]
          simp
        rw [List.zip_cons_cons, List.filterMap_cons, look]
        simp only [Option.map_some]
        congr 1
        have e : pre ++ (p, u) :: ps.zip us = (pre ++ [(p, u)]) ++ ps.zip us := by simp
        rw [e]
        refine ih us (pre ++ [(p, u)]) n1.2 (by simpa using hl) fun x hx => ?_
        rw [List.lookup_append, hp x (List.mem_cons_of_mem _ hx)]
        have hb : (x == p) = false := by
          cases hb : (x == p) with
          | false => rfl
          | true => rw [eq_of_beq hb] at hx; exact absurd hx n1.1
        simp [List.lookup_cons, hb]
  intro ps us nd hl
  exact key ps us [] nd hl fun x _ => rfl
theorem bind_plain {x qual : Str} {params : Arguments} {body : List Stmt} {scope : Scope} {kV doc pm : Value} {an : Option Addr} {cdv ct : Value} {us : List Value} (hp : plainP params = true) (nd : (params.args.map (·.arg)).Nodup) (hl : us.length = (params.args.map (·.arg)).length) :
    bindArgs (PySem.W.fnOf x qual params body scope .none kV doc pm an cdv ct) ⟨us, []⟩ = pure ((params.args.map (·.arg)).zip us) := by
  obtain ⟨po, ar, va, ko, kd, kw, df⟩ := params
  unfold plainP at hp
  simp only [Bool.and_eq_true, List.isEmpty_iff, Option.isNone_iff_eq_none] at hp
  obtain ⟨⟨⟨⟨rfl, rfl⟩, rfl⟩, rfl⟩, rfl⟩ := hp
  simp only at nd hl
  have miss : ((ar.map (·.arg)).filter fun n => (((ar.map (·.arg)).zip us).lookup n).isNone) = [] := by
    rw [List.filter_eq_nil_iff]
    intro n hn
    have := zip_lookup (us := us) hl.symm hn
    cases h : ((ar.map (·.arg)).zip us).lookup n with
    | none => rw [h] at this; cases this
    | some v => simp
  have kp := zip_keep (us := us) nd hl.symm
  have ns : notAStandIn Value.none = pure () := rfl
  have gt : (decide (us.length > (ar.map (·.arg)).length) && (none : Option Arg).isNone) = false := by simp [hl]
  unfold bindArgs PySem.W.fnOf
  simp only [List.map_nil, List.nil_append, List.append_nil, List.forIn_nil, pure_bind, seqItems?, ns, Option.getD_none, List.length_nil, Nat.zero_sub, List.drop_zero, Nat.sub_zero, gt, Bool.false_eq_true, if_false, List.take_length, List.drop_length, List.zip_nil_left, List.forIn_nil, miss, List.isEmpty_nil, Bool.not_true, kp]

/-! ### the program's table -/
structure Row where
  f : Str
  N : List Str
  fn : Fn
def scopeB (N ps : List Str) (sc : Scope) : Bool := decide (sc.kind = .function) && !sc.isCoroutine && !sc.isGenerator && decide N.Nodup && decide (N.take ps.length = ps) &&
  (ps.all fun x => decide (sc.names.lookup x = some .local) || decide (sc.names.lookup x = some .cell)) && (sc.names.all fun y => !decide (y.2 = .free))
theorem scopeB_ok {N ps : List Str} {sc : Scope} (h : scopeB N ps sc = true) : FnScope N ps sc := by
  unfold scopeB at h
  simp only [Bool.and_eq_true, decide_eq_true_eq, Bool.not_eq_true', List.all_eq_true, Bool.or_eq_true, decide_eq_false_iff_not] at h
  obtain ⟨⟨⟨⟨⟨⟨h1, h2⟩, h3⟩, h4⟩, h5⟩, h6⟩, h7⟩ := h
  exact ⟨h1, h2, h3, h4, h5, h6, h7⟩
def isGlo (x : Str) : He.Fa → Bool
  | .glo y => decide (x = y)
  | _ => false
def isFree (x : Str) : He.Fa → Bool
  | .free y => decide (x = y)
  | _ => false
def isCon (x : Str) (c : SC) : He.Fa → Bool
  | .int y i => decide (x = y) && decide (c = .int i)
  | .str y z => decide (x = y) && decide (c = .str z)
  | _ => false
def rowB (C0 : CC) (fa : List He.Fa) (d : He.DefD) (r : Row) : Bool := decide (d.at_ = (r.f, none)) && decide (d.name = r.f) && d.dfl.isEmpty && d.kwd.isEmpty && plainP d.params && decide ((d.params.args.map (·.arg)).Nodup) &&
  scopeB r.N (d.params.args.map (·.arg)) d.scope && decide (r.fn.np = d.params.args.length) && decide (r.fn.ns = r.N.length) && fa.any (isGlo r.f) && chkSs { C0 with sc := d.scope, N := r.N, fnc := fun _ => true, loud := !C0.quiets.contains r.f } r.fn.body d.body
def gscopeB (N ps : List Str) (sc : Scope) : Bool := decide (sc.kind = .function) && !sc.isCoroutine && sc.isGenerator && decide N.Nodup && decide (N.take ps.length = ps) &&
  (ps.all fun x => decide (sc.names.lookup x = some .local) || decide (sc.names.lookup x = some .cell)) && (sc.names.all fun y => !decide (y.2 = .free))
theorem gscopeB_ok {N ps : List Str} {sc : Scope} (h : gscopeB N ps sc = true) : GScope N ps sc := by
  unfold gscopeB at h
  simp only [Bool.and_eq_true, decide_eq_true_eq, Bool.not_eq_true', List.all_eq_true, Bool.or_eq_true, decide_eq_false_iff_not] at h
  obtain ⟨⟨⟨⟨⟨⟨h1, h2⟩, h3⟩, h4⟩, h5⟩, h6⟩, h7⟩ := h
  exact ⟨h1, h2, h3, h4, h5, h6, h7⟩
def rowGB (C0 : CC) (fa : List He.Fa) (d : He.DefD) (r : Row) : Bool := decide (d.at_ = (r.f, none)) && decide (d.name = r.f) && d.dfl.isEmpty && d.kwd.isEmpty && plainP d.params && decide ((d.params.args.map (·.arg)).Nodup) &&
  gscopeB r.N (d.params.args.map (·.arg)) d.scope && decide (r.fn.np = d.params.args.length) && decide (r.fn.ns = r.N.length) && fa.any (isGlo r.f) && chkGen { C0 with sc := d.scope, N := r.N, fnc := fun _ => true, loud := false } r.fn.body d.body && !r.fn.star
def starP (p : Arguments) : Bool := p.posonlyargs.isEmpty && p.args.isEmpty && p.kwonlyargs.isEmpty && p.kwarg.isNone && p.defaults.isEmpty
def rowSB (C0 : CC) (fa : List He.Fa) (d : He.DefD) (r : Row) : Bool := optB d.params.vararg fun va => decide (d.at_ = (r.f, none)) && decide (d.name = r.f) && d.dfl.isEmpty && d.kwd.isEmpty && starP d.params &&
  scopeB r.N [va.arg] d.scope && decide (r.fn.np = 1) && decide (r.fn.ns = r.N.length) && fa.any (isGlo r.f) && chkSs { C0 with sc := d.scope, N := r.N, fnc := fun _ => true } r.fn.body d.body
theorem bind_starP {x qual : Str} {params : Arguments} {body : List Stmt} {scope : Scope} {kV doc pm : Value} {an : Option Addr} {cdv ct : Value} {us : List Value} {va : Arg} (hp : starP params = true) (hv : params.vararg = some va) :
    bindArgs (PySem.W.fnOf x qual params body scope .none kV doc pm an cdv ct) ⟨us, []⟩ = (newTuple us >>= fun t => pure [(va.arg, t)]) := by
  obtain ⟨po, ar, va', ko, kd, kw, df⟩ := params
  unfold starP at hp
  simp only [Bool.and_eq_true, List.isEmpty_iff, Option.isNone_iff_eq_none] at hp
  obtain ⟨⟨⟨⟨rfl, rfl⟩, rfl⟩, rfl⟩, rfl⟩ := hp
  simp only at hv
  subst hv
  have ns : notAStandIn Value.none = pure () := rfl
  unfold bindArgs PySem.W.fnOf
  simp [seqItems?, ns]
def rowKB (C0 : CC) (fa : List He.Fa) (d : He.DefD) (r : Row) : Bool := match r.fn.kind with
  | 0 => rowB C0 fa d r && !r.fn.star
  | 1 => rowSB C0 fa d r && r.fn.star
  | _ => rowGB C0 fa d r
def rowsB (C0 : CC) (fa : List He.Fa) : List He.DefD → List Row → Bool
  | [], [] => true
  | d :: ds, r :: rs => rowKB C0 fa d r && rowsB C0 fa ds rs
  | _, _ => false
def tabOf (rs : List Row) : Tab := fun f => (rs.find? fun r => r.f == f).map (·.fn)
def ccOf (rs : List Row) (blts : List Str) (cons : List (Str × SC)) : CC := { sc := { kind := .function, names := [], isGenerator := false, isCoroutine := false }, N := [], defs := rs.map fun r => (r.f, r.fn.np, r.fn.kind), blts, cons, fnc := fun _ => true, quiets := (rs.filter fun r => r.fn.quiet).map (·.f) }
def bltB (C0 : CC) (fa : List He.Fa) : Bool := (C0.blts.all fun x => fa.any (isFree x)) && C0.cons.all fun p => fa.any (isCon p.1 p.2)
section
variable {P : Program} {wo : World} {K : PySem.W.Frag} {mg : Str → Option Value} {h : Heap} {fa : List He.Fa} {fns : List He.DefD}
theorem rowsB_mem {C0 : CC} : ∀ {ds : List He.DefD} {rs : List Row} {r : Row}, rowsB C0 fa ds rs = true → r ∈ rs → ∃ (i : Nat) (d : He.DefD), ds[i]? = some d ∧ rowKB C0 fa d r = true
  | [], [], _, _, h => by cases h
  | [], _ :: _, _, h, _ => by cases h
  | _ :: _, [], _, _, h => by cases h
  | d :: ds, q :: rs, r, h, hm => by
    rw [rowsB, Bool.and_eq_true] at h
    rcases List.mem_cons.mp hm with e | hm
    · subst e; exact ⟨0, d, rfl, h.1⟩
    · obtain ⟨i, d', h1, h2⟩ := rowsB_mem h.2 hm
      exact ⟨i + 1, d', by simpa using h1, h2⟩
theorem fact_of (c : He.SaysD fa fns K) {q : He.Fa → Bool} (hq : fa.any q = true) : ∃ f, q f = true ∧ f.ok K = true := by
  obtain ⟨f, hf, e⟩ := List.any_eq_true.mp hq
  obtain ⟨i, hi, e2⟩ := List.getElem_of_mem hf
  exact ⟨f, e, c.fact i (by rw [List.getElem?_eq_getElem hi, e2])⟩
theorem prg_of {rs : List Row} {blts : List Str} {cons : List (Str × SC)} (c : He.SaysD fa fns K) (X : K.In h) (G : h.Ns mainGlobals mg) (h1 : rowsB (ccOf rs blts cons) fa fns rs = true) (h2 : bltB (ccOf rs blts cons) fa = true) : Prg P wo K mg (ccOf rs blts cons) (tabOf rs) := by
  unfold bltB at h2
  rw [Bool.and_eq_true, List.all_eq_true, List.all_eq_true] at h2
  have this : ∀ (f : Str) (n : Nat) (b : Nat) (l : List Row), (l.map fun r => (r.f, r.fn.np, r.fn.kind)).lookup f = some (n, b) → ∃ r, l.find? (fun r => r.f == f) = some r ∧ r.fn.np = n ∧ r.fn.kind = b ∧ r.f = f ∧ r ∈ l := by
    intro f n b l
    induction l with
    | nil => intro z; cases z
    | cons r l ih =>
      intro z
      rw [List.map_cons, List.lookup_cons] at z
      cases hb : (f == r.f) with
      | true =>
        rw [hb] at z
        cases z
        have e := eq_of_beq hb
        exact ⟨r, by rw [List.find?_cons, ← e, beq_self_eq_true], rfl, rfl, e.symm, List.mem_cons_self⟩
      | false =>
        rw [hb] at z
        obtain ⟨q, q1, q2, q2', q3, q4⟩ := ih z
        refine ⟨q, ?_, q2, q2', q3, List.mem_cons_of_mem _ q4⟩
        have hb2 : (r.f == f) = false := by
          cases hb3 : (r.f == f) with
          | false => rfl
          | true => rw [eq_of_beq hb3, beq_self_eq_true] at hb; cases hb
        rw [List.find?_cons, hb2]
        exact q1
  refine ⟨fun f n hf => ?_, fun f n hf => ?_, fun f n hf => ?_, fun x hx => ?_, fun x cc hx => ?_⟩
  · have hf : (rs.map fun r => (r.f, r.fn.np, r.fn.kind)).lookup f = some (n, 0) := hf
    obtain ⟨r, r1, r2, r2', r3, r4⟩ := this f n 0 rs hf
    obtain ⟨i, d, d1, d2⟩ := rowsB_mem h1 r4
    unfold rowKB at d2
    rw [r2'] at d2
    simp only [Bool.and_eq_true, Bool.not_eq_true'] at d2
    obtain ⟨d2, r2'⟩ := d2
    refine ⟨r.fn, by unfold tabOf; rw [r1]; rfl, r2, r2', ?_⟩
    unfold rowB at d2
    simp only [Bool.and_eq_true, decide_eq_true_eq, List.isEmpty_iff] at d2
    obtain ⟨⟨⟨⟨⟨⟨⟨⟨⟨⟨e1, e2⟩, e3⟩, e4⟩, e5⟩, e6⟩, e7⟩, e8⟩, e9⟩, e10⟩, e11⟩ := d2
    obtain ⟨fd, F⟩ := c.def_ i d1
    have dv : d.dvs K = [] := by unfold He.DefD.dvs; rw [e3]; rfl
    have kv : d.kws K = [] := by unfold He.DefD.kws; rw [e4]; rfl
    rw [dv, kv, e1, e2, r3] at F
    obtain ⟨g, g1, g2⟩ := fact_of c e10
    have gl : mg f = some (.ref (He.ga K f)) := by
      cases g <;> first | (cases g1; done) | skip
      have := of_decide_eq_true g1
      subst this
      rw [← r3]
      exact He.glo_ok X G g2
    refine ⟨d.qual, d.params, d.body, d.scope, He.fAd K (f, none), fd, r.N, d.params.args.map (·.arg), gl, F, ?_, scopeB_ok e7, by rw [List.length_map]; exact e8, e9, by rw [r3] at e11; exact e11⟩
    exact F.bindsN fun kV doc pm an cdv ct us hl => bind_plain e5 e6 hl
  · have hf : (rs.map fun r => (r.f, r.fn.np, r.fn.kind)).lookup f = some (n, 1) := hf
    obtain ⟨r, r1, r2, r2', r3, r4⟩ := this f n 1 rs hf
    obtain ⟨i, d, d1, d2⟩ := rowsB_mem h1 r4
    unfold rowKB at d2
    rw [r2'] at d2
    simp only [Bool.and_eq_true] at d2
    obtain ⟨d2, r2'⟩ := d2
    refine ⟨r.fn, by unfold tabOf; rw [r1]; rfl, r2', ?_⟩
    unfold rowSB at d2
    obtain ⟨va, e0, d2⟩ := optB_ok d2
    simp only [Bool.and_eq_true, decide_eq_true_eq, List.isEmpty_iff] at d2
    obtain ⟨⟨⟨⟨⟨⟨⟨⟨⟨e1, e2⟩, e3⟩, e4⟩, e5⟩, e7⟩, e8⟩, e9⟩, e10⟩, e11⟩ := d2
    obtain ⟨fd, F⟩ := c.def_ i d1
    have dv : d.dvs K = [] := by unfold He.DefD.dvs; rw [e3]; rfl
    have kv : d.kws K = [] := by unfold He.DefD.kws; rw [e4]; rfl
    rw [dv, kv, e1, e2, r3] at F
    obtain ⟨g, g1, g2⟩ := fact_of c e10
    have gl : mg f = some (.ref (He.ga K f)) := by
      cases g <;> first | (cases g1; done) | skip
      have := of_decide_eq_true g1
      subst this
      rw [← r3]
      exact He.glo_ok X G g2
    refine ⟨d.qual, d.params, d.body, d.scope, He.fAd K (f, none), fd, r.N, [], va.arg, gl, F, ?_, scopeB_ok e7, by rw [e8]; rfl, e9, e11⟩
    intro us rest hl
    have hu : us = [] := by simpa using hl
    subst hu
    obtain ⟨oc, od, dV, kV, doc, pm, an, cdv, ct, osl, rfl, lk, hcd, hdv, hkv⟩ := F.ex
    rcases hdv with ⟨_, rfl⟩ | ⟨e, _⟩
    · simpa using bind_starP e5 e0
    · exact absurd rfl e
  · have hf : (rs.map fun r => (r.f, r.fn.np, r.fn.kind)).lookup f = some (n, 2) := hf
    obtain ⟨r, r1, r2, r2', r3, r4⟩ := this f n 2 rs hf
    obtain ⟨i, d, d1, d2⟩ := rowsB_mem h1 r4
    unfold rowKB at d2
    rw [r2'] at d2
    simp only at d2
    unfold rowGB at d2
    simp only [Bool.and_eq_true, decide_eq_true_eq, List.isEmpty_iff, Bool.not_eq_true'] at d2
    obtain ⟨⟨⟨⟨⟨⟨⟨⟨⟨⟨⟨e1, e2⟩, e3⟩, e4⟩, e5⟩, e6⟩, e7⟩, e8⟩, e9⟩, e10⟩, e11⟩, e12⟩ := d2
    refine ⟨r.fn, by unfold tabOf; rw [r1]; rfl, r2, e12, ?_⟩
    obtain ⟨fd, F⟩ := c.def_ i d1
    have dv : d.dvs K = [] := by unfold He.DefD.dvs; rw [e3]; rfl
    have kv : d.kws K = [] := by unfold He.DefD.kws; rw [e4]; rfl
    rw [dv, kv, e1, e2, r3] at F
    obtain ⟨g, g1, g2⟩ := fact_of c e10
    have gl : mg f = some (.ref (He.ga K f)) := by
      cases g <;> first | (cases g1; done) | skip
      have := of_decide_eq_true g1
      subst this
      rw [← r3]
      exact He.glo_ok X G g2
    refine ⟨d.qual, d.params, d.body, d.scope, He.fAd K (f, none), fd, r.N, d.params.args.map (·.arg), gl, F, ?_, gscopeB_ok e7, by rw [List.length_map]; exact e8, e9, e11⟩
    exact F.bindsN fun kV doc pm an cdv ct us hl => bind_plain e5 e6 hl
  · obtain ⟨g, g1, g2⟩ := fact_of c (h2.1 x hx)
    cases g <;> first | (cases g1; done) | skip
    have := of_decide_eq_true g1
    subst this
    exact He.free_ok X G g2
  · have hm : (x, cc) ∈ cons := by
      have key : ∀ l : List (Str × SC), l.lookup x = some cc → (x, cc) ∈ l := by
        intro l
        induction l with
        | nil => intro hx; cases hx
        | cons p l ih =>
          intro hx
          rw [List.lookup_cons] at hx
          cases hb : (x == p.1) with
          | true =>
            rw [hb] at hx
            cases hx
            rw [eq_of_beq hb]
            exact List.mem_cons_self
          | false => rw [hb] at hx; exact List.mem_cons_of_mem _ (ih hx)
      exact key cons hx
    obtain ⟨g, g1, g2⟩ := fact_of c (h2.2 _ hm)
    cases g <;> first | (cases g1; done) | skip
    · simp only [isCon, Bool.and_eq_true, decide_eq_true_eq] at g1
      obtain ⟨rfl, rfl⟩ := g1
      obtain ⟨t, e⟩ := He.int_ok X G g2
      exact ⟨_, e, t, rfl⟩
    · simp only [isCon, Bool.and_eq_true, decide_eq_true_eq] at g1
      obtain ⟨rfl, rfl⟩ := g1
      obtain ⟨t, e⟩ := He.str_ok X G g2
      exact ⟨_, e, t, rfl⟩
end
/-! ### the end -/
theorem noX {P : Program} {w : World} {outer : List Env} {H : Hp} {s s' : Shared} {e : Value} (h : L2.CX P w outer H s (fun _ _ _ => False) e s') : False := by
  unfold L2.CX at h
  obtain ⟨a, B, H', cls, d, _, _, _, _, _, _, _, z⟩ := h
  exact z
theorem lawG {P : Program} {w : World} {K : PySem.W.Frag} {mg mb : Str → Option Value} {k : Nat} {fa a : Addr} {fd : FuncData} {ps : List Str} {sp : Sp} {qu : Bool} {s : Shared} {vs : List Value} {ns : List Int}
    (KX : K.In s.heap) (hns : s.heap.Ns mainGlobals mg) (hb : s.heap.Ns builtinsNs mb) (hbb : ∀ x : Str, x ≠ "__name__" → mb x = bootBuiltins x) (hlim : s.heap.NoLimit) (hg : s.gens = #[])
    (ha : s.heap.get? a = some { cls := .type "list", data := .seq vs.toArray }) (hi : IntsAre vs ns) (hl : ns.length ≤ sizeLine) (hr : Room (4 * k + 3) callerA)
    (F : ∀ base : Heap, K.In base → base.Ns mainGlobals mg → FnG P w K mg base k fa fd ps sp qu) (hbind : BindsTo s fd ⟨[.ref a], []⟩ (ps.zip [.ref a]))
    (hsp : ∀ H : Hp, Only H → SqL K H a (ns.map V.int) → sp [.ref a] H (fun v _ => v = .bl true) fun _ _ _ => False) :
    codeAny (model P w) callerA (.call (.ref fa) ⟨[.ref a], []⟩) (fun r s' => r = .ok (.ret (.bool true)) ∧ OldK s.heap s'.heap ∧ s'.os = s.os ∧ AllBare s'.gens) s := by
  have rv := vals_ints hi
  have lenV := hi.length
  have main : ∀ H : Hp, Only H → SqL K H a (ns.map V.int) → HOk P w H s.heap → (∀ b, H b ≠ none → b = a) → (H a ≠ none → K.lookup a = none) →
      codeAny (model P w) callerA (.call (.ref fa) ⟨[.ref a], []⟩) (fun r s' => r = .ok (.ret (.bool true)) ∧ OldK s.heap s'.heap ∧ s'.os = s.os ∧ AllBare s'.gens) s := by
    intro H hO hS hok hA hK
    have free : ∀ {b : Addr} {o : Obj} {es : Array DictEntry} {ep : Nat}, s.heap.get? b = some o → o.data = .dict es ep → H b = none := fun {b o es ep} e d => by
      cases q : H b with
      | none => rfl
      | some u =>
        obtain rfl : b = a := hA b (by rw [q]; simp)
        rw [ha] at e; cases e
        exact nomatch (show Data.seq vs.toArray _ = Data.dict es ep from d)
    have nsK : ∀ {b : Addr} {m : Str → Option Value}, s.heap.Ns b m → (hidT s.heap H).Ns b m := fun {b m} ⟨o, es, ep, e, d, r⟩ => ⟨o, es, ep, hidT_get e (free e d), d, r⟩
    have hKb : K.In (hidT s.heap H) := fun b o e => hidT_get (KX b o e) (by
      cases q : H b with
      | none => rfl
      | some u =>
        obtain rfl : b = a := hA b (by rw [q]; simp)
        rw [hK (by rw [q]; simp)] at e; cases e)
    have hM : Mod K mg (hidT s.heap H) := ⟨hKb, nsK hns, ⟨mb, nsK hb, hbb⟩, let ⟨mc, h1, h2⟩ := hlim; ⟨mc, nsK h1, h2⟩⟩
    have e0 : Env0 P w K mg (hidT s.heap H) callerA [] s H := ⟨rfl, hM, fun b o e => of_hidT e, Nat.le_of_eq (hidT_size _ _), trivial, fun b hb => absurd (show b ∈ ([] : List Addr) from hb) (by simp), hok, .of_eq hg⟩
    refine codeAny_mono ((F _ hKb (nsK hns)).run callerA [] s H ⟨[.ref a], []⟩ [.ref a] [.ref a] _ _ hr (fun _ => rfl) e0 hbind (.cons rfl .nil) (hsp H hO hS)) fun r s' h => ?_
    cases r with
    | error e =>
      exact (noX h).elim
    | ok fl =>
      cases fl with
      | next => exact False.elim h
      | brk => exact False.elim h
      | cont => exact False.elim h
      | ret u =>
        obtain ⟨v, H', os, bare, un, hok', r', q⟩ := h
        obtain rfl : v = .bl true := q
        obtain rfl : u = Value.bool true := r'
        refine ⟨rfl, OldK.of_keep fun b o e => ?_, os, bare⟩
        cases q : H b with
        | none => exact un.keep b o e q (by intro z; exact absurd (show b ∈ ([] : List Addr) from z) (by simp)) (by simp)
        | some u =>
          rcases hO b with z | ⟨ob, xs, z⟩
          · rw [q] at z; cases z
          · obtain ⟨e1, _⟩ := hok b _ z
            obtain ⟨e2, _⟩ := hok' b _ (un.frzs b ob _ z)
            rw [e] at e1; cases e1
            exact e2
  cases hk : K.lookup a with
  | some o =>
    have e := KX a o hk
    rw [ha] at e
    cases e
    exact main (fun _ => none) (fun _ => .inl rfl) (.inr ⟨_, vs.toArray, _, hk, rfl, rfl, rfl, by rw [List.size_toArray, lenV]; exact hl, by simpa using rv⟩) (fun b u z => nomatch (show (none : Option HO) = some u from z)) (fun b z => absurd rfl z) fun z => absurd rfl z
  | none =>
    refine main (fun b => if b = a then some (.frz { cls := .type "list", data := .seq vs.toArray } (.lst (ns.map V.int))) else none) (fun b => ?_) (.inl (.inr ⟨{ cls := .type "list", data := .seq vs.toArray }, if_pos rfl⟩)) (fun b u z => ?_) (fun b z => ?_) fun _ => hk
    · by_cases hb : b = a
      · exact .inr ⟨_, _, if_pos hb⟩
      · exact .inl (if_neg hb)
    · by_cases hb : b = a
      · cases (if_pos hb).symm.trans z
        subst hb
        exact ⟨ha, by rw [List.length_map]; exact hl, vs, _, rv, ha⟩
      · cases (if_neg hb).symm.trans z
    · by_cases hb : b = a
      · exact hb
      · exact absurd (if_neg hb) z
theorem walkG {l : PySem.W.OpenLaw} {n k : Nat} {q : Program} {loose : List Str} {XP : (Str → Option Value) → Heap → Prop} {YP : World → Heap → Prop} {d : DefRec} {rs : List Row} {blts : List Str} {cons : List (Str × SC)} {fa : List He.Fa} {fns : List He.DefD}
    (hn : l.most = some n) (hn2 : n ≤ sizeLine) (hdf : d.params.defaults = []) (hr : Room (4 * k + 3) callerA) (hd : d.name = "law") (hY : ∀ w h, YP w h → ∃ K : PySem.W.Frag, K.In h ∧ He.SaysD fa fns K)
    (h1 : rowsB (ccOf rs blts cons) fa fns rs = true) (h2 : bltB (ccOf rs blts cons) fa = true) (h3 : (ccOf rs blts cons).defs.lookup ("law" : Str) = some (1, 0))
    (H : ∀ ns : List Int, ns.length ≤ n → ∃ h', call (tabOf rs) k "law" [.scr ns] [] = .ok (.bl true) h') :
    PySem.W.WalkO q loose XP YP l.row.toRowW d [] (fun f vs => PySem.call f vs) := by
  refine Att.attach_call hn hdf fun w s₀ s₁ mg mb fA o pm cd doc a vs ns G Y ho hd' hcd hmg hobj hints hlen hg => ?_
  obtain ⟨K, KX, c⟩ := hY _ _ Y
  have prg : Prg l.prog w K mg (ccOf rs blts cons) (tabOf rs) := prg_of c KX G.T.g h1 h2
  obtain ⟨fa1, fd, ps, m1, m2, m3, hl1, m4⟩ := defs_ok prg k "law" 1 h3
  rw [hd, m1] at hmg
  cases hmg
  have sp : ∀ H : Hp, Only H → SqL K H a (ns.map V.int) → spOf K 1 (call (tabOf rs) k "law") [.ref a] H (fun v _ => v = .bl true) fun _ _ _ => False := fun Hp hO hS => by
    have hz : (ns.map V.int).length ≤ sizeLine := by rw [List.length_map]; exact Nat.le_trans hlen hn2
    refine ⟨⟨[], [], Hp⟩, [.scr ns], [], rfl, ⟨List.nodup_nil, rfl, fun n o a h _ => by simp at h, fun b hb => by cases hb⟩, .cons (.scr ⟨?_, hz⟩) .nil, rfl, ?_⟩
    · rcases hS with (hS | ⟨o, hS⟩) | hS
      · rcases hO a with z | ⟨o, xs, z⟩
        · rw [hS] at z; cases z
        · rw [hS] at z; cases z
      · exact .inl ⟨o, hS, by simp⟩
      · exact .inr (.inr hS)
    · obtain ⟨h', e⟩ := H ns hlen
      rw [e]
      intro w' v _ _ r
      cases r
      rfl
  exact lawG KX G.T.g G.T.b G.T.builtins G.T.nolimit hg hobj hints (Nat.le_trans hlen hn2) hr (fun base _ _ => m4 base) (by
    have := m3 s₁ [.ref a] KX (by rw [List.append_nil, hl1]; rfl)
    rwa [List.append_nil] at this) sp
end R

set_option Elab.async false
set_option linter.all false
set_option maxRecDepth 100000
set_option maxHeartbeats 1000000
/-! P: the IR of the defs -/
namespace R
open PySem PySem.Spec L2
def f__wall : Fn := { np := 1, ns := 1, keep := false, body :=
    (.cons (.whl (.val (.con (.bl true)))
    (.cons .pass
    .nil))
    .nil) }
def f_is_integer : Fn := { np := 1, ns := 1, keep := false, quiet := true, body :=
    (.cons (.ret (.and (.cons (.isi (.var 0) "int") (.cons (.not (.isi (.var 0) "bool")) .nil))))
    .nil) }
def f_is_atoms : Fn := { np := 1, ns := 1, keep := false, quiet := true, body :=
    (.cons (.ret (.and (.cons (.call "is_integer" (.cons (.var 0) .nil)) (.cons (.chn .le .le (.con (.int 1)) (.var 0) (.glb "MOST_ATOMS" (.int 4))) .nil))))
    .nil) }
def f_is_atom : Fn := { np := 2, ns := 2, keep := false, quiet := true, body :=
    (.cons (.ret (.and (.cons (.call "is_integer" (.cons (.var 1) .nil)) (.cons (.chn .le .lt (.con (.int 0)) (.var 1) (.var 0)) .nil))))
    .nil) }
def f_is_set : Fn := { np := 2, ns := 4, keep := false, quiet := true, body :=
    (.cons (.ite (.or (.cons (.not (.val (.isi (.var 1) "tuple"))) (.cons (.not (.val (.blt .all (.cons (.lc false [2] (.name 2) (.seq (.var 1)) .yes (.call "is_atom" (.cons (.var 0) (.cons (.var 2) .nil)))) .nil)))) .nil)))
    (.cons (.ret (.con (.bl false)))
    .nil)
    .nil)
    (.cons (.ret (.blt .all (.cons (.lc false [2, 3] (.tup [2, 3]) (.zip (.var 1) (.slc (.var 1) (.some (.con (.int 1))) .none)) .yes (.cmp .lt (.var 2) (.var 3))) .nil)))
    .nil)) }
def f_are_rule_parts : Fn := { np := 2, ns := 2, keep := false, quiet := true, body :=
    (.cons (.ite (.or (.cons (.not (.val (.isi (.var 1) "tuple"))) (.cons (.cmp .ne (.blt .len (.cons (.var 1) .nil)) (.con (.int 3))) .nil)))
    (.cons (.ret (.con (.bl false)))
    .nil)
    .nil)
    (.cons (.ite (.and (.cons (.cmp .notN (.idx (.var 1) (.con (.int 0))) (.con .non)) (.cons (.not (.val (.call "is_atom" (.cons (.var 0) (.cons (.idx (.var 1) (.con (.int 0))) .nil))))) .nil)))
    (.cons (.ret (.con (.bl false)))
    .nil)
    .nil)
    (.cons (.ret (.and (.cons (.call "is_set" (.cons (.var 0) (.cons (.idx (.var 1) (.con (.int 1))) .nil))) (.cons (.call "is_set" (.cons (.var 0) (.cons (.idx (.var 1) (.con (.int 2))) .nil))) .nil))))
    .nil))) }
def f_need_atoms : Fn := { np := 1, ns := 1, keep := false, body :=
    (.cons (.ite (.not (.val (.call "is_atoms" (.cons (.var 0) .nil))))
    (.cons .never
    .nil)
    .nil)
    .nil) }
def f_is_rulebook : Fn := { np := 1, ns := 2, keep := false, quiet := true, body :=
    (.cons (.ite (.or (.cons (.not (.val (.isi (.var 0) "tuple"))) (.cons (.cmp .ne (.blt .len (.cons (.var 0) .nil)) (.con (.int 2))) (.cons (.not (.val (.call "is_atoms" (.cons (.idx (.var 0) (.con (.int 0))) .nil)))) .nil))))
    (.cons (.ret (.con (.bl false)))
    .nil)
    .nil)
    (.cons (.ite (.or (.cons (.not (.val (.isi (.idx (.var 0) (.con (.int 1))) "tuple"))) (.cons (.cmp .gt (.blt .len (.cons (.idx (.var 0) (.con (.int 1))) .nil)) (.glb "MOST_RULES" (.int 100))) .nil)))
    (.cons (.ret (.con (.bl false)))
    .nil)
    .nil)
    (.cons (.ret (.and (.cons (.blt .all (.cons (.lc false [1] (.name 1) (.seq (.idx (.var 0) (.con (.int 1)))) .yes (.call "are_rule_parts" (.cons (.idx (.var 0) (.con (.int 0))) (.cons (.var 1) .nil)))) .nil)) (.cons (.cmp .eq (.lenSet (.idx (.var 0) (.con (.int 1)))) (.blt .len (.cons (.idx (.var 0) (.con (.int 1))) .nil))) .nil))))
    .nil))) }
def f_need_book : Fn := { np := 1, ns := 1, keep := false, quiet := true, body :=
    (.cons (.ite (.not (.val (.call "is_rulebook" (.cons (.var 0) .nil))))
    (.cons .never
    .nil)
    .nil)
    .nil) }
def f_is_within : Fn := { np := 2, ns := 3, keep := false, quiet := true, body :=
    (.cons (.ret (.blt .all (.cons (.lc false [2] (.name 2) (.seq (.var 0)) .yes (.cmp .inn (.var 2) (.var 1))) .nil)))
    .nil) }
def f_sets_of : Fn := { np := 1, ns := 4, keep := false, quiet := true, body :=
    (.cons (.asg (.name 1) (.lst false (.cons (.tup .nil) .nil)))
    (.cons (.for_ (.name 2) (.rng (.var 0))
    (.cons (.asg (.name 1) (.bin .add (.var 1) (.lc false [3] (.name 3) (.seq (.var 1)) .yes (.bin .add (.var 3) (.tup (.cons (.var 2) .nil))))))
    .nil))
    (.cons (.ret (.blt .sorted (.cons (.var 1) .nil)))
    .nil))) }
def f_remains : Fn := { np := 2, ns := 3, keep := false, quiet := true, body :=
    (.cons (.ret (.blt .all (.cons (.lc false [2] (.name 2) (.seq (.idx (.var 0) (.con (.int 2)))) .yes (.cmp .nin (.var 2) (.var 1))) .nil)))
    .nil) }
def f_obeys : Fn := { np := 2, ns := 2, keep := false, quiet := true, body :=
    (.cons (.ret (.or (.cons (.cmp .inn (.idx (.var 1) (.con (.int 0))) (.var 0)) (.cons (.not (.call "is_within" (.cons (.idx (.var 1) (.con (.int 1))) (.cons (.var 0) .nil)))) .nil))))
    .nil) }
def f_violates : Fn := { np := 2, ns := 2, keep := false, quiet := true, body :=
    (.cons (.ret (.and (.cons (.call "remains" (.cons (.var 1) (.cons (.var 0) .nil))) (.cons (.not (.call "obeys" (.cons (.var 0) (.cons (.var 1) .nil)))) .nil))))
    .nil) }
def f_least_of : Fn := { np := 2, ns := 6, keep := false, quiet := true, body :=
    (.cons (.asgC 2 (.lc false [3] (.name 3) (.seq (.var 0)) (.and (.cons (.cmp .notN (.idx (.var 3) (.con (.int 0))) (.con .non)) (.cons (.val (.call "remains" (.cons (.var 3) (.cons (.var 1) .nil)))) .nil))) (.var 3)))
    (.cons (.asg (.name 4) (.tup .nil))
    (.cons (.whlW 5 false (.lc false [3] (.name 3) (.seq (.var 2)) (.not (.val (.call "obeys" (.cons (.var 4) (.cons (.var 3) .nil))))) (.idx (.var 3) (.con (.int 0))))
    (.cons (.asg (.name 4) (.blt .tuple (.cons (.sortedSet (.bin .add (.var 4) (.blt .tuple (.cons (.var 5) .nil)))) .nil)))
    .nil))
    (.cons (.ret (.var 4))
    .nil)))) }
def f_violated_in : Fn := { np := 2, ns := 3, keep := false, quiet := true, body :=
    (.cons (.ret (.lc false [2] (.name 2) (.seq (.var 0)) (.val (.call "violates" (.cons (.var 1) (.cons (.var 2) .nil)))) (.var 2)))
    .nil) }
def f_is_settled_in : Fn := { np := 2, ns := 2, keep := false, quiet := true, body :=
    (.cons (.ret (.and (.cons (.cmp .eq (.call "least_of" (.cons (.var 0) (.cons (.var 1) .nil))) (.var 1)) (.cons (.cmp .eq (.call "violated_in" (.cons (.var 0) (.cons (.var 1) .nil))) (.lst false .nil)) .nil))))
    .nil) }
def f_settled_sets : Fn := { np := 2, ns := 3, keep := false, quiet := true, body :=
    (.cons (.ret (.lc false [2] (.name 2) (.seq (.call "sets_of" (.cons (.var 0) .nil))) (.val (.call "is_settled_in" (.cons (.var 1) (.cons (.var 2) .nil)))) (.var 2)))
    .nil) }
def f_words_of : Fn := { np := 1, ns := 6, keep := false, body :=
    (.cons (.asg (.tup [1, 2, 3]) (.var 0))
    (.cons .never
    (.cons (.ite (.cmp .ne (.var 2) (.tup .nil))
    (.cons .never
    .nil)
    .nil)
    (.cons (.ite (.cmp .ne (.var 3) (.tup .nil))
    (.cons .never
    .nil)
    .nil)
    (.cons (.ret (.var 4))
    .nil))))) }
def f_text_of : Fn := { np := 1, ns := 4, keep := false, body :=
    (.cons .never
    (.cons .never
    .nil)) }
def f_rule_in : Fn := { np := 1, ns := 7, keep := false, body :=
    (.cons .never
    (.cons .never
    (.cons .never
    (.cons (.asg (.name 5) (.con (.str "")))
    (.cons (.for_ (.name 6) (.seq (.var 2))
    (.cons (.ite (.cmp .inn (.var 6) (.var 4))
    (.cons (.asg (.name 5) (.var 6))
    .nil)
    (.cons .never
    .nil))
    .nil))
    (.cons (.ret (.tup (.cons (.var 3) (.cons (.idx (.var 4) (.glb "IF" (.str "if"))) (.cons (.idx (.var 4) (.glb "NOT" (.str "not"))) .nil)))))
    .nil)))))) }
def f_read_book : Fn := { np := 1, ns := 6, keep := false, body :=
    (.cons (.ite (.not (.val (.isi (.var 0) "str")))
    (.cons .never
    .nil)
    .nil)
    (.cons .never
    (.cons .never
    (.cons (.ite (.or (.cons (.cmp .ne (.blt .len (.cons (.var 3) .nil)) (.con (.int 2))) (.cons (.cmp .eq (.var 2) (.lst false .nil)) .nil)))
    (.cons .never
    .nil)
    .nil)
    (.cons .never
    (.cons (.ite (.or (.cons (.not (.val (.call "is_rulebook" (.cons (.var 4) .nil)))) (.cons (.cmp .ne (.call "text_of" (.cons (.var 4) .nil)) (.var 0)) .nil)))
    (.cons .never
    .nil)
    .nil)
    (.cons (.ret (.var 4))
    .nil))))))) }
def f_facts_of : Fn := { np := 1, ns := 2, keep := false, body :=
    (.cons (.ret (.blt .tuple (.cons (.lc false [1] (.name 1) (.seq (.var 0)) .yes (.tup (.cons (.var 1) (.cons (.tup .nil) (.cons (.tup .nil) .nil))))) .nil)))
    .nil) }
def f_joined : Fn := { np := 2, ns := 3, keep := false, body :=
    (.cons (.ret (.bin .add (.var 0) (.blt .tuple (.cons (.lc false [2] (.name 2) (.seq (.var 1)) (.cmp .nin (.var 2) (.var 0)) (.var 2)) .nil))))
    .nil) }
def f_need_match : Fn := { np := 2, ns := 2, keep := false, body :=
    (.cons .never
    (.cons .never
    .nil)) }
def f__law_cell_at : Fn := { np := 2, ns := 2, keep := false, body :=
    (.cons (.ite (.cmp .lt (.var 1) (.blt .len (.cons (.var 0) .nil)))
    (.cons (.ret (.idx (.var 0) (.var 1)))
    .nil)
    .nil)
    (.cons (.ret (.con (.int 0)))
    .nil)) }
def f__law_pen : Fn := { np := 1, ns := 1, keep := true, body :=
    (.cons (.ret (.lst true (.cons (.blt .max (.cons (.con (.int 0)) (.cons (.bin .sub (.var 0) (.bin .pow (.con (.int 10)) (.con (.int 18)))) .nil))) (.cons (.bin .add (.bin .mod (.var 0) (.con (.int 2147483629))) (.con (.int 1))) (.cons (.con (.int 0)) .nil)))))
    .nil) }
def f__law_draw : Fn := { np := 2, ns := 4, keep := false, body :=
    (.cons (.ite (.cmp .gt (.idx (.var 0) (.con (.int 0))) (.con (.int 0)))
    (.cons (.asg (.name 2) (.bin .mod (.idx (.var 0) (.con (.int 0))) (.var 1)))
    (.cons (.setI (.var 0) (.con (.int 0)) (.bin .fdiv (.idx (.var 0) (.con (.int 0))) (.var 1)))
    (.cons (.ret (.var 2))
    .nil)))
    .nil)
    (.cons (.setI (.var 0) (.con (.int 2)) (.bin .add (.idx (.var 0) (.con (.int 2))) (.con (.int 1))))
    (.cons (.setI (.var 0) (.con (.int 1)) (.bin .mod (.bin .add (.bin .add (.bin .mul (.idx (.var 0) (.con (.int 1))) (.con (.int 48271))) (.bin .mul (.con (.int 1009)) (.idx (.var 0) (.con (.int 2))))) (.con (.int 7))) (.con (.int 2147483647))))
    (.cons (.asg (.name 3) (.bin .mod (.bin .add (.bin .add (.bin .mul (.idx (.var 0) (.con (.int 1))) (.idx (.var 0) (.con (.int 1)))) (.bin .mul (.con (.int 69621)) (.idx (.var 0) (.con (.int 1))))) (.con (.int 11))) (.con (.int 2147483629))))
    (.cons (.asg (.name 3) (.bin .mod (.bin .add (.bin .mul (.var 3) (.var 3)) (.bin .mul (.con (.int 40014)) (.var 3))) (.con (.int 2147483587))))
    (.cons (.ret (.bin .mod (.bin .fdiv (.var 3) (.con (.int 16))) (.var 1)))
    .nil)))))) }
def f__law_pick : Fn := { np := 2, ns := 2, keep := false, body :=
    (.cons (.ret (.idx (.var 1) (.call "_law_draw" (.cons (.var 0) (.cons (.blt .len (.cons (.var 1) .nil)) .nil)))))
    .nil) }
def f__law_same : Fn := { np := 2, ns := 2, keep := false, body :=
    (.cons (.ret (.cmp .eq (.blt .«repr» (.cons (.var 0) .nil)) (.blt .«repr» (.cons (.var 1) .nil))))
    .nil) }
def f__law_is_whole : Fn := { np := 1, ns := 1, keep := false, body :=
    (.cons (.ret (.and (.cons (.isi (.var 0) "int") (.cons (.not (.isi (.var 0) "bool")) .nil))))
    .nil) }
def f__law_sets : Fn := { np := 1, ns := 4, keep := false, body :=
    (.cons (.asg (.name 1) (.lst false (.cons (.tup .nil) .nil)))
    (.cons (.for_ (.name 2) (.rng (.var 0))
    (.cons (.asg (.name 1) (.bin .add (.var 1) (.lc false [3] (.name 3) (.seq (.var 1)) .yes (.bin .add (.var 3) (.tup (.cons (.var 2) .nil))))))
    .nil))
    (.cons (.ret (.blt .sorted (.cons (.var 1) .nil)))
    .nil))) }
def f__law_is_set : Fn := { np := 2, ns := 3, keep := false, body :=
    (.cons (.ite (.or (.cons (.not (.val (.isi (.var 1) "tuple"))) (.cons (.cmp .ne (.lc false [2] (.name 2) (.seq (.var 1)) (.or (.cons (.not (.val (.call "_law_is_whole" (.cons (.var 2) .nil)))) (.cons (.not (.chn .le .lt (.con (.int 0)) (.var 2) (.var 0))) .nil))) (.con (.int 1))) (.lst false .nil)) .nil)))
    (.cons (.ret (.con (.bl false)))
    .nil)
    .nil)
    (.cons (.ret (.cmp .eq (.blt .list (.cons (.var 1) .nil)) (.sortedSet (.var 1))))
    .nil)) }
def f__law_is_set_v2 : Fn := { np := 2, ns := 4, keep := false, body :=
    (.cons (.ite (.or (.cons (.not (.val (.isi (.var 1) "tuple"))) (.cons (.cmp .ne (.lc false [2] (.name 2) (.seq (.var 1)) (.not (.val (.call "_law_is_integer" (.cons (.var 2) .nil)))) (.con (.int 1))) (.lst false .nil)) .nil)))
    (.cons (.ret (.con (.bl false)))
    .nil)
    .nil)
    (.cons (.ret (.cmp .eq (.var 1) (.blt .tuple (.cons (.lc false [3] (.name 3) (.rng (.var 0)) (.cmp .inn (.var 3) (.var 1)) (.var 3)) .nil))))
    .nil)) }
def f__law_is_rule : Fn := { np := 2, ns := 2, keep := false, body :=
    (.cons (.ite (.or (.cons (.not (.val (.isi (.var 1) "tuple"))) (.cons (.cmp .ne (.blt .len (.cons (.var 1) .nil)) (.con (.int 3))) .nil)))
    (.cons (.ret (.con (.bl false)))
    .nil)
    .nil)
    (.cons (.ite (.and (.cons (.cmp .notN (.idx (.var 1) (.con (.int 0))) (.con .non)) (.cons (.not (.and (.cons (.val (.call "_law_is_whole" (.cons (.idx (.var 1) (.con (.int 0))) .nil))) (.cons (.chn .le .lt (.con (.int 0)) (.idx (.var 1) (.con (.int 0))) (.var 0)) .nil)))) .nil)))
    (.cons (.ret (.con (.bl false)))
    .nil)
    .nil)
    (.cons (.ret (.and (.cons (.call "_law_is_set" (.cons (.var 0) (.cons (.idx (.var 1) (.con (.int 1))) .nil))) (.cons (.call "_law_is_set" (.cons (.var 0) (.cons (.idx (.var 1) (.con (.int 2))) .nil))) .nil))))
    .nil))) }
def f__law_is_book : Fn := { np := 1, ns := 2, keep := false, body :=
    (.cons (.ite (.or (.cons (.not (.val (.isi (.var 0) "tuple"))) (.cons (.cmp .ne (.blt .len (.cons (.var 0) .nil)) (.con (.int 2))) (.cons (.not (.val (.call "_law_is_whole" (.cons (.idx (.var 0) (.con (.int 0))) .nil)))) (.cons (.not (.chn .le .le (.con (.int 1)) (.idx (.var 0) (.con (.int 0))) (.con (.int 4)))) .nil)))))
    (.cons (.ret (.con (.bl false)))
    .nil)
    .nil)
    (.cons (.ite (.or (.cons (.not (.val (.isi (.idx (.var 0) (.con (.int 1))) "tuple"))) (.cons (.not (.val (.blt .all (.cons (.lc false [1] (.name 1) (.seq (.idx (.var 0) (.con (.int 1)))) .yes (.call "_law_is_rule" (.cons (.idx (.var 0) (.con (.int 0))) (.cons (.var 1) .nil)))) .nil)))) .nil)))
    (.cons (.ret (.con (.bl false)))
    .nil)
    .nil)
    (.cons (.ret (.and (.cons (.cmp .le (.blt .len (.cons (.idx (.var 0) (.con (.int 1))) .nil)) (.con (.int 100))) (.cons (.cmp .eq (.lenSet (.idx (.var 0) (.con (.int 1)))) (.blt .len (.cons (.idx (.var 0) (.con (.int 1))) .nil))) .nil))))
    .nil))) }
def f__law_some : Fn := { np := 3, ns := 4, keep := false, body :=
    (.cons (.ret (.blt .tuple (.cons (.lc false [3] (.name 3) (.rng (.var 1)) (.cmp .lt (.call "_law_draw" (.cons (.var 0) (.cons (.con (.int 6)) .nil))) (.var 2)) (.var 3)) .nil)))
    .nil) }
def f__law_rule : Fn := { np := 2, ns := 4, keep := false, body :=
    (.cons (.par 2 3 (.call "_law_draw" (.cons (.var 0) (.cons (.var 1) .nil))) (.call "_law_draw" (.cons (.var 0) (.cons (.con (.int 9)) .nil))))
    (.cons (.ite (.cmp .eq (.var 3) (.con (.int 0)))
    (.cons (.ret (.tup (.cons (.var 2) (.cons (.tup .nil) (.cons (.tup .nil) .nil)))))
    .nil)
    .nil)
    (.cons (.ite (.cmp .lt (.var 3) (.con (.int 3)))
    (.cons (.ret (.tup (.cons (.con .non) (.cons (.call "_law_some" (.cons (.var 0) (.cons (.var 1) (.cons (.con (.int 2)) .nil)))) (.cons (.call "_law_some" (.cons (.var 0) (.cons (.var 1) (.cons (.con (.int 2)) .nil)))) .nil)))))
    .nil)
    .nil)
    (.cons (.ite (.cmp .lt (.var 3) (.con (.int 5)))
    (.cons (.ret (.tup (.cons (.var 2) (.cons (.tup .nil) (.cons (.call "_law_some" (.cons (.var 0) (.cons (.var 1) (.cons (.con (.int 3)) .nil)))) .nil)))))
    .nil)
    .nil)
    (.cons (.ite (.cmp .lt (.var 3) (.con (.int 7)))
    (.cons (.ret (.tup (.cons (.var 2) (.cons (.call "_law_some" (.cons (.var 0) (.cons (.var 1) (.cons (.con (.int 3)) .nil)))) (.cons (.tup .nil) .nil)))))
    .nil)
    .nil)
    (.cons (.ret (.tup (.cons (.var 2) (.cons (.call "_law_some" (.cons (.var 0) (.cons (.var 1) (.cons (.con (.int 2)) .nil)))) (.cons (.call "_law_some" (.cons (.var 0) (.cons (.var 1) (.cons (.con (.int 2)) .nil)))) .nil)))))
    .nil)))))) }
def f__law_rule_v2 : Fn := { np := 2, ns := 3, keep := false, body :=
    (.cons (.asg (.name 2) (.ite (.cmp .gt (.call "_law_draw" (.cons (.var 0) (.cons (.con (.int 6)) .nil))) (.con (.int 0))) (.call "_law_draw" (.cons (.var 0) (.cons (.var 1) .nil))) (.con .non)))
    (.cons (.ret (.tup (.cons (.var 2) (.cons (.call "_law_part" (.cons (.var 0) (.cons (.var 1) (.cons (.con (.int 3)) .nil)))) (.cons (.call "_law_part" (.cons (.var 0) (.cons (.var 1) (.cons (.con (.int 3)) .nil)))) .nil)))))
    .nil)) }
def f__law_rule_v3 : Fn := { np := 2, ns := 8, keep := false, body :=
    (.cons (.asg (.tup [2, 3]) (.tup (.cons (.bin .mod (.bin .add (.bin .mul (.var 0) (.con (.int 48271))) (.con (.int 11))) (.con (.int 2147483647))) (.cons (.lst false .nil) .nil))))
    (.cons (.for_ (.name 4) (.seq (.bin .add (.lst false (.cons (.bin .add (.var 1) (.con (.int 2))) .nil)) (.bin .mul (.lst false (.cons (.con (.int 6)) .nil)) (.var 1))))
    (.cons (.ex (.mth .append (.var 3) (.cons (.bin .mod (.var 2) (.var 4)) .nil)))
    (.cons (.asg (.name 2) (.bin .fdiv (.var 2) (.var 4)))
    .nil)))
    (.cons (.asg (.name 5) (.ite (.cmp .eq (.idx (.var 3) (.con (.int 0))) (.var 1)) (.con .non) (.bin .mod (.idx (.var 3) (.con (.int 0))) (.var 1))))
    (.cons (.asg (.name 6) (.blt .tuple (.cons (.lc false [7] (.name 7) (.rng (.var 1)) (.cmp .inn (.idx (.var 3) (.bin .add (.var 7) (.con (.int 1)))) (.tup (.cons (.con (.int 0)) (.cons (.con (.int 5)) .nil)))) (.var 7)) .nil)))
    (.cons (.ret (.tup (.cons (.var 5) (.cons (.var 6) (.cons (.blt .tuple (.cons (.lc false [7] (.name 7) (.rng (.var 1)) (.cmp .inn (.idx (.var 3) (.bin .add (.var 7) (.con (.int 1)))) (.tup (.cons (.con (.int 1)) (.cons (.con (.int 5)) .nil)))) (.var 7)) .nil)) .nil)))))
    .nil))))) }
def f__law_circle : Fn := { np := 2, ns := 5, keep := false, body :=
    (.cons (.asg (.name 2) (.lst true .nil))
    (.cons (.for_ (.name 3) (.rng (.var 1))
    (.cons (.asg (.name 4) (.tup (.cons (.bin .mod (.bin .add (.var 3) (.con (.int 1))) (.var 1)) .nil)))
    (.cons (.ex (.mth .append (.var 2) (.cons (.ite (.cmp .gt (.call "_law_draw" (.cons (.var 0) (.cons (.con (.int 3)) .nil))) (.con (.int 0))) (.tup (.cons (.var 3) (.cons (.tup .nil) (.cons (.var 4) .nil)))) (.tup (.cons (.var 3) (.cons (.var 4) (.cons (.tup .nil) .nil))))) .nil)))
    .nil)))
    (.cons (.ret (.var 2))
    .nil))) }
def f__law_book : Fn := { np := 1, ns := 5, keep := false, body :=
    (.cons (.asg (.name 1) (.bin .add (.con (.int 1)) (.call "_law_draw" (.cons (.var 0) (.cons (.con (.int 4)) .nil)))))
    (.cons (.asg (.name 2) (.ite (.cmp .eq (.call "_law_draw" (.cons (.var 0) (.cons (.con (.int 4)) .nil))) (.con (.int 0))) (.call "_law_circle" (.cons (.var 0) (.cons (.var 1) .nil))) (.lst false .nil)))
    (.cons (.for_ (.name 3) (.rng (.call "_law_draw" (.cons (.var 0) (.cons (.con (.int 8)) .nil))))
    (.cons (.asg (.name 4) (.call "_law_rule" (.cons (.var 0) (.cons (.var 1) .nil))))
    (.cons (.ite (.cmp .nin (.var 4) (.var 2))
    (.cons (.asg (.name 2) (.ite (.cmp .eq (.call "_law_draw" (.cons (.var 0) (.cons (.con (.int 2)) .nil))) (.con (.int 0))) (.bin .add (.lst false (.cons (.var 4) .nil)) (.var 2)) (.bin .add (.var 2) (.lst false (.cons (.var 4) .nil)))))
    .nil)
    .nil)
    .nil)))
    (.cons (.ret (.tup (.cons (.var 1) (.cons (.blt .tuple (.cons (.var 2) .nil)) .nil))))
    .nil)))) }
def f__law_odd : Fn := { np := 1, ns := 2, keep := false, body :=
    (.cons .never
    (.cons .never
    (.cons .never
    (.cons (.ret (.call "_law_pick" (.cons (.var 0) (.cons (.bin .add (.var 1) (.lst false (.cons (.tup (.cons (.tup .nil) (.cons (.tup .nil) .nil))) (.cons (.tup (.cons (.tup (.cons (.tup .nil) (.cons (.tup .nil) .nil))) .nil)) (.cons (.con (.str "none")) (.cons (.tup (.cons (.con (.int 4)) (.cons (.tup (.cons (.tup (.cons (.con (.int 3)) (.cons (.tup (.cons (.con (.int 0)) (.cons (.con (.int 1)) (.cons (.con (.int 2)) .nil)))) (.cons (.tup (.cons (.con (.int 3)) .nil)) .nil)))) .nil)) .nil))) (.cons (.tup (.cons (.con (.int 0)) (.cons (.tup .nil) .nil))) (.cons (.tup (.cons (.con (.int 5)) (.cons (.tup .nil) .nil))) .nil)))))))) .nil))))
    .nil)))) }
def f__law_odd_v2 : Fn := { np := 1, ns := 2, keep := false, body :=
    (.cons .never
    (.cons (.asg (.name 1) (.bin .add (.var 1) (.lst false (.cons (.tup (.cons (.con (.str "same")) .nil)) (.cons (.tup (.cons (.con (.str "same")) (.cons (.tup .nil) .nil))) (.cons (.tup (.cons (.con (.str "differ")) (.cons (.tup .nil) (.cons (.tup .nil) .nil)))) (.cons (.tup (.cons (.con (.str "differ")) (.cons (.tup (.cons (.con (.int 1)) (.cons (.tup .nil) .nil))) (.cons (.tup .nil) .nil)))) (.cons (.tup (.cons (.con (.str "same")) (.cons (.con .non) .nil))) (.cons (.tup (.cons (.con (.int 2)) (.cons (.tup .nil) .nil))) .nil)))))))))
    (.cons (.asg (.name 1) (.bin .add (.var 1) (.lst false (.cons (.tup (.cons (.con (.str "differ")) (.cons (.tup (.cons (.con (.int 0)) .nil)) (.cons (.tup (.cons (.con (.int 0)) .nil)) .nil)))) (.cons (.tup (.cons (.con .non) (.cons (.tup .nil) (.cons (.tup .nil) .nil)))) (.cons (.tup (.cons (.tup .nil) (.cons (.tup .nil) .nil))) (.cons (.tup (.cons (.tup (.cons (.con (.int 0)) .nil)) (.cons (.tup (.cons (.con (.int 0)) .nil)) .nil))) (.cons (.lst false (.cons (.con (.str "same")) (.cons (.tup .nil) .nil))) .nil))))))))
    (.cons .never
    (.cons .never
    (.cons (.ret (.call "_law_choose" (.cons (.var 0) (.cons (.var 1) .nil))))
    .nil)))))) }
def f__law_bent : Fn := { np := 3, ns := 5, keep := false, body :=
    (.cons (.ite (.and (.cons (.val (.call "_law_is_whole" (.cons (.var 1) .nil))) (.cons (.cmp .gt (.call "_law_draw" (.cons (.var 0) (.cons (.con (.int 5)) .nil))) (.con (.int 0))) .nil)))
    (.cons .never
    .nil)
    .nil)
    (.cons (.ite (.or (.cons (.not (.val (.isi (.var 1) "tuple"))) (.cons (.cmp .eq (.var 1) (.tup .nil)) (.cons (.cmp .eq (.var 2) (.con (.int 0))) (.cons (.cmp .eq (.call "_law_draw" (.cons (.var 0) (.cons (.con (.int 9)) .nil))) (.con (.int 0))) .nil)))))
    (.cons (.ret (.call "_law_odd" (.cons (.var 0) .nil)))
    .nil)
    .nil)
    (.cons (.par 3 4 (.call "_law_draw" (.cons (.var 0) (.cons (.blt .len (.cons (.var 1) .nil)) .nil))) (.call "_law_draw" (.cons (.var 0) (.cons (.con (.int 9)) .nil))))
    (.cons (.ite (.cmp .lt (.var 4) (.con (.int 4)))
    (.cons (.ret (.idx (.lst false (.cons (.bin .add (.slc (.var 1) .none (.some (.var 3))) (.slc (.var 1) (.some (.bin .add (.var 3) (.con (.int 1)))) .none)) (.cons (.bin .add (.slc (.var 1) .none (.some (.bin .add (.var 3) (.con (.int 1))))) (.slc (.var 1) (.some (.var 3)) .none)) (.cons (.blt .list (.cons (.var 1) .nil)) (.cons (.rev (.var 1)) .nil))))) (.var 4)))
    .nil)
    .nil)
    (.cons (.ret (.bin .add (.bin .add (.slc (.var 1) .none (.some (.var 3))) (.tup (.cons (.call "_law_bent" (.cons (.var 0) (.cons (.idx (.var 1) (.var 3)) (.cons (.bin .sub (.var 2) (.con (.int 1))) .nil)))) .nil))) (.slc (.var 1) (.some (.bin .add (.var 3) (.con (.int 1)))) .none)))
    .nil))))) }
def f__law_bent_v2 : Fn := { np := 3, ns := 5, keep := false, body :=
    (.cons (.ite (.and (.cons (.val (.call "_law_is_integer" (.cons (.var 1) .nil))) (.cons (.cmp .gt (.call "_law_draw" (.cons (.var 0) (.cons (.con (.int 4)) .nil))) (.con (.int 0))) .nil)))
    (.cons .never
    .nil)
    .nil)
    (.cons (.ite (.or (.cons (.not (.val (.isi (.var 1) "tuple"))) (.cons (.cmp .eq (.var 1) (.tup .nil)) (.cons (.cmp .eq (.var 2) (.con (.int 0))) .nil))))
    (.cons (.ret (.call "_law_odd" (.cons (.var 0) .nil)))
    .nil)
    .nil)
    (.cons (.par 3 4 (.call "_law_draw" (.cons (.var 0) (.cons (.blt .len (.cons (.var 1) .nil)) .nil))) (.call "_law_draw" (.cons (.var 0) (.cons (.con (.int 9)) .nil))))
    (.cons (.ite (.cmp .lt (.var 4) (.con (.int 4)))
    (.cons (.ret (.idx (.lst false (.cons (.bin .add (.slc (.var 1) .none (.some (.var 3))) (.slc (.var 1) (.some (.bin .add (.var 3) (.con (.int 1)))) .none)) (.cons (.bin .add (.slc (.var 1) .none (.some (.bin .add (.var 3) (.con (.int 1))))) (.slc (.var 1) (.some (.var 3)) .none)) (.cons (.blt .list (.cons (.var 1) .nil)) (.cons (.rev (.var 1)) .nil))))) (.var 4)))
    .nil)
    .nil)
    (.cons (.ret (.bin .add (.bin .add (.slc (.var 1) .none (.some (.var 3))) (.tup (.cons (.call "_law_bent" (.cons (.var 0) (.cons (.idx (.var 1) (.var 3)) (.cons (.bin .sub (.var 2) (.con (.int 1))) .nil)))) .nil))) (.slc (.var 1) (.some (.bin .add (.var 3) (.con (.int 1)))) .none)))
    .nil))))) }
def f_is_rule : Fn := { np := 2, ns := 2, keep := false, body :=
    (.cons (.ex (.call "need_atoms" (.cons (.var 0) .nil)))
    (.cons (.ret (.call "are_rule_parts" (.cons (.var 0) (.cons (.var 1) .nil))))
    .nil)) }
def f__law_said_v2 : Fn := { np := 1, ns := 3, keep := false, body :=
    (.cons .never
    (.cons (.ret (.con (.str "told")))
    .nil)) }
def f__law_said_v3 : Fn := { np := 2, ns := 3, keep := false, body :=
    (.cons .never
    .nil) }
def f__law_said_v4 : Fn := { np := 1, ns := 2, keep := false, body :=
    (.cons .never
    .nil) }
def f_need_set : Fn := { np := 2, ns := 2, keep := false, body :=
    (.cons (.ite (.not (.val (.call "is_set" (.cons (.idx (.var 0) (.con (.int 0))) (.cons (.var 1) .nil)))))
    (.cons .never
    .nil)
    .nil)
    .nil) }
def f_remaining : Fn := { np := 2, ns := 3, keep := false, body :=
    (.cons (.ex (.call "need_book" (.cons (.var 0) .nil)))
    (.cons (.ex (.call "need_set" (.cons (.var 0) (.cons (.var 1) .nil))))
    (.cons (.ret (.blt .tuple (.cons (.lc false [2] (.name 2) (.seq (.idx (.var 0) (.con (.int 1)))) (.val (.call "remains" (.cons (.var 2) (.cons (.var 1) .nil)))) (.var 2)) .nil)))
    .nil))) }
def f_violated : Fn := { np := 2, ns := 3, keep := false, body :=
    (.cons (.ex (.call "need_book" (.cons (.var 0) .nil)))
    (.cons (.ex (.call "need_set" (.cons (.var 0) (.cons (.var 1) .nil))))
    (.cons (.ret (.blt .tuple (.cons (.lc false [2] (.name 2) (.seq (.idx (.var 0) (.con (.int 1)))) (.val (.call "violates" (.cons (.var 1) (.cons (.var 2) .nil)))) (.var 2)) .nil)))
    .nil))) }
def f__law_remains : Fn := { np := 2, ns := 3, keep := false, body :=
    (.cons (.ret (.cmp .eq (.lc false [2] (.name 2) (.seq (.idx (.var 0) (.con (.int 2)))) (.cmp .inn (.var 2) (.var 1)) (.var 2)) (.lst false .nil)))
    .nil) }
def f__law_obeys : Fn := { np := 2, ns := 3, keep := false, body :=
    (.cons (.ite (.and (.cons (.cmp .notN (.idx (.var 1) (.con (.int 0))) (.con .non)) (.cons (.cmp .inn (.idx (.var 1) (.con (.int 0))) (.var 0)) .nil)))
    (.cons (.ret (.con (.bl true)))
    .nil)
    .nil)
    (.cons (.ret (.cmp .ne (.lc false [2] (.name 2) (.seq (.idx (.var 1) (.con (.int 1)))) (.cmp .nin (.var 2) (.var 0)) (.var 2)) (.lst false .nil)))
    .nil)) }
def f__law_violates : Fn := { np := 2, ns := 2, keep := false, body :=
    (.cons (.ret (.and (.cons (.call "_law_remains" (.cons (.var 1) (.cons (.var 0) .nil))) (.cons (.not (.call "_law_obeys" (.cons (.var 0) (.cons (.var 1) .nil)))) .nil))))
    .nil) }
def f_least : Fn := { np := 2, ns := 2, keep := false, body :=
    (.cons (.ex (.call "need_book" (.cons (.var 0) .nil)))
    (.cons (.ex (.call "need_set" (.cons (.var 0) (.cons (.var 1) .nil))))
    (.cons (.ret (.call "least_of" (.cons (.idx (.var 0) (.con (.int 1))) (.cons (.var 1) .nil))))
    .nil))) }
def f__law_least : Fn := { np := 3, ns := 7, keep := false, body :=
    (.cons (.asg (.name 3) (.lc false [4] (.name 4) (.seq (.var 1)) (.and (.cons (.cmp .notN (.idx (.var 4) (.con (.int 0))) (.con .non)) (.cons (.val (.call "_law_remains" (.cons (.var 4) (.cons (.var 2) .nil)))) .nil))) (.var 4)))
    (.cons (.asgC 5 (.lc false [6] (.name 6) (.seq (.call "_law_sets" (.cons (.var 0) .nil))) (.cmp .eq (.lc false [4] (.name 4) (.seq (.var 3)) (.not (.val (.call "_law_obeys" (.cons (.var 6) (.cons (.var 4) .nil))))) (.con (.int 1))) (.lst false .nil)) (.var 6)))
    (.cons (.ret (.idx (.idx (.blt .sorted (.cons (.lc false [6] (.name 6) (.seq (.var 5)) .yes (.tup (.cons (.blt .len (.cons (.var 6) .nil)) (.cons (.var 6) .nil)))) .nil)) (.con (.int 0))) (.con (.int 1))))
    .nil))) }
def f_all_pairs : Fn := { np := 1, ns := 4, keep := false, body :=
    (.cons (.asg (.name 1) (.call "sets_of" (.cons (.var 0) .nil)))
    (.cons (.ret (.lc2 [2, 3] [3] (.name 2) (.seq (.var 1)) .yes (.name 3) (.seq (.var 1)) (.val (.call "is_within" (.cons (.var 2) (.cons (.var 3) .nil)))) (.tup (.cons (.var 2) (.cons (.var 3) .nil)))))
    .nil)) }
def f_fits_rule : Fn := { np := 2, ns := 4, keep := false, body :=
    (.cons (.asg (.tup [2, 3]) (.var 0))
    (.cons (.ret (.and (.cons (.not (.call "violates" (.cons (.var 3) (.cons (.var 1) .nil)))) (.cons (.or (.cons (.not (.call "remains" (.cons (.var 1) (.cons (.var 3) .nil)))) (.cons (.call "obeys" (.cons (.var 2) (.cons (.var 1) .nil))) .nil))) .nil))))
    .nil)) }
def f_marks_of : Fn := { np := 2, ns := 4, keep := false, body :=
    (.cons (.ret (.blt .sum (.cons (.lc false [2, 3] (.tup [2, 3]) (.enm (.call "all_pairs" (.cons (.var 0) .nil))) (.val (.call "fits_rule" (.cons (.var 3) (.cons (.var 1) .nil)))) (.bin .shl (.con (.int 1)) (.var 2))) .nil)))
    .nil) }
def f_marks_of_all : Fn := { np := 2, ns := 4, keep := false, body :=
    (.cons (.asg (.name 2) (.bin .sub (.bin .shl (.con (.int 1)) (.blt .len (.cons (.call "all_pairs" (.cons (.var 0) .nil)) .nil))) (.con (.int 1))))
    (.cons (.for_ (.name 3) (.seq (.var 1))
    (.cons (.asg (.name 2) (.bin .band (.var 2) (.call "marks_of" (.cons (.var 0) (.cons (.var 3) .nil)))))
    .nil))
    (.cons (.ret (.var 2))
    .nil))) }
def f_pairs_in : Fn := { np := 2, ns := 4, keep := false, body :=
    (.cons (.ret (.blt .tuple (.cons (.lc false [2, 3] (.tup [2, 3]) (.enm (.call "all_pairs" (.cons (.var 0) .nil))) (.cmp .eq (.bin .band (.bin .shr (.var 1) (.var 2)) (.con (.int 1))) (.con (.int 1))) (.var 3)) .nil)))
    .nil) }
def f_pairs_of : Fn := { np := 2, ns := 2, keep := false, body :=
    (.cons (.ret (.call "pairs_in" (.cons (.var 0) (.cons (.call "marks_of_all" (.cons (.var 0) (.cons (.var 1) .nil))) .nil))))
    .nil) }
def f_pairs : Fn := { np := 1, ns := 1, keep := false, body :=
    (.cons (.ex (.call "need_book" (.cons (.var 0) .nil)))
    (.cons (.ret (.call "pairs_of" (.cons (.idx (.var 0) (.con (.int 0))) (.cons (.idx (.var 0) (.con (.int 1))) .nil))))
    .nil)) }
def f_is_pair : Fn := { np := 2, ns := 2, keep := false, body :=
    (.cons (.ite (.or (.cons (.not (.val (.isi (.var 1) "tuple"))) (.cons (.cmp .ne (.blt .len (.cons (.var 1) .nil)) (.con (.int 2))) .nil)))
    (.cons (.ret (.con (.bl false)))
    .nil)
    .nil)
    (.cons (.ret (.and (.cons (.call "is_set" (.cons (.var 0) (.cons (.idx (.var 1) (.con (.int 0))) .nil))) (.cons (.call "is_set" (.cons (.var 0) (.cons (.idx (.var 1) (.con (.int 1))) .nil))) (.cons (.call "is_within" (.cons (.idx (.var 1) (.con (.int 0))) (.cons (.idx (.var 1) (.con (.int 1))) .nil))) .nil)))))
    .nil)) }
def f_fits : Fn := { np := 2, ns := 3, keep := false, body :=
    (.cons (.ex (.call "need_book" (.cons (.var 0) .nil)))
    (.cons (.ret (.and (.cons (.call "is_pair" (.cons (.idx (.var 0) (.con (.int 0))) (.cons (.var 1) .nil))) (.cons (.blt .all (.cons (.lc false [2] (.name 2) (.seq (.idx (.var 0) (.con (.int 1)))) .yes (.call "fits_rule" (.cons (.var 1) (.cons (.var 2) .nil)))) .nil)) .nil))))
    .nil)) }
def f_settled : Fn := { np := 1, ns := 2, keep := false, gen := true, quiet := true, body :=
    (.cons (.ex (.call "need_book" (.cons (.var 0) .nil)))
    (.cons (.gen 1 (.call "settled_sets" (.cons (.idx (.var 0) (.con (.int 0))) (.cons (.idx (.var 0) (.con (.int 1))) .nil))))
    .nil)) }
def f_is_settled : Fn := { np := 2, ns := 2, keep := false, body :=
    (.cons (.ex (.call "need_book" (.cons (.var 0) .nil)))
    (.cons (.ex (.call "need_set" (.cons (.var 0) (.cons (.var 1) .nil))))
    (.cons (.ret (.call "is_settled_in" (.cons (.idx (.var 0) (.con (.int 1))) (.cons (.var 1) .nil))))
    .nil))) }
def f_order_of : Fn := { np := 2, ns := 7, keep := false, body :=
    (.cons (.asgC 2 (.lc false [3] (.name 3) (.seq (.var 0)) (.and (.cons (.cmp .notN (.idx (.var 3) (.con (.int 0))) (.con .non)) (.cons (.val (.call "remains" (.cons (.var 3) (.cons (.var 1) .nil)))) .nil))) (.var 3)))
    (.cons (.asg (.tup [4, 5]) (.tup (.cons (.tup .nil) (.cons (.tup .nil) .nil))))
    (.cons (.whl (.cmp .lt (.blt .len (.cons (.var 5) .nil)) (.blt .len (.cons (.var 1) .nil)))
    (.cons (.asgC 6 (.lc false [3] (.name 3) (.seq (.var 2)) (.and (.cons (.cmp .nin (.idx (.var 3) (.con (.int 0))) (.var 5)) (.cons (.val (.call "is_within" (.cons (.idx (.var 3) (.con (.int 1))) (.cons (.var 5) .nil)))) .nil))) (.var 3)))
    (.cons (.asg (.tup [4, 5]) (.tup (.cons (.tup (.star (.var 4) (.cons (.idx (.var 6) (.con (.int 0))) .nil))) (.cons (.tup (.star (.var 5) (.cons (.idx (.idx (.var 6) (.con (.int 0))) (.con (.int 0))) .nil))) .nil))))
    .nil)))
    (.cons (.ret (.var 4))
    .nil)))) }
def f_reason : Fn := { np := 2, ns := 4, keep := false, body :=
    (.cons (.ex (.call "need_book" (.cons (.var 0) .nil)))
    (.cons (.ex (.call "need_set" (.cons (.var 0) (.cons (.var 1) .nil))))
    (.cons (.asg (.name 2) (.call "violated_in" (.cons (.idx (.var 0) (.con (.int 1))) (.cons (.var 1) .nil))))
    (.cons (.ite (.cmp .ne (.var 2) (.lst false .nil))
    (.cons (.ret (.tup (.cons (.glb "VIOLATED" (.str "violated")) (.cons (.idx (.var 2) (.con (.int 0))) .nil))))
    .nil)
    .nil)
    (.cons (.asg (.name 3) (.call "least_of" (.cons (.idx (.var 0) (.con (.int 1))) (.cons (.var 1) .nil))))
    (.cons (.ite (.cmp .eq (.var 3) (.var 1))
    (.cons (.ret (.tup (.cons (.glb "SETTLED" (.str "settled")) (.cons (.call "order_of" (.cons (.idx (.var 0) (.con (.int 1))) (.cons (.var 1) .nil))) .nil))))
    .nil)
    .nil)
    (.cons (.ret (.tup (.cons (.glb "SMALLER" (.str "smaller")) (.cons (.var 3) .nil))))
    .nil))))))) }
def f_is_known : Fn := { np := 2, ns := 2, keep := false, body :=
    (.cons (.ret (.and (.cons (.call "are_rule_parts" (.cons (.idx (.var 0) (.con (.int 0))) (.cons (.var 1) .nil))) (.cons (.cmp .inn (.var 1) (.idx (.var 0) (.con (.int 1)))) .nil))))
    .nil) }
def f_is_order : Fn := { np := 3, ns := 5, keep := false, body :=
    (.cons (.ite (.or (.cons (.not (.val (.isi (.var 2) "tuple"))) (.cons (.not (.val (.blt .all (.cons (.lc false [3] (.name 3) (.seq (.var 2)) .yes (.call "is_known" (.cons (.var 0) (.cons (.var 3) .nil)))) .nil)))) .nil)))
    (.cons (.ret (.con (.bl false)))
    .nil)
    .nil)
    (.cons (.asg (.name 4) (.tup .nil))
    (.cons (.for_ (.name 3) (.seq (.var 2))
    (.cons (.ite (.or (.cons (.cmp .isN (.idx (.var 3) (.con (.int 0))) (.con .non)) (.cons (.cmp .inn (.idx (.var 3) (.con (.int 0))) (.var 4)) (.cons (.not (.val (.call "remains" (.cons (.var 3) (.cons (.var 1) .nil))))) (.cons (.not (.val (.call "is_within" (.cons (.idx (.var 3) (.con (.int 1))) (.cons (.var 4) .nil))))) .nil)))))
    (.cons (.ret (.con (.bl false)))
    .nil)
    .nil)
    (.cons (.asg (.name 4) (.tup (.star (.var 4) (.cons (.idx (.var 3) (.con (.int 0))) .nil))))
    .nil)))
    (.cons (.ret (.cmp .eq (.blt .tuple (.cons (.blt .sorted (.cons (.var 4) .nil)) .nil)) (.var 1)))
    .nil)))) }
def f_shows : Fn := { np := 3, ns := 6, keep := false, body :=
    (.cons (.ex (.call "need_book" (.cons (.var 0) .nil)))
    (.cons (.ex (.call "need_set" (.cons (.var 0) (.cons (.var 1) .nil))))
    (.cons (.ite (.or (.cons (.not (.val (.isi (.var 2) "tuple"))) (.cons (.cmp .ne (.blt .len (.cons (.var 2) .nil)) (.con (.int 2))) (.cons (.not (.val (.isi (.idx (.var 2) (.con (.int 0))) "str"))) .nil))))
    (.cons (.ret (.con (.bl false)))
    .nil)
    .nil)
    (.cons (.asg (.tup [3, 4]) (.var 2))
    (.cons (.mtch (.var 3)
    (.cons "violated"
    (.cons (.ret (.and (.cons (.call "is_known" (.cons (.var 0) (.cons (.var 4) .nil))) (.cons (.call "violates" (.cons (.var 1) (.cons (.var 4) .nil))) .nil))))
    .nil)
    (.cons "settled"
    (.cons (.ret (.and (.cons (.cmp .eq (.call "violated_in" (.cons (.idx (.var 0) (.con (.int 1))) (.cons (.var 1) .nil))) (.lst false .nil)) (.cons (.call "is_order" (.cons (.var 0) (.cons (.var 1) (.cons (.var 4) .nil)))) .nil))))
    .nil)
    (.cons "smaller"
    (.cons (.ite (.or (.cons (.not (.val (.call "is_set" (.cons (.idx (.var 0) (.con (.int 0))) (.cons (.var 4) .nil))))) (.cons (.cmp .eq (.var 4) (.var 1)) (.cons (.not (.val (.call "is_within" (.cons (.var 4) (.cons (.var 1) .nil))))) .nil))))
    (.cons (.ret (.con (.bl false)))
    .nil)
    .nil)
    (.cons (.ret (.blt .all (.cons (.lc false [5] (.name 5) (.seq (.idx (.var 0) (.con (.int 1)))) .yes (.call "fits_rule" (.cons (.tup (.cons (.var 4) (.cons (.var 1) .nil))) (.cons (.var 5) .nil)))) .nil)))
    .nil))
    .nil))))
    (.cons (.ret (.con (.bl false)))
    .nil)))))) }
def f__law_is_settled : Fn := { np := 3, ns := 4, keep := false, body :=
    (.cons (.ite (.cmp .ne (.lc false [3] (.name 3) (.seq (.var 1)) (.val (.call "_law_violates" (.cons (.var 2) (.cons (.var 3) .nil)))) (.con (.int 1))) (.lst false .nil))
    (.cons (.ret (.con (.bl false)))
    .nil)
    .nil)
    (.cons (.ret (.cmp .eq (.call "_law_least" (.cons (.var 0) (.cons (.var 1) (.cons (.var 2) .nil)))) (.var 2)))
    .nil)) }
def f__law_is_settled_v2 : Fn := { np := 2, ns := 4, keep := false, body :=
    (.cons (.asgC 2 (.lc false [3] (.name 3) (.seq (.var 0)) (.and (.cons (.val (.call "_law_stays" (.cons (.var 3) (.cons (.var 1) .nil)))) (.cons (.not (.val (.call "_law_keeps" (.cons (.var 1) (.cons (.var 3) .nil))))) .nil))) (.var 3)))
    (.cons (.ret (.and (.cons (.cmp .eq (.var 2) (.lst false .nil)) (.cons (.cmp .eq (.call "_law_grown" (.cons (.var 0) (.cons (.var 1) .nil))) (.var 1)) .nil))))
    .nil)) }
def f__law_is_settled_v3 : Fn := { np := 2, ns := 10, keep := false, body :=
    (.cons (.asgC 2 (.lc false [3] (.name 3) (.seq (.var 0)) (.cmp .eq (.lc false [4] (.name 4) (.seq (.idx (.var 3) (.con (.int 2)))) (.cmp .inn (.var 4) (.var 1)) (.var 4)) (.lst false .nil)) (.var 3)))
    (.cons (.asg (.name 5) (.tup .nil))
    (.cons (.for_ (.name 6) (.rng (.con (.int 5)))
    (.cons (.for_ (.tup [7, 8, 9]) (.seq (.var 2))
    (.cons (.ite (.and (.cons (.cmp .notN (.var 7) (.con .non)) (.cons (.cmp .nin (.var 7) (.var 5)) (.cons (.val (.call "_law_is_within" (.cons (.var 8) (.cons (.var 5) .nil)))) .nil))))
    (.cons (.asg (.name 5) (.bin .add (.var 5) (.tup (.cons (.var 7) .nil))))
    .nil)
    .nil)
    .nil))
    .nil))
    (.cons (.ite (.cmp .ne (.blt .tuple (.cons (.blt .sorted (.cons (.var 5) .nil)) .nil)) (.var 1))
    (.cons (.ret (.con (.bl false)))
    .nil)
    .nil)
    (.cons (.ret (.cmp .eq (.lc false [3] (.name 3) (.seq (.var 2)) (.and (.cons (.cmp .isN (.idx (.var 3) (.con (.int 0))) (.con .non)) (.cons (.val (.call "_law_is_within" (.cons (.idx (.var 3) (.con (.int 1))) (.cons (.var 1) .nil)))) .nil))) (.var 3)) (.lst false .nil)))
    .nil))))) }
def f__law_settled : Fn := { np := 2, ns := 3, keep := false, body :=
    (.cons (.ret (.lc false [2] (.name 2) (.seq (.call "_law_sets" (.cons (.var 0) .nil))) (.val (.call "_law_is_settled" (.cons (.var 0) (.cons (.var 1) (.cons (.var 2) .nil))))) (.var 2)))
    .nil) }
def f__law_settled_v2 : Fn := { np := 2, ns := 3, keep := false, body :=
    (.cons (.ret (.lc false [2] (.name 2) (.seq (.call "_law_sets" (.cons (.var 0) .nil))) (.val (.call "_law_is_settled" (.cons (.var 1) (.cons (.var 2) .nil)))) (.var 2)))
    .nil) }
def f__law_settled_v3 : Fn := { np := 2, ns := 3, keep := false, body :=
    (.cons (.ret (.blt .tuple (.cons (.lc false [2] (.name 2) (.seq (.call "_law_sets" (.cons (.var 0) .nil))) (.val (.call "_law_is_settled" (.cons (.var 1) (.cons (.var 2) .nil)))) (.var 2)) .nil)))
    .nil) }
def f__law_within : Fn := { np := 2, ns := 3, keep := false, body :=
    (.cons (.ret (.cmp .eq (.lc false [2] (.name 2) (.seq (.var 0)) (.cmp .nin (.var 2) (.var 1)) (.var 2)) (.lst false .nil)))
    .nil) }
def f__law_fits : Fn := { np := 2, ns := 3, keep := false, body :=
    (.cons (.for_ (.name 2) (.seq (.var 1))
    (.cons (.ite (.and (.cons (.val (.call "_law_remains" (.cons (.var 2) (.cons (.idx (.var 0) (.con (.int 1))) .nil)))) (.cons (.not (.and (.cons (.val (.call "_law_obeys" (.cons (.idx (.var 0) (.con (.int 0))) (.cons (.var 2) .nil)))) (.cons (.val (.call "_law_obeys" (.cons (.idx (.var 0) (.con (.int 1))) (.cons (.var 2) .nil)))) .nil)))) .nil)))
    (.cons (.ret (.con (.bl false)))
    .nil)
    .nil)
    .nil))
    (.cons (.ret (.con (.bl true)))
    .nil)) }
def f__law_fits_v2 : Fn := { np := 2, ns := 4, keep := false, body :=
    (.cons (.asg (.tup [2, 3]) (.var 0))
    (.cons (.ret (.or (.cons (.not (.call "_law_stays" (.cons (.var 1) (.cons (.var 3) .nil)))) (.cons (.and (.cons (.call "_law_keeps" (.cons (.var 3) (.cons (.var 1) .nil))) (.cons (.call "_law_keeps" (.cons (.var 2) (.cons (.var 1) .nil))) .nil))) .nil))))
    .nil)) }
def f__law_fits_v3 : Fn := { np := 3, ns := 7, keep := false, body :=
    (.cons (.for_ (.tup [3, 4, 5]) (.seq (.var 2))
    (.cons (.ite (.cmp .eq (.lc false [6] (.name 6) (.seq (.var 5)) (.cmp .inn (.var 6) (.var 1)) (.var 6)) (.lst false .nil))
    (.cons (.ite (.and (.cons (.val (.call "_law_is_within" (.cons (.var 4) (.cons (.var 1) .nil)))) (.cons (.cmp .nin (.var 3) (.var 1)) .nil)))
    (.cons (.ret (.con (.bl false)))
    .nil)
    .nil)
    (.cons (.ite (.and (.cons (.val (.call "_law_is_within" (.cons (.var 4) (.cons (.var 0) .nil)))) (.cons (.cmp .nin (.var 3) (.var 0)) .nil)))
    (.cons (.ret (.con (.bl false)))
    .nil)
    .nil)
    .nil))
    .nil)
    .nil))
    (.cons (.ret (.con (.bl true)))
    .nil)) }
def f__law_all_pairs : Fn := { np := 1, ns := 5, keep := false, body :=
    (.cons (.par 1 2 (.call "_law_sets" (.cons (.var 0) .nil)) (.lst false .nil))
    (.cons (.for_ (.name 3) (.seq (.var 1))
    (.cons (.asg (.name 2) (.bin .add (.var 2) (.lc false [4] (.name 4) (.seq (.var 1)) (.val (.call "_law_within" (.cons (.var 3) (.cons (.var 4) .nil)))) (.tup (.cons (.var 3) (.cons (.var 4) .nil))))))
    .nil))
    (.cons (.ret (.var 2))
    .nil))) }
def f__law_all_pairs_v2 : Fn := { np := 1, ns := 5, keep := false, body :=
    (.cons (.par 1 2 (.lst true .nil) (.call "_law_sets" (.cons (.var 0) .nil)))
    (.cons (.for_ (.name 3) (.seq (.var 2))
    (.cons (.ex (.mth .extend (.var 1) (.cons (.lc false [4] (.name 4) (.seq (.var 2)) (.val (.call "_law_within" (.cons (.var 3) (.cons (.var 4) .nil)))) (.tup (.cons (.var 3) (.cons (.var 4) .nil)))) .nil)))
    .nil))
    (.cons (.ret (.var 1))
    .nil))) }
def f__law_pairs : Fn := { np := 2, ns := 3, keep := false, body :=
    (.cons (.ret (.blt .tuple (.cons (.lc false [2] (.name 2) (.seq (.call "_law_all_pairs" (.cons (.var 0) .nil))) (.val (.call "_law_fits" (.cons (.var 2) (.cons (.var 1) .nil)))) (.var 2)) .nil)))
    .nil) }
def f__law_pairs_v2 : Fn := { np := 2, ns := 5, keep := false, body :=
    (.cons (.asg (.name 2) (.call "_law_all_pairs" (.cons (.var 0) .nil)))
    (.cons (.for_ (.name 3) (.seq (.var 1))
    (.cons (.asgC 2 (.lc false [4] (.name 4) (.seq (.var 2)) (.val (.call "_law_fits" (.cons (.var 4) (.cons (.var 3) .nil)))) (.var 4)))
    .nil))
    (.cons (.ret (.blt .tuple (.cons (.var 2) .nil)))
    .nil))) }
def f__law_pairs_v3 : Fn := { np := 2, ns := 5, keep := false, body :=
    (.cons (.asg (.name 2) (.lst true .nil))
    (.cons (.for_ (.name 3) (.seq (.call "_law_sets" (.cons (.var 0) .nil)))
    (.cons (.for_ (.name 4) (.seq (.call "_law_sets" (.cons (.var 0) .nil)))
    (.cons (.ite (.and (.cons (.val (.call "_law_is_within" (.cons (.var 4) (.cons (.var 3) .nil)))) (.cons (.val (.call "_law_fits" (.cons (.var 4) (.cons (.var 3) (.cons (.var 1) .nil))))) .nil)))
    (.cons (.ex (.mth .append (.var 2) (.cons (.tup (.cons (.var 4) (.cons (.var 3) .nil))) .nil)))
    .nil)
    .nil)
    .nil))
    .nil))
    (.cons (.ret (.var 2))
    .nil))) }
def f_outside : Fn := { np := 2, ns := 3, keep := false, body :=
    (.cons (.ret (.blt .tuple (.cons (.lc false [2] (.name 2) (.rng (.var 0)) (.cmp .nin (.var 2) (.var 1)) (.var 2)) .nil)))
    .nil) }
def f_are_apart : Fn := { np := 2, ns := 5, keep := false, body :=
    (.cons (.ite (.or (.cons (.not (.val (.isi (.var 1) "tuple"))) (.cons (.not (.val (.blt .all (.cons (.lc false [2] (.name 2) (.seq (.var 1)) .yes (.call "is_set" (.cons (.var 0) (.cons (.var 2) .nil)))) .nil)))) .nil)))
    (.cons (.ret (.con (.bl false)))
    .nil)
    .nil)
    (.cons (.ite (.not (.val (.blt .all (.cons (.lc false [3, 4] (.tup [3, 4]) (.zip (.var 1) (.slc (.var 1) (.some (.con (.int 1))) .none)) .yes (.cmp .lt (.var 3) (.var 4))) .nil))))
    (.cons (.ret (.con (.bl false)))
    .nil)
    .nil)
    (.cons (.ret (.not (.blt .any (.cons (.lc2 [3, 4] [4] (.name 3) (.seq (.var 1)) .yes (.name 4) (.seq (.var 1)) .yes (.and (.cons (.cmp .ne (.var 3) (.var 4)) (.cons (.call "is_within" (.cons (.var 3) (.cons (.var 4) .nil))) .nil)))) .nil))))
    .nil))) }
def f_rules_settling : Fn := { np := 2, ns := 4, keep := false, body :=
    (.cons (.ex (.call "need_atoms" (.cons (.var 0) .nil)))
    (.cons (.ite (.not (.val (.call "are_apart" (.cons (.var 0) (.cons (.var 1) .nil)))))
    (.cons .never
    .nil)
    .nil)
    (.cons (.ite (.cmp .eq (.var 1) (.tup .nil))
    (.cons (.ret (.tup (.cons (.var 0) (.cons (.tup (.cons (.tup (.cons (.con .non) (.cons (.tup .nil) (.cons (.tup .nil) .nil)))) .nil)) .nil))))
    .nil)
    .nil)
    (.cons (.ret (.tup (.cons (.var 0) (.cons (.blt .tuple (.cons (.lc2 [2, 3] [3] (.name 2) (.seq (.var 1)) .yes (.name 3) (.seq (.var 2)) .yes (.tup (.cons (.var 3) (.cons (.tup .nil) (.cons (.call "outside" (.cons (.var 0) (.cons (.var 2) .nil))) .nil))))) .nil)) .nil))))
    .nil)))) }
def f__law_apart : Fn := { np := 2, ns := 6, keep := false, body :=
    (.cons (.asg (.name 2) (.lst true .nil))
    (.cons (.for_ (.name 3) (.rng (.bin .add (.con (.int 1)) (.call "_law_draw" (.cons (.var 0) (.cons (.con (.int 7)) .nil)))))
    (.cons (.asg (.name 4) (.call "_law_some" (.cons (.var 0) (.cons (.var 1) (.cons (.con (.int 3)) .nil)))))
    (.cons (.ite (.not (.val (.blt .any (.cons (.lc false [5] (.name 5) (.seq (.var 2)) .yes (.or (.cons (.call "_law_within" (.cons (.var 4) (.cons (.var 5) .nil))) (.cons (.call "_law_within" (.cons (.var 5) (.cons (.var 4) .nil))) .nil)))) .nil))))
    (.cons (.ex (.mth .append (.var 2) (.cons (.var 4) .nil)))
    .nil)
    .nil)
    .nil)))
    (.cons (.ret (.ite (.cmp .gt (.call "_law_draw" (.cons (.var 0) (.cons (.con (.int 9)) .nil))) (.con (.int 0))) (.blt .tuple (.cons (.blt .sorted (.cons (.var 2) .nil)) .nil)) (.tup .nil)))
    .nil))) }
def f__law_is_refused : Fn := { np := 2, ns := 2, keep := false, body :=
    (.cons .never
    (.cons (.ret (.con (.bl false)))
    .nil)) }
def f__law_many_v3 : Fn := { np := 3, ns := 8, keep := false, body :=
    (.cons (.asg (.name 3) (.tup (.cons (.con (.int 8)) (.cons (.con (.int 48)) (.cons (.con (.int 256)) (.cons (.con (.int 1280)) .nil))))))
    (.cons (.asg (.name 4) (.bin .mod (.var 0) (.idx (.var 3) (.bin .sub (.var 1) (.con (.int 1))))))
    (.cons (.asgC 5 (.lc false [6] (.name 6) (.rng (.blt .min (.cons (.var 2) (.cons (.idx (.var 3) (.bin .sub (.var 1) (.con (.int 1)))) .nil)))) .yes (.bin .mod (.bin .add (.var 4) (.bin .mul (.con (.int 7)) (.var 6))) (.idx (.var 3) (.bin .sub (.var 1) (.con (.int 1)))))))
    (.cons (.ret (.blt .tuple (.cons (.lc false [7] (.name 7) (.seq (.var 5)) .yes (.call "_law_numbered" (.cons (.var 7) (.cons (.var 1) .nil)))) .nil)))
    .nil)))) }
def f__law_is_pair : Fn := { np := 2, ns := 2, keep := false, body :=
    (.cons (.ite (.or (.cons (.not (.val (.isi (.var 1) "tuple"))) (.cons (.cmp .ne (.blt .len (.cons (.var 1) .nil)) (.con (.int 2))) .nil)))
    (.cons (.ret (.con (.bl false)))
    .nil)
    .nil)
    (.cons (.ret (.and (.cons (.call "_law_is_set" (.cons (.var 0) (.cons (.idx (.var 1) (.con (.int 0))) .nil))) (.cons (.call "_law_is_set" (.cons (.var 0) (.cons (.idx (.var 1) (.con (.int 1))) .nil))) (.cons (.call "_law_within" (.cons (.idx (.var 1) (.con (.int 0))) (.cons (.idx (.var 1) (.con (.int 1))) .nil))) .nil)))))
    .nil)) }
def f_common : Fn := { np := 2, ns := 3, keep := false, body :=
    (.cons (.ret (.blt .tuple (.cons (.lc false [2] (.name 2) (.seq (.var 0)) (.cmp .inn (.var 2) (.var 1)) (.var 2)) .nil)))
    .nil) }
def f_is_closed : Fn := { np := 3, ns := 5, keep := false, body :=
    (.cons (.ite (.cmp .nin (.tup (.cons (.var 2) (.cons (.var 2) .nil))) (.var 0))
    (.cons (.ret (.con (.bl false)))
    .nil)
    .nil)
    (.cons (.for_ (.tup [3, 4]) (.dks (.var 0))
    (.cons (.ite (.and (.cons (.cmp .eq (.var 3) (.var 4)) (.cons (.val (.call "is_within" (.cons (.var 2) (.cons (.var 4) .nil)))) (.cons (.cmp .nin (.tup (.cons (.var 1) (.cons (.var 4) .nil))) (.var 0)) .nil))))
    (.cons (.ret (.con (.bl false)))
    .nil)
    .nil)
    (.cons (.ite (.and (.cons (.cmp .eq (.var 4) (.var 2)) (.cons (.cmp .nin (.tup (.cons (.call "common" (.cons (.var 1) (.cons (.var 3) .nil))) (.cons (.var 2) .nil))) (.var 0)) .nil)))
    (.cons (.ret (.con (.bl false)))
    .nil)
    .nil)
    .nil)))
    (.cons (.ret (.con (.bl true)))
    .nil))) }
def f_is_table : Fn := { np := 2, ns := 8, keep := false, body :=
    (.cons (.ex (.call "need_atoms" (.cons (.var 0) .nil)))
    (.cons (.ite (.or (.cons (.not (.val (.isi (.var 1) "tuple"))) (.cons (.not (.val (.blt .all (.cons (.lc false [2] (.name 2) (.seq (.var 1)) .yes (.call "is_pair" (.cons (.var 0) (.cons (.var 2) .nil)))) .nil)))) .nil)))
    (.cons (.ret (.con (.bl false)))
    .nil)
    .nil)
    (.cons (.ite (.not (.val (.blt .all (.cons (.lc false [3, 4] (.tup [3, 4]) (.zip (.var 1) (.slc (.var 1) (.some (.con (.int 1))) .none)) .yes (.cmp .lt (.var 3) (.var 4))) .nil))))
    (.cons (.ret (.con (.bl false)))
    .nil)
    .nil)
    (.cons (.asg (.name 5) (.dcN 2 [2] (.var 1)))
    (.cons (.ret (.blt .all (.cons (.lc false [6, 7] (.tup [6, 7]) (.seq (.var 1)) .yes (.call "is_closed" (.cons (.var 5) (.cons (.var 6) (.cons (.var 7) .nil))))) .nil)))
    .nil))))) }
def f__law_more : Fn := { np := 1, ns := 7, keep := false, body :=
    (.cons (.asg (.name 1) (.lst true .nil))
    (.cons (.for_ (.tup [2, 3]) (.seq (.var 0))
    (.cons (.ex (.mth .append (.var 1) (.cons (.tup (.cons (.var 3) (.cons (.var 3) .nil))) .nil)))
    (.cons (.for_ (.tup [4, 5]) (.seq (.var 0))
    (.cons (.ite (.and (.cons (.cmp .eq (.var 4) (.var 5)) (.cons (.val (.call "_law_within" (.cons (.var 3) (.cons (.var 5) .nil)))) .nil)))
    (.cons (.ex (.mth .append (.var 1) (.cons (.tup (.cons (.var 2) (.cons (.var 5) .nil))) .nil)))
    .nil)
    .nil)
    (.cons (.ite (.cmp .eq (.var 5) (.var 3))
    (.cons (.ex (.mth .append (.var 1) (.cons (.tup (.cons (.blt .tuple (.cons (.lc false [6] (.name 6) (.seq (.var 2)) (.cmp .inn (.var 6) (.var 4)) (.var 6)) .nil)) (.cons (.var 3) .nil))) .nil)))
    .nil)
    .nil)
    .nil)))
    .nil)))
    (.cons (.ret (.var 1))
    .nil))) }
def f__law_is_table : Fn := { np := 2, ns := 3, keep := false, body :=
    (.cons (.ite (.or (.cons (.not (.val (.isi (.var 1) "tuple"))) (.cons (.not (.val (.blt .all (.cons (.lc false [2] (.name 2) (.seq (.var 1)) .yes (.call "_law_is_pair" (.cons (.var 0) (.cons (.var 2) .nil)))) .nil)))) .nil)))
    (.cons (.ret (.con (.bl false)))
    .nil)
    .nil)
    (.cons (.ite (.cmp .ne (.blt .list (.cons (.var 1) .nil)) (.sortedSet (.var 1)))
    (.cons (.ret (.con (.bl false)))
    .nil)
    .nil)
    (.cons (.ret (.cmp .eq (.lc false [2] (.name 2) (.seq (.call "_law_more" (.cons (.var 1) .nil))) (.cmp .nin (.var 2) (.var 1)) (.con (.int 1))) (.lst false .nil)))
    .nil))) }
def f__law_closed : Fn := { np := 1, ns := 3, keep := false, body :=
    (.cons (.par 1 2 (.sortedSet (.var 0)) (.neg (.con (.int 1))))
    (.cons (.whl (.cmp .lt (.var 2) (.blt .len (.cons (.var 1) .nil)))
    (.cons (.asg (.name 2) (.blt .len (.cons (.var 1) .nil)))
    (.cons (.asg (.name 1) (.sortedSet (.bin .add (.var 1) (.call "_law_more" (.cons (.var 1) .nil)))))
    .nil)))
    (.cons (.ret (.blt .tuple (.cons (.var 1) .nil)))
    .nil))) }
def f__law_table : Fn := { np := 2, ns := 4, keep := false, body :=
    (.cons (.asg (.name 2) (.call "_law_all_pairs" (.cons (.var 1) .nil)))
    (.cons (.ite (.cmp .eq (.call "_law_draw" (.cons (.var 0) (.cons (.con (.int 3)) .nil))) (.con (.int 0)))
    (.cons (.ret (.call "_law_pairs" (.cons (.var 1) (.cons (.lc false [3] (.name 3) (.rng (.call "_law_draw" (.cons (.var 0) (.cons (.con (.int 5)) .nil)))) .yes (.call "_law_rule" (.cons (.var 0) (.cons (.var 1) .nil)))) .nil))))
    .nil)
    .nil)
    (.cons (.ret (.call "_law_closed" (.cons (.lc false [3] (.name 3) (.rng (.call "_law_draw" (.cons (.var 0) (.cons (.con (.int 7)) .nil)))) .yes (.call "_law_pick" (.cons (.var 0) (.cons (.var 2) .nil)))) .nil)))
    .nil))) }
def f_missing_atom : Fn := { np := 3, ns := 7, keep := false, body :=
    (.cons (.asg (.name 3) (.lc false [4, 5] (.tup [4, 5]) (.seq (.var 0)) (.and (.cons (.cmp .eq (.var 5) (.var 2)) (.cons (.val (.call "is_within" (.cons (.var 1) (.cons (.var 4) .nil)))) .nil))) (.var 4)))
    (.cons (.ret (.idx (.lc false [6] (.name 6) (.seq (.var 2)) (.and (.cons (.cmp .nin (.var 6) (.var 1)) (.cons (.val (.blt .all (.cons (.lc false [4] (.name 4) (.seq (.var 3)) .yes (.cmp .inn (.var 6) (.var 4))) .nil))) .nil))) (.var 6)) (.con (.int 0))))
    .nil)) }
def f_rules_of : Fn := { np := 2, ns := 5, keep := false, body :=
    (.cons (.ite (.not (.val (.call "is_table" (.cons (.var 0) (.cons (.var 1) .nil)))))
    (.cons .never
    .nil)
    .nil)
    (.cons (.asg (.name 2) (.lst true .nil))
    (.cons (.for_ (.name 3) (.seq (.call "sets_of" (.cons (.var 0) .nil)))
    (.cons (.ite (.cmp .nin (.tup (.cons (.var 3) (.cons (.var 3) .nil))) (.var 1))
    (.cons (.ex (.mth .append (.var 2) (.cons (.tup (.cons (.con .non) (.cons (.var 3) (.cons (.call "outside" (.cons (.var 0) (.cons (.var 3) .nil))) .nil)))) .nil)))
    .nil)
    (.cons (.for_ (.name 4) (.seq (.call "sets_of" (.cons (.var 0) .nil)))
    (.cons (.ite (.and (.cons (.val (.call "is_within" (.cons (.var 4) (.cons (.var 3) .nil)))) (.cons (.cmp .nin (.tup (.cons (.var 4) (.cons (.var 3) .nil))) (.var 1)) .nil)))
    (.cons (.ex (.mth .append (.var 2) (.cons (.tup (.cons (.call "missing_atom" (.cons (.var 1) (.cons (.var 4) (.cons (.var 3) .nil)))) (.cons (.var 4) (.cons (.call "outside" (.cons (.var 0) (.cons (.var 3) .nil))) .nil)))) .nil)))
    .nil)
    .nil)
    .nil))
    .nil))
    .nil))
    (.cons (.ret (.tup (.cons (.var 0) (.cons (.blt .tuple (.cons (.var 2) .nil)) .nil))))
    .nil)))) }
def f_need_books : Fn := { np := 1, ns := 2, keep := false, star := true, body :=
    (.cons (.ite (.not (.val (.blt .all (.cons (.lc false [1] (.name 1) (.seq (.var 0)) .yes (.call "is_rulebook" (.cons (.var 1) .nil))) .nil))))
    (.cons .never
    .nil)
    .nil)
    (.cons (.ite (.val (.blt .any (.cons (.lc false [1] (.name 1) (.seq (.var 0)) .yes (.cmp .ne (.idx (.var 1) (.con (.int 0))) (.idx (.idx (.var 0) (.con (.int 0))) (.con (.int 0))))) .nil)))
    (.cons .never
    .nil)
    .nil)
    .nil)) }
def f_union_of : Fn := { np := 2, ns := 3, keep := false, body :=
    (.cons (.ret (.bin .add (.var 0) (.blt .tuple (.cons (.lc false [2] (.name 2) (.seq (.var 1)) (.cmp .nin (.var 2) (.var 0)) (.var 2)) .nil))))
    .nil) }
def f_round_of : Fn := { np := 1, ns := 3, keep := false, body :=
    (.cons (.ret (.blt .tuple (.cons (.lc2 [1, 2] [2] (.name 1) (.seq (.var 0)) .yes (.name 2) (.seq (.var 0)) (.cmp .ne (.var 1) (.var 2)) (.tup (.cons (.var 1) (.cons (.tup (.cons (.var 2) .nil)) (.cons (.tup .nil) .nil))))) .nil)))
    .nil) }
def f_context_for : Fn := { np := 3, ns := 4, keep := false, body :=
    (.cons (.ite (.val (.var 2))
    (.cons (.ret (.call "facts_of" (.cons (.var 1) .nil)))
    .nil)
    .nil)
    (.cons (.ret (.bin .add (.call "facts_of" (.cons (.var 0) .nil)) (.call "round_of" (.cons (.lc false [3] (.name 3) (.seq (.var 1)) (.cmp .nin (.var 3) (.var 0)) (.var 3)) .nil))))
    .nil)) }
def f_context_for_v2 : Fn := { np := 3, ns := 4, keep := false, body :=
    (.cons (.ite (.val (.var 2))
    (.cons .never
    .nil)
    .nil)
    (.cons .never
    .nil)) }
def f_compare : Fn := { np := 2, ns := 10, keep := false, body :=
    (.cons (.ex (.callS "need_books" (.cons (.var 0) (.cons (.var 1) .nil))))
    (.cons (.asg (.name 2) (.idx (.var 0) (.con (.int 0))))
    (.cons (.asg (.tup [3, 4]) (.tup (.cons (.call "marks_of_all" (.cons (.var 2) (.cons (.idx (.var 0) (.con (.int 1))) .nil))) (.cons (.call "marks_of_all" (.cons (.var 2) (.cons (.idx (.var 1) (.con (.int 1))) .nil))) .nil))))
    (.cons (.ite (.cmp .eq (.var 3) (.var 4))
    (.cons (.ret (.tup (.cons (.glb "SAME" (.str "same")) (.cons (.call "pairs_in" (.cons (.var 2) (.cons (.var 3) .nil))) .nil))))
    .nil)
    .nil)
    (.cons (.asgC 5 (.lc false [6, 7] (.tup [6, 7]) (.enm (.call "all_pairs" (.cons (.var 2) .nil))) (.cmp .ne (.bin .band (.bin .shr (.var 3) (.var 6)) (.con (.int 1))) (.bin .band (.bin .shr (.var 4) (.var 6)) (.con (.int 1)))) (.var 7)))
    (.cons (.asg (.tup [8, 9]) (.idx (.var 5) (.con (.int 0))))
    (.cons (.ret (.tup (.cons (.glb "DIFFER" (.str "differ")) (.cons (.tup (.cons (.var 2) (.cons (.call "context_for" (.cons (.var 8) (.cons (.var 9) (.cons (.cmp .inn (.tup (.cons (.var 9) (.cons (.var 9) .nil))) (.var 5)) .nil)))) .nil))) (.cons (.var 9) .nil)))))
    .nil))))))) }
def f_apart : Fn := { np := 3, ns := 7, keep := false, body :=
    (.cons (.ex (.callS "need_books" (.cons (.var 0) (.cons (.var 1) (.cons (.var 2) .nil)))))
    (.cons (.asg (.name 3) (.call "settled_sets" (.cons (.idx (.var 0) (.con (.int 0))) (.cons (.call "union_of" (.cons (.idx (.var 0) (.con (.int 1))) (.cons (.idx (.var 2) (.con (.int 1))) .nil))) .nil))))
    (.cons (.asg (.name 4) (.call "settled_sets" (.cons (.idx (.var 0) (.con (.int 0))) (.cons (.call "union_of" (.cons (.idx (.var 1) (.con (.int 1))) (.cons (.idx (.var 2) (.con (.int 1))) .nil))) .nil))))
    (.cons (.asg (.name 5) (.blt .tuple (.cons (.lc false [6] (.name 6) (.seq (.var 3)) (.cmp .nin (.var 6) (.var 4)) (.var 6)) .nil)))
    (.cons (.ret (.tup (.cons (.var 5) (.cons (.blt .tuple (.cons (.lc false [6] (.name 6) (.seq (.var 4)) (.cmp .nin (.var 6) (.var 3)) (.var 6)) .nil)) .nil))))
    .nil))))) }
def f_is_greatest : Fn := { np := 3, ns := 5, keep := false, body :=
    (.cons (.ret (.not (.blt .any (.cons (.lc false [3, 4] (.tup [3, 4]) (.seq (.var 0)) .yes (.and (.cons (.cmp .eq (.var 4) (.var 2)) (.cons (.cmp .nin (.var 3) (.tup (.cons (.var 1) (.cons (.var 2) .nil)))) (.cons (.call "is_within" (.cons (.var 1) (.cons (.var 3) .nil))) .nil))))) .nil))))
    .nil) }
def f_kernel_of : Fn := { np := 2, ns := 4, keep := false, body :=
    (.cons (.asg (.name 2) (.call "pairs_of" (.cons (.var 0) (.cons (.var 1) .nil))))
    (.cons (.ret (.blt .tuple (.cons (.lc false [3] (.name 3) (.seq (.var 2)) (.or (.cons (.cmp .eq (.idx (.var 3) (.con (.int 0))) (.idx (.var 3) (.con (.int 1)))) (.cons (.val (.call "is_greatest" (.cons (.var 2) (.cons (.idx (.var 3) (.con (.int 0))) (.cons (.idx (.var 3) (.con (.int 1))) .nil))))) .nil))) (.var 3)) .nil)))
    .nil)) }
def f_kernel : Fn := { np := 1, ns := 1, keep := false, body :=
    (.cons (.ex (.call "need_book" (.cons (.var 0) .nil)))
    (.cons (.ret (.call "kernel_of" (.cons (.idx (.var 0) (.con (.int 0))) (.cons (.idx (.var 0) (.con (.int 1))) .nil))))
    .nil)) }
def f_settled_with : Fn := { np := 2, ns := 2, keep := false, body :=
    (.cons (.ex (.call "need_book" (.cons (.var 0) .nil)))
    (.cons (.ex (.call "need_set" (.cons (.var 0) (.cons (.var 1) .nil))))
    (.cons (.ret (.blt .tuple (.cons (.call "settled_sets" (.cons (.idx (.var 0) (.con (.int 0))) (.cons (.bin .add (.idx (.var 0) (.con (.int 1))) (.call "facts_of" (.cons (.var 1) .nil))) .nil))) .nil)))
    .nil))) }
def f_settled_with_v2 : Fn := { np := 2, ns := 2, keep := false, body :=
    (.cons (.ex (.call "need_book" (.cons (.var 0) .nil)))
    (.cons (.ex (.call "need_set" (.cons (.var 0) (.cons (.var 1) .nil))))
    (.cons .never
    .nil))) }
def f__law_kernel_v2 : Fn := { np := 2, ns := 9, keep := false, body :=
    (.cons (.par 2 3 (.lst true .nil) (.call "_law_pairs" (.cons (.var 0) (.cons (.var 1) .nil))))
    (.cons (.for_ (.tup [4, 5]) (.seq (.var 3))
    (.cons (.asgC 6 (.lc false [7, 8] (.tup [7, 8]) (.seq (.var 3)) (.and (.cons (.cmp .eq (.var 8) (.var 5)) (.cons (.cmp .nin (.var 7) (.tup (.cons (.var 4) (.cons (.var 5) .nil)))) .nil))) (.var 7)))
    (.cons (.ite (.or (.cons (.cmp .eq (.var 4) (.var 5)) (.cons (.cmp .eq (.lc false [7] (.name 7) (.seq (.var 6)) (.val (.call "_law_within" (.cons (.var 4) (.cons (.var 7) .nil)))) (.var 7)) (.lst false .nil)) .nil)))
    (.cons (.ex (.mth .append (.var 2) (.cons (.tup (.cons (.var 4) (.cons (.var 5) .nil))) .nil)))
    .nil)
    .nil)
    .nil)))
    (.cons (.ret (.blt .tuple (.cons (.var 2) .nil)))
    .nil))) }
def f__law_cell : Fn := { np := 2, ns := 2, keep := false, body :=
    (.cons (.ite (.cmp .lt (.var 1) (.blt .len (.cons (.var 0) .nil)))
    (.cons (.ret (.idx (.var 0) (.var 1)))
    .nil)
    .nil)
    (.cons (.ret (.con (.int 0)))
    .nil)) }
def f__law_source : Fn := { np := 1, ns := 1, keep := true, body :=
    (.cons (.ret (.lst true (.cons (.blt .max (.cons (.con (.int 0)) (.cons (.bin .sub (.var 0) (.bin .pow (.con (.int 10)) (.con (.int 18)))) .nil))) (.cons (.bin .add (.bin .mod (.var 0) (.con (.int 2147483629))) (.con (.int 1))) (.cons (.con (.int 0)) .nil)))))
    .nil) }
def f__law_choose : Fn := { np := 2, ns := 2, keep := false, body :=
    (.cons (.ret (.idx (.var 1) (.call "_law_draw" (.cons (.var 0) (.cons (.blt .len (.cons (.var 1) .nil)) .nil)))))
    .nil) }
def f__law_is_equal : Fn := { np := 2, ns := 2, keep := false, body :=
    (.cons (.ret (.cmp .eq (.blt .«repr» (.cons (.var 0) .nil)) (.blt .«repr» (.cons (.var 1) .nil))))
    .nil) }
def f__law_stays : Fn := { np := 2, ns := 3, keep := false, body :=
    (.cons (.ret (.cmp .eq (.lc false [2] (.name 2) (.seq (.idx (.var 0) (.con (.int 2)))) (.cmp .inn (.var 2) (.var 1)) (.var 2)) (.lst false .nil)))
    .nil) }
def f__law_keeps : Fn := { np := 2, ns := 2, keep := false, body :=
    (.cons (.ret (.or (.cons (.cmp .inn (.idx (.var 1) (.con (.int 0))) (.var 0)) (.cons (.not (.call "_law_within" (.cons (.idx (.var 1) (.con (.int 1))) (.cons (.var 0) .nil)))) .nil))))
    .nil) }
def f__law_joined : Fn := { np := 2, ns := 3, keep := false, body :=
    (.cons (.ret (.bin .add (.var 0) (.blt .tuple (.cons (.lc false [2] (.name 2) (.seq (.var 1)) (.cmp .nin (.var 2) (.var 0)) (.var 2)) .nil))))
    .nil) }
def f__law_facts : Fn := { np := 1, ns := 2, keep := false, body :=
    (.cons (.ret (.blt .tuple (.cons (.lc false [1] (.name 1) (.seq (.var 0)) .yes (.tup (.cons (.var 1) (.cons (.tup .nil) (.cons (.tup .nil) .nil))))) .nil)))
    .nil) }
def f__law_part : Fn := { np := 3, ns := 4, keep := false, body :=
    (.cons (.ret (.blt .tuple (.cons (.lc false [3] (.name 3) (.rng (.var 1)) (.cmp .eq (.call "_law_draw" (.cons (.var 0) (.cons (.var 2) .nil))) (.con (.int 0))) (.var 3)) .nil)))
    .nil) }
def f__law_rules : Fn := { np := 3, ns := 6, keep := false, body :=
    (.cons (.asg (.name 3) (.lst true .nil))
    (.cons (.for_ (.name 4) (.rng (.call "_law_draw" (.cons (.var 0) (.cons (.bin .add (.var 2) (.con (.int 1))) .nil))))
    (.cons (.asg (.name 5) (.call "_law_rule" (.cons (.var 0) (.cons (.var 1) .nil))))
    (.cons (.ite (.cmp .nin (.var 5) (.var 3))
    (.cons (.ex (.mth .append (.var 3) (.cons (.var 5) .nil)))
    .nil)
    .nil)
    .nil)))
    (.cons (.ret (.blt .tuple (.cons (.var 3) .nil)))
    .nil))) }
def f__law_rules_v2 : Fn := { np := 3, ns := 7, keep := false, body :=
    (.cons (.asg (.name 3) (.call "_law_draws" (.cons (.var 0) (.cons (.bin .add (.lst false (.cons (.bin .add (.var 2) (.con (.int 1))) .nil)) (.bin .mul (.lst false (.cons (.con (.int 1000003)) .nil)) (.var 2))) .nil))))
    (.cons (.asg (.name 4) (.tup .nil))
    (.cons (.for_ (.name 5) (.rng (.idx (.var 3) (.con (.int 0))))
    (.cons (.asg (.name 6) (.call "_law_rule" (.cons (.idx (.var 3) (.bin .add (.var 5) (.con (.int 1)))) (.cons (.var 1) .nil))))
    (.cons (.ite (.cmp .nin (.var 6) (.var 4))
    (.cons (.asg (.name 4) (.bin .add (.var 4) (.tup (.cons (.var 6) .nil))))
    .nil)
    .nil)
    .nil)))
    (.cons (.ret (.var 4))
    .nil)))) }
def f__law_atoms : Fn := { np := 1, ns := 1, keep := false, body :=
    (.cons (.ret (.call "_law_choose" (.cons (.var 0) (.cons (.lst false (.cons (.con (.int 1)) (.cons (.con (.int 2)) (.cons (.con (.int 2)) (.cons (.con (.int 3)) (.cons (.con (.int 3)) (.cons (.con (.int 3)) (.cons (.con (.int 4)) .nil)))))))) .nil))))
    .nil) }
def f__law_twin : Fn := { np := 3, ns := 10, keep := false, body :=
    (.cons (.asg (.name 3) (.call "_law_draw" (.cons (.var 0) (.cons (.con (.int 7)) .nil))))
    (.cons (.ite (.or (.cons (.cmp .eq (.var 2) (.tup .nil)) (.cons (.cmp .eq (.var 3) (.con (.int 0))) .nil)))
    (.cons (.ret (.call "_law_joined" (.cons (.rev (.var 2)) (.cons (.call "_law_rules" (.cons (.var 0) (.cons (.var 1) (.cons (.con (.int 1)) .nil)))) .nil))))
    .nil)
    .nil)
    (.cons (.asg (.name 4) (.call "_law_draw" (.cons (.var 0) (.cons (.blt .len (.cons (.var 2) .nil)) .nil))))
    (.cons (.asg (.tup [5, 6, 7]) (.idx (.var 2) (.var 4)))
    (.cons (.ite (.cmp .eq (.var 3) (.con (.int 1)))
    (.cons (.ret (.call "_law_joined" (.cons (.rev (.var 2)) (.cons (.tup (.cons (.tup (.cons (.var 5) (.cons (.blt .tuple (.cons (.sortedSet (.bin .add (.var 6) (.call "_law_part" (.cons (.var 0) (.cons (.var 1) (.cons (.con (.int 2)) .nil)))))) .nil)) (.cons (.var 7) .nil)))) .nil)) .nil))))
    .nil)
    .nil)
    (.cons (.ite (.cmp .eq (.var 3) (.con (.int 2)))
    (.cons (.ret (.call "_law_joined" (.cons (.var 2) (.cons (.tup (.cons (.tup (.cons (.var 5) (.cons (.var 6) (.cons (.blt .tuple (.cons (.sortedSet (.bin .add (.var 7) (.call "_law_part" (.cons (.var 0) (.cons (.var 1) (.cons (.con (.int 2)) .nil)))))) .nil)) .nil)))) .nil)) .nil))))
    .nil)
    .nil)
    (.cons (.ite (.cmp .eq (.var 3) (.con (.int 3)))
    (.cons (.ret (.bin .add (.slc (.var 2) .none (.some (.var 4))) (.slc (.var 2) (.some (.bin .add (.var 4) (.con (.int 1)))) .none)))
    .nil)
    .nil)
    (.cons (.ite (.cmp .eq (.var 3) (.con (.int 4)))
    (.cons (.asg (.name 8) (.ite (.cmp .ne (.var 6) (.tup .nil)) (.tup (.cons (.var 5) (.cons (.slc (.var 6) (.some (.con (.int 1))) .none) (.cons (.var 7) .nil)))) (.tup (.cons (.var 5) (.cons (.var 6) (.cons (.slc (.var 7) (.some (.con (.int 1))) .none) .nil))))))
    (.cons (.ret (.call "_law_joined" (.cons (.bin .add (.slc (.var 2) .none (.some (.var 4))) (.slc (.var 2) (.some (.bin .add (.var 4) (.con (.int 1)))) .none)) (.cons (.tup (.cons (.var 8) .nil)) .nil))))
    .nil))
    .nil)
    (.cons (.ite (.cmp .eq (.var 3) (.con (.int 5)))
    (.cons (.asg (.name 9) (.call "_law_draw" (.cons (.var 0) (.cons (.var 1) .nil))))
    (.cons (.ret (.call "_law_joined" (.cons (.var 2) (.cons (.tup (.cons (.tup (.cons (.var 9) (.cons (.tup (.cons (.var 9) .nil)) (.cons (.tup .nil) .nil)))) (.cons (.tup (.cons (.con .non) (.cons (.tup (.cons (.var 9) .nil)) (.cons (.tup (.cons (.var 9) .nil)) .nil)))) .nil))) .nil))))
    .nil))
    .nil)
    (.cons (.ret (.call "_law_rules" (.cons (.var 0) (.cons (.var 1) (.cons (.con (.int 5)) .nil)))))
    .nil)))))))))) }
def f__law_two : Fn := { np := 1, ns := 3, keep := false, body :=
    (.cons (.asg (.name 1) (.call "_law_atoms" (.cons (.var 0) .nil)))
    (.cons (.asg (.name 2) (.call "_law_rules" (.cons (.var 0) (.cons (.var 1) (.cons (.con (.int 5)) .nil)))))
    (.cons (.ret (.tup (.cons (.var 1) (.cons (.var 2) (.cons (.call "_law_twin" (.cons (.var 0) (.cons (.var 1) (.cons (.var 2) .nil)))) .nil)))))
    .nil))) }
def f__law_round : Fn := { np := 1, ns := 4, keep := false, body :=
    (.cons (.asg (.name 1) (.lst true .nil))
    (.cons (.for_ (.name 2) (.seq (.var 0))
    (.cons (.ex (.mth .extend (.var 1) (.cons (.lc false [3] (.name 3) (.seq (.var 0)) (.cmp .ne (.var 3) (.var 2)) (.tup (.cons (.var 2) (.cons (.tup (.cons (.var 3) .nil)) (.cons (.tup .nil) .nil))))) .nil)))
    .nil))
    (.cons (.ret (.blt .tuple (.cons (.var 1) .nil)))
    .nil))) }
def f_is_apart : Fn := { np := 4, ns := 6, keep := false, body :=
    (.cons (.par 4 5 (.call "union_of" (.cons (.idx (.var 0) (.con (.int 1))) (.cons (.idx (.var 2) (.con (.int 1))) .nil))) (.call "union_of" (.cons (.idx (.var 1) (.con (.int 1))) (.cons (.idx (.var 2) (.con (.int 1))) .nil))))
    (.cons (.ret (.cmp .ne (.call "is_settled_in" (.cons (.var 4) (.cons (.var 3) .nil))) (.call "is_settled_in" (.cons (.var 5) (.cons (.var 3) .nil)))))
    .nil)) }
def f_shows_compare : Fn := { np := 3, ns := 8, keep := false, body :=
    (.cons (.ex (.callS "need_books" (.cons (.var 0) (.cons (.var 1) .nil))))
    (.cons (.asg (.name 3) (.idx (.var 0) (.con (.int 0))))
    (.cons (.ite (.or (.cons (.not (.val (.isi (.var 2) "tuple"))) (.cons (.cmp .lt (.blt .len (.cons (.var 2) .nil)) (.con (.int 2))) (.cons (.not (.val (.isi (.idx (.var 2) (.con (.int 0))) "str"))) .nil))))
    (.cons (.ret (.con (.bl false)))
    .nil)
    .nil)
    (.cons (.ite (.and (.cons (.cmp .eq (.idx (.var 2) (.con (.int 0))) (.glb "SAME" (.str "same"))) (.cons (.cmp .eq (.blt .len (.cons (.var 2) .nil)) (.con (.int 2))) (.cons (.val (.isi (.idx (.var 2) (.con (.int 1))) "tuple")) .nil))))
    (.cons (.asg (.name 4) (.blt .all (.cons (.lc false [5] (.name 5) (.seq (.idx (.var 2) (.con (.int 1)))) .yes (.call "is_pair" (.cons (.var 3) (.cons (.var 5) .nil)))) .nil)))
    (.cons (.ret (.and (.cons (.var 4) (.cons (.cmp .eq (.idx (.var 2) (.con (.int 1))) (.call "pairs_of" (.cons (.var 3) (.cons (.idx (.var 0) (.con (.int 1))) .nil)))) (.cons (.cmp .eq (.idx (.var 2) (.con (.int 1))) (.call "pairs_of" (.cons (.var 3) (.cons (.idx (.var 1) (.con (.int 1))) .nil)))) .nil)))))
    .nil))
    .nil)
    (.cons (.ite (.or (.cons (.cmp .ne (.idx (.var 2) (.con (.int 0))) (.glb "DIFFER" (.str "differ"))) (.cons (.cmp .ne (.blt .len (.cons (.var 2) .nil)) (.con (.int 3))) .nil)))
    (.cons (.ret (.con (.bl false)))
    .nil)
    .nil)
    (.cons (.par 6 7 (.idx (.var 2) (.con (.int 1))) (.idx (.var 2) (.con (.int 2))))
    (.cons (.ite (.or (.cons (.not (.val (.call "is_rulebook" (.cons (.var 6) .nil)))) (.cons (.cmp .ne (.idx (.var 6) (.con (.int 0))) (.var 3)) (.cons (.not (.val (.call "is_set" (.cons (.var 3) (.cons (.var 7) .nil))))) .nil))))
    (.cons (.ret (.con (.bl false)))
    .nil)
    .nil)
    (.cons (.ret (.call "is_apart" (.cons (.var 0) (.cons (.var 1) (.cons (.var 6) (.cons (.var 7) .nil))))))
    .nil)))))))) }
def f__law_is_integer : Fn := { np := 1, ns := 1, keep := false, body :=
    (.cons (.ret (.and (.cons (.isi (.var 0) "int") (.cons (.not (.isi (.var 0) "bool")) .nil))))
    .nil) }
def f__law_grown : Fn := { np := 2, ns := 6, keep := false, body :=
    (.cons (.par 2 3 (.lst true .nil) (.lc false [4] (.name 4) (.seq (.var 0)) (.and (.cons (.cmp .notN (.idx (.var 4) (.con (.int 0))) (.con .non)) (.cons (.val (.call "_law_stays" (.cons (.var 4) (.cons (.var 1) .nil)))) .nil))) (.var 4)))
    (.cons (.for_ (.name 5) (.rng (.con (.int 4)))
    (.cons (.for_ (.name 4) (.seq (.var 3))
    (.cons (.ite (.and (.cons (.cmp .nin (.idx (.var 4) (.con (.int 0))) (.var 2)) (.cons (.val (.call "_law_within" (.cons (.idx (.var 4) (.con (.int 1))) (.cons (.var 2) .nil)))) .nil)))
    (.cons (.ex (.mth .append (.var 2) (.cons (.idx (.var 4) (.con (.int 0))) .nil)))
    .nil)
    .nil)
    .nil))
    .nil))
    (.cons (.ret (.blt .tuple (.cons (.blt .sorted (.cons (.var 2) .nil)) .nil)))
    .nil))) }
def f_is_told : Fn := { np := 4, ns := 5, keep := false, body :=
    (.cons .never
    (.cons (.ret (.cmp .ne (.call "is_settled_in" (.cons (.bin .add (.idx (.var 0) (.con (.int 1))) (.var 4)) (.cons (.var 3) .nil))) (.call "is_settled_in" (.cons (.bin .add (.idx (.var 1) (.con (.int 1))) (.var 4)) (.cons (.var 3) .nil)))))
    .nil)) }
def f_is_told_v2 : Fn := { np := 4, ns := 5, keep := false, body :=
    (.cons (.asg (.name 4) (.call "facts_of" (.cons (.var 2) .nil)))
    (.cons (.ret (.cmp .ne (.call "is_settled_in" (.cons (.bin .add (.idx (.var 0) (.con (.int 1))) (.var 4)) (.cons (.var 3) .nil))) (.call "is_settled_in" (.cons (.bin .add (.idx (.var 1) (.con (.int 1))) (.var 4)) (.cons (.var 3) .nil)))))
    .nil)) }
def f_compare_by_facts : Fn := { np := 2, ns := 8, keep := false, body :=
    (.cons (.ex (.callS "need_books" (.cons (.var 0) (.cons (.var 1) .nil))))
    (.cons (.par 2 3 (.call "kernel_of" (.cons (.idx (.var 0) (.con (.int 0))) (.cons (.idx (.var 0) (.con (.int 1))) .nil))) (.call "kernel_of" (.cons (.idx (.var 1) (.con (.int 0))) (.cons (.idx (.var 1) (.con (.int 1))) .nil))))
    (.cons (.ite (.cmp .eq (.var 2) (.var 3))
    (.cons (.ret (.tup (.cons (.glb "SAME" (.str "same")) (.cons (.var 2) .nil))))
    .nil)
    .nil)
    (.cons (.asg (.name 4) (.call "sets_of" (.cons (.idx (.var 0) (.con (.int 0))) .nil)))
    (.cons (.asgC 5 (.lc2 [6, 7] [7] (.name 6) (.seq (.var 4)) .yes (.name 7) (.seq (.var 4)) (.val (.call "is_told" (.cons (.var 0) (.cons (.var 1) (.cons (.var 7) (.cons (.var 6) .nil)))))) (.tup (.cons (.var 7) (.cons (.var 6) .nil)))))
    (.cons (.ret (.tup (.cons (.glb "DIFFER" (.str "differ")) (.star (.idx (.var 5) (.con (.int 0))) .nil))))
    .nil)))))) }
def f_shows_by_facts : Fn := { np := 3, ns := 6, keep := false, body :=
    (.cons (.ex (.callS "need_books" (.cons (.var 0) (.cons (.var 1) .nil))))
    (.cons (.asg (.name 3) (.idx (.var 0) (.con (.int 0))))
    (.cons (.ite (.or (.cons (.not (.val (.isi (.var 2) "tuple"))) (.cons (.cmp .lt (.blt .len (.cons (.var 2) .nil)) (.con (.int 2))) (.cons (.not (.val (.isi (.idx (.var 2) (.con (.int 0))) "str"))) .nil))))
    (.cons (.ret (.con (.bl false)))
    .nil)
    .nil)
    (.cons (.ite (.and (.cons (.cmp .eq (.idx (.var 2) (.con (.int 0))) (.glb "SAME" (.str "same"))) (.cons (.cmp .eq (.blt .len (.cons (.var 2) .nil)) (.con (.int 2))) (.cons (.val (.isi (.idx (.var 2) (.con (.int 1))) "tuple")) .nil))))
    (.cons (.asg (.name 4) (.blt .all (.cons (.lc false [5] (.name 5) (.seq (.idx (.var 2) (.con (.int 1)))) .yes (.call "is_pair" (.cons (.var 3) (.cons (.var 5) .nil)))) .nil)))
    (.cons (.ret (.and (.cons (.var 4) (.cons (.cmp .eq (.idx (.var 2) (.con (.int 1))) (.call "kernel_of" (.cons (.var 3) (.cons (.idx (.var 0) (.con (.int 1))) .nil)))) (.cons (.cmp .eq (.idx (.var 2) (.con (.int 1))) (.call "kernel_of" (.cons (.var 3) (.cons (.idx (.var 1) (.con (.int 1))) .nil)))) .nil)))))
    .nil))
    .nil)
    (.cons (.ite (.or (.cons (.cmp .ne (.idx (.var 2) (.con (.int 0))) (.glb "DIFFER" (.str "differ"))) (.cons (.cmp .ne (.blt .len (.cons (.var 2) .nil)) (.con (.int 3))) (.cons (.not (.val (.call "is_set" (.cons (.var 3) (.cons (.idx (.var 2) (.con (.int 1))) .nil))))) (.cons (.not (.val (.call "is_set" (.cons (.var 3) (.cons (.idx (.var 2) (.con (.int 2))) .nil))))) .nil)))))
    (.cons (.ret (.con (.bl false)))
    .nil)
    .nil)
    (.cons (.ret (.call "is_told" (.cons (.var 0) (.cons (.var 1) (.cons (.idx (.var 2) (.con (.int 1))) (.cons (.idx (.var 2) (.con (.int 2))) .nil))))))
    .nil)))))) }
def f__law_kind : Fn := { np := 1, ns := 3, keep := false, body :=
    (.cons .never
    (.cons .never
    (.cons .never
    (.cons .never
    (.cons (.asg (.name 2) (.lst false (.cons (.con (.str "atoms")) (.cons (.con (.str "book")) (.cons (.con (.str "rule")) (.cons (.con (.str "set")) (.cons (.con (.str "sets")) (.cons (.con (.str "table")) (.cons (.con (.str "match")) (.cons (.con (.str "text")) (.cons (.con (.str "atom")) (.cons (.con (.str "number")) (.cons (.con (.str "nothing")) (.cons (.con (.str "limit")) .nil))))))))))))))
    (.cons .never
    (.cons .never
    .nil))))))) }
def f__law_no_books : Fn := { np := 0, ns := 5, keep := false, body :=
    (.cons (.par 0 1 (.tup (.cons (.con (.int 0)) (.cons (.tup .nil) (.cons (.tup .nil) .nil)))) (.lst true .nil))
    (.cons (.for_ (.name 2) (.seq (.call "_law_sets" (.cons (.con (.int 4)) .nil)))
    (.cons (.for_ (.name 3) (.seq (.call "_law_sets" (.cons (.con (.int 4)) .nil)))
    (.cons (.ex (.mth .append (.var 1) (.cons (.tup (.cons (.con (.int 0)) (.cons (.var 2) (.cons (.var 3) .nil)))) .nil)))
    .nil))
    .nil))
    (.cons .never
    (.cons (.asg (.name 4) (.bin .add (.var 4) (.lst false (.cons (.tup (.cons (.con (.int 0)) (.cons (.tup .nil) .nil))) (.cons (.tup (.cons (.con (.int 5)) (.cons (.tup .nil) .nil))) (.cons (.tup (.cons (.neg (.con (.int 1))) (.cons (.tup .nil) .nil))) (.cons (.tup (.cons (.con (.bl true)) (.cons (.tup .nil) .nil))) (.cons (.tup (.cons (.con .non) (.cons (.tup .nil) .nil))) (.cons (.tup (.cons (.con (.str "2")) (.cons (.tup .nil) .nil))) (.cons (.tup (.cons (.bin .pow (.con (.int 10)) (.con (.int 11))) (.cons (.tup .nil) .nil))) (.cons (.tup (.cons (.tup .nil) (.cons (.con (.int 2)) .nil))) .nil)))))))))))
    (.cons (.asg (.name 4) (.bin .add (.var 4) (.lst false (.cons (.tup (.cons (.con (.int 2)) (.cons (.tup (.cons (.var 0) (.cons (.var 0) .nil))) .nil))) (.cons (.tup (.cons (.con (.int 2)) (.cons (.tup (.cons (.tup (.cons (.con (.int 2)) (.cons (.tup .nil) (.cons (.tup .nil) .nil)))) .nil)) .nil))) (.cons (.tup (.cons (.con (.int 2)) (.cons (.tup (.cons (.tup (.cons (.neg (.con (.int 1))) (.cons (.tup .nil) (.cons (.tup .nil) .nil)))) .nil)) .nil))) (.cons (.tup (.cons (.con (.int 2)) (.cons (.tup (.cons (.tup (.cons (.con (.bl true)) (.cons (.tup .nil) (.cons (.tup .nil) .nil)))) .nil)) .nil))) .nil)))))))
    (.cons (.asg (.name 4) (.bin .add (.var 4) (.lst false (.cons (.tup (.cons (.con (.int 2)) (.cons (.tup (.cons (.tup (.cons (.con (.int 0)) (.cons (.tup (.cons (.con (.int 1)) (.cons (.con (.int 0)) .nil))) (.cons (.tup .nil) .nil)))) .nil)) .nil))) (.cons (.tup (.cons (.con (.int 2)) (.cons (.tup (.cons (.tup (.cons (.con (.int 0)) (.cons (.tup (.cons (.con (.int 1)) (.cons (.con (.int 1)) .nil))) (.cons (.tup .nil) .nil)))) .nil)) .nil))) (.cons (.tup (.cons (.con (.int 2)) (.cons (.tup (.cons (.tup (.cons (.con (.int 0)) (.cons (.tup .nil) (.cons (.tup (.cons (.con (.int 2)) .nil)) .nil)))) .nil)) .nil))) (.cons (.tup (.cons (.con (.int 2)) (.cons (.tup (.cons (.tup (.cons (.con (.int 0)) (.cons (.lst false .nil) (.cons (.tup .nil) .nil)))) .nil)) .nil))) .nil)))))))
    (.cons (.asg (.name 4) (.bin .add (.var 4) (.lst false (.cons (.tup (.cons (.con (.int 2)) (.cons (.tup (.cons (.tup (.cons (.con (.int 0)) (.cons (.tup (.cons (.con (.bl true)) .nil)) (.cons (.tup .nil) .nil)))) .nil)) .nil))) (.cons (.tup (.cons (.con (.int 2)) (.cons (.tup (.cons (.tup (.cons (.con (.int 0)) (.cons (.tup .nil) .nil))) .nil)) .nil))) (.cons (.tup (.cons (.con (.int 2)) (.cons (.tup (.cons (.tup (.cons (.con (.int 0)) (.cons (.tup .nil) (.cons (.tup .nil) (.cons (.tup .nil) .nil))))) .nil)) .nil))) (.cons (.tup (.cons (.con (.int 2)) (.cons (.tup (.cons (.con (.int 0)) .nil)) .nil))) (.cons (.tup (.cons (.con (.int 2)) (.cons (.var 0) .nil))) .nil))))))))
    (.cons (.asg (.name 4) (.bin .add (.var 4) (.lst false (.cons (.tup (.cons (.con (.int 2)) (.cons (.tup (.cons (.lst false (.cons (.con (.int 0)) (.cons (.tup .nil) (.cons (.tup .nil) .nil)))) .nil)) .nil))) (.cons (.tup (.cons (.con (.int 2)) (.cons (.tup (.cons (.tup (.cons (.tup (.cons (.con (.int 0)) .nil)) (.cons (.tup .nil) (.cons (.tup .nil) .nil)))) .nil)) .nil))) (.cons (.tup (.cons (.con (.int 2)) (.cons (.tup (.cons (.con .non) .nil)) .nil))) (.cons (.tup (.cons (.con (.int 4)) (.cons (.blt .tuple (.cons (.slc (.var 1) .none (.some (.con (.int 101)))) .nil)) .nil))) .nil)))))))
    (.cons .never
    (.cons (.ret (.bin .add (.var 4) (.lst false (.cons (.tup (.cons (.con (.int 2)) (.cons (.tup (.cons (.tup (.cons (.tup .nil) (.cons (.tup .nil) (.cons (.tup .nil) .nil)))) .nil)) .nil))) (.cons (.tup (.cons (.con (.int 2)) (.cons (.tup (.cons (.tup (.cons (.con (.int 0)) (.cons (.con .non) (.cons (.tup .nil) .nil)))) .nil)) .nil))) (.cons (.tup (.cons (.con (.int 1)) (.cons (.tup (.cons (.tup (.cons (.con (.int 0)) (.cons (.tup .nil) (.cons (.tup (.cons (.con (.int 1)) .nil)) .nil)))) .nil)) .nil))) (.cons (.tup (.cons (.con (.int 2)) (.cons (.tup (.cons (.tup (.cons (.con (.int 0)) (.cons (.tup .nil) (.cons (.tup (.cons (.con (.bl false)) .nil)) .nil)))) .nil)) .nil))) .nil)))))))
    .nil)))))))))) }
def f_counter : Fn := { np := 2, ns := 3, keep := false, body :=
    (.cons (.ex (.call "need_book" (.cons (.var 0) .nil)))
    (.cons (.ite (.not (.val (.call "are_rule_parts" (.cons (.idx (.var 0) (.con (.int 0))) (.cons (.var 1) .nil)))))
    (.cons .never
    .nil)
    .nil)
    (.cons (.for_ (.name 2) (.seq (.call "pairs_of" (.cons (.idx (.var 0) (.con (.int 0))) (.cons (.idx (.var 0) (.con (.int 1))) .nil))))
    (.cons (.ite (.not (.val (.call "fits_rule" (.cons (.var 2) (.cons (.var 1) .nil)))))
    (.cons (.ret (.var 2))
    .nil)
    .nil)
    .nil))
    (.cons (.ret (.con .non))
    .nil)))) }
def f_without : Fn := { np := 2, ns := 2, keep := false, body :=
    (.cons (.ret (.bin .add (.slc (.var 0) .none (.some (.var 1))) (.slc (.var 0) (.some (.bin .add (.var 1) (.con (.int 1)))) .none)))
    .nil) }
def f_meet : Fn := { np := 2, ns := 3, keep := false, body :=
    (.cons (.for_ (.name 2) (.seq (.var 1))
    (.cons (.asg (.name 0) (.bin .band (.var 0) (.var 2)))
    .nil))
    (.cons (.ret (.var 0))
    .nil)) }
def f_needless_places : Fn := { np := 2, ns := 9, keep := false, body :=
    (.cons (.par 2 3 (.call "marks_of_all" (.cons (.var 0) (.cons (.tup .nil) .nil))) (.lc false [4] (.name 4) (.seq (.var 1)) .yes (.call "marks_of" (.cons (.var 0) (.cons (.var 4) .nil)))))
    (.cons (.asg (.name 5) (.lst true .nil))
    (.cons (.for_ (.tup [6, 7]) (.enm (.var 3))
    (.cons (.asg (.name 8) (.call "meet" (.cons (.var 2) (.cons (.call "without" (.cons (.var 3) (.cons (.var 6) .nil))) .nil))))
    (.cons (.ite (.cmp .eq (.bin .band (.var 8) (.var 7)) (.var 8))
    (.cons (.ex (.mth .append (.var 5) (.cons (.var 6) .nil)))
    .nil)
    .nil)
    .nil)))
    (.cons (.ret (.var 5))
    .nil)))) }
def f_needless : Fn := { np := 1, ns := 2, keep := false, body :=
    (.cons (.ex (.call "need_book" (.cons (.var 0) .nil)))
    (.cons (.ret (.blt .tuple (.cons (.lc false [1] (.name 1) (.seq (.call "needless_places" (.cons (.idx (.var 0) (.con (.int 0))) (.cons (.idx (.var 0) (.con (.int 1))) .nil)))) .yes (.idx (.idx (.var 0) (.con (.int 1))) (.var 1))) .nil)))
    .nil)) }
def f_shorter_rules : Fn := { np := 1, ns := 7, keep := false, body :=
    (.cons (.asg (.tup [1, 2, 3]) (.var 0))
    (.cons (.asgC 4 (.lc false [5] (.name 5) (.seq (.var 2)) .yes (.tup (.cons (.var 1) (.cons (.blt .tuple (.cons (.lc false [6] (.name 6) (.seq (.var 2)) (.cmp .ne (.var 6) (.var 5)) (.var 6)) .nil)) (.cons (.var 3) .nil))))))
    (.cons (.ret (.bin .add (.var 4) (.lc false [5] (.name 5) (.seq (.var 3)) .yes (.tup (.cons (.var 1) (.cons (.var 2) (.cons (.blt .tuple (.cons (.lc false [6] (.name 6) (.seq (.var 3)) (.cmp .ne (.var 6) (.var 5)) (.var 6)) .nil)) .nil)))))))
    .nil))) }
def f_shortened : Fn := { np := 2, ns := 9, keep := false, body :=
    (.cons (.par 2 3 (.call "marks_of_all" (.cons (.var 0) (.cons (.tup .nil) .nil))) (.lc false [4] (.name 4) (.seq (.var 1)) .yes (.call "marks_of" (.cons (.var 0) (.cons (.var 4) .nil)))))
    (.cons (.asg (.name 5) (.call "meet" (.cons (.var 2) (.cons (.var 3) .nil))))
    (.cons (.for_ (.tup [6, 4]) (.enm (.var 1))
    (.cons (.asg (.name 7) (.call "meet" (.cons (.var 2) (.cons (.call "without" (.cons (.var 3) (.cons (.var 6) .nil))) .nil))))
    (.cons (.for_ (.name 8) (.seq (.call "shorter_rules" (.cons (.var 4) .nil)))
    (.cons (.ite (.cmp .eq (.bin .band (.var 7) (.call "marks_of" (.cons (.var 0) (.cons (.var 8) .nil)))) (.var 5))
    (.cons (.ret (.bin .add (.bin .add (.slc (.var 1) .none (.some (.var 6))) (.tup (.cons (.var 8) .nil))) (.slc (.var 1) (.some (.bin .add (.var 6) (.con (.int 1)))) .none)))
    .nil)
    .nil)
    .nil))
    .nil)))
    (.cons (.ret (.con .non))
    .nil)))) }
def f_less : Fn := { np := 2, ns := 3, keep := false, body :=
    (.cons (.asg (.name 2) (.call "needless_places" (.cons (.var 0) (.cons (.var 1) .nil))))
    (.cons (.ite (.cmp .ne (.var 2) (.lst false .nil))
    (.cons (.ret (.call "without" (.cons (.var 1) (.cons (.idx (.var 2) (.con (.int 0))) .nil))))
    .nil)
    .nil)
    (.cons (.ret (.call "shortened" (.cons (.var 0) (.cons (.var 1) .nil))))
    .nil))) }
def f_tidy : Fn := { np := 1, ns := 4, keep := false, body :=
    (.cons (.ex (.call "need_book" (.cons (.var 0) .nil)))
    (.cons (.asg (.tup [1, 2]) (.var 0))
    (.cons (.whlW 3 true (.call "less" (.cons (.var 1) (.cons (.var 2) .nil)))
    (.cons (.asg (.name 2) (.var 3))
    .nil))
    (.cons (.ret (.tup (.cons (.var 1) (.cons (.var 2) .nil))))
    .nil)))) }
def f_is_tidy : Fn := { np := 1, ns := 1, keep := false, body :=
    (.cons (.ex (.call "need_book" (.cons (.var 0) .nil)))
    (.cons (.ret (.cmp .isN (.call "less" (.cons (.idx (.var 0) (.con (.int 0))) (.cons (.idx (.var 0) (.con (.int 1))) .nil))) (.con .non)))
    .nil)) }
def f_book_text : Fn := { np := 1, ns := 1, keep := false, body :=
    (.cons (.ex (.call "need_book" (.cons (.var 0) .nil)))
    (.cons (.ret (.call "text_of" (.cons (.var 0) .nil)))
    .nil)) }
def f__law_draws : Fn := { np := 2, ns := 7, keep := false, body :=
    (.cons (.asg (.name 2) (.lst true .nil))
    (.cons (.ite (.cmp .ge (.var 0) (.bin .pow (.con (.int 10)) (.con (.int 18))))
    (.cons (.asg (.name 3) (.bin .sub (.var 0) (.bin .pow (.con (.int 10)) (.con (.int 18)))))
    (.cons (.for_ (.name 4) (.seq (.var 1))
    (.cons (.ex (.mth .append (.var 2) (.cons (.bin .mod (.var 3) (.var 4)) .nil)))
    (.cons (.asg (.name 3) (.bin .fdiv (.var 3) (.var 4)))
    .nil)))
    (.cons (.ret (.var 2))
    .nil)))
    .nil)
    (.cons (.for_ (.name 5) (.rng (.blt .len (.cons (.var 1) .nil)))
    (.cons (.asg (.name 6) (.bin .mod (.bin .add (.bin .add (.bin .mul (.var 0) (.con (.int 48271))) (.bin .mul (.var 5) (.con (.int 69621)))) (.con (.int 11))) (.con (.int 2147483647))))
    (.cons (.asg (.name 6) (.bin .mod (.bin .add (.bin .mul (.var 6) (.con (.int 16807))) (.var 5)) (.con (.int 998244353))))
    (.cons (.ex (.mth .append (.var 2) (.cons (.bin .mod (.var 6) (.idx (.var 1) (.var 5))) .nil)))
    .nil))))
    (.cons (.ret (.var 2))
    .nil)))) }
def f__law_is_same : Fn := { np := 2, ns := 3, keep := false, body :=
    (.cons (.ite (.val (.isi (.var 1) "tuple"))
    (.cons (.ite (.or (.cons (.not (.val (.isi (.var 0) "tuple"))) (.cons (.cmp .ne (.blt .len (.cons (.var 0) .nil)) (.blt .len (.cons (.var 1) .nil))) .nil)))
    (.cons (.ret (.con (.bl false)))
    .nil)
    .nil)
    (.cons (.ret (.blt .all (.cons (.lc false [2] (.name 2) (.rng (.blt .len (.cons (.var 1) .nil))) .yes (.call "_law_is_same" (.cons (.idx (.var 0) (.var 2)) (.cons (.idx (.var 1) (.var 2)) .nil)))) .nil)))
    .nil))
    .nil)
    (.cons (.ite (.cmp .isN (.var 1) (.con .non))
    (.cons (.ret (.cmp .isN (.var 0) (.con .non)))
    .nil)
    .nil)
    (.cons (.ite (.val (.isi (.var 1) "str"))
    (.cons (.ret (.and (.cons (.isi (.var 0) "str") (.cons (.cmp .eq (.var 0) (.var 1)) .nil))))
    .nil)
    .nil)
    (.cons (.ite (.or (.cons (.not (.val (.isi (.var 0) "int"))) (.cons (.cmp .ne (.isi (.var 0) "bool") (.isi (.var 1) "bool")) .nil)))
    (.cons (.ret (.con (.bl false)))
    .nil)
    .nil)
    (.cons (.ret (.cmp .eq (.var 0) (.var 1)))
    .nil))))) }
def f__law_numbered : Fn := { np := 2, ns := 7, keep := false, body :=
    (.cons (.par 2 3 (.bin .mod (.var 0) (.bin .add (.var 1) (.con (.int 1)))) (.bin .fdiv (.var 0) (.bin .add (.var 1) (.con (.int 1)))))
    (.cons (.asg (.tup [4, 5]) (.tup (.cons (.tup .nil) (.cons (.tup .nil) .nil))))
    (.cons (.for_ (.name 6) (.rng (.var 1))
    (.cons (.ite (.cmp .inn (.bin .mod (.var 3) (.con (.int 4))) (.tup (.cons (.con (.int 1)) (.cons (.con (.int 3)) .nil))))
    (.cons (.asg (.name 4) (.bin .add (.var 4) (.tup (.cons (.var 6) .nil))))
    .nil)
    .nil)
    (.cons (.ite (.cmp .inn (.bin .mod (.var 3) (.con (.int 4))) (.tup (.cons (.con (.int 2)) (.cons (.con (.int 3)) .nil))))
    (.cons (.asg (.name 5) (.bin .add (.var 5) (.tup (.cons (.var 6) .nil))))
    .nil)
    .nil)
    (.cons (.asg (.name 3) (.bin .fdiv (.var 3) (.con (.int 4))))
    .nil))))
    (.cons (.ret (.tup (.cons (.ite (.cmp .eq (.var 2) (.var 1)) (.con .non) (.var 2)) (.cons (.var 4) (.cons (.var 5) .nil)))))
    .nil)))) }
def f__law_text : Fn := { np := 2, ns := 10, keep := false, body :=
    (.cons .never
    (.cons (.for_ (.tup [3, 4, 5]) (.seq (.var 1))
    (.cons .never
    (.cons (.for_ (.tup [7, 8]) (.seq (.lst false (.cons (.tup (.cons (.con (.str "if")) (.cons (.var 4) .nil))) (.cons (.tup (.cons (.con (.str "not")) (.cons (.var 5) .nil))) .nil))))
    (.cons (.ite (.cmp .ne (.var 8) (.tup .nil))
    (.cons (.asg (.name 6) (.bin .add (.bin .add (.var 6) (.con (.str " "))) (.var 7)))
    .nil)
    .nil)
    (.cons (.for_ (.name 9) (.seq (.var 8))
    (.cons .never
    .nil))
    .nil)))
    (.cons (.asg (.name 2) (.bin .add (.bin .add (.var 2) (.var 6)) (.con (.str "\n"))))
    .nil))))
    (.cons (.ret (.var 2))
    .nil))) }
def f__law_word : Fn := { np := 1, ns := 2, keep := false, body :=
    (.cons .never
    (.cons (.ret (.con (.str "")))
    .nil)) }
def f_need_members : Fn := { np := 2, ns := 3, keep := false, body :=
    (.cons (.ex (.call "need_atoms" (.cons (.var 0) .nil)))
    (.cons (.ite (.or (.cons (.not (.val (.blt .all (.cons (.lc false [2] (.name 2) (.seq (.var 1)) .yes (.call "is_atom" (.cons (.var 0) (.cons (.var 2) .nil)))) .nil)))) (.cons (.cmp .ne (.lenSet (.var 1)) (.blt .len (.cons (.var 1) .nil))) .nil)))
    (.cons .never
    .nil)
    .nil)
    .nil)) }
def f__law_is_within : Fn := { np := 2, ns := 3, keep := false, body :=
    (.cons (.ret (.cmp .eq (.lc false [2] (.name 2) (.seq (.var 0)) (.cmp .nin (.var 2) (.var 1)) (.var 2)) (.lst false .nil)))
    .nil) }
def f__law_start : Fn := { np := 3, ns := 3, keep := false, body :=
    (.cons (.ite (.cmp .eq (.blt .len (.cons (.var 1) .nil)) (.con (.int 0)))
    (.cons .never
    .nil)
    .nil)
    (.cons (.ite (.cmp .eq (.blt .len (.cons (.var 1) .nil)) (.con (.int 1)))
    (.cons .never
    .nil)
    .nil)
    (.cons (.ite (.cmp .eq (.blt .len (.cons (.var 1) .nil)) (.con (.int 2)))
    (.cons .never
    .nil)
    .nil)
    (.cons (.ite (.cmp .eq (.blt .len (.cons (.var 1) .nil)) (.con (.int 3)))
    (.cons .never
    .nil)
    .nil)
    (.cons .never
    .nil))))) }
def f_need_room : Fn := { np := 1, ns := 1, keep := false, body :=
    (.cons (.ite (.cmp .gt (.var 0) (.glb "MOST_RULES" (.int 100)))
    (.cons .never
    .nil)
    .nil)
    .nil) }
def f_with_rules : Fn := { np := 2, ns := 4, keep := false, body :=
    (.cons (.asg (.name 2) (.idx (.var 0) (.con (.int 1))))
    (.cons (.for_ (.name 3) (.seq (.var 1))
    (.cons (.ite (.cmp .nin (.var 3) (.var 2))
    (.cons (.asg (.name 2) (.tup (.star (.var 2) (.cons (.var 3) .nil))))
    .nil)
    .nil)
    .nil))
    (.cons (.ret (.tup (.cons (.idx (.var 0) (.con (.int 0))) (.cons (.var 2) .nil))))
    .nil))) }
end R

set_option Elab.async false
set_option linter.all false
set_option maxRecDepth 100000
set_option maxHeartbeats 1000000
/-! Q: plain reasoning over what the IR means -/
namespace R
open PySem PySem.Spec L2
/-! ### wishes -/
def Res.wp {α : Type} (r : Res α) (Q : α → PH → Prop) : Prop := match r with
  | .ok a h => Q a h
  | _ => False
structure Po where
  nx : Sl → PH → Prop
  rt : PV → PH → Prop
  bk : Sl → PH → Prop := fun _ _ => False
  ct : Sl → PH → Prop := fun _ _ => False
def Out.wp (o : Out) (P : Po) : Prop := match o with
  | .nx ρ h => P.nx ρ h
  | .rt v h => P.rt v h
  | .bk ρ h => P.bk ρ h
  | .ct ρ h => P.ct ρ h
  | _ => False
@[simp] theorem wp_ok {α : Type} {a : α} {h : PH} {Q : α → PH → Prop} : (Res.ok a h).wp Q ↔ Q a h := Iff.rfl
theorem wp_bad {α : Type} {Q : α → PH → Prop} : (Res.bad : Res α).wp Q ↔ False := Iff.rfl
theorem wp_bind {α β : Type} {r : Res α} {f : α → PH → Res β} {Q : β → PH → Prop} : (r.bind f).wp Q ↔ r.wp fun a h => (f a h).wp Q := by
  cases r <;> exact Iff.rfl
theorem wp_of {α : Type} {o : Option α} {h : PH} {Q : α → PH → Prop} : (Res.of o h).wp Q ↔ ∃ a, o = some a ∧ Q a h := by
  cases o with
  | none => exact ⟨fun z => z.elim, fun ⟨_, z, _⟩ => nomatch z⟩
  | some a => exact ⟨fun z => ⟨a, rfl, z⟩, fun ⟨_, e, q⟩ => by cases e; exact q⟩
theorem wp_nox {α : Type} {r : Res α} {Q : α → PH → Prop} : r.nox.wp Q ↔ r.wp Q := by
  cases r <;> exact Iff.rfl
theorem wp_out {α : Type} {r : Res α} {ρ : Sl} {f : α → PH → Out} {P : Po} : (r.out ρ f).wp P ↔ r.wp fun a h => (f a h).wp P := by
  cases r <;> exact Iff.rfl
theorem wp_seq {o : Out} {f : Sl → PH → Out} {P : Po} : (o.bind f).wp P ↔ o.wp { P with nx := fun ρ h => (f ρ h).wp P } := by
  cases o <;> exact Iff.rfl
@[simp] theorem wp_nx {ρ : Sl} {h : PH} {P : Po} : (Out.nx ρ h).wp P ↔ P.nx ρ h := Iff.rfl
@[simp] theorem wp_rt {v : PV} {h : PH} {P : Po} : (Out.rt v h).wp P ↔ P.rt v h := Iff.rfl
theorem wp_ite {α : Type} {c : Prop} [Decidable c] {a b : Res α} {Q : α → PH → Prop} : (if c then a else b).wp Q ↔ if c then a.wp Q else b.wp Q := by
  split <;> exact Iff.rfl
theorem wp_iteO {c : Prop} [Decidable c] {a b : Out} {P : Po} : (if c then a else b).wp P ↔ if c then a.wp P else b.wp P := by
  split <;> exact Iff.rfl
theorem wp_optR {α β : Type} {o : Option α} {h : PH} {f : α → Res β} {Q : β → PH → Prop} : (optR o h f).wp Q ↔ ∃ a, o = some a ∧ (f a).wp Q := by
  cases o with
  | none => exact ⟨fun z => z.elim, fun ⟨_, z, _⟩ => nomatch z⟩
  | some a => exact ⟨fun z => ⟨a, rfl, z⟩, fun ⟨_, e, q⟩ => by cases e; exact q⟩
theorem wp_mono {α : Type} {r : Res α} {Q Q' : α → PH → Prop} (w : r.wp Q) (i : ∀ a h, Q a h → Q' a h) : r.wp Q' := by
  cases r with
  | ok a h => exact i a h w
  | _ => exact w.elim
theorem wp_eq {α : Type} {r : Res α} {a : α} {h : PH} {Q : α → PH → Prop} (e : r = .ok a h) (q : Q a h) : r.wp Q := by rw [e]; exact q
theorem wp_get {α : Type} {r : Res α} {Q : α → PH → Prop} (w : r.wp Q) : ∃ a h, r = .ok a h ∧ Q a h := by
  cases r with
  | ok a h => exact ⟨a, h, rfl, w⟩
  | _ => exact w.elim
theorem wp_cons {Φ : Fns} {s : S} {ss : Ss} {ρ : Sl} {h : PH} {P : Po} : ((Ss.cons s ss).den Φ ρ h).wp P ↔ (s.den Φ ρ h).wp { P with nx := fun ρ h => (ss.den Φ ρ h).wp P } := by
  rw [Ss.den]; exact wp_seq
@[simp] theorem wp_nil {Φ : Fns} {ρ : Sl} {h : PH} {P : Po} : (Ss.nil.den Φ ρ h).wp P ↔ P.nx ρ h := by
  rw [Ss.den]; exact Iff.rfl
/-! ### loops -/
theorem for_wp {f : PV → Sl → PH → Out} {xs : List PV} {ρ : Sl} {h : PH} {P : Po} (I : Nat → Sl → PH → Prop) (h0 : I 0 ρ h)
    (step : ∀ (i : Nat) (x : PV) (ρ : Sl) (h : PH), xs[i]? = some x → I i ρ h → (f x ρ h).wp { nx := I (i + 1), ct := I (i + 1), bk := P.nx, rt := P.rt }) (fin : ∀ ρ h, I xs.length ρ h → P.nx ρ h) : (forL f xs ρ h).wp P := by
  have key : ∀ (l : List PV) (i : Nat) (ρ : Sl) (h : PH), i + l.length = xs.length → (∀ j, l[j]? = xs[i + j]?) → I i ρ h → (forL f l ρ h).wp P := by
    intro l
    induction l with
    | nil =>
      intro i ρ h hl _ hi
      have e : i = xs.length := by simpa using hl
      subst e
      exact fin ρ h hi
    | cons x l ih =>
      intro i ρ h hl hx hi
      have e := hx 0
      simp only [List.getElem?_cons_zero, Nat.add_zero] at e
      have w := step i x ρ h e.symm hi
      have nxt : ∀ ρ h, I (i + 1) ρ h → (forL f l ρ h).wp P := fun ρ h hi => ih (i + 1) ρ h (by simp only [List.length_cons] at hl; omega) (fun j => by have := hx (j + 1); simpa [Nat.add_assoc, Nat.add_comm 1 j] using this) hi
      simp only [forL]
      cases ho : f x ρ h with
      | nx ρ1 h1 => rw [ho] at w; exact nxt _ _ w
      | ct ρ1 h1 => rw [ho] at w; exact nxt _ _ w
      | bk ρ1 h1 => rw [ho] at w; exact w
      | rt v h1 => rw [ho] at w; exact w
      | exc _ _ _ => rw [ho] at w; exact w
      | bad => rw [ho] at w; exact w
  exact key xs 0 ρ h (by simp) (fun j => by simp) h0
/-- a comprehension that writes nothing -/
theorem lc_pure {f : PV → PH → Res (List PV)} {g : PV → List PV} {h : PH} : ∀ {xs : List PV}, (∀ x ∈ xs, f x h = .ok (g x) h) → lcL f xs h = .ok (xs.flatMap g) h
  | [], _ => rfl
  | x :: xs, e => by
    rw [lcL, e x List.mem_cons_self]
    simp only [Res.bind_ok]
    rw [lc_pure fun y hy => e y (List.mem_cons_of_mem _ hy)]
    simp [List.flatMap_cons]
/-- .. over encoded things: kept by k, told by v -/
theorem lc_map {α : Type} {f : PV → PH → Res (List PV)} {enc : α → PV} {k : α → Bool} {v : α → PV} {h : PH} {xs : List α} (e : ∀ x ∈ xs, f (enc x) h = .ok (if k x = true then [v x] else []) h) : lcL f (xs.map enc) h = .ok ((xs.filter k).map v) h := by
  induction xs with
  | nil => rfl
  | cons x xs ih =>
    rw [List.map_cons, lcL, e x List.mem_cons_self]
    simp only [Res.bind_ok]
    rw [ih fun y hy => e y (List.mem_cons_of_mem _ hy)]
    cases hk : k x <;> simp [hk]
theorem lc_wp {f : PV → PH → Res (List PV)} {xs : List PV} {h : PH} {Q : List PV → PH → Prop} (I : Nat → List PV → PH → Prop) (h0 : I 0 [] h)
    (step : ∀ (i : Nat) (x : PV) (acc : List PV) (h : PH), xs[i]? = some x → I i acc h → (f x h).wp fun ys h1 => I (i + 1) (acc ++ ys) h1) (fin : ∀ acc h, I xs.length acc h → Q acc h) : (lcL f xs h).wp Q := by
  have key : ∀ (l : List PV) (i : Nat) (acc : List PV) (h : PH), i + l.length = xs.length → (∀ j, l[j]? = xs[i + j]?) → I i acc h → (lcL f l h).wp fun zs h1 => Q (acc ++ zs) h1 := by
    intro l
    induction l with
    | nil =>
      intro i acc h hl _ hi
      have e : i = xs.length := by simpa using hl
      subst e
      show Q (acc ++ []) h
      rw [List.append_nil]
      exact fin acc h hi
    | cons x l ih =>
      intro i acc h hl hx hi
      have e := hx 0
      simp only [List.getElem?_cons_zero, Nat.add_zero] at e
      rw [lcL, wp_bind]
      refine wp_mono (step i x acc h e.symm hi) fun ys h1 hi1 => ?_
      rw [wp_bind]
      refine wp_mono (ih (i + 1) (acc ++ ys) h1 (by simp only [List.length_cons] at hl; omega) (fun j => by have := hx (j + 1); simpa [Nat.add_assoc, Nat.add_comm 1 j] using this) hi1) fun zs h2 q => ?_
      show Q (acc ++ (ys ++ zs)) h2
      rw [← List.append_assoc]
      exact q
  have := key xs 0 [] h (by simp) (fun j => by simp) h0
  simpa using this
/-! ### calls -/
theorem call_eq {T : Tab} {f : Str} {fn : Fn} (hT : T f = some fn) (n : Nat) (args : List PV) (h : PH) : call T (n + 1) f args h = fn.run (call T n) args h := by
  rw [call_succ, hT]
/-- a body that returns, and makes nothing live -/
theorem run_ret {fn : Fn} {Φ : Fns} {args : List PV} {h : PH} {v : PV} (hn : args.length = fn.np) (e : fn.body.den Φ (startP fn.ns args) h = .rt v h) (hs : fn.star = false := by rfl) : fn.run Φ args h = .ok v h := by
  rw [run_plain hs hn]
  unfold Fn.runB
  rw [e]
  simp [fixR]
theorem run_nx {fn : Fn} {Φ : Fns} {args : List PV} {h : PH} {ρ : Sl} (hn : args.length = fn.np) (e : fn.body.den Φ (startP fn.ns args) h = .nx ρ h) (hs : fn.star = false := by rfl) : fn.run Φ args h = .ok .non h := by
  rw [run_plain hs hn]
  unfold Fn.runB
  rw [e]
  simp [fixR]
theorem runB_wp {fn : Fn} {Φ : Fns} {args : List PV} {h : PH} {Q : PV → PH → Prop}
    (w : (fn.body.den Φ (startP fn.ns args) h).wp { nx := fun _ h1 => (fixR fn.keep h.length .non h1).wp Q, rt := fun v h1 => (fixR fn.keep h.length v h1).wp Q }) : (fn.runB Φ args h).wp Q := by
  unfold Fn.runB
  cases e : fn.body.den Φ (startP fn.ns args) h with
  | nx ρ h1 => rw [e] at w; exact w
  | rt v h1 => rw [e] at w; exact w
  | bk _ _ => rw [e] at w; exact w.elim
  | ct _ _ => rw [e] at w; exact w.elim
  | exc _ _ _ => rw [e] at w; exact w.elim
  | bad => rw [e] at w; exact w.elim
/-- the same, by a wish; what was there is as long as before -/
theorem run_wp {fn : Fn} {Φ : Fns} {args : List PV} {h : PH} {Q : PV → PH → Prop} (hn : args.length = fn.np)
    (w : (fn.body.den Φ (startP fn.ns args) h).wp { nx := fun _ h1 => (fixR fn.keep h.length .non h1).wp Q, rt := fun v h1 => (fixR fn.keep h.length v h1).wp Q }) (hs : fn.star = false := by rfl) : (fn.run Φ args h).wp Q := by
  rw [run_plain hs hn]
  exact runB_wp w
theorem fix_same {keep : Bool} {n : Nat} {p : PV} {h : PH} {Q : PV → PH → Prop} (e : h.length = n) (q : Q p h) : (fixR keep n p h).wp Q := by
  unfold fixR
  rw [if_pos (by simp [e])]
  exact q
theorem fix_keep {n : Nat} {p : PV} {h : PH} {Q : PV → PH → Prop} (q : Q p h) : (fixR true n p h).wp Q := by
  unfold fixR
  rw [if_pos (by simp)]
  exact q
end R

set_option Elab.async false
set_option linter.all false
set_option maxRecDepth 100000
set_option maxHeartbeats 1000000
/-! Q: data: how deep, how long its repr is, when two are equal -/
namespace R
open PySem PySem.Spec L2
/-- data without texts, at most d deep, its repr at most c long -/
structure Da (d c : Nat) (p : PV) : Prop where
  dat : p.isDat = true
  lay : p.dat.canLay0 = true
  dep : p.dat.depth ≤ d
  shw : p.dat.showable = true
  len : p.dat.shown.length ≤ c
theorem Da.mono {d d' c c' : Nat} {p : PV} (h : Da d c p) (hd : d ≤ d') (hc : c ≤ c') : Da d' c' p := ⟨h.dat, h.lay, Nat.le_trans h.dep hd, h.shw, Nat.le_trans h.len hc⟩
theorem Da.fine {d c : Nat} {p : PV} (h : Da d c p) (hd : d ≤ 64) : p.fine = true := by
  unfold PV.fine SeqAt.shaped
  rw [h.dat, h.lay]
  simp only [Bool.true_and, decide_eq_true_eq]
  exact Nat.le_trans h.dep hd
theorem Da.show {d c : Nat} {p : PV} (h : Da d c p) (hd : d ≤ 64) (hc : c + 64 ≤ sizeLine) : showV p = some p.dat.shown := by
  unfold showV
  rw [h.fine hd, h.shw]
  rw [if_pos (by
    simp only [Bool.true_and, decide_eq_true_eq]
    have := h.len
    omega)]
theorem da_non {d : Nat} : Da d 4 .non := ⟨rfl, rfl, Nat.zero_le _, rfl, by decide⟩
theorem da_bl {d : Nat} (b : Bool) : Da d 5 (.bl b) := ⟨rfl, rfl, Nat.zero_le _, rfl, by cases b <;> decide⟩
theorem int_len : ∀ n : Nat, n < 1000 → ((toString (n : Int) : String) : Str).length ≤ 3 := by
  have : ((List.range 1000).all fun n => decide (((toString (n : Int) : String) : Str).length ≤ 3)) = true := by decide +kernel
  intro n hn
  rw [List.all_eq_true] at this
  exact of_decide_eq_true (this n (List.mem_range.mpr hn))
theorem da_nat {d : Nat} (n : Nat) (hn : n < 1000) : Da d 3 (.int n) := by
  refine ⟨rfl, rfl, Nat.zero_le _, ?_, ?_⟩
  · show decide ((n : Int).natAbs.log2 < 1920) = true
    refine decide_eq_true ?_
    rw [Int.natAbs_natCast]
    by_cases h0 : n = 0
    · subst h0; decide
    · have := (Nat.log2_lt h0 (k := 10)).mpr (by omega)
      omega
  · rw [PV.dat, PyData.shown]
    exact int_len n hn
theorem piled_le {c : Nat} : ∀ (ts : List Str), (∀ t ∈ ts, t.length ≤ c) → piled ts ≤ ts.length * (c + 2)
  | [], _ => by simp [piled]
  | t :: ts, h => by
    rw [piled_cons]
    have h1 := h t List.mem_cons_self
    have h2 := piled_le ts fun x hx => h x (List.mem_cons_of_mem _ hx)
    rw [List.length_cons, Nat.succ_mul]
    omega
theorem tup_len {c : Nat} (ts : List Str) (h : ∀ t ∈ ts, t.length ≤ c) : (tupleText ts).length ≤ ts.length * (c + 2) + 3 := by
  unfold tupleText
  rw [strLen_append, strLen_append]
  have e1 : ((("(" : String) : Str)).length = 1 := rfl
  have e3 : (((if ts.length == 1 then ",)" else ")" : String) : Str)).length ≤ 2 := by split <;> decide
  rw [e1]
  have p := piled_le ts h
  by_cases h0 : ts = []
  · subst h0
    have e4 : (Str.join ", " ([] : List Str)).length = 0 := rfl
    rw [e4]
    omega
  · have := join_length_add ts h0
    omega
theorem textFrom_le {c : Nat} : ∀ (ts : List Str) (k : Nat) (acc : Str), (∀ t ∈ ts, t.length ≤ c) → (textFrom k acc ts).length ≤ acc.length + ts.length * (c + 2)
  | [], k, acc, _ => by simp [textFrom]
  | t :: ts, k, acc, h => by
    have h1 := h t List.mem_cons_self
    have h2 := textFrom_le ts (k + 1) (acc ++ (if k > 0 then ", " else "" : String) ++ t) fun x hx => h x (List.mem_cons_of_mem _ hx)
    rw [strLen_append, strLen_append] at h2
    have e : (((if k > 0 then ", " else "" : String) : Str)).length ≤ 2 := by split <;> decide
    rw [textFrom, List.length_cons, Nat.succ_mul]
    omega
theorem lst_len {c : Nat} (ts : List Str) (h : ∀ t ∈ ts, t.length ≤ c) : (listText ts).length ≤ ts.length * (c + 2) + 3 := by
  unfold listText
  rw [strLen_append]
  have e1 : ((("]" : String) : Str)).length = 1 := rfl
  have e2 : ((("[" : String) : Str)).length = 1 := rfl
  have := textFrom_le ts 0 "[" h
  rw [e2] at this
  rw [e1]
  omega
theorem shownAll_eq : ∀ ds : List PyData, PyData.shownAll ds = ds.map PyData.shown
  | [] => rfl
  | d :: ds => by rw [PyData.shownAll, shownAll_eq ds]; rfl
theorem da_seq {d c n : Nat} {xs : List PV} (h : ∀ x ∈ xs, Da d c x) (hn : xs.length ≤ n) : PV.isDats xs = true ∧ PyData.canLayAll0 (PV.dats xs) = true ∧ PyData.depthAll (PV.dats xs) ≤ d ∧ PyData.showableAll (PV.dats xs) = true ∧ (∀ t ∈ PyData.shownAll (PV.dats xs), t.length ≤ c) ∧ (PyData.shownAll (PV.dats xs)).length ≤ n := by
  refine ⟨?_, ?_, ?_, ?_, ?_, ?_⟩
  · clear hn
    induction xs with
    | nil => rfl
    | cons x xs ih => rw [PV.isDats, (h x List.mem_cons_self).dat, ih fun y hy => h y (List.mem_cons_of_mem _ hy)]; rfl
  · clear hn
    induction xs with
    | nil => rfl
    | cons x xs ih => rw [PV.dats, PyData.canLayAll0, (h x List.mem_cons_self).lay, ih fun y hy => h y (List.mem_cons_of_mem _ hy)]; rfl
  · clear hn
    induction xs with
    | nil => exact Nat.zero_le _
    | cons x xs ih =>
      rw [PV.dats, PyData.depthAll]
      have := (h x List.mem_cons_self).dep
      have := ih fun y hy => h y (List.mem_cons_of_mem _ hy)
      omega
  · clear hn
    induction xs with
    | nil => rfl
    | cons x xs ih => rw [PV.dats, PyData.showableAll, (h x List.mem_cons_self).shw, ih fun y hy => h y (List.mem_cons_of_mem _ hy)]; rfl
  · intro t ht
    rw [shownAll_eq, PV.dats_eq, List.map_map] at ht
    obtain ⟨x, hx, rfl⟩ := List.mem_map.mp ht
    exact (h x hx).len
  · rw [shownAll_eq, PV.dats_eq, List.map_map, List.length_map]
    exact hn
theorem da_tup {d c n : Nat} {xs : List PV} (h : ∀ x ∈ xs, Da d c x) (hn : xs.length ≤ n) : Da (d + 1) (n * (c + 2) + 3) (.tup xs) := by
  obtain ⟨h1, h2, h3, h4, h5, h6⟩ := da_seq h hn
  refine ⟨by rw [PV.isDat]; exact h1, by rw [PV.dat, PyData.canLay0]; exact h2, by rw [PV.dat, PyData.depth]; omega, by rw [PV.dat, PyData.showable]; exact h4, ?_⟩
  rw [PV.dat, PyData.shown]
  have := tup_len _ h5
  have hm := Nat.mul_le_mul_right (c + 2) h6
  omega
theorem da_lst {d c n : Nat} {xs : List PV} (h : ∀ x ∈ xs, Da d c x) (hn : xs.length ≤ n) : Da (d + 1) (n * (c + 2) + 3) (.lst xs) := by
  obtain ⟨h1, h2, h3, h4, h5, h6⟩ := da_seq h hn
  refine ⟨by rw [PV.isDat]; exact h1, by rw [PV.dat, PyData.canLay0]; exact h2, by rw [PV.dat, PyData.depth]; omega, by rw [PV.dat, PyData.showable]; exact h4, ?_⟩
  rw [PV.dat, PyData.shown]
  have := lst_len _ h5
  have hm := Nat.mul_le_mul_right (c + 2) h6
  omega
/-! ### equal -/
/-- things told by data: equal data, equal things -/
structure Enc {α : Type} [DecidableEq α] (enc : α → PV) (ok : α → Prop) : Prop where
  eqv : ∀ x y, PyData.eqv (enc x).dat (enc y).dat = decide (x = y)
  fin : ∀ x, ok x → (enc x).fine = true
theorem eqvAll_map {α : Type} [DecidableEq α] {enc : α → PV} (he : ∀ x y, PyData.eqv (enc x).dat (enc y).dat = decide (x = y)) : ∀ xs ys : List α, PyData.eqvAll (PV.dats (xs.map enc)) (PV.dats (ys.map enc)) = decide (xs = ys)
  | [], [] => rfl
  | [], _ :: _ => by simp [PV.dats, PyData.eqvAll]
  | _ :: _, [] => by simp [PV.dats, PyData.eqvAll]
  | x :: xs, y :: ys => by
    rw [List.map_cons, List.map_cons, PV.dats, PV.dats, PyData.eqvAll, he x y, eqvAll_map he xs ys]
    by_cases h1 : x = y <;> by_cases h2 : xs = ys <;> simp [h1, h2]
theorem eqv_tup {α : Type} [DecidableEq α] {enc : α → PV} (he : ∀ x y, PyData.eqv (enc x).dat (enc y).dat = decide (x = y)) (xs ys : List α) : PyData.eqv (PV.tup (xs.map enc)).dat (PV.tup (ys.map enc)).dat = decide (xs = ys) := by
  rw [PV.dat, PV.dat, PyData.eqv]; exact eqvAll_map he xs ys
theorem eqv_lst {α : Type} [DecidableEq α] {enc : α → PV} (he : ∀ x y, PyData.eqv (enc x).dat (enc y).dat = decide (x = y)) (xs ys : List α) : PyData.eqv (PV.lst (xs.map enc)).dat (PV.lst (ys.map enc)).dat = decide (xs = ys) := by
  rw [PV.dat, PV.dat, PyData.eqv]; exact eqvAll_map he xs ys
theorem any_enc {α : Type} [DecidableEq α] {enc : α → PV} (he : ∀ x y, PyData.eqv (enc x).dat (enc y).dat = decide (x = y)) (x : α) (ys : List α) : ((ys.map enc).any fun z => PyData.eqv z.dat (enc x).dat) = decide (x ∈ ys) := by
  rw [List.any_map]
  induction ys with
  | nil => simp
  | cons y ys ih =>
    rw [List.any_cons, ih]
    show (PyData.eqv (enc y).dat (enc x).dat || _) = _
    rw [he y x]
    by_cases h1 : y = x
    · subst h1; simp
    · have : x ≠ y := fun z => h1 z.symm
      simp [h1, this, List.mem_cons]
theorem in_tup {α : Type} [DecidableEq α] {enc : α → PV} (he : ∀ x y, PyData.eqv (enc x).dat (enc y).dat = decide (x = y)) {x : α} {ys : List α} (h1 : (enc x).fine = true) (h2 : (PV.tup (ys.map enc)).fine = true) :
    cmpop .inn (enc x) (.tup (ys.map enc)) = some (decide (x ∈ ys)) ∧ cmpop .nin (enc x) (.tup (ys.map enc)) = some (!decide (x ∈ ys)) := by
  simp only [cmpop, seqV, h1, h2, Bool.and_self, if_true, any_enc he, and_self]
theorem in_lst {α : Type} [DecidableEq α] {enc : α → PV} (he : ∀ x y, PyData.eqv (enc x).dat (enc y).dat = decide (x = y)) {x : α} {ys : List α} (h1 : (enc x).fine = true) (h2 : (PV.lst (ys.map enc)).fine = true) :
    cmpop .inn (enc x) (.lst (ys.map enc)) = some (decide (x ∈ ys)) ∧ cmpop .nin (enc x) (.lst (ys.map enc)) = some (!decide (x ∈ ys)) := by
  simp only [cmpop, seqV, h1, h2, Bool.and_self, if_true, any_enc he, and_self]
theorem eq_tup {α : Type} [DecidableEq α] {enc : α → PV} (he : ∀ x y, PyData.eqv (enc x).dat (enc y).dat = decide (x = y)) {xs ys : List α} (h1 : (PV.tup (xs.map enc)).fine = true) (h2 : (PV.tup (ys.map enc)).fine = true) :
    cmpop .eq (.tup (xs.map enc)) (.tup (ys.map enc)) = some (decide (xs = ys)) ∧ cmpop .ne (.tup (xs.map enc)) (.tup (ys.map enc)) = some (!decide (xs = ys)) := by
  simp only [cmpop, h1, h2, Bool.and_self, if_true, eqv_tup he, and_self]
theorem eq_lst {α : Type} [DecidableEq α] {enc : α → PV} (he : ∀ x y, PyData.eqv (enc x).dat (enc y).dat = decide (x = y)) {xs ys : List α} (h1 : (PV.lst (xs.map enc)).fine = true) (h2 : (PV.lst (ys.map enc)).fine = true) :
    cmpop .eq (.lst (xs.map enc)) (.lst (ys.map enc)) = some (decide (xs = ys)) ∧ cmpop .ne (.lst (xs.map enc)) (.lst (ys.map enc)) = some (!decide (xs = ys)) := by
  simp only [cmpop, h1, h2, Bool.and_self, if_true, eqv_lst he, and_self]
theorem eq_int {i j : Int} : cmpop .eq (.int i) (.int j) = some (decide (i = j)) ∧ cmpop .ne (.int i) (.int j) = some (!decide (i = j)) := by
  have : (PyData.int i).eqv (.int j) = decide (i = j) := by
    rw [PyData.eqv]; by_cases h : i = j <;> simp [h]
  constructor <;> simp only [cmpop, PV.fine, PV.isDat, PV.dat, SeqAt.shaped, PyData.canLay0, PyData.depth, Bool.true_and, Bool.and_self, if_true, this] <;> rfl
end R

set_option Elab.async false
set_option linter.all false
set_option maxRecDepth 100000
set_option maxHeartbeats 1000000
/-! Q: rules, sets, books; the defs of the module rules -/
namespace R
open PySem PySem.Spec L2
structure Rl where
  hd : Option Nat
  ho : List Nat
  fa : List Nat
  deriving DecidableEq
def eN (n : Nat) : PV := .int n
def eS (s : List Nat) : PV := .tup (s.map eN)
def eH : Option Nat → PV
  | none => .non
  | some a => .int a
def eR (r : Rl) : PV := .tup [eH r.hd, eS r.ho, eS r.fa]
def eRs (rs : List Rl) : PV := .tup (rs.map eR)
def eB (n : Nat) (rs : List Rl) : PV := .tup [.int n, eRs rs]
theorem eqv_N (x y : Nat) : PyData.eqv (eN x).dat (eN y).dat = decide (x = y) := by
  show ((x : Int) == (y : Int)) = _
  by_cases h : x = y
  · subst h; simp
  · have : (x : Int) ≠ y := by omega
    simp [h, this]
theorem eqv_S (x y : List Nat) : PyData.eqv (eS x).dat (eS y).dat = decide (x = y) := eqv_tup eqv_N x y
theorem eqv_H (x y : Option Nat) : PyData.eqv (eH x).dat (eH y).dat = decide (x = y) := by
  cases x <;> cases y
  · rfl
  · simp [eH, PV.dat, PyData.eqv]
  · simp [eH, PV.dat, PyData.eqv]
  · rename_i a b
    have := eqv_N a b
    simp only [eN] at this
    simp only [eH, this, Option.some.injEq]
theorem eqv_R (x y : Rl) : PyData.eqv (eR x).dat (eR y).dat = decide (x = y) := by
  obtain ⟨a, b, c⟩ := x
  obtain ⟨d, e, f⟩ := y
  unfold eR
  rw [PV.dat, PV.dat, PyData.eqv]
  simp only [PV.dats, PyData.eqvAll, eqv_H, eqv_S, Bool.and_true, Rl.mk.injEq]
  by_cases h1 : a = d <;> by_cases h2 : b = e <;> by_cases h3 : c = f <;> simp [h1, h2, h3]
theorem eqv_Rs (x y : List Rl) : PyData.eqv (eRs x).dat (eRs y).dat = decide (x = y) := eqv_tup eqv_R x y
/-! ### what is a set, a rule, a book -/
structure SetOk (n : Nat) (s : List Nat) : Prop where
  asc : s.Pairwise (· < ·)
  lt : ∀ a ∈ s, a < n
structure RuleOk (n : Nat) (r : Rl) : Prop where
  hd : ∀ a, r.hd = some a → a < n
  ho : SetOk n r.ho
  fa : SetOk n r.fa
structure BookOk (n : Nat) (rs : List Rl) : Prop where
  n1 : 1 ≤ n
  n4 : n ≤ 4
  ok : ∀ r ∈ rs, RuleOk n r
  nd : rs.Nodup
  few : rs.length ≤ 76
theorem asc_len {n : Nat} : ∀ {s : List Nat}, s.Pairwise (· < ·) → (∀ a ∈ s, a < n) → s.length ≤ n := by
  have key : ∀ (s : List Nat) (k : Nat), s.Pairwise (· < ·) → (∀ a ∈ s, k ≤ a ∧ a < n) → s.length + k ≤ n ∨ s = [] := by
    intro s
    induction s with
    | nil => intro k _ _; exact .inr rfl
    | cons a s ih =>
      intro k h1 h2
      rw [List.pairwise_cons] at h1
      have ha := h2 a List.mem_cons_self
      rcases ih (a + 1) h1.2 fun b hb => ⟨h1.1 b hb, (h2 b (List.mem_cons_of_mem _ hb)).2⟩ with z | z
      · left; rw [List.length_cons]; omega
      · left; subst z; simp; omega
  intro s h1 h2
  rcases key s 0 h1 fun a ha => ⟨Nat.zero_le _, h2 a ha⟩ with z | z
  · omega
  · subst z; simp
theorem SetOk.len {n : Nat} {s : List Nat} (h : SetOk n s) : s.length ≤ n := asc_len h.asc h.lt
theorem da_S {s : List Nat} (hl : s.length ≤ 4) (h : ∀ a ∈ s, a < 1000) : Da 1 23 (eS s) := by
  have := da_tup (d := 0) (c := 3) (n := 4) (xs := s.map eN) (fun x hx => by obtain ⟨a, ha, rfl⟩ := List.mem_map.mp hx; exact da_nat a (h a ha)) (by simpa using hl)
  exact this
theorem SetOk.da {n : Nat} {s : List Nat} (h : SetOk n s) (hn : n ≤ 4) : Da 1 23 (eS s) := da_S (Nat.le_trans h.len hn) fun a ha => by have := h.lt a ha; omega
theorem da_H {n : Nat} {o : Option Nat} (h : ∀ a, o = some a → a < n) (hn : n ≤ 4) : Da 1 23 (eH o) := by
  cases o with
  | none => exact da_non.mono (Nat.le_refl _) (by decide)
  | some a => exact (da_nat a (by have := h a rfl; omega)).mono (Nat.le_refl _) (by decide)
theorem RuleOk.da {n : Nat} {r : Rl} (h : RuleOk n r) (hn : n ≤ 4) : Da 2 78 (eR r) := by
  refine da_tup (d := 1) (c := 23) (n := 3) (fun x hx => ?_) (by simp)
  simp only [List.mem_cons, List.not_mem_nil, or_false] at hx
  rcases hx with rfl | rfl | rfl
  · exact da_H h.hd hn
  · exact h.ho.da hn
  · exact h.fa.da hn
theorem da_Rs {n : Nat} {rs : List Rl} {m : Nat} (h : ∀ r ∈ rs, RuleOk n r) (hn : n ≤ 4) (hm : rs.length ≤ m) : Da 3 (m * 80 + 3) (eRs rs) :=
  da_tup (d := 2) (c := 78) (n := m) (fun x hx => by obtain ⟨a, ha, rfl⟩ := List.mem_map.mp hx; exact (h a ha).da hn) (by simpa using hm)
theorem BookOk.da {n : Nat} {rs : List Rl} (h : BookOk n rs) : Da 4 13000 (eB n rs) := by
  have := da_tup (d := 3) (c := 76 * 80 + 3) (n := 2) (xs := [.int n, eRs rs]) (fun x hx => by
    simp only [List.mem_cons, List.not_mem_nil, or_false] at hx
    rcases hx with rfl | rfl
    · exact (da_nat (d := 3) n (by have := h.n4; omega)).mono (by decide) (by decide)
    · exact da_Rs h.ok h.n4 h.few) (by simp)
  exact this.mono (Nat.le_refl _) (by decide)
/-! ### plain meanings -/
def within (s t : List Nat) : Bool := s.all (· ∈ t)
def remainsP (r : Rl) (s : List Nat) : Bool := r.fa.all fun a => !decide (a ∈ s)
def hdIn (o : Option Nat) (s : List Nat) : Bool := match o with
  | some a => decide (a ∈ s)
  | none => false
def obeysP (s : List Nat) (r : Rl) : Bool := hdIn r.hd s || !within r.ho s
def violatesP (s : List Nat) (r : Rl) : Bool := remainsP r s && !obeysP s r
/-! ### small steps -/
section
variable {h : PH}
@[simp] theorem see_int {i : Int} : see h (.int i) = .int i := rfl
@[simp] theorem see_non : see h .non = .non := rfl
@[simp] theorem see_bl {b : Bool} : see h (.bl b) = .bl b := rfl
@[simp] theorem see_str {x : Str} : see h (.str x) = .str x := rfl
@[simp] theorem see_tup {xs : List PV} : see h (.tup xs) = .tup xs := rfl
@[simp] theorem see_lst {xs : List PV} : see h (.lst xs) = .lst xs := rfl
@[simp] theorem see_N {n : Nat} : see h (eN n) = eN n := rfl
@[simp] theorem see_S {s : List Nat} : see h (eS s) = eS s := rfl
@[simp] theorem see_H {o : Option Nat} : see h (eH o) = eH o := by cases o <;> rfl
@[simp] theorem see_R {r : Rl} : see h (eR r) = eR r := rfl
@[simp] theorem see_Rs {r : List Rl} : see h (eRs r) = eRs r := rfl
@[simp] theorem see_B {n : Nat} {r : List Rl} : see h (eB n r) = eB n r := rfl
@[simp] theorem seq_S {s : List Nat} : seqV (eS s) = some (s.map eN) := rfl
@[simp] theorem seq_Rs {s : List Rl} : seqV (eRs s) = some (s.map eR) := rfl
@[simp] theorem seq_tup {xs : List PV} : seqV (.tup xs) = some xs := rfl
@[simp] theorem seq_lst {xs : List PV} : seqV (.lst xs) = some xs := rfl
@[simp] theorem items_tup {xs : List PV} : itemsV (.tup xs) h = some xs := rfl
@[simp] theorem items_lst {xs : List PV} : itemsV (.lst xs) h = some xs := rfl
@[simp] theorem items_S {s : List Nat} : itemsV (eS s) h = some (s.map eN) := rfl
@[simp] theorem items_Rs {s : List Rl} : itemsV (eRs s) h = some (s.map eR) := rfl
@[simp] theorem idx_R0 {r : Rl} : idxV (eR r) (.int 0) h = some (eH r.hd) := rfl
@[simp] theorem idx_R1 {r : Rl} : idxV (eR r) (.int 1) h = some (eS r.ho) := rfl
@[simp] theorem idx_R2 {r : Rl} : idxV (eR r) (.int 2) h = some (eS r.fa) := rfl
@[simp] theorem idx_B0 {n : Nat} {rs : List Rl} : idxV (eB n rs) (.int 0) h = some (.int n) := rfl
@[simp] theorem idx_B1 {n : Nat} {rs : List Rl} : idxV (eB n rs) (.int 1) h = some (eRs rs) := rfl
@[simp] theorem isi_int {i : Int} {c : String} : isiV (.int i) c h = some (.bl (isiTab "int" c)) := rfl
@[simp] theorem isi_tup {xs : List PV} {c : String} : isiV (.tup xs) c h = some (.bl (isiTab "tuple" c)) := rfl
@[simp] theorem isi_N {n : Nat} {c : String} : isiV (eN n) c h = some (.bl (isiTab "int" c)) := rfl
@[simp] theorem isi_S {s : List Nat} {c : String} : isiV (eS s) c h = some (.bl (isiTab "tuple" c)) := rfl
@[simp] theorem isi_R {r : Rl} {c : String} : isiV (eR r) c h = some (.bl (isiTab "tuple" c)) := rfl
@[simp] theorem isi_Rs {r : List Rl} {c : String} : isiV (eRs r) c h = some (.bl (isiTab "tuple" c)) := rfl
@[simp] theorem isi_B {n : Nat} {r : List Rl} {c : String} : isiV (eB n r) c h = some (.bl (isiTab "tuple" c)) := rfl
@[simp] theorem truth_bl {b : Bool} : truthV (.bl b) h = some b := rfl
@[simp] theorem len_tup {xs : List PV} : lenV (.tup xs) h = some (.int xs.length) := rfl
@[simp] theorem len_lst {xs : List PV} : lenV (.lst xs) h = some (.int xs.length) := rfl
@[simp] theorem len_S {s : List Nat} : lenV (eS s) h = some (.int s.length) := by simp [eS]
@[simp] theorem len_R {r : Rl} : lenV (eR r) h = some (.int 3) := rfl
@[simp] theorem len_Rs {r : List Rl} : lenV (eRs r) h = some (.int r.length) := by simp [eRs]
@[simp] theorem len_B {n : Nat} {r : List Rl} : lenV (eB n r) h = some (.int 2) := rfl
@[simp] theorem blt_len {p : PV} : Blt.den .len [p] h = lenV (see h p) h := rfl
@[simp] theorem blt_tuple {p : PV} : Blt.den .tuple [p] h = (itemsV (see h p) h).map .tup := rfl
@[simp] theorem blt_list {p : PV} : Blt.den .list [p] h = (itemsV (see h p) h).map .lst := rfl
@[simp] theorem blt_repr {p : PV} : Blt.den .repr [p] h = (showV (see h p)).map .str := rfl
@[simp] theorem blt_all {xs : List PV} : Blt.den .all [.lst xs] h = (allV blV xs).map fun bs => .bl (bs.all id) := rfl
@[simp] theorem blt_any {xs : List PV} : Blt.den .any [.lst xs] h = (allV blV xs).map fun bs => .bl (bs.any id) := rfl
@[simp] theorem blt_sum {xs : List PV} : Blt.den .sum [.lst xs] h = (allV intV xs).map fun ns => .int ns.sum := rfl
@[simp] theorem blt_sorted {xs : List PV} : Blt.den .sorted [.lst xs] h = (sortV xs).map .lst := rfl
@[simp] theorem blt_sortedS {s : List Nat} : Blt.den .sorted [eS s] h = (sortV (s.map eN)).map .lst := rfl
@[simp] theorem blt_max {i j : Int} : Blt.den .max [.int i, .int j] h = some (.int (if j > i then j else i)) := rfl
@[simp] theorem blt_min {i j : Int} : Blt.den .min [.int i, .int j] h = some (.int (if j < i then j else i)) := rfl
@[simp] theorem put_name {i : Nat} {p : PV} {ρ : Sl} : G.put (.name i) p ρ = some (ρ.set i (some p)) := rfl
@[simp] theorem put_tup {is : List Nat} {xs : List PV} {ρ : Sl} : G.put (.tup is) (.tup xs) ρ = putAll is xs ρ := rfl
@[simp] theorem optR_some {α β : Type} {a : α} {f : α → Res β} : optR (some a) h f = f a := rfl
@[simp] theorem new_f {xs : List PV} : newLst false xs h = .ok (.lst xs) h := rfl
@[simp] theorem new_t {xs : List PV} : newLst true xs h = .ok (.ref h.length) (h ++ [.lst xs]) := rfl
@[simp] theorem eq_i {i j : Int} : cmpop .eq (.int i) (.int j) = some (decide (i = j)) := eq_int.1
@[simp] theorem ne_i {i j : Int} : cmpop .ne (.int i) (.int j) = some (!decide (i = j)) := eq_int.2
@[simp] theorem lt_i {i j : Int} : cmpop .lt (.int i) (.int j) = some (decide (i < j)) := rfl
@[simp] theorem le_i {i j : Int} : cmpop .le (.int i) (.int j) = some (decide (i ≤ j)) := rfl
@[simp] theorem gt_i {i j : Int} : cmpop .gt (.int i) (.int j) = some (decide (j < i)) := rfl
@[simp] theorem ge_i {i j : Int} : cmpop .ge (.int i) (.int j) = some (decide (j ≤ i)) := rfl
@[simp] theorem eq_str {a b : Str} : cmpop .eq (.str a) (.str b) = some (decide (a = b)) := rfl
@[simp] theorem ne_str {a b : Str} : cmpop .ne (.str a) (.str b) = some (!decide (a = b)) := rfl
@[simp] theorem isN_H {o : Option Nat} : cmpop .isN (eH o) .non = some o.isNone := by cases o <;> rfl
@[simp] theorem notN_H {o : Option Nat} : cmpop .notN (eH o) .non = some o.isSome := by cases o <;> rfl
@[simp] theorem sc_int {i : Int} : (SC.int i).pv = .int i := rfl
@[simp] theorem sc_bl {b : Bool} : (SC.bl b).pv = .bl b := rfl
@[simp] theorem sc_non : SC.non.pv = .non := rfl
@[simp] theorem sc_str {x : Str} : (SC.str x).pv = .str x := rfl
@[simp] theorem bl_V {b : Bool} : blV (.bl b) = some b := rfl
@[simp] theorem int_V {i : Int} : intV (.int i) = some i := rfl
end
theorem in_S {a : Nat} {s : List Nat} (ha : a < 1000) (hl : s.length ≤ 4) (h : ∀ a ∈ s, a < 1000) : cmpop .inn (eN a) (eS s) = some (decide (a ∈ s)) ∧ cmpop .nin (eN a) (eS s) = some (!decide (a ∈ s)) :=
  in_tup (enc := eN) eqv_N ((da_nat (d := 0) a ha).fine (by decide)) ((da_S hl h).fine (by decide))
theorem SetOk.inn {n m a : Nat} {s : List Nat} (hs : SetOk n s) (hn : n ≤ 4) (ha : a < 4) : cmpop .inn (eN a) (eS s) = some (decide (a ∈ s)) := (in_S (by omega) (Nat.le_trans hs.len hn) fun b hb => by have := hs.lt b hb; omega).1
theorem SetOk.nin {n m a : Nat} {s : List Nat} (hs : SetOk n s) (hn : n ≤ 4) (ha : a < 4) : cmpop .nin (eN a) (eS s) = some (!decide (a ∈ s)) := (in_S (by omega) (Nat.le_trans hs.len hn) fun b hb => by have := hs.lt b hb; omega).2
theorem hd_inn {n : Nat} {o : Option Nat} {s : List Nat} (hs : SetOk n s) (hn : n ≤ 4) (ho : ∀ a, o = some a → a < n) : cmpop .inn (eH o) (eS s) = some (hdIn o s) := by
  cases o with
  | some a => exact hs.inn (m := 0) hn (by have := ho a rfl; omega)
  | none =>
    have f2 := (hs.da hn).fine (by decide)
    unfold eS at f2
    simp only [cmpop, eS, eH, seqV, f2, hdIn]
    have f1 : (PV.non).fine = true := rfl
    rw [f1]
    simp only [Bool.and_self, if_true, Option.some.injEq]
    rw [List.any_map, List.any_eq_false]
    intro a _
    simp [eN, PV.dat, PyData.eqv]
@[simp] theorem all_bl {α : Type} (xs : List α) (f : α → Bool) : allV blV (xs.map fun x => PV.bl (f x)) = some (xs.map f) := by
  induction xs with
  | nil => rfl
  | cons x xs ih => simp [allV, ih]
/-- [v for x in xs], [v for x in xs if k] -/
theorem lc_all {α : Type} {f : PV → PH → Res (List PV)} {enc : α → PV} (v : α → PV) {h : PH} {xs : List α} (e : ∀ x ∈ xs, f (enc x) h = .ok [v x] h) : lcL f (xs.map enc) h = .ok (xs.map v) h := by
  have := lc_map (enc := enc) (k := fun _ => true) (v := v) (f := f) (xs := xs) (h := h) fun x hx => by rw [e x hx]; rfl
  rw [this, List.filter_eq_self.mpr fun _ _ => rfl]
theorem lc_some {α : Type} {f : PV → PH → Res (List PV)} {enc : α → PV} (k : α → Bool) (v : α → PV) {h : PH} {xs : List α} (e : ∀ x ∈ xs, f (enc x) h = .ok (if k x = true then [v x] else []) h) : lcL f (xs.map enc) h = .ok ((xs.filter k).map v) h := lc_map e
section
variable {T : Tab}
theorem is_integer_spec (hT : T "is_integer" = some f_is_integer) (i : Int) (k : Nat) (h : PH) : call T (k + 1) "is_integer" [.int i] h = .ok (.bl true) h := by
  rw [call_eq hT]
  refine run_ret rfl ?_
  simp [f_is_integer, Ss.den, S.den, E.den, Es.den, Es.denB, bools, R.T.den, startP, isiTab]
theorem is_atoms_spec (h1 : T "is_integer" = some f_is_integer) (hT : T "is_atoms" = some f_is_atoms) (i : Int) (k : Nat) (h : PH) : call T (k + 2) "is_atoms" [.int i] h = .ok (.bl (decide (1 ≤ i) && decide (i ≤ 4))) h := by
  rw [call_eq hT]
  refine run_ret rfl ?_
  simp [f_is_atoms, Ss.den, S.den, E.den, Es.den, Es.denB, bools, R.T.den, startP, is_integer_spec h1]
  by_cases h0 : 1 ≤ i <;> simp [h0]
theorem is_atom_spec (h1 : T "is_integer" = some f_is_integer) (hT : T "is_atom" = some f_is_atom) (n i : Int) (k : Nat) (h : PH) : call T (k + 2) "is_atom" [.int n, .int i] h = .ok (.bl (decide (0 ≤ i) && decide (i < n))) h := by
  rw [call_eq hT]
  refine run_ret rfl ?_
  simp [f_is_atom, Ss.den, S.den, E.den, Es.den, Es.denB, bools, R.T.den, startP, is_integer_spec h1]
  by_cases h0 : 0 ≤ i <;> simp [h0]
theorem is_within_spec (hT : T "is_within" = some f_is_within) {n : Nat} {s t : List Nat} (hn : n ≤ 4) (hs : SetOk n s) (ht : SetOk n t) (k : Nat) (h : PH) : call T (k + 1) "is_within" [eS s, eS t] h = .ok (.bl (within s t)) h := by
  rw [call_eq hT]
  refine run_ret rfl ?_
  simp [f_is_within, Ss.den, S.den, E.den, Es.den, I.den, R.T.den, startP, wipeP]
  rw [lc_all fun a => PV.bl (decide (a ∈ t))]
  · simp [within]
  · intro a ha
    rw [see_N, ht.inn (m := 0) hn (by have := hs.lt a ha; omega)]
    rfl
theorem remains_spec (hT : T "remains" = some f_remains) {n : Nat} {r : Rl} {t : List Nat} (hn : n ≤ 4) (hr : RuleOk n r) (ht : SetOk n t) (k : Nat) (h : PH) : call T (k + 1) "remains" [eR r, eS t] h = .ok (.bl (remainsP r t)) h := by
  rw [call_eq hT]
  refine run_ret rfl ?_
  simp [f_remains, Ss.den, S.den, E.den, Es.den, I.den, R.T.den, startP, wipeP]
  rw [lc_all fun a => PV.bl (!decide (a ∈ t))]
  · simp [remainsP]
  · intro a ha
    rw [see_N, ht.nin (m := 0) hn (by have := hr.fa.lt a ha; omega)]
    rfl
theorem obeys_spec (h1 : T "is_within" = some f_is_within) (hT : T "obeys" = some f_obeys) {n : Nat} {r : Rl} {t : List Nat} (hn : n ≤ 4) (hr : RuleOk n r) (ht : SetOk n t) (k : Nat) (h : PH) : call T (k + 2) "obeys" [eS t, eR r] h = .ok (.bl (obeysP t r)) h := by
  rw [call_eq hT]
  refine run_ret rfl ?_
  simp [f_obeys, Ss.den, S.den, E.den, Es.den, Es.denB, bools, startP, hd_inn ht hn hr.hd, is_within_spec h1 hn hr.ho ht, obeysP]
  cases hdIn r.hd t <;> simp
theorem violates_spec (h1 : T "is_within" = some f_is_within) (h2 : T "obeys" = some f_obeys) (h3 : T "remains" = some f_remains) (hT : T "violates" = some f_violates) {n : Nat} {r : Rl} {t : List Nat} (hn : n ≤ 4) (hr : RuleOk n r) (ht : SetOk n t) (k : Nat) (h : PH) : call T (k + 3) "violates" [eS t, eR r] h = .ok (.bl (violatesP t r)) h := by
  rw [call_eq hT]
  refine run_ret rfl ?_
  simp [f_violates, Ss.den, S.den, E.den, Es.den, Es.denB, bools, startP, remains_spec h3 hn hr ht, obeys_spec h1 h2 hn hr ht, violatesP]
  cases remainsP r t <;> simp
end
end R

set_option Elab.async false
set_option linter.all false
set_option maxRecDepth 100000
set_option maxHeartbeats 1000000
/-! Q: books are accepted -/
namespace R
open PySem PySem.Spec L2
theorem cut_1 {α : Type} (xs : List α) : cutP xs (some 1) none = xs.drop 1 := by
  unfold cutP
  cases xs with
  | nil => simp
  | cons x xs =>
    have e1 : HT.sIx (x :: xs).length 0 (some 1) = 1 := by
      unfold HT.sIx
      simp
      try omega
    have e2 : HT.sIx (x :: xs).length (x :: xs).length none = (x :: xs).length := rfl
    rw [e1, e2]
    simp
def eP (p : Nat × Nat) : PV := .tup [eN p.1, eN p.2]
theorem zip_N (s t : List Nat) : zipL (s.map eN) (t.map eN) = (s.zip t).map eP := by
  unfold zipL
  rw [List.zip_map, List.map_map]
  rfl
theorem asc_all : ∀ {s : List Nat}, s.Pairwise (· < ·) → ∀ p ∈ s.zip s.tail, p.1 < p.2
  | [], _, p, hp => by simp at hp
  | [_], _, p, hp => by simp at hp
  | a :: b :: s, h, p, hp => by
    rw [List.pairwise_cons] at h
    simp only [List.tail_cons, List.zip_cons_cons, List.mem_cons] at hp
    rcases hp with rfl | hp
    · exact h.1 b List.mem_cons_self
    · exact asc_all h.2 p (by simpa using hp)
section
variable {T : Tab}
theorem is_set_spec (h1 : T "is_integer" = some f_is_integer) (h2 : T "is_atom" = some f_is_atom) (hT : T "is_set" = some f_is_set) {n : Nat} {s : List Nat} (hs : SetOk n s) (k : Nat) (h : PH) : call T (k + 3) "is_set" [.int n, eS s] h = .ok (.bl true) h := by
  rw [call_eq hT]
  refine run_ret rfl ?_
  simp [f_is_set, Ss.den, S.den, E.den, Es.den, I.den, R.T.den, Ts.den, O.den, startP, wipeP, isiTab]
  rw [lc_all fun a => PV.bl true]
  · simp [eS, sliceV, cut_1, ← List.map_tail, zip_N]
    rw [lc_all fun p => PV.bl true]
    · simp
    · intro p hp
      have := asc_all hs.asc p hp
      simp [eP, putAll, eN]
      omega
  · intro a ha
    simp [eN, is_atom_spec h1 h2]
    have := hs.lt a ha
    omega
theorem are_rule_parts_spec (h1 : T "is_integer" = some f_is_integer) (h2 : T "is_atom" = some f_is_atom) (h3 : T "is_set" = some f_is_set) (hT : T "are_rule_parts" = some f_are_rule_parts) {n : Nat} {r : Rl} (hr : RuleOk n r) (k : Nat) (h : PH) : call T (k + 4) "are_rule_parts" [.int n, eR r] h = .ok (.bl true) h := by
  rw [call_eq hT]
  refine run_ret rfl ?_
  have g1 := fun k h => is_set_spec h1 h2 h3 hr.ho k h
  have g2 := fun k h => is_set_spec h1 h2 h3 hr.fa k h
  simp [f_are_rule_parts, Ss.den, S.den, E.den, Es.den, Es.denB, bools, R.T.den, Ts.den, startP, isiTab]
  cases hh : r.hd with
  | none => simp [g1, g2]
  | some a =>
    have := Nat.not_le.mpr (hr.hd a hh)
    simp [eH, is_atom_spec h1 h2, this, g1, g2]
end
/-! ### len(set(rules)) -/
theorem key_inj {α : Type} {enc : α → PV} : ∀ {xs ys : List α}, (∀ x y, (enc x).key = (enc y).key → x = y) → PV.keys (xs.map enc) = PV.keys (ys.map enc) → xs = ys
  | [], [], _, _ => rfl
  | [], _ :: _, _, h => by simp [PV.keys] at h
  | _ :: _, [], _, h => by simp [PV.keys] at h
  | x :: xs, y :: ys, e, h => by
    simp only [List.map_cons, PV.keys, List.cons.injEq] at h
    rw [e x y h.1, key_inj e h.2]
theorem key_N {x y : Nat} (h : (eN x).key = (eN y).key) : x = y := by
  simp only [eN, PV.key, NestedKey.num.injEq] at h
  omega
theorem key_S {x y : List Nat} (h : (eS x).key = (eS y).key) : x = y := by
  simp only [eS, PV.key, NestedKey.tup.injEq] at h
  exact key_inj (fun _ _ => key_N) h
theorem key_H {x y : Option Nat} (h : (eH x).key = (eH y).key) : x = y := by
  cases x <;> cases y <;> simp [eH, PV.key] at h
  · rfl
  · congr 1; omega
theorem key_R {x y : Rl} (h : (eR x).key = (eR y).key) : x = y := by
  obtain ⟨a, b, c⟩ := x
  obtain ⟨d, e, f⟩ := y
  simp only [eR, PV.key, PV.keys, NestedKey.tup.injEq, List.cons.injEq, and_true] at h
  rw [key_H h.1, key_S h.2.1, key_S h.2.2]
theorem dedup_len {α : Type} [DecidableEq α] : ∀ {l : List α}, l.Nodup → (dedupK l).length = l.length
  | [], _ => rfl
  | x :: l, h => by
    rw [List.nodup_cons] at h
    unfold dedupK
    rw [if_neg (fun z => h.1 ((dedupK_mem l x).mp z)), List.length_cons, List.length_cons, dedup_len h.2]
theorem keysB_N : ∀ s : List Nat, PV.keysB (s.map eN) = true
  | [] => rfl
  | a :: s => by rw [List.map_cons, PV.keysB, keysB_N s]; rfl
theorem keyB_R (r : Rl) : (eR r).keyB = true := by
  simp only [eR, PV.keyB, PV.keysB, eS, keysB_N, Bool.and_true]
  cases r.hd <;> rfl
theorem keysB_R : ∀ rs : List Rl, PV.keysB (rs.map eR) = true
  | [] => rfl
  | r :: rs => by rw [List.map_cons, PV.keysB, keyB_R, keysB_R rs]; rfl
theorem depth_N : ∀ s : List Nat, NestedKey.depthAll (PV.keys (s.map eN)) = 0
  | [] => rfl
  | a :: s => by rw [List.map_cons, PV.keys, NestedKey.depthAll, depth_N s]; rfl
theorem depth_R (r : Rl) : (eR r).key.depth ≤ 8 := by
  simp only [eR, PV.key, PV.keys, NestedKey.depth, NestedKey.depthAll, eS, depth_N]
  cases r.hd <;> simp [eH, PV.key, NestedKey.depth]
theorem lenSet_R {rs : List Rl} (nd : rs.Nodup) (few : rs.length ≤ 76) : lenSetV (rs.map eR) = some (.int rs.length) := by
  unfold lenSetV
  rw [if_pos]
  · rw [dedup_len, PV.keys_eq, List.map_map, List.length_map]
    rw [PV.keys_eq, List.map_map]
    refine List.Pairwise.map _ (fun x y hxy e => hxy (key_R e)) nd
  · simp only [Bool.and_eq_true, decide_eq_true_eq, List.length_map, few, and_true, keysB_R, true_and]
    constructor
    · rw [List.all_map, List.all_eq_true]; intro r _; rfl
    · rw [PV.keys_eq, List.map_map, List.all_map, List.all_eq_true]
      intro r _
      exact decide_eq_true (depth_R r)
section
variable {T : Tab}
/-- the module's defs stand in the table -/
structure HasRules0 (T : Tab) : Prop where
  is_integer : T "is_integer" = some f_is_integer
  is_atoms : T "is_atoms" = some f_is_atoms
  is_atom : T "is_atom" = some f_is_atom
  is_set : T "is_set" = some f_is_set
  are_rule_parts : T "are_rule_parts" = some f_are_rule_parts
  is_rulebook : T "is_rulebook" = some f_is_rulebook
structure HasRules (T : Tab) : Prop extends HasRules0 T where
  need_book : T "need_book" = some f_need_book
theorem is_rulebook_spec (H : HasRules0 T) {n : Nat} {rs : List Rl} (hb : BookOk n rs) (k : Nat) (h : PH) : call T (k + 5) "is_rulebook" [eB n rs] h = .ok (.bl true) h := by
  rw [call_eq H.is_rulebook]
  refine run_ret rfl ?_
  have e1 : decide ((1 : Int) ≤ n) = true := decide_eq_true (by have := hb.n1; omega)
  have e2 : decide ((n : Int) ≤ 4) = true := decide_eq_true (by have := hb.n4; omega)
  have e3 : ¬ ((100 : Int) < (rs.length : Int)) := by have := hb.few; omega
  simp [f_is_rulebook, Ss.den, S.den, E.den, Es.den, Es.denB, bools, I.den, R.T.den, Ts.den, startP, wipeP, isiTab, is_atoms_spec H.is_integer H.is_atoms, e1, e2, e3]
  rw [lc_all fun a => PV.bl true]
  · simp [eRs, tupV, lenSet_R hb.nd hb.few]
  · intro r hr
    simp [are_rule_parts_spec H.is_integer H.is_atom H.is_set H.are_rule_parts (hb.ok r hr)]
theorem need_book_spec (H : HasRules T) {n : Nat} {rs : List Rl} (hb : BookOk n rs) (k : Nat) (h : PH) : call T (k + 6) "need_book" [eB n rs] h = .ok .non h := by
  rw [call_eq H.need_book]
  refine run_nx rfl (ρ := [some (eB n rs)]) ?_
  simp [f_need_book, Ss.den, S.den, E.den, Es.den, R.T.den, startP, is_rulebook_spec H.toHasRules0 hb]
theorem need_set_spec (H : HasRules T) (hT : T "need_set" = some f_need_set) {n : Nat} {rs : List Rl} {s : List Nat} (hs : SetOk n s) (k : Nat) (h : PH) : call T (k + 4) "need_set" [eB n rs, eS s] h = .ok .non h := by
  rw [call_eq hT]
  refine run_nx rfl (ρ := [some (eB n rs), some (eS s)]) ?_
  simp [f_need_set, Ss.den, S.den, E.den, Es.den, R.T.den, startP, is_set_spec H.is_integer H.is_atom H.is_set hs]
structure HasViol (T : Tab) : Prop where
  is_within : T "is_within" = some f_is_within
  remains : T "remains" = some f_remains
  obeys : T "obeys" = some f_obeys
  violates : T "violates" = some f_violates
theorem remaining_spec (H : HasRules T) (h1 : T "need_set" = some f_need_set) (h2 : T "remains" = some f_remains) (hT : T "remaining" = some f_remaining) {n : Nat} {rs : List Rl} {s : List Nat} (hb : BookOk n rs) (hs : SetOk n s) (k : Nat) (h : PH) :
    call T (k + 7) "remaining" [eB n rs, eS s] h = .ok (eRs (rs.filter fun r => remainsP r s)) h := by
  rw [call_eq hT]
  refine run_ret rfl ?_
  simp [f_remaining, Ss.den, S.den, E.den, Es.den, I.den, R.T.den, startP, wipeP, need_book_spec H hb, need_set_spec H h1 hs]
  rw [lc_some (fun r => remainsP r s) eR]
  · simp [eRs]
  · intro r hr
    simp [remains_spec h2 hb.n4 (hb.ok r hr) hs]
    split <;> rfl
theorem violated_spec (H : HasRules T) (h1 : T "need_set" = some f_need_set) (V : HasViol T) (hT : T "violated" = some f_violated) {n : Nat} {rs : List Rl} {s : List Nat} (hb : BookOk n rs) (hs : SetOk n s) (k : Nat) (h : PH) :
    call T (k + 7) "violated" [eB n rs, eS s] h = .ok (eRs (rs.filter fun r => violatesP s r)) h := by
  rw [call_eq hT]
  refine run_ret rfl ?_
  simp [f_violated, Ss.den, S.den, E.den, Es.den, I.den, R.T.den, startP, wipeP, need_book_spec H hb, need_set_spec H h1 hs]
  rw [lc_some (fun r => violatesP s r) eR]
  · simp [eRs]
  · intro r hr
    simp [violates_spec V.is_within V.obeys V.remains V.violates hb.n4 (hb.ok r hr) hs]
    split <;> rfl
end
end R

set_option Elab.async false
set_option linter.all false
set_option maxRecDepth 100000
set_option maxHeartbeats 1000000
/-! Q: the pens of the laws -/
namespace R
open PySem PySem.Spec L2
abbrev pen3 (a b c : Int) : PO := .lst [.int a, .int b, .int c]
structure PenR (a b c : Int) : Prop where
  a0 : 0 ≤ a
  b0 : 0 ≤ b
  b1 : b < 2147483648
  c0 : 0 ≤ c
structure PenAt (h : PH) (p : Nat) : Prop where
  ex : ∃ a b c, h[p]? = some (pen3 a b c) ∧ PenR a b c
/-- only the pen was written -/
structure Pens (p : Nat) (h h' : PH) : Prop where
  ex : ∃ a b c, h' = h.set p (pen3 a b c) ∧ PenR a b c
theorem PenAt.lt {h : PH} {p : Nat} (x : PenAt h p) : p < h.length := by
  obtain ⟨a, b, c, e, _⟩ := x.ex
  exact (List.getElem?_eq_some_iff.mp e).1
theorem PenAt.self {h : PH} {p : Nat} (x : PenAt h p) : Pens p h h := by
  obtain ⟨a, b, c, e, r⟩ := x.ex
  obtain ⟨h1, h2⟩ := List.getElem?_eq_some_iff.mp e
  exact ⟨a, b, c, by rw [← h2, List.set_getElem_self], r⟩
theorem Pens.len {p : Nat} {h h' : PH} (x : Pens p h h') : h'.length = h.length := by
  obtain ⟨a, b, c, rfl, _⟩ := x.ex
  rw [List.length_set]
theorem Pens.at {p : Nat} {h h' : PH} (x : Pens p h h') (l : p < h.length) : PenAt h' p := by
  obtain ⟨a, b, c, rfl, r⟩ := x.ex
  exact ⟨a, b, c, List.getElem?_set_self l, r⟩
theorem Pens.trans {p : Nat} {h h' h'' : PH} (x : Pens p h h') (y : Pens p h' h'') : Pens p h h'' := by
  obtain ⟨a, b, c, rfl, _⟩ := x.ex
  obtain ⟨d, e, f, rfl, r⟩ := y.ex
  exact ⟨d, e, f, by rw [List.set_set], r⟩
theorem live_of {h : PH} {p : Nat} {xs : List PV} (e : h[p]? = some (.lst xs)) : liveL h p = some xs := by
  unfold liveL; rw [e]
theorem live_set {h : PH} {p : Nat} {xs : List PV} (l : p < h.length) : liveL (h.set p (.lst xs)) p = some xs := live_of (List.getElem?_set_self l)
theorem idx_live {h : PH} {p : Nat} {xs : List PV} {i : Int} (e : liveL h p = some xs) : idxV (.ref p) (.int i) h = atI xs i := by
  simp [idxV, itemsV, e]
theorem see_live {h : PH} {p : Nat} {xs : List PV} (e : liveL h p = some xs) : see h (.ref p) = .lst xs := by
  simp [see, e]
@[simp] theorem bin_add {i j : Int} : binop .add (.int i) (.int j) = some (.int (i + j)) := rfl
@[simp] theorem bin_sub {i j : Int} : binop .sub (.int i) (.int j) = some (.int (i - j)) := rfl
theorem bin_mul {i j : Int} (h : i.natAbs < 18446744073709551616 ∨ j.natAbs < 18446744073709551616) : binop .mul (.int i) (.int j) = some (.int (i * j)) := if_pos h
theorem bin_mod {i j : Int} (h : j ≠ 0) : binop .mod (.int i) (.int j) = some (.int (i.fmod j)) := if_pos h
theorem bin_fdiv {i j : Int} (h : j ≠ 0 ∧ j.natAbs < 1073741824) : binop .fdiv (.int i) (.int j) = some (.int (i.fdiv j)) := if_pos h
theorem fmod_nat {i m : Int} (hm : 0 < m) : ∃ r : Nat, i.fmod m = r ∧ (r : Int) < m := by
  have h1 := Int.fmod_nonneg_of_pos i hm
  have h2 := Int.fmod_lt_of_pos i hm
  exact ⟨(i.fmod m).toNat, by omega, by omega⟩
theorem fmod_bd {i m : Int} (hm : 0 < m) : 0 ≤ i.fmod m ∧ i.fmod m < m := ⟨Int.fmod_nonneg_of_pos i hm, Int.fmod_lt_of_pos i hm⟩
section
variable {T : Tab}
theorem draw_spec (hT : T "_law_draw" = some f__law_draw) {p : Nat} {m : Int} {h : PH} (hp : PenAt h p) (m0 : 0 < m) (m1 : m < 1000) (k : Nat) :
    (call T (k + 1) "_law_draw" [.ref p, .int m] h).wp fun v h' => ∃ r : Nat, v = .int r ∧ (r : Int) < m ∧ Pens p h h' := by
  rw [call_eq hT]
  have lt := hp.lt
  obtain ⟨a, b, c, e, r⟩ := hp.ex
  have l0 := live_of e
  have hm : m ≠ 0 := by omega
  have hm2 : m.natAbs < 1073741824 := by omega
  have i0 : ixN 3 0 = some 0 := by decide
  have i1 : ixN 3 1 = some 1 := by decide
  have i2 : ixN 3 2 = some 2 := by decide
  have g0 : ∀ x y z : PV, atI [x, y, z] 0 = some x := fun x y z => by simp [atI, i0]
  have g1 : ∀ x y z : PV, atI [x, y, z] 1 = some y := fun x y z => by simp [atI, i1]
  have g2 : ∀ x y z : PV, atI [x, y, z] 2 = some z := fun x y z => by simp [atI, i2]
  refine run_wp rfl ?_
  by_cases ha : 0 < a
  · simp [f__law_draw, Ss.den, S.den, E.den, R.T.den, startP, idx_live l0, g0, ha, bin_mod hm, bin_fdiv ⟨hm, hm2⟩, l0, i0]
    obtain ⟨q, e1, e2⟩ := fmod_nat (i := a) (m := m) m0
    refine fix_same (by simp) ⟨q, by rw [e1], e2, ⟨_, _, _, rfl, ⟨?_, r.b0, r.b1, r.c0⟩⟩⟩
    exact Int.fdiv_nonneg r.a0 (by omega)
  · have l1 := live_set (h := h) (xs := [.int a, .int b, .int (c + 1)]) lt
    have b1 := r.b1
    have b0 := r.b0
    simp only [f__law_draw]
    generalize eb : (b * 48271 + 1009 * (c + 1) + 7).fmod 2147483647 = b'
    have bb := fmod_bd (i := b * 48271 + 1009 * (c + 1) + 7) (m := 2147483647) (by decide)
    rw [eb] at bb
    have l2 := live_set (h := h) (xs := [.int a, .int b', .int (c + 1)]) lt
    generalize ed : (b' * b' + 69621 * b' + 11).fmod 2147483629 = d
    have dd := fmod_bd (i := b' * b' + 69621 * b' + 11) (m := 2147483629) (by decide)
    rw [ed] at dd
    have q1 : binop .mul (.int b) (.int 48271) = some (.int (b * 48271)) := bin_mul (.inr (by decide))
    have q2 : ∀ z, binop .mul (.int 1009) (.int z) = some (.int (1009 * z)) := fun z => bin_mul (.inl (by decide))
    have q3 : binop .mul (.int b') (.int b') = some (.int (b' * b')) := bin_mul (.inl (by omega))
    have q4 : ∀ z, binop .mul (.int 69621) (.int z) = some (.int (69621 * z)) := fun z => bin_mul (.inl (by decide))
    have q5 : binop .mul (.int d) (.int d) = some (.int (d * d)) := bin_mul (.inl (by omega))
    have q6 : ∀ z, binop .mul (.int 40014) (.int z) = some (.int (40014 * z)) := fun z => bin_mul (.inl (by decide))
    have q7 : ∀ z, binop .mod (.int z) (.int 2147483647) = some (.int (z.fmod 2147483647)) := fun z => bin_mod (by decide)
    have q8 : ∀ z, binop .mod (.int z) (.int 2147483629) = some (.int (z.fmod 2147483629)) := fun z => bin_mod (by decide)
    have q9 : ∀ z, binop .mod (.int z) (.int 2147483587) = some (.int (z.fmod 2147483587)) := fun z => bin_mod (by decide)
    have q10 : ∀ z, binop .fdiv (.int z) (.int 16) = some (.int (z.fdiv 16)) := fun z => bin_fdiv ⟨by decide, by decide⟩
    have q11 : ∀ z, binop .mod (.int z) (.int m) = some (.int (z.fmod m)) := fun z => bin_mod hm
    simp [Ss.den, S.den, E.den, R.T.den, startP, idx_live l0, idx_live l1, idx_live l2, g0, g1, g2, ha, l0, l1, l2, i0, i1, i2, q1, q2, q3, q4, q5, q6, q7, q8, q9, q10, q11, eb, ed]
    obtain ⟨q, e1, e2⟩ := fmod_nat (i := ((d * d + 40014 * d).fmod 2147483587).fdiv 16) (m := m) m0
    exact fix_same (by simp) ⟨q, by rw [e1], e2, ⟨_, _, _, rfl, ⟨r.a0, bb.1, by omega, by have := r.c0; omega⟩⟩⟩
end
end R

set_option Elab.async false
set_option linter.all false
set_option maxRecDepth 100000
set_option maxHeartbeats 1000000
/-! Q: drawn sets, rules, books (the laws of the first part) -/
namespace R
open PySem PySem.Spec L2
theorem rng_N {n : Nat} (h : n ≤ 100000) : rngL 0 (n : Int) = some ((List.range n).map eN) := by
  unfold rngL
  rw [if_pos]
  · simp [eN, Function.comp_def]
  · exact ⟨by decide, by omega⟩
theorem range_get {n i : Nat} {x : PV} (h : ((List.range n).map eN)[i]? = some x) : x = eN i ∧ i < n := by
  rw [List.getElem?_map] at h
  cases hi : (List.range n)[i]? with
  | none => rw [hi] at h; cases h
  | some j =>
    rw [hi] at h
    cases h
    obtain ⟨h1, h2⟩ := List.getElem?_eq_some_iff.mp hi
    rw [List.length_range] at h1
    rw [List.getElem_range] at h2
    exact ⟨by rw [h2], h1⟩
theorem SetOk.snoc {i : Nat} {s : List Nat} (h : SetOk i s) : SetOk (i + 1) (s ++ [i]) := by
  refine ⟨?_, fun a ha => ?_⟩
  · rw [List.pairwise_append]
    refine ⟨h.asc, by simp, fun a ha b hb => ?_⟩
    rw [List.mem_singleton.mp hb]
    exact h.lt a ha
  · rcases List.mem_append.mp ha with z | z
    · have := h.lt a z; omega
    · rw [List.mem_singleton.mp z]; omega
theorem SetOk.up {i j : Nat} {s : List Nat} (h : SetOk i s) (hij : i ≤ j) : SetOk j s := ⟨h.asc, fun a ha => Nat.lt_of_lt_of_le (h.lt a ha) hij⟩
theorem SetOk.nil {n : Nat} : SetOk n [] := ⟨List.Pairwise.nil, fun a h => by cases h⟩
theorem SetOk.one {n a : Nat} (h : a < n) : SetOk n [a] := ⟨by simp, fun b hb => by rw [List.mem_singleton.mp hb]; exact h⟩
section
variable {T : Tab}
theorem some_spec (h1 : T "_law_draw" = some f__law_draw) (hT : T "_law_some" = some f__law_some) {p n : Nat} {sh : Int} {h : PH} (hp : PenAt h p) (hn : n ≤ 4) (k : Nat) :
    (call T (k + 2) "_law_some" [.ref p, .int n, .int sh] h).wp fun v h' => ∃ s, v = eS s ∧ SetOk n s ∧ Pens p h h' := by
  rw [call_eq hT]
  refine run_wp (by rfl) ?_
  simp [f__law_some, Ss.den, S.den, E.den, Es.den, I.den, R.T.den, startP, wipeP, rng_N (n := n) (by omega), wp_seq, wp_out, wp_bind, wp_nox]
  refine lc_wp (fun i acc h' => Pens p h h' ∧ ∃ s, acc = s.map eN ∧ SetOk i s) ⟨hp.self, [], rfl, .nil⟩ ?_ ?_
  · rintro i x acc h' hx ⟨hpn, s, rfl, hs⟩
    obtain ⟨rfl, hi⟩ := range_get hx
    simp only [wp_bind]
    refine wp_mono (draw_spec h1 (m := 6) (hpn.at hp.lt) (by decide) (by decide) k) ?_
    rintro v h'' ⟨r, rfl, hr, hp2⟩
    simp [wp_of]
    by_cases c : (r : Int) < sh
    · simp [c]
      exact ⟨hpn.trans hp2, s ++ [i], by simp, hs.snoc⟩
    · simp [c]
      exact ⟨hpn.trans hp2, s, by simp, hs.up (Nat.le_succ i)⟩
  · rintro acc h' ⟨hpn, s, rfl, hs⟩
    simp at hs ⊢
    exact fix_same hpn.len ⟨s, rfl, hs, hpn⟩
theorem rule_spec (h1 : T "_law_draw" = some f__law_draw) (h2 : T "_law_some" = some f__law_some) (hT : T "_law_rule" = some f__law_rule) {p n : Nat} {h : PH} (hp : PenAt h p) (n0 : 0 < n) (hn : n ≤ 4) (k : Nat) :
    (call T (k + 3) "_law_rule" [.ref p, .int n] h).wp fun v h' => ∃ r, v = eR r ∧ RuleOk n r ∧ Pens p h h' := by
  rw [call_eq hT]
  have one : ∀ (sh : Int) (h3 : PH), Pens p h h3 → (call T (k + 2) "_law_some" [.ref p, .int n, .int sh] h3).wp fun v h' => ∃ s, v = eS s ∧ SetOk n s ∧ Pens p h h' := fun sh h3 p3 =>
    wp_mono (some_spec h1 h2 (p3.at hp.lt) hn k) fun v h4 ⟨s, e, hs, p4⟩ => ⟨s, e, hs, p3.trans p4⟩
  have fin : ∀ (r : Rl) (h3 : PH), RuleOk n r → Pens p h h3 → (fixR false h.length (eR r) h3).wp fun v h' => ∃ r, v = eR r ∧ RuleOk n r ∧ Pens p h h' := fun r h3 hr p3 => fix_same p3.len ⟨r, rfl, hr, p3⟩
  have sz : (3 : Nat) ≤ sizeLine := by decide
  refine run_wp (by rfl) ?_
  simp only [f__law_rule]
  rw [wp_cons]
  simp [S.den, E.den, Es.den, startP, wp_out, wp_bind]
  refine wp_mono (draw_spec h1 hp (by omega) (by omega) (k + 1)) ?_
  rintro v h' ⟨hd, rfl, hhd, p1⟩
  refine wp_mono (draw_spec h1 (p1.at hp.lt) (by decide) (by decide) (k + 1)) ?_
  rintro v h'' ⟨way, rfl, hway, p2⟩
  have p12 := p1.trans p2
  have hdn : hd < n := by omega
  clear p1 p2 hhd hway
  have hdo : ∀ a, some hd = some a → a < n := fun a e => by cases e; exact hdn
  rw [wp_cons]
  by_cases c0 : way = 0
  · simp [S.den, E.den, Es.den, R.T.den, c0, wp_cons, sz]
    exact fin ⟨some hd, [], []⟩ _ ⟨hdo, .nil, .nil⟩ p12
  simp [S.den, E.den, R.T.den, c0]
  rw [wp_cons]
  by_cases c1 : (way : Int) < 3
  · simp [S.den, E.den, Es.den, R.T.den, c1, wp_cons, sz, wp_out, wp_bind]
    refine wp_mono (one _ _ p12) ?_
    rintro v h3 ⟨s, rfl, hs, p3⟩
    refine wp_mono (one _ _ p3) ?_
    rintro v h4 ⟨t, rfl, ht, p4⟩
    exact fin ⟨none, s, t⟩ _ ⟨fun a e => (nomatch e), hs, ht⟩ p4
  simp [S.den, E.den, R.T.den, c1]
  rw [wp_cons]
  by_cases c2 : (way : Int) < 5
  · simp [S.den, E.den, Es.den, R.T.den, c2, wp_cons, sz, wp_out, wp_bind]
    refine wp_mono (one _ _ p12) ?_
    rintro v h3 ⟨s, rfl, hs, p3⟩
    exact fin ⟨some hd, [], s⟩ _ ⟨hdo, .nil, hs⟩ p3
  simp [S.den, E.den, R.T.den, c2]
  rw [wp_cons]
  by_cases c3 : (way : Int) < 7
  · simp [S.den, E.den, Es.den, R.T.den, c3, wp_cons, sz, wp_out, wp_bind]
    refine wp_mono (one _ _ p12) ?_
    rintro v h3 ⟨s, rfl, hs, p3⟩
    exact fin ⟨some hd, s, []⟩ _ ⟨hdo, hs, .nil⟩ p3
  simp [S.den, E.den, R.T.den, c3]
  rw [wp_cons]
  simp [S.den, E.den, Es.den, wp_cons, sz, wp_out, wp_bind]
  refine wp_mono (one _ _ p12) ?_
  rintro v h3 ⟨s, rfl, hs, p3⟩
  refine wp_mono (one _ _ p3) ?_
  rintro v h4 ⟨t, rfl, ht, p4⟩
  exact fin ⟨some hd, s, t⟩ _ ⟨hdo, hs, ht⟩ p4
theorem fin_lst {n : Nat} {xs : List PV} {h h0 : PH} {p : Nat} {Q : PV → PH → Prop} (e : h = h0 ++ [.lst xs]) (l : h0.length = n) (u : h0.all (PO.under n) = true) (ux : PV.unders n xs = true) (q : Q (.lst xs) h0) : (fixR false n (.ref n) h).wp Q := by
  subst e l
  unfold fixR
  rw [if_neg (by simp), if_pos (by simpa using u)]
  simp [liveL, ux]
  exact q
end
theorem under_N {n : Nat} : ∀ s : List Nat, PV.unders n (s.map eN) = true
  | [] => rfl
  | a :: s => by rw [List.map_cons, PV.unders, under_N s]; rfl
theorem under_R {n : Nat} (r : Rl) : (eR r).under n = true := by
  simp only [eR, PV.under, PV.unders, eS, under_N, Bool.and_true]
  cases r.hd <;> rfl
theorem unders_R {n : Nat} : ∀ rs : List Rl, PV.unders n (rs.map eR) = true
  | [] => rfl
  | r :: rs => by rw [List.map_cons, PV.unders, under_R, unders_R rs]; rfl
/-- nothing live is within what is live -/
def Flat (h : PH) : Prop := ∀ o ∈ h, ∀ n, PO.under n o = true
theorem Flat.all {h : PH} (f : Flat h) (n : Nat) : h.all (PO.under n) = true := List.all_eq_true.mpr fun o ho => f o ho n
theorem Flat.take {h : PH} (f : Flat h) (n : Nat) : Flat (h.take n) := fun o ho => f o (List.mem_of_mem_take ho)
theorem Flat.snoc {h : PH} (f : Flat h) {o : PO} (ho : ∀ n, PO.under n o = true) : Flat (h ++ [o]) := fun x hx => by
  rcases List.mem_append.mp hx with z | z
  · exact f x z
  · rw [List.mem_singleton.mp z]; exact ho
theorem Flat.set {h : PH} (f : Flat h) {o : PO} {p : Nat} (ho : ∀ n, PO.under n o = true) : Flat (h.set p o) := fun x hx => by
  rcases List.mem_or_eq_of_mem_set hx with z | z
  · exact f x z
  · rw [z]; exact ho
theorem flat_pen {a b c : Int} (n : Nat) : PO.under n (pen3 a b c) = true := rfl
theorem Pens.flat {p : Nat} {h h' : PH} (x : Pens p h h') (f : Flat h) : Flat h' := by
  obtain ⟨a, b, c, rfl, _⟩ := x.ex
  exact f.set flat_pen
theorem Pens.more {p : Nat} {h h' : PH} (x : Pens p h h') (l : p < h.length) (t : List PO) : Pens p (h ++ t) (h' ++ t) := by
  obtain ⟨a, b, c, rfl, r⟩ := x.ex
  exact ⟨a, b, c, by rw [List.set_append_left _ _ l], r⟩
theorem PenAt.more {p : Nat} {h : PH} (x : PenAt h p) (t : List PO) : PenAt (h ++ t) p := by
  obtain ⟨a, b, c, e, r⟩ := x.ex
  exact ⟨a, b, c, by rw [List.getElem?_append_left x.lt]; exact e, r⟩
/-- the pen alone was written, below the new list -/
theorem Pens.back {p : Nat} {h h' : PH} {o : PO} (x : Pens p (h ++ [o]) h') (l : p < h.length) : ∃ h1, h' = h1 ++ [o] ∧ Pens p h h1 := by
  obtain ⟨a, b, c, rfl, r⟩ := x.ex
  exact ⟨h.set p (pen3 a b c), by rw [List.set_append_left _ _ l], ⟨a, b, c, rfl, r⟩⟩
section
variable {T : Tab}
theorem live_last {h : PH} {xs : List PV} {n : Nat} (e : h.length = n) : liveL (h ++ [.lst xs]) n = some xs := by
  subst e; exact live_of (by simp)
theorem isLive_of {h : PH} {n : Nat} {xs : List PV} (e : liveL h n = some xs) : isLive (.ref n) h = some () := by simp [isLive, e]
theorem app_of {h : PH} {n : Nat} {xs : List PV} {y : PV} (e : liveL h n = some xs) (l : xs.length < sizeLine) : mthR .append (.ref n) [y] h = .ok .non (h.set n (.lst (xs ++ [y]))) := by
  simp [mthR, Mth.den, e, l]
theorem set_last {h : PH} {o o' : PO} {n : Nat} (e : h.length = n) : (h ++ [o]).set n o' = h ++ [o'] := by
  subst e
  rw [List.set_append_right _ _ (Nat.le_refl _)]
  simp
theorem circle_spec (h1 : T "_law_draw" = some f__law_draw) (hT : T "_law_circle" = some f__law_circle) {p n : Nat} {h : PH} (hp : PenAt h p) (hf : Flat h) (n0 : 0 < n) (hn : n ≤ 4) (k : Nat) :
    (call T (k + 2) "_law_circle" [.ref p, .int n] h).wp fun v h' => ∃ rs : List Rl, v = .lst (rs.map eR) ∧ (∀ r ∈ rs, RuleOk n r) ∧ rs.Nodup ∧ rs.length = n ∧ Pens p h h' := by
  rw [call_eq hT]
  refine run_wp (by rfl) ?_
  simp only [f__law_circle]
  rw [wp_cons]
  simp [S.den, E.den, Es.den, startP]
  rw [wp_cons]
  simp [S.den, E.den, I.den, wp_out, rng_N (n := n) (by omega)]
  obtain ⟨I, hI⟩ : ∃ I : Nat → Sl → PH → Prop, I = fun i ρ h' => ∃ (rs : List Rl) (h0 : PH) (x y : Option PV), ρ = [some (.ref p), some (.int n), some (.ref h.length), x, y] ∧ h' = h0 ++ [.lst (rs.map eR)] ∧ Pens p h h0 ∧ (∀ r ∈ rs, RuleOk n r ∧ ∃ a, r.hd = some a ∧ a < i) ∧ rs.Nodup ∧ rs.length = i := ⟨_, rfl⟩
  refine for_wp I ?_ ?_ ?_
  · rw [hI]; exact ⟨[], h, none, none, rfl, rfl, hp.self, fun r hr => (by cases hr), List.nodup_nil, rfl⟩
  · intro i x ρ h' hx hi0
    rw [hI] at hi0
    obtain ⟨rs, h0, x0, y0, rfl, rfl, p0, hr, nd, hl⟩ := hi0
    obtain ⟨rfl, hi⟩ := range_get hx
    have hl0 := p0.len
    obtain ⟨m, hm⟩ : ∃ m, m = (i + 1) % n := ⟨_, rfl⟩
    have nlt : m < n := by rw [hm]; exact Nat.mod_lt _ n0
    have md : binop .mod (.int ((i : Int) + 1)) (.int n) = some (.int m) := by
      rw [bin_mod (by omega), Int.fmod_eq_emod_of_nonneg _ (by omega), hm]
      push_cast
      rfl
    clear hm
    have lv := live_last (h := h0) (xs := rs.map eR) hl0
    have sz1 : (1 : Nat) ≤ sizeLine := by decide
    have sz3 : (3 : Nat) ≤ sizeLine := by decide
    have hz : (rs.map eR).length < sizeLine := by rw [List.length_map, sizeLine_eq]; omega
    simp
    rw [wp_cons]
    simp [S.den, E.den, Es.den, eN, md, wp_out, wp_bind, sz1]
    rw [wp_cons]
    simp [S.den, E.den, Es.den, R.T.den, wp_out, wp_bind, isLive_of lv]
    refine wp_mono (draw_spec h1 ((p0.at hp.lt).more _) (by decide) (by decide) k) ?_
    rintro v h' ⟨d, rfl, _, p1⟩
    obtain ⟨h2, rfl, p2⟩ := p1.back (by rw [hl0]; exact hp.lt)
    have hl2 := p2.len
    have lv2 := live_last (h := h2) (xs := rs.map eR) (hl2.trans hl0)
    have fresh : ∀ r : Rl, r.hd = some i → r ∉ rs := fun r e hm => by
      obtain ⟨_, a, ea, la⟩ := hr r hm
      rw [e] at ea; cases ea; omega
    have go : ∀ (r : Rl) (x y : Option PV), r.hd = some i → RuleOk n r → I (i + 1) [some (.ref p), some (.int n), some (.ref h.length), x, y] ((h2 ++ [PO.lst (rs.map eR)]).set h.length (.lst (rs.map eR ++ [eR r]))) := fun r x y e hk => by
      rw [hI]
      refine ⟨rs ++ [r], h2, _, _, rfl, ?_, p0.trans p2, fun q hq => ?_, ?_, by simp [hl]⟩
      · rw [set_last (hl2.trans hl0)]
        simp
      · rcases List.mem_append.mp hq with z | z
        · obtain ⟨k1, a, k2, k3⟩ := hr q z
          exact ⟨k1, a, k2, by omega⟩
        · rw [List.mem_singleton.mp z]
          exact ⟨hk, i, e, by omega⟩
      · rw [List.nodup_append]
        refine ⟨nd, by simp, fun a ha b hb => ?_⟩
        rw [List.mem_singleton.mp hb]
        rintro rfl
        exact fresh a e ha
    by_cases c : 0 < d
    · simp [c, sz3, app_of lv2 hz]
      exact go ⟨some i, [], [m]⟩ _ _ rfl ⟨fun a e => by cases e; exact hi, .nil, .one nlt⟩
    · simp [c, sz3, app_of lv2 hz]
      exact go ⟨some i, [m], []⟩ _ _ rfl ⟨fun a e => by cases e; exact hi, .one nlt, .nil⟩
  · intro ρ h' hi0
    rw [hI] at hi0
    obtain ⟨rs, h0, x0, y0, rfl, rfl, p0, hr, nd, hl⟩ := hi0
    simp only [List.length_map, List.length_range] at hl
    simp
    rw [wp_cons]
    simp [S.den, E.den]
    refine fin_lst (p := 0) rfl p0.len ((p0.flat hf).all _) (unders_R rs) ⟨rs, rfl, fun r h => (hr r h).1, nd, hl, p0⟩
theorem nin_Rs {n : Nat} {r : Rl} {rs : List Rl} (hn : n ≤ 4) (hr : RuleOk n r) (hs : ∀ r ∈ rs, RuleOk n r) : cmpop .nin (eR r) (.lst (rs.map eR)) = some (!decide (r ∈ rs)) ∧ cmpop .nin (eR r) (eRs rs) = some (!decide (r ∈ rs)) ∧ cmpop .inn (eR r) (.lst (rs.map eR)) = some (decide (r ∈ rs)) ∧ cmpop .inn (eR r) (eRs rs) = some (decide (r ∈ rs)) := by
  have f1 := (hr.da hn).fine (by decide)
  have f2 := (da_lst (d := 2) (c := 78) (n := rs.length) (xs := rs.map eR) (fun x hx => by obtain ⟨a, ha, rfl⟩ := List.mem_map.mp hx; exact (hs a ha).da hn) (by simp)).fine (by decide)
  have f3 := (da_Rs hs hn (Nat.le_refl _)).fine (by decide)
  exact ⟨(in_lst eqv_R f1 f2).2, (in_tup eqv_R f1 f3).2, (in_lst eqv_R f1 f2).1, (in_tup eqv_R f1 f3).1⟩
structure HasDraws (T : Tab) : Prop where
  draw : T "_law_draw" = some f__law_draw
  some_ : T "_law_some" = some f__law_some
  rule : T "_law_rule" = some f__law_rule
  circle : T "_law_circle" = some f__law_circle
  book : T "_law_book" = some f__law_book
theorem book_spec (H : HasDraws T) {p : Nat} {h : PH} (hp : PenAt h p) (hf : Flat h) (k : Nat) :
    (call T (k + 4) "_law_book" [.ref p] h).wp fun v h' => ∃ n rs, v = eB n rs ∧ BookOk n rs ∧ rs.length ≤ 11 ∧ Pens p h h' := by
  rw [call_eq H.book]
  refine run_wp (by rfl) ?_
  simp only [f__law_book]
  rw [wp_cons]
  simp [S.den, E.den, Es.den, startP, wp_out, wp_bind]
  refine wp_mono (draw_spec H.draw hp (by decide) (by decide) (k + 2)) ?_
  rintro v h1 ⟨a, rfl, ha, p1⟩
  obtain ⟨n, hn⟩ : ∃ n : Nat, n = 1 + a := ⟨_, rfl⟩
  have en : (1 : Int) + a = n := by omega
  have n0 : 0 < n := by omega
  have n4 : n ≤ 4 := by omega
  clear hn
  simp [en]
  rw [wp_cons]
  simp [S.den, E.den, Es.den, R.T.den, wp_out, wp_bind]
  refine wp_mono (draw_spec H.draw (p1.at hp.lt) (by decide) (by decide) (k + 2)) ?_
  rintro v h2 ⟨b, rfl, _, p2⟩
  have p12 := p1.trans p2
  have rest : ∀ (rs : List Rl) (h3 : PH), (∀ r ∈ rs, RuleOk n r) → rs.Nodup → rs.length ≤ 4 → Pens p h h3 → (Ss.den (call T (k + 3)) (.cons (.for_ (.name 3) (.rng (.call "_law_draw" (.cons (.var 0) (.cons (.con (.int 8)) .nil))))
    (.cons (.asg (.name 4) (.call "_law_rule" (.cons (.var 0) (.cons (.var 1) .nil))))
    (.cons (.ite (.cmp .nin (.var 4) (.var 2))
    (.cons (.asg (.name 2) (.ite (.cmp .eq (.call "_law_draw" (.cons (.var 0) (.cons (.con (.int 2)) .nil))) (.con (.int 0))) (.bin .add (.lst false (.cons (.var 4) .nil)) (.var 2)) (.bin .add (.var 2) (.lst false (.cons (.var 4) .nil)))))
    .nil)
    .nil)
    .nil)))
    (.cons (.ret (.tup (.cons (.var 1) (.cons (.blt .tuple (.cons (.var 2) .nil)) .nil))))
    .nil)) [some (.ref p), some (.int n), some (.lst (rs.map eR)), none, none] h3).wp { nx := fun _ h1 => (fixR false h.length .non h1).wp fun v h' => ∃ n rs, v = eB n rs ∧ BookOk n rs ∧ rs.length ≤ 11 ∧ Pens p h h', rt := fun v h1 => (fixR false h.length v h1).wp fun v h' => ∃ n rs, v = eB n rs ∧ BookOk n rs ∧ rs.length ≤ 11 ∧ Pens p h h' } := by
    intro rs0 h3 ok0 nd0 l0 p3
    rw [wp_cons]
    simp [S.den, I.den, E.den, Es.den, wp_out, wp_bind]
    refine wp_mono (draw_spec H.draw (p3.at hp.lt) (by decide) (by decide) (k + 2)) ?_
    rintro v h4 ⟨m, rfl, hm, p4⟩
    simp [rng_N (n := m) (by omega)]
    obtain ⟨I, hI⟩ : ∃ I : Nat → Sl → PH → Prop, I = fun i ρ h' => ∃ (rs : List Rl) (x y : Option PV), ρ = [some (.ref p), some (.int n), some (.lst (rs.map eR)), x, y] ∧ Pens p h h' ∧ (∀ r ∈ rs, RuleOk n r) ∧ rs.Nodup ∧ rs.length ≤ 4 + i := ⟨_, rfl⟩
    refine for_wp I ?_ ?_ ?_
    · rw [hI]; exact ⟨rs0, none, none, rfl, p3.trans p4, ok0, nd0, l0⟩
    · intro i x ρ h5 hx hi0
      rw [hI] at hi0
      obtain ⟨rs, x0, y0, rfl, p5, ok, nd, hl⟩ := hi0
      obtain ⟨rfl, hi⟩ := range_get hx
      simp
      rw [wp_cons]
      simp [S.den, E.den, Es.den, wp_out, wp_bind]
      refine wp_mono (rule_spec H.draw H.some_ H.rule (p5.at hp.lt) n0 n4 k) ?_
      rintro v h6 ⟨r, rfl, hr, p6⟩
      have p56 := p5.trans p6
      rw [wp_cons]
      have nin := (nin_Rs n4 hr ok).1
      by_cases c : r ∈ rs
      · simp [S.den, E.den, R.T.den, nin, c]
        rw [hI]; exact ⟨rs, _, _, rfl, p56, ok, nd, by omega⟩
      · simp [S.den, E.den, R.T.den, nin, c, wp_out]
        rw [wp_cons]
        simp [S.den, E.den, Es.den, R.T.den, wp_out, wp_bind]
        refine wp_mono (draw_spec H.draw (p56.at hp.lt) (by decide) (by decide) (k + 2)) ?_
        rintro v h7 ⟨d, rfl, _, p7⟩
        have sz1 : (1 : Nat) ≤ sizeLine := by decide
        have sz2 : 1 + rs.length ≤ sizeLine := by rw [sizeLine_eq]; omega
        have sz3 : rs.length + 1 ≤ sizeLine := by rw [sizeLine_eq]; omega
        by_cases c2 : d = 0
        · simp [c2, sz1, binop, sz2]
          rw [hI]
          exact ⟨r :: rs, _, _, rfl, p56.trans p7, fun q hq => (List.mem_cons.mp hq).elim (fun e => e ▸ hr) (ok q), List.nodup_cons.mpr ⟨c, nd⟩, by simp; omega⟩
        · simp [c2, sz1, binop, sz3]
          rw [hI]
          refine ⟨rs ++ [r], some (eN i), some (eR r), by simp, p56.trans p7, fun q hq => ?_, ?_, by simp; omega⟩
          · rcases List.mem_append.mp hq with z | z
            · exact ok q z
            · rw [List.mem_singleton.mp z]; exact hr
          · rw [List.nodup_append]
            refine ⟨nd, by simp, fun a ha b hb => ?_⟩
            rw [List.mem_singleton.mp hb]
            rintro rfl
            exact c ha
    · intro ρ h5 hi0
      rw [hI] at hi0
      obtain ⟨rs, x0, y0, rfl, p5, ok, nd, hl⟩ := hi0
      simp only [List.length_map, List.length_range] at hl
      have sz : (2 : Nat) ≤ sizeLine := by decide
      dsimp only
      rw [wp_cons]
      simp [S.den, E.den, Es.den, sz]
      exact fix_same p5.len ⟨n, rs, rfl, ⟨n0, n4, ok, nd, by omega⟩, by omega, p5⟩
  by_cases c : b = 0
  · simp [c]
    refine wp_mono (circle_spec H.draw H.circle (p12.at hp.lt) (p12.flat hf) n0 n4 (k + 1)) ?_
    rintro v h3 ⟨rs, rfl, ok, nd, hl, p3⟩
    exact rest rs h3 ok nd (by omega) (p12.trans p3)
  · simp [c]
    exact rest [] h2 (fun r hr => by cases hr) List.nodup_nil (by simp) p12
end
end R

set_option Elab.async false
set_option linter.all false
set_option maxRecDepth 100000
set_option maxHeartbeats 1000000
/-! Q: all sets of some atoms -/
namespace R
open PySem PySem.Spec L2
def setsUn : Nat → List (List Nat)
  | 0 => [[]]
  | n + 1 => setsUn n ++ (setsUn n).map fun s => s ++ [n]
/-- the sets, ascending -/
def sets : Nat → List (List Nat)
  | 1 => [[], [0]]
  | 2 => [[], [0], [0, 1], [1]]
  | 3 => [[], [0], [0, 1], [0, 1, 2], [0, 2], [1], [1, 2], [2]]
  | 4 => [[], [0], [0, 1], [0, 1, 2], [0, 1, 2, 3], [0, 1, 3], [0, 2], [0, 2, 3], [0, 3], [1], [1, 2], [1, 2, 3], [1, 3], [2], [2, 3], [3]]
  | _ => []
def leS (s t : List Nat) : Bool := PySem.W.dataLe false PV.dat (eS s) (eS t)
theorem msort_eq {α : Type} [DecidableEq α] {le : α → α → Bool} {l l' : List α} (tr : ∀ a b c, le a b = true → le b c = true → le a c = true) (to : ∀ a b, (le a b || le b a) = true) (hp : l.isPerm l' = true) (hs : l'.Pairwise fun a b => le a b = true) (an : (l'.all fun a => l'.all fun b => !(le a b && le b a) || decide (a = b)) = true) : l.mergeSort le = l' := by
  have p1 := List.mergeSort_perm l le
  have p2 := p1.trans (List.isPerm_iff.mp hp)
  refine p2.eq_of_pairwise (le := fun a b => le a b = true) (fun a b ha hb h1 h2 => ?_) (List.pairwise_mergeSort tr to l) hs
  have := List.all_eq_true.mp (List.all_eq_true.mp an a (p2.mem_iff.mp ha)) b hb
  simpa [h1, h2] using this
theorem leT : PySem.W.TotalLe (PySem.W.dataLe false PV.dat) := PySem.W.sortLe_total _ _ _
theorem leS_tr (a b c : List Nat) (h1 : leS a b = true) (h2 : leS b c = true) : leS a c = true := leT.trans (eS a) (eS b) (eS c) h1 h2
theorem leS_to (a b : List Nat) : (leS a b || leS b a) = true := by
  rw [Bool.or_eq_true]; exact leT.total (eS a) (eS b)
theorem sort_sets {n : Nat} (h0 : 0 < n) (h4 : n ≤ 4) : (setsUn n).mergeSort leS = sets n := by
  have : n = 1 ∨ n = 2 ∨ n = 3 ∨ n = 4 := by omega
  refine msort_eq leS_tr leS_to ?_ ?_ ?_
  all_goals (rcases this with rfl | rfl | rfl | rfl <;> decide +kernel)
theorem sortable {n : Nat} (h0 : 0 < n) (h4 : n ≤ 4) : (((setsUn n).map eS).all PV.fine && allAlikeB (((setsUn n).map eS).map PV.dat) && sortableB (((setsUn n).map eS).map PV.dat)) = true := by
  have : n = 1 ∨ n = 2 ∨ n = 3 ∨ n = 4 := by omega
  rcases this with rfl | rfl | rfl | rfl <;> decide +kernel
theorem sortV_sets {n : Nat} (h0 : 0 < n) (h4 : n ≤ 4) : sortV ((setsUn n).map eS) = some ((sets n).map eS) := by
  rw [sortV_eq]
  rw [if_pos (sortable h0 h4), ← sort_sets h0 h4, List.map_mergeSort (s := PySem.W.dataLe false PV.dat)]
  intro a _ b _
  rfl
theorem sets_ok {n : Nat} (h0 : 0 < n) (h4 : n ≤ 4) : ∀ s ∈ sets n, SetOk n s := by
  have : n = 1 ∨ n = 2 ∨ n = 3 ∨ n = 4 := by omega
  have key : ∀ n, (n = 1 ∨ n = 2 ∨ n = 3 ∨ n = 4) → ((sets n).all fun s => decide (s.Pairwise (· < ·)) && s.all fun a => decide (a < n)) = true := by
    intro n h
    rcases h with rfl | rfl | rfl | rfl <;> decide +kernel
  intro s hs
  have := List.all_eq_true.mp (key n this) s hs
  rw [Bool.and_eq_true, decide_eq_true_eq, List.all_eq_true] at this
  exact ⟨this.1, fun a ha => of_decide_eq_true (this.2 a ha)⟩
theorem setsUn_len : ∀ n, (setsUn n).length = 2 ^ n
  | 0 => rfl
  | n + 1 => by rw [setsUn, List.length_append, List.length_map, setsUn_len n, Nat.pow_succ]; omega
theorem setsUn_small : ∀ n, ∀ s ∈ setsUn n, s.length ≤ n
  | 0, s, hs => by rw [List.mem_singleton.mp hs]; exact Nat.zero_le _
  | n + 1, s, hs => by
    rcases List.mem_append.mp hs with z | z
    · have := setsUn_small n s z; omega
    · obtain ⟨t, ht, rfl⟩ := List.mem_map.mp z
      have := setsUn_small n t ht
      simp; omega
def bodySets : Ss := .cons (.asg (.name 1) (.lst false (.cons (.tup .nil) .nil)))
    (.cons (.for_ (.name 2) (.rng (.var 0))
    (.cons (.asg (.name 1) (.bin .add (.var 1) (.lc false [3] (.name 3) (.seq (.var 1)) .yes (.bin .add (.var 3) (.tup (.cons (.var 2) .nil))))))
    .nil))
    (.cons (.ret (.blt .sorted (.cons (.var 1) .nil)))
    .nil))
section
variable {T : Tab}
/-- the body that sets_of and the laws' _law_sets have -/
theorem sets_body {Φ : Fns} {n : Nat} (h0 : 0 < n) (h4 : n ≤ 4) (h : PH) : (Ss.den Φ bodySets [some (.int n), none, none, none] h).wp { nx := fun _ _ => False, rt := fun v h1 => v = .lst ((sets n).map eS) ∧ h1 = h } := by
  have sz0 : (0 : Nat) ≤ sizeLine := by decide
  have sz1 : (1 : Nat) ≤ sizeLine := by decide
  unfold bodySets
  rw [wp_cons]
  simp [S.den, E.den, Es.den, sz1]
  rw [wp_cons]
  simp [S.den, E.den, I.den, wp_out, rng_N (n := n) (by omega)]
  obtain ⟨I, hI⟩ : ∃ I : Nat → Sl → PH → Prop, I = fun i ρ h' => ∃ x y : Option PV, ρ = [some (.int n), some (.lst ((setsUn i).map eS)), x, y] ∧ h' = h := ⟨_, rfl⟩
  refine for_wp I ?_ ?_ ?_
  · rw [hI]; exact ⟨none, none, rfl, rfl⟩
  · intro i x ρ h' hx hi0
    rw [hI] at hi0
    obtain ⟨x0, y0, rfl, rfl⟩ := hi0
    obtain ⟨rfl, hi⟩ := range_get hx
    have big : 2 ^ i ≤ 16 := by
      have : i = 0 ∨ i = 1 ∨ i = 2 ∨ i = 3 := by omega
      rcases this with rfl | rfl | rfl | rfl <;> decide
    have hl := setsUn_len i
    have sz2 : 2 ^ i + 2 ^ i ≤ sizeLine := by rw [sizeLine_eq]; omega
    simp
    rw [wp_cons]
    simp [S.den, E.den, Es.den, R.T.den, R.I.den, wipeP, wp_out, wp_bind, wp_nox]
    rw [lc_all fun s => eS (s ++ [i])]
    · simp [binop, hl, sz2]
      rw [hI]
      exact ⟨some (eN i), y0, by simp [setsUn, Function.comp_def], rfl⟩
    · intro s hs
      have := setsUn_small i s hs
      have sz3 : s.length + 1 ≤ sizeLine := by rw [sizeLine_eq]; omega
      simp [eS, binop, sz1, sz3]
  · intro ρ h' hi0
    rw [hI] at hi0
    obtain ⟨x0, y0, rfl, rfl⟩ := hi0
    simp only [List.length_map, List.length_range]
    rw [wp_cons]
    simp [S.den, E.den, Es.den, sortV_sets h0 h4]
theorem sets_run {f : Str} {qu : Bool} (hT : T f = some ⟨1, 4, false, bodySets, false, false, qu⟩) {n : Nat} (h0 : 0 < n) (h4 : n ≤ 4) (k : Nat) (h : PH) : call T (k + 1) f [.int n] h = .ok (.lst ((sets n).map eS)) h := by
  rw [call_eq hT]
  have z := sets_body (Φ := call T k) h0 h4 h
  have e : startP 4 [.int n] = [some (.int n), none, none, none] := rfl
  rw [run_plain rfl rfl]
  unfold Fn.runB
  simp only [e, List.length_cons, List.length_nil, Nat.zero_add, if_true]
  cases ho : bodySets.den (call T k) [some (.int n), none, none, none] h with
  | rt v h1 =>
    rw [ho] at z
    obtain ⟨rfl, rfl⟩ := z
    simp [fixR]
  | _ => rw [ho] at z; exact z.elim
theorem sets_of_spec (hT : T "sets_of" = some f_sets_of) {n : Nat} (h0 : 0 < n) (h4 : n ≤ 4) (k : Nat) (h : PH) : call T (k + 1) "sets_of" [.int n] h = .ok (.lst ((sets n).map eS)) h := sets_run hT h0 h4 k h
theorem law_sets_spec (hT : T "_law_sets" = some f__law_sets) {n : Nat} (h0 : 0 < n) (h4 : n ≤ 4) (k : Nat) (h : PH) : call T (k + 1) "_law_sets" [.int n] h = .ok (.lst ((sets n).map eS)) h := sets_run hT h0 h4 k h
/-! ### cells, pens, sameness -/
theorem bin_pow {i j : Int} (h : 0 ≤ j ∧ j.natAbs ≤ 1000000 ∧ i.natAbs < 18446744073709551616) : binop .pow (.int i) (.int j) = some (.int (i ^ j.toNat)) := if_pos h
theorem cell_at_spec (hT : T "_law_cell_at" = some f__law_cell_at) (ns : List Int) (i k : Nat) (h : PH) : ∃ c : Int, call T (k + 1) "_law_cell_at" [.scr ns, .int i] h = .ok (.int c) h := by
  rw [call_eq hT]
  by_cases c : i < ns.length
  · refine ⟨ns[i], run_ret rfl ?_⟩
    have a1 : atI (ns.map PV.int) (i : Int) = some (.int ns[i]) := atI_nat (by simp [c])
    simp [f__law_cell_at, Ss.den, S.den, E.den, Es.den, R.T.den, startP, see, lenV, itemsV, idxV, c, a1]
  · refine ⟨0, run_ret rfl ?_⟩
    have c2 : ¬ ((i : Int) < (ns.length : Int)) := by omega
    simp [f__law_cell_at, Ss.den, S.den, E.den, Es.den, R.T.den, startP, see, lenV, itemsV, c]
theorem pen_spec (hT : T "_law_pen" = some f__law_pen) (c : Int) (k : Nat) (h : PH) : (call T (k + 1) "_law_pen" [.int c] h).wp fun v h' => v = .ref h.length ∧ ∃ x y z, h' = h ++ [pen3 x y z] ∧ PenR x y z := by
  rw [call_eq hT]
  refine run_wp (by rfl) ?_
  have q1 : binop .pow (.int 10) (.int 18) = some (.int 1000000000000000000) := by rw [bin_pow (by decide)]; rfl
  have q2 : binop .mod (.int c) (.int 2147483629) = some (.int (c.fmod 2147483629)) := bin_mod (by decide)
  have bd := fmod_bd (i := c) (m := 2147483629) (by decide)
  have sz : (3 : Nat) ≤ sizeLine := by decide
  simp only [f__law_pen]
  rw [wp_cons]
  simp [S.den, E.den, Es.den, startP, q1, q2, sz]
  refine fix_keep ⟨rfl, _, _, _, rfl, ⟨?_, by omega, by omega, by decide⟩⟩
  split <;> omega
theorem same_spec (hT : T "_law_same" = some f__law_same) {p q : PV} {x : Str} {h : PH} (e1 : showV (see h p) = some x) (e2 : showV (see h q) = some x) (k : Nat) : call T (k + 1) "_law_same" [p, q] h = .ok (.bl true) h := by
  rw [call_eq hT]
  refine run_ret rfl ?_
  simp [f__law_same, Ss.den, S.den, E.den, Es.den, startP, e1, e2]
end
theorem pen_new {h : PH} {x y z : Int} (r : PenR x y z) : PenAt (h ++ [pen3 x y z]) h.length := ⟨x, y, z, by simp, r⟩
end R

set_option Elab.async false
set_option linter.all false
set_option maxRecDepth 100000
set_option maxHeartbeats 1000000
/-! Q: what the laws of the first part ask for themselves -/
namespace R
open PySem PySem.Spec L2
theorem eqNil_N {s : List Nat} (hl : s.length ≤ 4) (h : ∀ a ∈ s, a < 1000) : cmpop .eq (.lst (s.map eN)) (.lst []) = some (decide (s = [])) ∧ cmpop .ne (.lst (s.map eN)) (.lst []) = some (!decide (s = [])) := by
  have f1 : (PV.lst (s.map eN)).fine = true := (da_lst (d := 0) (c := 3) (n := 4) (xs := s.map eN) (fun x hx => by obtain ⟨a, ha, rfl⟩ := List.mem_map.mp hx; exact da_nat a (h a ha)) (by simpa using hl)).fine (by decide)
  exact eq_lst (enc := eN) eqv_N (ys := []) f1 rfl
theorem filter_small {n : Nat} {s : List Nat} (hs : SetOk n s) (hn : n ≤ 4) (k : Nat → Bool) : (s.filter k).length ≤ 4 ∧ ∀ a ∈ s.filter k, a < 1000 :=
  ⟨Nat.le_trans (List.length_filter_le _ _) (Nat.le_trans hs.len hn), fun a ha => by have := hs.lt a (List.mem_filter.mp ha).1; omega⟩
section
variable {T : Tab}
theorem law_remains_spec (hT : T "_law_remains" = some f__law_remains) {n : Nat} {r : Rl} {t : List Nat} (hn : n ≤ 4) (hr : RuleOk n r) (ht : SetOk n t) (k : Nat) (h : PH) : call T (k + 1) "_law_remains" [eR r, eS t] h = .ok (.bl (remainsP r t)) h := by
  rw [call_eq hT]
  refine run_ret rfl ?_
  simp [f__law_remains, Ss.den, S.den, E.den, Es.den, I.den, R.T.den, startP, wipeP]
  rw [lc_some (fun a => decide (a ∈ t)) eN]
  · obtain ⟨f1, f2⟩ := filter_small hr.fa hn fun a => decide (a ∈ t)
    simp [(eqNil_N f1 f2).1]
    unfold remainsP
    by_cases c : ∀ a ∈ r.fa, a ∉ t
    · have : (r.fa.all fun a => !decide (a ∈ t)) = true := by simpa using c
      rw [this]; simpa using c
    · have : (r.fa.all fun a => !decide (a ∈ t)) = false := by simpa using c
      rw [this]; simpa using c
  · intro a ha
    have e := ht.inn (m := 0) (a := a) hn (by have := hr.fa.lt a ha; omega)
    by_cases c : a ∈ t <;> simp [e, c]
theorem law_obeys_spec (hT : T "_law_obeys" = some f__law_obeys) {n : Nat} {r : Rl} {t : List Nat} (hn : n ≤ 4) (hr : RuleOk n r) (ht : SetOk n t) (k : Nat) (h : PH) : call T (k + 1) "_law_obeys" [eS t, eR r] h = .ok (.bl (obeysP t r)) h := by
  rw [call_eq hT]
  refine run_ret rfl ?_
  have hh := hd_inn ht hn hr.hd
  have rest : hdIn r.hd t = false → (Ss.den (call T k) (.cons (.ret (.cmp .ne (.lc false [2] (.name 2) (.seq (.idx (.var 1) (.con (.int 1)))) (.cmp .nin (.var 2) (.var 0)) (.var 2)) (.lst false .nil))) .nil) [some (eS t), some (eR r), none] h) = .rt (.bl (obeysP t r)) h := fun c => by
    simp [Ss.den, S.den, E.den, Es.den, I.den, R.T.den, wipeP]
    rw [lc_some (fun a => !decide (a ∈ t)) eN]
    · obtain ⟨f1, f2⟩ := filter_small hr.ho hn fun a => !decide (a ∈ t)
      simp [(eqNil_N f1 f2).2, obeysP, c, within]
      by_cases c : ∀ a ∈ r.ho, a ∈ t
      · have : (r.ho.all fun a => decide (a ∈ t)) = true := by simpa using c
        rw [this]; simpa using c
      · have : (r.ho.all fun a => decide (a ∈ t)) = false := by simpa using c
        rw [this]; simpa using c
    · intro a ha
      have e := ht.nin (m := 0) (a := a) hn (by have := hr.ho.lt a ha; omega)
      by_cases c : a ∈ t <;> simp [e, c]
  cases ho : r.hd with
  | none =>
    have c : hdIn r.hd t = false := by rw [ho]; rfl
    have := rest c
    simp only [f__law_obeys]
    rw [Ss.den]
    simp [S.den, E.den, R.T.den, Ts.den, startP, ho]
    exact this
  | some a =>
    cases c : hdIn r.hd t with
    | true =>
      have c2 := c
      rw [ho] at hh c2
      simp [f__law_obeys, Ss.den, S.den, E.den, R.T.den, Ts.den, startP, ho, hh, c2, obeysP]
    | false =>
      have := rest c
      have c2 := c
      rw [ho] at hh c2
      simp only [f__law_obeys]
      rw [Ss.den]
      simp [S.den, E.den, R.T.den, Ts.den, startP, ho, hh, c2]
      exact this
theorem law_violates_spec (h1 : T "_law_remains" = some f__law_remains) (h2 : T "_law_obeys" = some f__law_obeys) (hT : T "_law_violates" = some f__law_violates) {n : Nat} {r : Rl} {t : List Nat} (hn : n ≤ 4) (hr : RuleOk n r) (ht : SetOk n t) (k : Nat) (h : PH) : call T (k + 2) "_law_violates" [eS t, eR r] h = .ok (.bl (violatesP t r)) h := by
  rw [call_eq hT]
  refine run_ret rfl ?_
  simp [f__law_violates, Ss.den, S.den, E.den, Es.den, Es.denB, bools, startP, law_remains_spec h1 hn hr ht, law_obeys_spec h2 hn hr ht, violatesP]
  cases remainsP r t <;> simp
end
end R

set_option Elab.async false
set_option linter.all false
set_option maxRecDepth 100000
set_option maxHeartbeats 1000000
/-! Q: least sets -/
namespace R
open PySem PySem.Spec L2
theorem while_wp {t : Sl → PH → Res (Bool × Sl)} {f : Sl → PH → Out} {P : Po} (I : Nat → Sl → PH → Prop)
    (step : ∀ m ρ h, I m ρ h → (t ρ h).wp fun b h1 => if b.1 = true then ∃ m', m = m' + 1 ∧ (f b.2 h1).wp { nx := I m', ct := I m', bk := P.nx, rt := P.rt } else P.nx b.2 h1) :
    ∀ (m N : Nat) (ρ : Sl) (h : PH), m < N → I m ρ h → (whileL t f N ρ h).wp P := by
  intro m
  induction m with
  | zero =>
    intro N ρ h hN hi
    obtain ⟨N, rfl⟩ : ∃ k, N = k + 1 := ⟨N - 1, by omega⟩
    have w := step 0 ρ h hi
    simp only [whileL]
    rw [wp_out]
    refine wp_mono w fun b h1 q => ?_
    by_cases c : b.1 = true
    · rw [if_pos c] at q
      obtain ⟨m', e, _⟩ := q
      omega
    · rw [if_neg c] at q ⊢
      exact q
  | succ m ih =>
    intro N ρ h hN hi
    obtain ⟨N, rfl⟩ : ∃ k, N = k + 1 := ⟨N - 1, by omega⟩
    have w := step (m + 1) ρ h hi
    simp only [whileL]
    rw [wp_out]
    refine wp_mono w fun b h1 q => ?_
    by_cases c : b.1 = true
    · rw [if_pos c] at q ⊢
      obtain ⟨m', e, q⟩ := q
      obtain rfl : m = m' := by omega
      cases ho : f b.2 h1 with
      | nx ρ1 h2 => rw [ho] at q; exact ih N ρ1 h2 (by omega) q
      | ct ρ1 h2 => rw [ho] at q; exact ih N ρ1 h2 (by omega) q
      | bk ρ1 h2 => rw [ho] at q; exact q
      | rt v h2 => rw [ho] at q; exact q
      | exc _ _ _ => rw [ho] at q; exact q
      | bad => rw [ho] at q; exact q
    · rw [if_neg c] at q ⊢
      exact q
/-! ### every set is listed -/
theorem asc_eq : ∀ {s t : List Nat}, s.Pairwise (· < ·) → t.Pairwise (· < ·) → (∀ a, a ∈ s ↔ a ∈ t) → s = t := by
  intro s t hs ht h
  have ns : s.Nodup := hs.imp fun h => by omega
  have nt : t.Nodup := ht.imp fun h => by omega
  have pm : s.Perm t := (List.perm_ext_iff_of_nodup ns nt).mpr h
  exact pm.eq_of_pairwise (le := fun x y => x ≤ y) (fun x y _ _ h1 h2 => by omega) (hs.imp fun h => by omega) (ht.imp fun h => by omega)
theorem SetOk.eq {n m : Nat} {s t : List Nat} (hs : SetOk n s) (ht : SetOk m t) (h : ∀ a, a ∈ s ↔ a ∈ t) : s = t := asc_eq hs.asc ht.asc h
theorem sets_all {n : Nat} (h0 : 0 < n) (h4 : n ≤ 4) {s : List Nat} (hs : SetOk n s) : s ∈ sets n := by
  have key : s = (List.range n).filter fun a => decide (a ∈ s) := by
    refine asc_eq hs.asc (List.Pairwise.filter _ List.pairwise_lt_range) fun a => ?_
    rw [List.mem_filter, List.mem_range, decide_eq_true_eq]
    exact ⟨fun h => ⟨hs.lt a h, h⟩, fun h => h.2⟩
  have fin : ∀ b0 b1 b2 b3 : Bool, ∀ n, (n = 1 ∨ n = 2 ∨ n = 3 ∨ n = 4) → ((List.range n).filter fun a => if a = 0 then b0 else if a = 1 then b1 else if a = 2 then b2 else b3) ∈ sets n := by
    intro b0 b1 b2 b3 n hn
    rcases hn with rfl | rfl | rfl | rfl <;> revert b0 b1 b2 b3 <;> decide +kernel
  have := fin (decide (0 ∈ s)) (decide (1 ∈ s)) (decide (2 ∈ s)) (decide (3 ∈ s)) n (by omega)
  have e : ((List.range n).filter fun a => decide (a ∈ s)) = ((List.range n).filter fun a => if a = 0 then decide (0 ∈ s) else if a = 1 then decide (1 ∈ s) else if a = 2 then decide (2 ∈ s) else decide (3 ∈ s)) := by
    refine List.filter_congr fun a ha => ?_
    rw [List.mem_range] at ha
    have : a = 0 ∨ a = 1 ∨ a = 2 ∨ a = 3 := by omega
    rcases this with rfl | rfl | rfl | rfl <;> simp
  rw [key, e]
  exact this
/-! ### sorted(set(..)) -/
theorem dedup_cast : ∀ l : List Nat, dedupK (l.map fun a : Nat => (a : Int)) = (dedupK l).map fun a : Nat => (a : Int)
  | [] => rfl
  | a :: l => by
    have hm : ((a : Int) ∈ dedupK (l.map fun a : Nat => (a : Int))) ↔ a ∈ dedupK l := by
      rw [dedupK_mem, dedupK_mem, List.mem_map]
      exact ⟨fun ⟨b, hb, e⟩ => by have : b = a := by omega
                                  exact this ▸ hb, fun h => ⟨a, h, rfl⟩⟩
    rw [List.map_cons]
    unfold dedupK
    by_cases c : a ∈ dedupK l
    · rw [if_pos c, if_pos (hm.mpr c), dedup_cast l]
    · rw [if_neg c, if_neg (fun z => c (hm.mp z)), dedup_cast l, List.map_cons]
def upS (l : List Nat) : List Nat := (dedupK l).mergeSort fun a b => decide (a ≤ b)
theorem upS_mem {l : List Nat} {a : Nat} : a ∈ upS l ↔ a ∈ l := by
  unfold upS
  rw [(List.mergeSort_perm _ _).mem_iff, dedupK_mem]
theorem upS_asc (l : List Nat) : (upS l).Pairwise (· < ·) := by
  have nd : (upS l).Nodup := (List.mergeSort_perm _ _).nodup_iff.mpr (dedupK_nodup l)
  have le := List.pairwise_mergeSort (le := fun a b : Nat => decide (a ≤ b)) (fun a b c h1 h2 => by simp only [decide_eq_true_eq] at *; omega) (fun a b => by simp only [Bool.or_eq_true, decide_eq_true_eq]; omega) (dedupK l)
  have le2 : (upS l).Pairwise fun a b => decide (a ≤ b) = true := le
  refine List.Pairwise.imp₂ (fun a b h1 h2 => ?_) le2 nd
  simp only [decide_eq_true_eq] at h1
  omega
theorem upS_ok {n : Nat} {l : List Nat} (h : ∀ a ∈ l, a < n) : SetOk n (upS l) := ⟨upS_asc l, fun a ha => h a (upS_mem.mp ha)⟩
theorem sortedSet_N {l : List Nat} (hl : l.length < 60) : sortedSetV (l.map eN) = some (.lst ((upS l).map eN)) := by
  have e1 : allV intV (l.map eN) = some (l.map fun a : Nat => (a : Int)) := by
    clear hl
    induction l with
    | nil => rfl
    | cons a l ih => simp [allV, eN] at ih ⊢; rw [ih]
  rw [sortedSetV_eq]
  rw [e1]
  simp only [Option.bind_some, List.length_map, hl, if_true, dedup_cast]
  congr 2
  unfold upS
  rw [← List.map_mergeSort (r := fun a b : Nat => decide (a ≤ b)) (fun a _ b _ => by simp)]
  rw [List.map_map]
  rfl
/-! ### the least set -/
def someP (rs : List Rl) (y : List Nat) : List Rl := rs.filter fun r => r.hd.isSome && remainsP r y
def hds (rs : List Rl) : List Nat := rs.filterMap Rl.hd
def badP (rs : List Rl) (s : List Nat) : List Rl := rs.filter fun r => !obeysP s r
/-- s obeys all, and lies in all that do -/
structure Least (n : Nat) (rs : List Rl) (s : List Nat) : Prop where
  ok : SetOk n s
  all : ∀ r ∈ rs, obeysP s r = true
  low : ∀ t, SetOk n t → (∀ r ∈ rs, obeysP t r = true) → ∀ a ∈ s, a ∈ t
theorem within_iff {s t : List Nat} : within s t = true ↔ ∀ a ∈ s, a ∈ t := by
  unfold within; rw [List.all_eq_true]; simp
theorem obeys_iff {s : List Nat} {r : Rl} : obeysP s r = true ↔ (∃ a, r.hd = some a ∧ a ∈ s) ∨ ∃ a ∈ r.ho, a ∉ s := by
  unfold obeysP hdIn
  rw [Bool.or_eq_true, Bool.not_eq_true', ← Bool.not_eq_true, within_iff]
  constructor
  · rintro (h | h)
    · cases hh : r.hd with
      | none => rw [hh] at h; cases h
      | some a => rw [hh] at h; exact .inl ⟨a, rfl, of_decide_eq_true h⟩
    · right
      exact Classical.byContradiction fun z => h fun a ha => Classical.byContradiction fun y => z ⟨a, ha, y⟩
  · rintro (⟨a, ha, hs⟩ | ⟨a, ha, hs⟩)
    · left; rw [ha]; exact decide_eq_true hs
    · right; exact fun z => hs (z a ha)
theorem Least.uniq {n : Nat} {rs : List Rl} {s t : List Nat} (h1 : Least n rs s) (h2 : Least n rs t) : s = t :=
  h1.ok.eq h2.ok fun a => ⟨h1.low t h2.ok h2.all a, h2.low s h1.ok h1.all a⟩
section
variable {T : Tab}
theorem hds_map {rs : List Rl} (h : ∀ r ∈ rs, r.hd.isSome = true) : (rs.map fun r => eH r.hd) = (hds rs).map eN := by
  induction rs with
  | nil => rfl
  | cons r rs ih =>
    have h1 := h r List.mem_cons_self
    cases hh : r.hd with
    | none => rw [hh] at h1; cases h1
    | some a =>
      unfold hds
      rw [List.map_cons, List.filterMap_cons, hh, ih fun q hq => h q (List.mem_cons_of_mem _ hq)]
      rfl
theorem hds_len (rs : List Rl) : (hds rs).length ≤ rs.length := List.length_filterMap_le _ _
structure HasLeast (T : Tab) : Prop where
  is_within : T "is_within" = some f_is_within
  remains : T "remains" = some f_remains
  obeys : T "obeys" = some f_obeys
  least_of : T "least_of" = some f_least_of
theorem least_of_spec (H : HasLeast T) {n : Nat} {rs : List Rl} {y : List Nat} (hn : n ≤ 4) (hr : ∀ r ∈ rs, RuleOk n r) (few : rs.length ≤ 50) (hy : SetOk n y) (k : Nat) (h : PH) :
    (call T (k + 3) "least_of" [eRs rs, eS y] h).wp fun v h' => h' = h ∧ ∃ s, v = eS s ∧ Least n (someP rs y) s := by
  rw [call_eq H.least_of]
  refine run_wp (by rfl) ?_
  have sz0 : (0 : Nat) ≤ sizeLine := Nat.zero_le _
  simp only [f_least_of]
  rw [wp_cons]
  simp [S.den, E.den, R.I.den, R.T.den, Ts.den, startP, wipeP, wp_out, wp_bind, wp_nox]
  rw [lc_some (fun r => r.hd.isSome && remainsP r y) eR]
  · simp
    rw [wp_cons]
    simp [S.den, E.den, Es.den]
    rw [wp_cons]
    simp only [S.den]
    obtain ⟨rs', hrs⟩ : ∃ rs', rs' = someP rs y := ⟨_, rfl⟩
    have e0 : (rs.filter fun r => r.hd.isSome && remainsP r y) = rs' := hrs.symm
    rw [← hrs]
    have hr' : ∀ r ∈ rs', RuleOk n r ∧ r.hd.isSome = true := fun r hm => by
      rw [hrs] at hm
      obtain ⟨m1, m2⟩ := List.mem_filter.mp hm
      rw [Bool.and_eq_true] at m2
      exact ⟨hr r m1, m2.1⟩
    have few' : rs'.length ≤ 50 := by rw [hrs]; exact Nat.le_trans (List.length_filter_le _ _) few
    clear hrs
    rw [e0]
    clear e0
    obtain ⟨I, hI⟩ : ∃ I : Nat → Sl → PH → Prop, I = fun m ρ h' => ∃ (s : List Nat) (x3 x5 : Option PV), ρ = [some (eRs rs), some (eS y), some (.lst (rs'.map eR)), x3, some (eS s), x5] ∧ h' = h ∧ SetOk n s ∧ (∀ t, SetOk n t → (∀ r ∈ rs', obeysP t r = true) → ∀ a ∈ s, a ∈ t) ∧ n ≤ s.length + m := ⟨_, rfl⟩
    refine while_wp I ?_ n wMost _ h (by unfold wMost; omega) ?_
    · intro m ρ h' hi
      rw [hI] at hi
      obtain ⟨s, x3, x5, rfl, rfl, hs, low, hm⟩ := hi
      simp [E.den, R.I.den, R.T.den, wipeP, wp_bind, wp_nox]
      rw [lc_some (fun r => !obeysP s r) fun r => eH r.hd]
      · have e1 := hds_map (rs := badP rs' s) fun r hm => (hr' r (List.mem_filter.mp hm).1).2
        have e2 : (rs'.filter fun r => !obeysP s r) = badP rs' s := rfl
        rw [e2, e1]
        have hbad : ∀ r ∈ badP rs' s, r ∈ rs' ∧ obeysP s r = false := fun r hm => by
          obtain ⟨m1, m2⟩ := List.mem_filter.mp hm
          exact ⟨m1, by simpa using m2⟩
        have tl : truthV (.lst ((hds (badP rs' s)).map eN)) h' = some (!(hds (badP rs' s)).isEmpty) := by
          show some (!((hds (badP rs' s)).map eN).isEmpty) = _
          rw [List.isEmpty_map]
        simp [tl]
        have hdin : ∀ a ∈ hds (badP rs' s), a < n ∧ a ∉ s ∧ ∀ t, SetOk n t → (∀ r ∈ rs', obeysP t r = true) → a ∈ t := fun a ha => by
          obtain ⟨r, hm, e⟩ := List.mem_filterMap.mp ha
          obtain ⟨m1, m2⟩ := hbad r hm
          refine ⟨(hr' r m1).1.hd a e, fun z => ?_, fun t ht hall => ?_⟩
          · rw [obeys_iff.mpr (.inl ⟨a, e, z⟩)] at m2; cases m2
          · rcases obeys_iff.mp (hall r m1) with ⟨b, eb, hb⟩ | ⟨b, hb, nb⟩
            · rw [e] at eb; cases eb; exact hb
            · exfalso
              have : b ∈ s := Classical.byContradiction fun z => by rw [obeys_iff.mpr (.inr ⟨b, hb, z⟩)] at m2; cases m2
              exact nb (low t ht hall b this)
        by_cases c : hds (badP rs' s) = []
        · simp [c]
          rw [wp_cons]
          simp [S.den, E.den]
          refine fix_same rfl ⟨rfl, s, rfl, hs, fun r hm => ?_, low⟩
          cases ho : obeysP s r with
          | true => rfl
          | false =>
            exfalso
            have hb : r ∈ badP rs' s := List.mem_filter.mpr ⟨hm, by rw [ho]; rfl⟩
            obtain ⟨a, ea⟩ := Option.isSome_iff_exists.mp (hr' r hm).2
            have : a ∈ hds (badP rs' s) := List.mem_filterMap.mpr ⟨r, hb, ea⟩
            rw [c] at this; cases this
        · simp [c]
          have lenB : (hds (badP rs' s)).length ≤ 50 := Nat.le_trans (hds_len _) (Nat.le_trans (List.length_filter_le _ _) few')
          have lenS := hs.len
          have szA : s.length + (hds (badP rs' s)).length ≤ sizeLine := by rw [sizeLine_eq]; omega
          have ss := sortedSet_N (l := s ++ hds (badP rs' s)) (by rw [List.length_append]; omega)
          have grow : SetOk n (upS (s ++ hds (badP rs' s))) := upS_ok fun a ha => by
            rcases List.mem_append.mp ha with z | z
            · exact hs.lt a z
            · exact (hdin a z).1
          have more : s.length < (upS (s ++ hds (badP rs' s))).length := by
            obtain ⟨a, ha⟩ := List.exists_mem_of_ne_nil _ c
            have sub := nat_nodup_len (a :: s) (upS (s ++ hds (badP rs' s))) (List.nodup_cons.mpr ⟨(hdin a ha).2.1, hs.asc.imp fun h => by omega⟩) fun b hb => by
              rcases List.mem_cons.mp hb with rfl | hb
              · exact upS_mem.mpr (List.mem_append_right _ ha)
              · exact upS_mem.mpr (List.mem_append_left _ hb)
            rw [List.length_cons] at sub
            omega
          have top := grow.len
          refine ⟨m - 1, by omega, ?_⟩
          rw [wp_cons]
          simp [S.den, E.den, Es.den, eS, binop, szA, tupV, ← List.map_append, ss]
          rw [hI]
          refine ⟨_, _, _, rfl, rfl, grow, fun t ht hall a ha => ?_, by omega⟩
          rcases List.mem_append.mp (upS_mem.mp ha) with z | z
          · exact low t ht hall a z
          · exact (hdin a z).2.2 t ht hall
      · intro r hm
        have e := obeys_spec H.is_within H.obeys hn (hr' r hm).1 hs k h'
        cases ho : obeysP s r <;> simp [Es.den, E.den, e, ho]
    · rw [hI]
      exact ⟨[], none, none, rfl, rfl, .nil, fun t _ _ a ha => (by cases ha), by simp⟩
  · intro r hm
    have e := remains_spec H.remains hn (hr r hm) hy (k + 1) h
    cases hh : r.hd with
    | none => simp [hh]
    | some a => cases ho : remainsP r y <;> simp [Es.den, E.den, hh, e, ho]
end
end R

set_option Elab.async false
set_option linter.all false
set_option maxRecDepth 100000
set_option maxHeartbeats 1000000
/-! Q: least sets, as the laws find them -/
namespace R
open PySem PySem.Spec L2
def eL (s : List Nat) : PV := .tup [.int s.length, eS s]
theorem eL_cmp : ∀ n, (n = 1 ∨ n = 2 ∨ n = 3 ∨ n = 4) → ((sets n).all fun s => (sets n).all fun t => (!decide (s.length < t.length) || !PySem.W.dataLe false PV.dat (eL t) (eL s)) && PySem.W.alike (eL s).dat (eL t).dat) = true := by
  intro n h
  rcases h with rfl | rfl | rfl | rfl <;> decide +kernel
theorem eL_fine : ∀ n, (n = 1 ∨ n = 2 ∨ n = 3 ∨ n = 4) → ((sets n).all fun s => (eL s).fine) = true := by
  intro n h
  rcases h with rfl | rfl | rfl | rfl <;> decide +kernel
/-- the shortest stands first -/
theorem first_eL {n : Nat} (h0 : 0 < n) (h4 : n ≤ 4) {l : List (List Nat)} (hl : ∀ s ∈ l, s ∈ sets n) {s : List Nat} (hs : s ∈ l) (hm : ∀ t ∈ l, t ≠ s → s.length < t.length) : ∃ rest, sortV (l.map eL) = some (eL s :: rest) := by
  have hn : n = 1 ∨ n = 2 ∨ n = 3 ∨ n = 4 := by omega
  have cmp : ∀ a ∈ l, ∀ b ∈ l, (a.length < b.length → PySem.W.dataLe false PV.dat (eL b) (eL a) = false) ∧ PySem.W.alike (eL a).dat (eL b).dat = true := fun a ha b hb => by
    have := List.all_eq_true.mp (List.all_eq_true.mp (eL_cmp n hn) a (hl a ha)) b (hl b hb)
    rw [Bool.and_eq_true] at this
    exact ⟨fun c => by simpa [c] using this.1, this.2⟩
  have c1 : (l.map eL).all PV.fine = true := by
    rw [List.all_map, List.all_eq_true]
    exact fun a ha => List.all_eq_true.mp (eL_fine n hn) a (hl a ha)
  have c2 : allAlikeB ((l.map eL).map PV.dat) = true := by
    unfold allAlikeB
    rw [List.map_map, List.all_map, List.all_eq_true]
    intro a ha
    show ((l.map (PV.dat ∘ eL)).all fun e => PySem.W.alike ((PV.dat ∘ eL) a) e) = true
    rw [List.all_map, List.all_eq_true]
    exact fun b hb => (cmp a ha b hb).2
  have c3 : sortableB ((l.map eL).map PV.dat) = true := by
    unfold sortableB
    rw [Bool.or_eq_true, Bool.or_eq_true]
    left; left
    rw [List.map_map, List.all_map, List.all_eq_true]
    intro a _
    rfl
  have e : sortV (l.map eL) = some ((l.map eL).mergeSort (PySem.W.dataLe false PV.dat)) := by
    rw [sortV_eq]
    rw [c1, c2, c3]
    rfl
  have pm := List.mergeSort_perm (l.map eL) (PySem.W.dataLe false PV.dat)
  have pw := List.pairwise_mergeSort (le := PySem.W.dataLe false PV.dat) leT.trans (fun a b => by rw [Bool.or_eq_true]; exact leT.total a b) (l.map eL)
  rw [e]
  cases hh : (l.map eL).mergeSort (PySem.W.dataLe false PV.dat) with
  | nil =>
    rw [hh] at pm
    have := pm.mem_iff.mpr (List.mem_map.mpr ⟨s, hs, rfl⟩)
    cases this
  | cons m rest =>
    rw [hh] at pm pw
    obtain ⟨t, ht, rfl⟩ := List.mem_map.mp (pm.mem_iff.mp List.mem_cons_self)
    refine ⟨rest, ?_⟩
    by_cases c : t = s
    · rw [c]
    · exfalso
      have lt := hm t ht c
      have f := (cmp s hs t ht).1 lt
      rcases List.mem_cons.mp (pm.mem_iff.mpr (List.mem_map.mpr ⟨s, hs, rfl⟩)) with z | z
      · have : s.length = t.length := by
          simp only [eL, PV.tup.injEq, List.cons.injEq, PV.int.injEq] at z
          omega
        omega
      · rw [List.pairwise_cons] at pw
        rw [pw.1 _ z] at f
        cases f
theorem eqNil_big {s : List Nat} (h : ∀ a ∈ s, a < 1000) : cmpop .eq (.lst (s.map eN)) (.lst []) = some (decide (s = [])) := by
  have f1 : (PV.lst (s.map eN)).fine = true := (da_lst (d := 0) (c := 3) (n := s.length) (xs := s.map eN) (fun x hx => by obtain ⟨a, ha, rfl⟩ := List.mem_map.mp hx; exact da_nat a (h a ha)) (by simp)).fine (by decide)
  exact (eq_lst (enc := eN) eqv_N (ys := []) f1 rfl).1
section
variable {T : Tab}
structure HasLawLeast (T : Tab) : Prop where
  sets : T "_law_sets" = some f__law_sets
  remains : T "_law_remains" = some f__law_remains
  obeys : T "_law_obeys" = some f__law_obeys
  least : T "_law_least" = some f__law_least
def goodP (n : Nat) (rs : List Rl) : List (List Nat) := (sets n).filter fun t => decide (badP rs t = [])
theorem good_mem {n : Nat} (h0 : 0 < n) (h4 : n ≤ 4) {rs : List Rl} {t : List Nat} : t ∈ goodP n rs ↔ SetOk n t ∧ ∀ r ∈ rs, obeysP t r = true := by
  unfold goodP badP
  rw [List.mem_filter, decide_eq_true_eq, List.filter_eq_nil_iff]
  constructor
  · rintro ⟨h1, h2⟩
    exact ⟨sets_ok h0 h4 t h1, fun r hr => by simpa using h2 r hr⟩
  · rintro ⟨h1, h2⟩
    exact ⟨sets_all h0 h4 h1, fun r hr => by simp [h2 r hr]⟩
theorem law_least_spec (H : HasLawLeast T) {n : Nat} {rs : List Rl} {y s : List Nat} (h0 : 0 < n) (hn : n ≤ 4) (hr : ∀ r ∈ rs, RuleOk n r) (hy : SetOk n y) (ls : Least n (someP rs y) s) (k : Nat) (h : PH) :
    call T (k + 2) "_law_least" [.int n, eRs rs, eS y] h = .ok (eS s) h := by
  rw [call_eq H.least]
  refine run_ret rfl ?_
  have hr' : ∀ r ∈ someP rs y, RuleOk n r := fun r hm => hr r (List.mem_filter.mp hm).1
  have sz2 : (2 : Nat) ≤ sizeLine := by decide
  have st := fun h => law_sets_spec H.sets h0 hn k h
  obtain ⟨rest, first⟩ := first_eL h0 hn (l := goodP n (someP rs y)) (fun t ht => (List.mem_filter.mp ht).1) ((good_mem h0 hn).mpr ⟨ls.ok, ls.all⟩) (fun t ht ne => by
    obtain ⟨t1, t2⟩ := (good_mem h0 hn).mp ht
    have sub := ls.low t t1 t2
    have nd : s.Nodup := ls.ok.asc.imp fun h => by omega
    have le := nat_nodup_len s t nd sub
    refine Nat.lt_of_le_of_ne le fun e => ne ?_
    refine (asc_eq ls.ok.asc t1.asc fun a => ⟨sub a, fun ha => Classical.byContradiction fun na => ?_⟩).symm
    have := nat_nodup_len (a :: s) t (List.nodup_cons.mpr ⟨na, nd⟩) fun b hb => by
      rcases List.mem_cons.mp hb with rfl | hb
      · exact ha
      · exact sub b hb
    rw [List.length_cons] at this
    omega)
  simp only [f__law_least]
  rw [Ss.den]
  simp [S.den, E.den, R.I.den, R.T.den, Ts.den, startP, wipeP]
  rw [lc_some (fun r => r.hd.isSome && remainsP r y) eR]
  · have e0 : (rs.filter fun r => r.hd.isSome && remainsP r y) = someP rs y := rfl
    simp [e0]
    rw [Ss.den]
    simp [S.den, E.den, Es.den, R.I.den, R.T.den, wipeP, st]
    rw [lc_some (fun t => decide (badP (someP rs y) t = [])) eS]
    · have e1 : ((sets n).filter fun t => decide (badP (someP rs y) t = [])) = goodP n (someP rs y) := rfl
      simp [e1]
      rw [Ss.den]
      simp [S.den, E.den, Es.den, R.I.den, R.T.den, wipeP, sz2]
      rw [lc_all eL]
      · have i0 : idxV (.lst (eL s :: rest)) (.int 0) h = some (eL s) := by
          show atI (eL s :: rest) ((0 : Nat) : Int) = _
          exact atI_nat rfl
        have i1 : idxV (eL s) (.int 1) h = some (eS s) := rfl
        simp [first, i0, i1, Ss.den]
      · intro t ht
        simp [eL, sz2]
    · intro t ht
      have to := sets_ok h0 hn t ht
      rw [lc_some (fun r => !obeysP t r) fun _ => eN 1]
      · have e2 : ((someP rs y).filter fun r => !obeysP t r) = badP (someP rs y) t := rfl
        have e3 : ((badP (someP rs y) t).map fun _ => eN 1) = ((badP (someP rs y) t).map fun _ => 1).map eN := by rw [List.map_map]; rfl
        have q := eqNil_big (s := (badP (someP rs y) t).map fun _ => 1) fun a ha => by
          obtain ⟨_, _, rfl⟩ := List.mem_map.mp ha
          decide
        rw [List.map_map] at q
        rw [e2, e3]
        by_cases c : badP (someP rs y) t = []
        · simp [c] at q ⊢
          simp [q]
        · simp [c] at q ⊢
          simp [q]
      · intro r hm
        have e := law_obeys_spec H.obeys hn (hr' r hm) to k h
        cases ho : obeysP t r <;> simp [Es.den, E.den, e, ho, eN]
  · intro r hm
    have e := law_remains_spec H.remains hn (hr r hm) hy k h
    cases hh : r.hd with
    | none => simp [hh]
    | some a => cases ho : remainsP r y <;> simp [Es.den, E.den, hh, e, ho]
theorem least_spec (H : HasRules T) (h1 : T "need_set" = some f_need_set) (L : HasLeast T) (hT : T "least" = some f_least) {n : Nat} {rs : List Rl} {y : List Nat} (hb : BookOk n rs) (few : rs.length ≤ 50) (hy : SetOk n y) (k : Nat) (h : PH) :
    ∃ s, Least n (someP rs y) s ∧ call T (k + 7) "least" [eB n rs, eS y] h = .ok (eS s) h := by
  obtain ⟨v, h', e, rfl, s, rfl, ls⟩ := wp_get (least_of_spec L hb.n4 hb.ok few hy (k + 3) h)
  refine ⟨s, ls, ?_⟩
  rw [call_eq hT]
  refine run_ret rfl ?_
  simp [f_least, Ss.den, S.den, E.den, Es.den, startP, need_book_spec H hb, need_set_spec H h1 hy, e]
end
end R

set_option Elab.async false
set_option linter.all false
set_option maxRecDepth 100000
set_option maxHeartbeats 1000000
/-! Q: pairs, marks -/
namespace R
open PySem PySem.Spec L2
abbrev Pr2 := List Nat × List Nat
def eQ (p : Pr2) : PV := .tup [eS p.1, eS p.2]
theorem eqv_Q (x y : Pr2) : PyData.eqv (eQ x).dat (eQ y).dat = decide (x = y) := by
  obtain ⟨a, b⟩ := x
  obtain ⟨c, d⟩ := y
  unfold eQ
  rw [PV.dat, PV.dat, PyData.eqv]
  simp only [PV.dats, PyData.eqvAll, eqv_S, Bool.and_true, Prod.mk.injEq]
  by_cases h1 : a = c <;> by_cases h2 : b = d <;> simp [h1, h2]
/-- all pairs, ascending -/
def allP (n : Nat) : List Pr2 := (sets n).flatMap fun x => ((sets n).filter fun y => within x y).map fun y => (x, y)
def fitsP (p : Pr2) (r : Rl) : Bool := !violatesP p.2 r && (!remainsP r p.2 || obeysP p.1 r)
structure PairOk (n : Nat) (p : Pr2) : Prop where
  a : SetOk n p.1
  b : SetOk n p.2
  w : within p.1 p.2 = true
theorem allP_ok {n : Nat} (h0 : 0 < n) (h4 : n ≤ 4) {p : Pr2} (hp : p ∈ allP n) : PairOk n p := by
  obtain ⟨x, hx, hz⟩ := List.mem_flatMap.mp hp
  obtain ⟨y, hy, e⟩ := List.mem_map.mp hz
  subst e
  obtain ⟨h1, h2⟩ := List.mem_filter.mp hy
  exact ⟨sets_ok h0 h4 x hx, sets_ok h0 h4 y h1, h2⟩
theorem allP_all {n : Nat} (h0 : 0 < n) (h4 : n ≤ 4) {p : Pr2} (hp : PairOk n p) : p ∈ allP n :=
  List.mem_flatMap.mpr ⟨p.1, sets_all h0 h4 hp.a, List.mem_map.mpr ⟨p.2, List.mem_filter.mpr ⟨sets_all h0 h4 hp.b, hp.w⟩, rfl⟩⟩
theorem allP_len {n : Nat} (h0 : 0 < n) (h4 : n ≤ 4) : (allP n).length ≤ 81 := by
  have : n = 1 ∨ n = 2 ∨ n = 3 ∨ n = 4 := by omega
  rcases this with rfl | rfl | rfl | rfl <;> decide +kernel
theorem lc_flat {α : Type} {f : PV → PH → Res (List PV)} {enc : α → PV} (g : α → List PV) {h : PH} {xs : List α} (e : ∀ x ∈ xs, f (enc x) h = .ok (g x) h) : lcL f (xs.map enc) h = .ok (xs.flatMap g) h := by
  induction xs with
  | nil => rfl
  | cons x xs ih =>
    rw [List.map_cons, lcL, e x List.mem_cons_self]
    simp only [Res.bind_ok]
    rw [ih fun y hy => e y (List.mem_cons_of_mem _ hy)]
    simp [List.flatMap_cons]
section
variable {h : PH}
@[simp] theorem see_Q {p : Pr2} : see h (eQ p) = eQ p := rfl
@[simp] theorem idx_Q0 {p : Pr2} : idxV (eQ p) (.int 0) h = some (eS p.1) := rfl
@[simp] theorem idx_Q1 {p : Pr2} : idxV (eQ p) (.int 1) h = some (eS p.2) := rfl
@[simp] theorem isi_Q {p : Pr2} {c : String} : isiV (eQ p) c h = some (.bl (isiTab "tuple" c)) := rfl
@[simp] theorem len_Q {p : Pr2} : lenV (eQ p) h = some (.int 2) := rfl
@[simp] theorem put_Q {i j : Nat} {p : Pr2} {ρ : Sl} : G.put (.tup [i, j]) (eQ p) ρ = some ((ρ.set i (some (eS p.1))).set j (some (eS p.2))) := rfl
end
/-! ### bits -/
def bits : List Bool → Nat
  | [] => 0
  | b :: l => (if b then 1 else 0) + 2 * bits l
theorem bits_lt : ∀ l : List Bool, bits l < 2 ^ l.length
  | [] => by simp [bits]
  | b :: l => by
    have := bits_lt l
    rw [bits, List.length_cons, Nat.pow_succ]
    split <;> omega
theorem bits_test : ∀ (l : List Bool) (i : Nat), (bits l).testBit i = (l[i]?).getD false
  | [], i => by simp [bits]
  | b :: l, 0 => by
    rw [bits, Nat.testBit_zero]
    cases b <;> simp
    all_goals omega
  | b :: l, i + 1 => by
    rw [bits, Nat.testBit_succ]
    have : ((if b then 1 else 0) + 2 * bits l) / 2 = bits l := by split <;> omega
    rw [this, bits_test l i]
    simp
theorem bits_inj : ∀ {l m : List Bool}, l.length = m.length → bits l = bits m → l = m
  | [], [], _, _ => rfl
  | [], _ :: _, h, _ => by simp at h
  | _ :: _, [], h, _ => by simp at h
  | b :: l, c :: m, h, e => by
    rw [bits, bits] at e
    have e1 : b = c := by
      cases b <;> cases c <;> simp at e ⊢ <;> omega
    subst e1
    have e2 : bits l = bits m := by omega
    rw [bits_inj (by simpa using h) e2]
theorem bits_and : ∀ {l m : List Bool}, l.length = m.length → bits l &&& bits m = bits (List.zipWith (fun a b => a && b) l m) := by
  intro l m h
  refine Nat.eq_of_testBit_eq fun i => ?_
  rw [Nat.testBit_and, bits_test, bits_test, bits_test, List.getElem?_zipWith]
  cases h1 : l[i]? with
  | none => simp
  | some a =>
    cases h2 : m[i]? with
    | none =>
      have := (List.getElem?_eq_some_iff.mp h1).1
      have := List.getElem?_eq_none_iff.mp h2
      omega
    | some b => simp
theorem bits_ones : ∀ n : Nat, bits (List.replicate n true) = 2 ^ n - 1
  | 0 => rfl
  | n + 1 => by
    rw [List.replicate_succ, bits, bits_ones n, Nat.pow_succ]
    have := Nat.one_le_two_pow (n := n)
    simp
    omega
theorem sum_bits {α : Type} (P : α → Bool) : ∀ (l : List α) (k : Nat), (((l.zipIdx k).filter fun p => P p.1).map fun p => (2 : Int) ^ p.2).sum = (2 : Int) ^ k * (bits (l.map P) : Nat)
  | [], k => by simp [bits]
  | a :: l, k => by
    rw [List.zipIdx_cons, List.map_cons, bits]
    have ih := sum_bits P l (k + 1)
    cases hp : P a with
    | true =>
      rw [List.filter_cons_of_pos (by simpa using hp), List.map_cons, List.sum_cons, ih]
      simp only [if_true]
      rw [Int.pow_succ]
      push_cast
      rw [Int.mul_add, Int.mul_one, Int.mul_assoc]
    | false =>
      rw [List.filter_cons_of_neg (by simpa using hp), ih]
      simp only [Bool.false_eq_true, if_false]
      rw [Int.pow_succ]
      push_cast
      rw [Int.zero_add, Int.mul_assoc]
theorem and_N (a b : Nat) : binop .band (.int a) (.int b) = some (.int ((a &&& b : Nat) : Int)) := by
  show some (PV.int (Builtin.bitAnd a b)) = _
  rw [PyProof.Rows.bitAnd_pp (by omega) (by omega)]
  simp
theorem shr_N (a i : Nat) : binop .shr (.int a) (.int i) = some (.int ((a / 2 ^ i : Nat) : Int)) := by
  show (if (0 : Int) ≤ (i : Int) then some (PV.int ((a : Int) / 2 ^ (i : Int).toNat)) else none) = _
  rw [if_pos (by omega)]
  simp
theorem shl_1 (i : Nat) (hi : i ≤ 1000) : binop .shl (.int 1) (.int i) = some (.int ((2 : Int) ^ i)) := by
  show (if (0 : Int) ≤ (i : Int) ∧ (i : Int).natAbs ≤ 1000000 ∧ (1 : Int).natAbs < 18446744073709551616 then some (PV.int (1 * 2 ^ (i : Int).toNat)) else none) = _
  rw [if_pos ⟨by omega, by omega, by decide⟩]
  simp
theorem bit_of (a i : Nat) : (((a / 2 ^ i) &&& 1 : Nat) : Int) = if a.testBit i then 1 else 0 := by
  rw [Nat.and_one_is_mod, Nat.testBit_eq_decide_div_mod_eq]
  by_cases h : a / 2 ^ i % 2 = 1
  · simp [h]
  · have : a / 2 ^ i % 2 = 0 := by omega
    simp [this]
def eI (p : Pr2 × Nat) : PV := .tup [.int p.2, eQ p.1]
theorem enum_Q (l : List Pr2) : enumL (l.map eQ) = l.zipIdx.map eI := by
  unfold enumL
  rw [List.zipIdx_map, List.map_map]
  rfl
@[simp] theorem put_I {i j : Nat} {p : Pr2 × Nat} {ρ : Sl} : G.put (.tup [i, j]) (eI p) ρ = some ((ρ.set i (some (.int p.2))).set j (some (eQ p.1))) := rfl
/-- the marks of a rule -/
def markR (n : Nat) (r : Rl) : List Bool := (allP n).map fun p => fitsP p r
def markRs (n : Nat) (rs : List Rl) : List Bool := (allP n).map fun p => rs.all (fitsP p)
theorem mark_snoc (n : Nat) (rs : List Rl) (r : Rl) : List.zipWith (fun a b => a && b) (markRs n rs) (markR n r) = markRs n (rs ++ [r]) := by
  unfold markRs markR
  rw [List.zipWith_map, List.zipWith_self]
  simp [List.all_append]
theorem zip_mem {α : Type} {l : List α} {p : α × Nat} {k : Nat} (h : p ∈ l.zipIdx k) : p.1 ∈ l ∧ p.2 < k + l.length := by
  obtain ⟨i, hi, e⟩ := List.getElem_of_mem h
  rw [List.length_zipIdx] at hi
  rw [List.getElem_zipIdx] at e
  subst e
  exact ⟨List.getElem_mem hi, by simp; omega⟩
structure HasPairs (T : Tab) : Prop where
  sets_of : T "sets_of" = some f_sets_of
  is_within : T "is_within" = some f_is_within
  remains : T "remains" = some f_remains
  obeys : T "obeys" = some f_obeys
  violates : T "violates" = some f_violates
  all_pairs : T "all_pairs" = some f_all_pairs
  fits_rule : T "fits_rule" = some f_fits_rule
  marks_of : T "marks_of" = some f_marks_of
  marks_of_all : T "marks_of_all" = some f_marks_of_all
section
variable {T : Tab}
theorem all_pairs_spec (H : HasPairs T) {n : Nat} (h0 : 0 < n) (h4 : n ≤ 4) (k : Nat) (h : PH) : call T (k + 2) "all_pairs" [.int n] h = .ok (.lst ((allP n).map eQ)) h := by
  rw [call_eq H.all_pairs]
  refine run_ret rfl ?_
  have st := fun h => sets_of_spec H.sets_of h0 h4 k h
  have sz2 : (2 : Nat) ≤ sizeLine := by decide
  simp [f_all_pairs, Ss.den, S.den, E.den, Es.den, R.I.den, R.T.den, startP, wipeP, st]
  rw [lc_flat fun x => ((sets n).filter fun y => within x y).map fun y => eQ (x, y)]
  · have e : ((sets n).flatMap fun x => ((sets n).filter fun y => within x y).map fun y => eQ (x, y)) = (allP n).map eQ := by
      unfold allP
      rw [List.map_flatMap]
      simp [Function.comp_def]
    have hz : ((allP n).map eQ).length ≤ sizeLine := by rw [List.length_map, sizeLine_eq]; have := allP_len h0 h4; omega
    rw [e]
    simp only [Res.nox_ok, Res.bind_ok, hz, if_true, Res.out_ok, Out.bind_rt]
  · intro x hx
    rw [lc_some (fun y => within x y) fun y => eQ (x, y)]
    intro y hy
    have e := is_within_spec H.is_within h4 (sets_ok h0 h4 x hx) (sets_ok h0 h4 y hy) k h
    cases c : within x y <;> simp [e, c, sz2, eQ]
theorem fits_rule_spec (H : HasPairs T) {n : Nat} (h4 : n ≤ 4) {p : Pr2} {r : Rl} (hp : PairOk n p) (hr : RuleOk n r) (k : Nat) (h : PH) : call T (k + 4) "fits_rule" [eQ p, eR r] h = .ok (.bl (fitsP p r)) h := by
  rw [call_eq H.fits_rule]
  refine run_ret rfl ?_
  have e1 := fun h => violates_spec H.is_within H.obeys H.remains H.violates h4 hr hp.b k h
  have e2 := fun h => remains_spec H.remains h4 hr hp.b (k + 2) h
  have e3 := fun h => obeys_spec H.is_within H.obeys h4 hr hp.a (k + 1) h
  simp [f_fits_rule, Ss.den, S.den, E.den, Es.den, Es.denB, bools, startP, e1, e2, fitsP]
  cases violatesP p.2 r <;> cases remainsP r p.2 <;> simp [e3]
theorem marks_of_spec (H : HasPairs T) {n : Nat} (h0 : 0 < n) (h4 : n ≤ 4) {r : Rl} (hr : RuleOk n r) (k : Nat) (h : PH) : call T (k + 5) "marks_of" [.int n, eR r] h = .ok (.int (bits (markR n r) : Nat)) h := by
  rw [call_eq H.marks_of]
  refine run_ret rfl ?_
  have e0 := fun h => all_pairs_spec H h0 h4 (k + 2) h
  simp [f_marks_of, Ss.den, S.den, E.den, Es.den, R.I.den, R.T.den, startP, wipeP, e0, enum_Q]
  rw [lc_some (fun p => fitsP p.1 r) fun p => PV.int ((2 : Int) ^ p.2)]
  · have sm := sum_bits (fun p => fitsP p r) (allP n) 0
    have al : ∀ l : List (Pr2 × Nat), allV intV (l.map fun p => PV.int ((2 : Int) ^ p.2)) = some (l.map fun p => (2 : Int) ^ p.2) := fun l => by
      induction l with
      | nil => rfl
      | cons a l ih => simp [allV, ih]
    simp only [Res.nox_ok, Res.bind_ok, blt_sum, al, Option.map_some, Res.of_some, Res.out_ok, Out.bind_rt, sm]
    simp [markR]
  · intro p hp
    obtain ⟨hm, hi⟩ := zip_mem hp
    have := allP_len h0 h4
    have e := fits_rule_spec H h4 (allP_ok h0 h4 hm) hr k h
    cases c : fitsP p.1 r <;> simp [e, c, shl_1 p.2 (by omega)]
theorem marks_of_all_spec (H : HasPairs T) {n : Nat} (h0 : 0 < n) (h4 : n ≤ 4) {rs : List Rl} (hr : ∀ r ∈ rs, RuleOk n r) (k : Nat) (h : PH) : call T (k + 6) "marks_of_all" [.int n, eRs rs] h = .ok (.int (bits (markRs n rs) : Nat)) h := by
  have w : (call T (k + 6) "marks_of_all" [.int n, eRs rs] h).wp fun v h' => v = .int (bits (markRs n rs) : Nat) ∧ h' = h := by
    rw [call_eq H.marks_of_all]
    refine run_wp (by rfl) ?_
    simp only [f_marks_of_all]
    have e0 := fun h => all_pairs_spec H h0 h4 (k + 3) h
    have hl := allP_len h0 h4
    rw [wp_cons]
    have ones : ((2 : Int) ^ (allP n).length - 1) = (bits (markRs n []) : Nat) := by
      have : markRs n [] = List.replicate (allP n).length true := by
        unfold markRs
        simp [List.map_const']
      rw [this, bits_ones]
      have := Nat.one_le_two_pow (n := (allP n).length)
      have c : ((2 ^ (allP n).length : Nat) : Int) = (2 : Int) ^ (allP n).length := by push_cast; rfl
      rw [← c]
      omega
    simp [S.den, E.den, Es.den, startP, e0, shl_1 _ (show (allP n).length ≤ 1000 by omega), ones]
    rw [wp_cons]
    simp [S.den, E.den, R.I.den]
    obtain ⟨I, hI⟩ : ∃ I : Nat → Sl → PH → Prop, I = fun i ρ h' => ∃ x3, ρ = [some (.int n), some (eRs rs), some (.int (bits (markRs n (rs.take i)) : Nat)), x3] ∧ h' = h := ⟨_, rfl⟩
    refine for_wp I ?_ ?_ ?_
    · rw [hI]; exact ⟨none, rfl, rfl⟩
    · intro i x ρ h' hx hi
      rw [hI] at hi
      obtain ⟨x3, rfl, rfl⟩ := hi
      rw [List.getElem?_map] at hx
      cases hr0 : rs[i]? with
      | none => rw [hr0] at hx; cases hx
      | some r =>
        rw [hr0] at hx
        cases hx
        have em := marks_of_spec H h0 h4 (hr r (List.mem_of_getElem? hr0)) k h'
        have len : (markRs n (rs.take i)).length = (markR n r).length := by simp [markRs, markR]
        simp
        rw [wp_cons]
        simp [S.den, E.den, Es.den, em, and_N, bits_and len, mark_snoc]
        rw [hI]
        refine ⟨some (eR r), ?_, rfl⟩
        rw [List.take_add_one, hr0]
        rfl
    · intro ρ h' hi
      rw [hI] at hi
      obtain ⟨x3, rfl, rfl⟩ := hi
      rw [List.length_map, List.take_length]
      dsimp only
      rw [wp_cons]
      simp [S.den, E.den]
      exact fix_same rfl ⟨rfl, rfl⟩
  obtain ⟨v, h', e, rfl, rfl⟩ := wp_get w
  exact e
def pairsP (n : Nat) (rs : List Rl) : List Pr2 := (allP n).filter fun p => rs.all (fitsP p)
def eT (t : List Pr2) : PV := .tup (t.map eQ)
theorem filter_idx {α : Type} (P : α → Bool) : ∀ (l : List α) (k : Nat), (l.zipIdx k).filter (fun p => ((l.map P)[p.2 - k]?).getD false) = (l.zipIdx k).filter fun p => P p.1 := by
  intro l k
  refine List.filter_congr fun p hp => ?_
  obtain ⟨i, hi, e⟩ := List.getElem_of_mem hp
  rw [List.length_zipIdx] at hi
  rw [List.getElem_zipIdx] at e
  subst e
  simp [hi]
theorem pairs_in_spec (H : HasPairs T) (hT : T "pairs_in" = some f_pairs_in) {n : Nat} (h0 : 0 < n) (h4 : n ≤ 4) (P : Pr2 → Bool) (k : Nat) (h : PH) : call T (k + 3) "pairs_in" [.int n, .int (bits ((allP n).map P) : Nat)] h = .ok (eT ((allP n).filter P)) h := by
  rw [call_eq hT]
  refine run_ret rfl ?_
  have e0 := fun h => all_pairs_spec H h0 h4 k h
  simp [f_pairs_in, Ss.den, S.den, E.den, Es.den, R.I.den, R.T.den, startP, wipeP, e0, enum_Q]
  rw [lc_some (fun p => P p.1) fun p => eQ p.1]
  · have e : (((allP n).zipIdx.filter fun p => P p.1).map fun p => eQ p.1) = ((allP n).filter P).map eQ := by
      have : ∀ (l : List Pr2) (k : Nat), ((l.zipIdx k).filter fun p => P p.1).map (fun p => eQ p.1) = (l.filter P).map eQ := by
        intro l
        induction l with
        | nil => intro k; rfl
        | cons a l ih =>
          intro k
          rw [List.zipIdx_cons]
          cases c : P a <;> simp [c, ih]
      exact this _ 0
    simp [e, eT]
  · intro p hp
    obtain ⟨i, hi, e⟩ := List.getElem_of_mem hp
    rw [List.length_zipIdx] at hi
    rw [List.getElem_zipIdx] at e
    subst e
    have t1 := bits_test ((allP n).map P) i
    have t2 : (((allP n).map P)[i]?).getD false = P (allP n)[i] := by simp [hi]
    rw [t2] at t1
    have b := bit_of (bits ((allP n).map P)) i
    rw [t1] at b
    obtain ⟨d, hd⟩ : ∃ d : Nat, d = bits ((allP n).map P) / 2 ^ i := ⟨_, rfl⟩
    have s1 : binop .shr (.int (bits ((allP n).map P) : Nat)) (.int i) = some (.int d) := by rw [shr_N, hd]
    have s2 : binop .band (.int d) (.int 1) = some (.int (if P (allP n)[i] = true then 1 else 0)) := by
      have := and_N d 1
      rw [hd, b] at this
      rw [hd]
      exact this
    simp only [Nat.zero_add]
    clear hd b t1 t2
    cases c : P (allP n)[i] with
    | true => rw [c] at s2; simp [s1, s2, c]
    | false => rw [c] at s2; simp [s1, s2, c]
theorem pairs_of_spec (H : HasPairs T) (h1 : T "pairs_in" = some f_pairs_in) (hT : T "pairs_of" = some f_pairs_of) {n : Nat} (h0 : 0 < n) (h4 : n ≤ 4) {rs : List Rl} (hr : ∀ r ∈ rs, RuleOk n r) (k : Nat) (h : PH) : call T (k + 7) "pairs_of" [.int n, eRs rs] h = .ok (eT (pairsP n rs)) h := by
  rw [call_eq hT]
  refine run_ret rfl ?_
  have e1 := fun h => marks_of_all_spec H h0 h4 hr k h
  have e2 := fun h => pairs_in_spec H h1 h0 h4 (fun p => rs.all (fitsP p)) (k + 3) h
  have e3 : markRs n rs = (allP n).map fun p => rs.all (fitsP p) := rfl
  rw [← e3] at e2
  simp [f_pairs_of, Ss.den, S.den, E.den, Es.den, startP, e1, e2, pairsP]
theorem pairs_spec (R0 : HasRules T) (H : HasPairs T) (h1 : T "pairs_in" = some f_pairs_in) (h2 : T "pairs_of" = some f_pairs_of) (hT : T "pairs" = some f_pairs) {n : Nat} {rs : List Rl} (hb : BookOk n rs) (k : Nat) (h : PH) : call T (k + 8) "pairs" [eB n rs] h = .ok (eT (pairsP n rs)) h := by
  rw [call_eq hT]
  refine run_ret rfl ?_
  simp [f_pairs, Ss.den, S.den, E.den, Es.den, startP, need_book_spec R0 hb, pairs_of_spec H h1 h2 hb.n1 hb.n4 hb.ok]
end
end R

set_option Elab.async false
set_option linter.all false
set_option maxRecDepth 100000
set_option maxHeartbeats 1000000
/-! Q: drawn things and pairs of the laws of the second part -/
namespace R
open PySem PySem.Spec L2
structure HasDraws0 (T : Tab) : Prop where
  draw : T "_law_draw" = some f__law_draw
  choose : T "_law_choose" = some f__law_choose
  part : T "_law_part" = some f__law_part
  rule : T "_law_rule" = some f__law_rule_v2
  rules : T "_law_rules" = some f__law_rules
structure HasDraws2 (T : Tab) : Prop extends HasDraws0 T where
  atoms : T "_law_atoms" = some f__law_atoms
theorem fin_tup {n : Nat} {ys : List PV} {h h0 t : PH} {Q : PV → PH → Prop} (e : h = h0 ++ t) (l : h0.length = n) (u : h0.all (PO.under n) = true) (ux : PV.unders n ys = true) (q : Q (.tup ys) h0) : (fixR false n (.tup ys) h).wp Q := by
  subst e l
  unfold fixR
  by_cases c : t = []
  · subst c
    rw [if_pos (by simp)]
    simpa using q
  · rw [if_neg (by simpa using c), if_pos (by simpa using u)]
    have e1 : (PV.tup ys).under h0.length = true := by rw [PV.under]; exact ux
    simp [e1]
    exact q
section
variable {T : Tab}
theorem cell_spec (hT : T "_law_cell" = some f__law_cell) (ns : List Int) (i k : Nat) (h : PH) : ∃ c : Int, call T (k + 1) "_law_cell" [.scr ns, .int i] h = .ok (.int c) h := by
  rw [call_eq hT]
  by_cases c : i < ns.length
  · refine ⟨ns[i], run_ret rfl ?_⟩
    have a1 : atI (ns.map PV.int) (i : Int) = some (.int ns[i]) := atI_nat (by simp [c])
    simp [f__law_cell, Ss.den, S.den, E.den, Es.den, R.T.den, startP, see, lenV, itemsV, idxV, c, a1]
  · refine ⟨0, run_ret rfl ?_⟩
    have c2 : ¬ ((i : Int) < (ns.length : Int)) := by omega
    simp [f__law_cell, Ss.den, S.den, E.den, Es.den, R.T.den, startP, see, lenV, itemsV, c]
theorem source_spec (hT : T "_law_source" = some f__law_source) (c : Int) (k : Nat) (h : PH) : (call T (k + 1) "_law_source" [.int c] h).wp fun v h' => v = .ref h.length ∧ ∃ x y z, h' = h ++ [pen3 x y z] ∧ PenR x y z := by
  rw [call_eq hT]
  refine run_wp (by rfl) ?_
  have q1 : binop .pow (.int 10) (.int 18) = some (.int 1000000000000000000) := by rw [bin_pow (by decide)]; rfl
  have q2 : binop .mod (.int c) (.int 2147483629) = some (.int (c.fmod 2147483629)) := bin_mod (by decide)
  have bd := fmod_bd (i := c) (m := 2147483629) (by decide)
  have sz : (3 : Nat) ≤ sizeLine := by decide
  simp only [f__law_source]
  rw [wp_cons]
  simp [S.den, E.den, Es.den, startP, q1, q2, sz]
  refine fix_keep ⟨rfl, _, _, _, rfl, ⟨?_, by omega, by omega, by decide⟩⟩
  split <;> omega
theorem is_equal_spec (hT : T "_law_is_equal" = some f__law_is_equal) {p q : PV} {x : Str} {h : PH} (e1 : showV (see h p) = some x) (e2 : showV (see h q) = some x) (k : Nat) : call T (k + 1) "_law_is_equal" [p, q] h = .ok (.bl true) h := by
  rw [call_eq hT]
  refine run_ret rfl ?_
  simp [f__law_is_equal, Ss.den, S.den, E.den, Es.den, startP, e1, e2]
theorem choose_spec (h1 : T "_law_draw" = some f__law_draw) (hT : T "_law_choose" = some f__law_choose) {p : Nat} {xs : List PV} {h : PH} (hp : PenAt h p) (l0 : 0 < xs.length) (l1 : xs.length < 1000) (k : Nat) :
    (call T (k + 2) "_law_choose" [.ref p, .lst xs] h).wp fun v h' => v ∈ xs ∧ Pens p h h' := by
  rw [call_eq hT]
  refine run_wp (by rfl) ?_
  simp only [f__law_choose]
  rw [wp_cons]
  simp [S.den, E.den, Es.den, startP, wp_out, wp_bind]
  refine wp_mono (draw_spec h1 (m := (xs.length : Int)) hp (by omega) (by omega) k) ?_
  rintro v h' ⟨r, rfl, hr, ps⟩
  have hr2 : r < xs.length := by omega
  have a1 : atI xs (r : Int) = some xs[r] := atI_nat (by simp [hr2])
  simp [idxV, a1]
  exact fix_same ps.len ⟨List.getElem_mem hr2, ps⟩
theorem atoms_spec (H : HasDraws2 T) {p : Nat} {h : PH} (hp : PenAt h p) (k : Nat) :
    (call T (k + 3) "_law_atoms" [.ref p] h).wp fun v h' => ∃ n : Nat, v = .int n ∧ 0 < n ∧ n ≤ 4 ∧ Pens p h h' := by
  rw [call_eq H.atoms]
  refine run_wp (by rfl) ?_
  have sz : (7 : Nat) ≤ sizeLine := by decide
  simp only [f__law_atoms]
  rw [wp_cons]
  simp [S.den, E.den, Es.den, startP, wp_out, wp_bind, sz]
  refine wp_mono (choose_spec H.draw H.choose (xs := [.int 1, .int 2, .int 2, .int 3, .int 3, .int 3, .int 4]) hp (by decide) (by decide) k) ?_
  rintro v h' ⟨hv, ps⟩
  have : v = .int (1 : Nat) ∨ v = .int (2 : Nat) ∨ v = .int (3 : Nat) ∨ v = .int (4 : Nat) := by
    simp only [List.mem_cons, List.not_mem_nil, or_false] at hv
    rcases hv with rfl | rfl | rfl | rfl | rfl | rfl | rfl <;> simp
  rcases this with rfl | rfl | rfl | rfl
  · exact fix_same ps.len ⟨1, rfl, by decide, by decide, ps⟩
  · exact fix_same ps.len ⟨2, rfl, by decide, by decide, ps⟩
  · exact fix_same ps.len ⟨3, rfl, by decide, by decide, ps⟩
  · exact fix_same ps.len ⟨4, rfl, by decide, by decide, ps⟩
theorem part_spec (h1 : T "_law_draw" = some f__law_draw) (hT : T "_law_part" = some f__law_part) {p n : Nat} {m : Int} {h : PH} (hp : PenAt h p) (hn : n ≤ 4) (m0 : 0 < m) (m1 : m < 1000) (k : Nat) :
    (call T (k + 2) "_law_part" [.ref p, .int n, .int m] h).wp fun v h' => ∃ s, v = eS s ∧ SetOk n s ∧ Pens p h h' := by
  rw [call_eq hT]
  refine run_wp (by rfl) ?_
  simp [f__law_part, Ss.den, S.den, E.den, Es.den, I.den, R.T.den, startP, wipeP, rng_N (n := n) (by omega), wp_seq, wp_out, wp_bind, wp_nox]
  refine lc_wp (fun i acc h' => Pens p h h' ∧ ∃ s, acc = s.map eN ∧ SetOk i s) ⟨hp.self, [], rfl, .nil⟩ ?_ ?_
  · rintro i x acc h' hx ⟨hpn, s, rfl, hs⟩
    obtain ⟨rfl, hi⟩ := range_get hx
    simp only [wp_bind]
    refine wp_mono (draw_spec h1 (m := m) (hpn.at hp.lt) m0 m1 k) ?_
    rintro v h'' ⟨r, rfl, hr, hp2⟩
    simp [wp_of]
    by_cases c : r = 0
    · simp [c]
      exact ⟨hpn.trans hp2, s ++ [i], by simp, hs.snoc⟩
    · simp [c]
      exact ⟨hpn.trans hp2, s, by simp, hs.up (Nat.le_succ i)⟩
  · rintro acc h' ⟨hpn, s, rfl, hs⟩
    simp at hs ⊢
    exact fix_same hpn.len ⟨s, rfl, hs, hpn⟩
theorem rule2_spec (H : HasDraws0 T) {p n : Nat} {h : PH} (hp : PenAt h p) (n0 : 0 < n) (hn : n ≤ 4) (k : Nat) :
    (call T (k + 3) "_law_rule" [.ref p, .int n] h).wp fun v h' => ∃ r, v = eR r ∧ RuleOk n r ∧ Pens p h h' := by
  rw [call_eq H.rule]
  refine run_wp (by rfl) ?_
  have sz : (3 : Nat) ≤ sizeLine := by decide
  simp only [f__law_rule_v2]
  rw [wp_cons]
  simp [S.den, E.den, Es.den, R.T.den, startP, wp_out, wp_bind]
  refine wp_mono (draw_spec H.draw hp (by decide) (by decide) (k + 1)) ?_
  rintro v h1 ⟨d, rfl, _, p1⟩
  have rest : ∀ (o : Option Nat) (h2 : PH), (∀ a, o = some a → a < n) → Pens p h h2 → (Ss.den (call T (k + 2)) (.cons (.ret (.tup (.cons (.var 2) (.cons (.call "_law_part" (.cons (.var 0) (.cons (.var 1) (.cons (.con (.int 3)) .nil)))) (.cons (.call "_law_part" (.cons (.var 0) (.cons (.var 1) (.cons (.con (.int 3)) .nil)))) .nil)))))
    .nil) [some (.ref p), some (.int n), some (eH o)] h2).wp { nx := fun _ h1 => (fixR false h.length .non h1).wp fun v h' => ∃ r, v = eR r ∧ RuleOk n r ∧ Pens p h h', rt := fun v h1 => (fixR false h.length v h1).wp fun v h' => ∃ r, v = eR r ∧ RuleOk n r ∧ Pens p h h' } := by
    intro o h2 ho p2
    rw [wp_cons]
    simp [S.den, E.den, Es.den, wp_out, wp_bind]
    refine wp_mono (part_spec H.draw H.part (p2.at hp.lt) hn (by decide) (by decide) k) ?_
    rintro v h3 ⟨s, rfl, hs, p3⟩
    refine wp_mono (part_spec H.draw H.part ((p2.trans p3).at hp.lt) hn (by decide) (by decide) k) ?_
    rintro v h4 ⟨t, rfl, ht, p4⟩
    simp [sz]
    have p24 := (p2.trans p3).trans p4
    exact fix_same p24.len ⟨⟨o, s, t⟩, rfl, ⟨ho, hs, ht⟩, p24⟩
  by_cases c : 0 < d
  · simp [c, wp_bind]
    refine wp_mono (draw_spec H.draw (p1.at hp.lt) (by omega) (by omega) (k + 1)) ?_
    rintro v h2 ⟨a, rfl, ha, p2⟩
    exact rest (some a) h2 (fun b e => by cases e; omega) (p1.trans p2)
  · simp [c]
    exact rest none h1 (fun b e => by cases e) p1
theorem rules_spec (H : HasDraws0 T) {p n m : Nat} {h : PH} (hp : PenAt h p) (hf : Flat h) (n0 : 0 < n) (hn : n ≤ 4) (hm : m < 70) (k : Nat) :
    (call T (k + 4) "_law_rules" [.ref p, .int n, .int m] h).wp fun v h' => ∃ rs, v = eRs rs ∧ BookOk n rs ∧ rs.length ≤ m ∧ Pens p h h' := by
  rw [call_eq H.rules]
  refine run_wp (by rfl) ?_
  simp only [f__law_rules]
  rw [wp_cons]
  simp [S.den, E.den, Es.den, startP]
  rw [wp_cons]
  simp [S.den, I.den, E.den, Es.den, wp_out, wp_bind]
  refine wp_mono (draw_spec H.draw (m := (m : Int) + 1) (hp.more _) (by omega) (by omega) (k + 2)) ?_
  rintro v h1 ⟨d, rfl, hd, p1⟩
  obtain ⟨h2, rfl, p2⟩ := p1.back hp.lt
  simp [rng_N (n := d) (by omega)]
  obtain ⟨I, hI⟩ : ∃ I : Nat → Sl → PH → Prop, I = fun i ρ h' => ∃ (rs : List Rl) (h0 : PH) (x y : Option PV), ρ = [some (.ref p), some (.int n), some (.int m), some (.ref h.length), x, y] ∧ h' = h0 ++ [.lst (rs.map eR)] ∧ Pens p h h0 ∧ (∀ r ∈ rs, RuleOk n r) ∧ rs.Nodup ∧ rs.length ≤ i := ⟨_, rfl⟩
  refine for_wp I ?_ ?_ ?_
  · rw [hI]; exact ⟨[], h2, none, none, rfl, rfl, p2, fun r hr => (by cases hr), List.nodup_nil, Nat.le_refl _⟩
  · intro i x ρ h' hx hi0
    rw [hI] at hi0
    obtain ⟨rs, h0, x0, y0, rfl, rfl, p0, ok, nd, hl⟩ := hi0
    obtain ⟨rfl, hi⟩ := range_get hx
    have hl0 := p0.len
    simp
    rw [wp_cons]
    simp [S.den, E.den, Es.den, wp_out, wp_bind]
    refine wp_mono (rule2_spec H ((p0.at hp.lt).more _) n0 hn k) ?_
    rintro v h' ⟨r, rfl, hr, p3⟩
    obtain ⟨h4, rfl, p4⟩ := p3.back (by rw [hl0]; exact hp.lt)
    have hl4 := p4.len
    have lv := live_last (h := h4) (xs := rs.map eR) (hl4.trans hl0)
    have nin := (nin_Rs hn hr ok).1
    have hz : (rs.map eR).length < sizeLine := by rw [List.length_map, sizeLine_eq]; omega
    rw [wp_cons]
    by_cases c : r ∈ rs
    · simp [S.den, E.den, R.T.den, see_live lv, nin, c]
      rw [hI]; exact ⟨rs, h4, _, _, rfl, rfl, p0.trans p4, ok, nd, by omega⟩
    · simp [S.den, E.den, R.T.den, see_live lv, nin, c]
      rw [wp_cons]
      simp [S.den, E.den, Es.den, wp_out, wp_bind, isLive_of lv, app_of lv hz]
      rw [hI]
      refine ⟨rs ++ [r], h4, _, _, rfl, ?_, p0.trans p4, fun q hq => ?_, ?_, by simp; omega⟩
      · rw [set_last (hl4.trans hl0)]
        simp
      · rcases List.mem_append.mp hq with z | z
        · exact ok q z
        · rw [List.mem_singleton.mp z]; exact hr
      · rw [List.nodup_append]
        refine ⟨nd, by simp, fun a ha b hb => ?_⟩
        rw [List.mem_singleton.mp hb]
        rintro rfl
        exact c ha
  · intro ρ h' hi0
    rw [hI] at hi0
    obtain ⟨rs, h0, x0, y0, rfl, rfl, p0, ok, nd, hl⟩ := hi0
    simp only [List.length_map, List.length_range] at hl
    have lv := live_last (h := h0) (xs := rs.map eR) p0.len
    dsimp only
    rw [wp_cons]
    simp [S.den, E.den, Es.den, see_live lv]
    exact fin_tup rfl p0.len ((p0.flat hf).all _) (unders_R rs) ⟨rs, rfl, ⟨n0, hn, ok, nd, by omega⟩, by omega, p0⟩
/-! ### what the laws ask of sets and pairs -/
theorem filter_nil {α : Type} {l : List α} {f : α → Bool} : decide (l.filter f = []) = l.all fun a => !f a := by
  rw [Bool.eq_iff_iff]
  simp [List.filter_eq_nil_iff]
theorem law_within_spec (hT : T "_law_within" = some f__law_within) {n : Nat} {s t : List Nat} (hn : n ≤ 4) (hs : SetOk n s) (ht : SetOk n t) (k : Nat) (h : PH) : call T (k + 1) "_law_within" [eS s, eS t] h = .ok (.bl (within s t)) h := by
  rw [call_eq hT]
  refine run_ret rfl ?_
  simp [f__law_within, Ss.den, S.den, E.den, Es.den, I.den, R.T.den, startP, wipeP]
  rw [lc_some (fun a => !decide (a ∈ t)) eN]
  · obtain ⟨f1, f2⟩ := filter_small hs hn fun a => !decide (a ∈ t)
    simp only [Res.nox_ok, Res.bind_ok, see_lst, (eqNil_N f1 f2).1, filter_nil]
    simp [within]
  · intro a ha
    have e := ht.nin (m := 0) (a := a) hn (by have := hs.lt a ha; omega)
    by_cases c : a ∈ t <;> simp [e, c]
theorem stays_spec (hT : T "_law_stays" = some f__law_stays) {n : Nat} {r : Rl} {t : List Nat} (hn : n ≤ 4) (hr : RuleOk n r) (ht : SetOk n t) (k : Nat) (h : PH) : call T (k + 1) "_law_stays" [eR r, eS t] h = .ok (.bl (remainsP r t)) h := by
  rw [call_eq hT]
  refine run_ret rfl ?_
  simp [f__law_stays, Ss.den, S.den, E.den, Es.den, I.den, R.T.den, startP, wipeP]
  rw [lc_some (fun a => decide (a ∈ t)) eN]
  · obtain ⟨f1, f2⟩ := filter_small hr.fa hn fun a => decide (a ∈ t)
    simp only [Res.nox_ok, Res.bind_ok, see_lst, (eqNil_N f1 f2).1, filter_nil]
    simp [remainsP]
  · intro a ha
    have e := ht.inn (m := 0) (a := a) hn (by have := hr.fa.lt a ha; omega)
    by_cases c : a ∈ t <;> simp [e, c]
theorem keeps_spec (h1 : T "_law_within" = some f__law_within) (hT : T "_law_keeps" = some f__law_keeps) {n : Nat} {r : Rl} {t : List Nat} (hn : n ≤ 4) (hr : RuleOk n r) (ht : SetOk n t) (k : Nat) (h : PH) : call T (k + 2) "_law_keeps" [eS t, eR r] h = .ok (.bl (obeysP t r)) h := by
  rw [call_eq hT]
  refine run_ret rfl ?_
  simp [f__law_keeps, Ss.den, S.den, E.den, Es.den, Es.denB, bools, startP, hd_inn ht hn hr.hd, law_within_spec h1 hn hr.ho ht, obeysP]
  cases hdIn r.hd t <;> simp
structure HasLawAll (T : Tab) : Prop where
  sets : T "_law_sets" = some f__law_sets
  within : T "_law_within" = some f__law_within
  all_pairs : T "_law_all_pairs" = some f__law_all_pairs_v2
structure HasLawPairs (T : Tab) : Prop extends HasLawAll T where
  stays : T "_law_stays" = some f__law_stays
  keeps : T "_law_keeps" = some f__law_keeps
  fits : T "_law_fits" = some f__law_fits_v2
  pairs : T "_law_pairs" = some f__law_pairs_v2
theorem fits_eq (p : Pr2) (r : Rl) : fitsP p r = (!remainsP r p.2 || (obeysP p.2 r && obeysP p.1 r)) := by
  unfold fitsP violatesP
  cases remainsP r p.2 <;> cases obeysP p.2 r <;> simp
theorem law_fits_spec (H : HasLawPairs T) {n : Nat} (h4 : n ≤ 4) {p : Pr2} {r : Rl} (hp : PairOk n p) (hr : RuleOk n r) (k : Nat) (h : PH) : call T (k + 3) "_law_fits" [eQ p, eR r] h = .ok (.bl (fitsP p r)) h := by
  rw [call_eq H.fits]
  refine run_ret rfl ?_
  have e1 := fun h => stays_spec H.stays h4 hr hp.b (k + 1) h
  have e2 := fun h => keeps_spec H.within H.keeps h4 hr hp.b k h
  have e3 := fun h => keeps_spec H.within H.keeps h4 hr hp.a k h
  simp [f__law_fits_v2, Ss.den, S.den, E.den, Es.den, Es.denB, bools, startP, e1, e2, fits_eq]
  cases remainsP r p.2 <;> cases obeysP p.2 r <;> simp [e3]
theorem under_Q {n : Nat} (p : Pr2) : (eQ p).under n = true := by
  simp only [eQ, PV.under, PV.unders, eS, under_N, Bool.and_true]
theorem unders_Q {n : Nat} : ∀ ps : List Pr2, PV.unders n (ps.map eQ) = true
  | [] => rfl
  | p :: ps => by rw [List.map_cons, PV.unders, under_Q, unders_Q ps]; rfl
theorem law_all_pairs_spec (H : HasLawAll T) {n : Nat} (h0 : 0 < n) (h4 : n ≤ 4) (k : Nat) {h : PH} (hf : Flat h) : call T (k + 2) "_law_all_pairs" [.int n] h = .ok (.lst ((allP n).map eQ)) h := by
  have w : (call T (k + 2) "_law_all_pairs" [.int n] h).wp fun v h' => v = .lst ((allP n).map eQ) ∧ h' = h := by
    rw [call_eq H.all_pairs]
    refine run_wp (by rfl) ?_
    simp only [f__law_all_pairs_v2]
    have st := fun h => law_sets_spec H.sets h0 h4 k h
    have sz2 : (2 : Nat) ≤ sizeLine := by decide
    rw [wp_cons]
    simp [S.den, E.den, Es.den, startP, st]
    rw [wp_cons]
    simp [S.den, E.den, R.I.den]
    obtain ⟨I, hI⟩ : ∃ I : Nat → Sl → PH → Prop, I = fun i ρ h' => ∃ (x y : Option PV), ρ = [some (.int n), some (.ref h.length), some (.lst ((sets n).map eS)), x, y] ∧ h' = h ++ [.lst ((((sets n).take i).flatMap fun x => ((sets n).filter fun y => within x y).map fun y => (x, y)).map eQ)] := ⟨_, rfl⟩
    refine for_wp I ?_ ?_ ?_
    · rw [hI]; exact ⟨none, none, rfl, rfl⟩
    · intro i x ρ h' hx hi0
      rw [hI] at hi0
      obtain ⟨x0, y0, rfl, rfl⟩ := hi0
      rw [List.getElem?_map] at hx
      cases hs0 : (sets n)[i]? with
      | none => rw [hs0] at hx; cases hx
      | some s =>
        rw [hs0] at hx
        cases hx
        have hs := List.mem_of_getElem? hs0
        obtain ⟨acc, ha⟩ : ∃ acc, acc = ((sets n).take i).flatMap fun x => ((sets n).filter fun y => within x y).map fun y => (x, y) := ⟨_, rfl⟩
        have ha2 : acc ++ ((sets n).filter fun y => within s y).map (fun y => (s, y)) = ((sets n).take (i + 1)).flatMap fun x => ((sets n).filter fun y => within x y).map fun y => (x, y) := by
          rw [ha, List.take_add_one, hs0]
          simp
        rw [← ha]
        have hl : acc.length + ((sets n).filter fun y => within s y).length ≤ 81 := by
          have e1 := congrArg List.length ha2
          have e2 := allP_len h0 h4
          have e3 : (((sets n).take (i + 1)).flatMap fun x => ((sets n).filter fun y => within x y).map fun y => (x, y)).length ≤ (allP n).length := by
            unfold allP
            conv => rhs; rw [← List.take_append_drop (i + 1) (sets n), List.flatMap_append, List.length_append]
            rw [List.take_append_drop]
            exact Nat.le_add_right _ _
          rw [List.length_append, List.length_map] at e1
          omega
        have lv := live_last (h := h) (xs := acc.map eQ) rfl
        simp
        rw [wp_cons]
        simp [S.den, E.den, Es.den, R.I.den, R.T.den, wipeP, wp_out, wp_bind, wp_nox, isLive_of lv]
        rw [lc_some (fun y => within s y) fun y => eQ (s, y)]
        · have hz : acc.length + ((sets n).filter fun y => within s y).length ≤ sizeLine := by rw [sizeLine_eq]; omega
          simp [mthR, Mth.den, lv, hz]
          rw [hI]
          refine ⟨_, _, rfl, ?_⟩
          rw [← ha2]
          simp [Function.comp_def]
        · intro y hy
          have e := law_within_spec H.within h4 (sets_ok h0 h4 s hs) (sets_ok h0 h4 y hy) k (h ++ [.lst (acc.map eQ)])
          cases c : within s y <;> simp [e, c, sz2, eQ]
    · intro ρ h' hi0
      rw [hI] at hi0
      obtain ⟨x0, y0, rfl, rfl⟩ := hi0
      rw [List.length_map, List.take_length]
      dsimp only
      rw [wp_cons]
      simp [S.den, E.den]
      exact fin_lst (p := 0) rfl rfl (hf.all _) (unders_Q _) ⟨rfl, rfl⟩
  obtain ⟨v, h', e, rfl, rfl⟩ := wp_get w
  exact e
theorem law_pairs_spec (H : HasLawPairs T) {n : Nat} (h0 : 0 < n) (h4 : n ≤ 4) {rs : List Rl} (hr : ∀ r ∈ rs, RuleOk n r) (k : Nat) {h : PH} (hf : Flat h) : call T (k + 4) "_law_pairs" [.int n, eRs rs] h = .ok (eT (pairsP n rs)) h := by
  have w : (call T (k + 4) "_law_pairs" [.int n, eRs rs] h).wp fun v h' => v = eT (pairsP n rs) ∧ h' = h := by
    rw [call_eq H.pairs]
    refine run_wp (by rfl) ?_
    simp only [f__law_pairs_v2]
    have st := law_all_pairs_spec H.toHasLawAll h0 h4 (k + 1) hf
    rw [wp_cons]
    simp [S.den, E.den, Es.den, startP, st]
    rw [wp_cons]
    simp [S.den, E.den, R.I.den]
    obtain ⟨I, hI⟩ : ∃ I : Nat → Sl → PH → Prop, I = fun i ρ h' => ∃ (x y : Option PV), ρ = [some (.int n), some (eRs rs), some (.lst ((pairsP n (rs.take i)).map eQ)), x, y] ∧ h' = h := ⟨_, rfl⟩
    refine for_wp I ?_ ?_ ?_
    · have e0 : pairsP n (rs.take 0) = allP n := by
        unfold pairsP
        exact List.filter_eq_self.mpr fun _ _ => rfl
      rw [hI]; exact ⟨none, none, by rw [e0], rfl⟩
    · intro i x ρ h' hx hi0
      rw [hI] at hi0
      obtain ⟨x0, y0, rfl, rfl⟩ := hi0
      rw [List.getElem?_map] at hx
      cases hs0 : rs[i]? with
      | none => rw [hs0] at hx; cases hx
      | some r =>
        rw [hs0] at hx
        cases hx
        have hrr := hr r (List.mem_of_getElem? hs0)
        simp
        rw [wp_cons]
        simp [S.den, E.den, Es.den, R.I.den, R.T.den, wipeP, wp_out, wp_bind, wp_nox]
        rw [lc_some (fun p => fitsP p r) eQ]
        · have e : (pairsP n (rs.take i)).filter (fun p => fitsP p r) = pairsP n (rs.take (i + 1)) := by
            unfold pairsP
            rw [List.filter_filter, List.take_add_one, hs0]
            simp [List.all_append, Bool.and_comm]
          simp [e]
          rw [hI]
          exact ⟨_, _, rfl, rfl⟩
        · intro p hp
          have e := law_fits_spec H h4 (allP_ok h0 h4 (List.mem_filter.mp hp).1) hrr k h'
          cases c : fitsP p r <;> simp [e, c]
    · intro ρ h' hi0
      rw [hI] at hi0
      obtain ⟨x0, y0, rfl, rfl⟩ := hi0
      rw [List.length_map, List.take_length]
      dsimp only
      rw [wp_cons]
      simp [S.den, E.den, Es.den]
      exact fix_same rfl ⟨rfl, rfl⟩
  obtain ⟨v, h', e, rfl, rfl⟩ := wp_get w
  exact e
/-! ### kernels -/
def greatP (l : List Pr2) (p : Pr2) : Bool := !l.any fun q => decide (q.2 = p.2) && (!decide (q.1 = p.1 ∨ q.1 = p.2) && within p.1 q.1)
def kernP (l : List Pr2) : List Pr2 := l.filter fun p => decide (p.1 = p.2) || greatP l p
theorem eq_S {n : Nat} {s t : List Nat} (hs : SetOk n s) (ht : SetOk n t) (h4 : n ≤ 4) : cmpop .eq (eS s) (eS t) = some (decide (s = t)) :=
  (eq_tup eqv_N ((hs.da h4).fine (by decide)) ((ht.da h4).fine (by decide))).1
theorem nin_2 {n : Nat} {s t u : List Nat} (hs : SetOk n s) (ht : SetOk n t) (hu : SetOk n u) (h4 : n ≤ 4) : cmpop .nin (eS s) (.tup [eS t, eS u]) = some (!decide (s = t ∨ s = u)) := by
  have f1 := (hs.da h4).fine (by decide)
  have f2 : (PV.tup ([t, u].map eS)).fine = true := (da_tup (d := 1) (c := 23) (n := 2) (xs := [t, u].map eS) (fun x hx => by
    simp only [List.map_cons, List.map_nil, List.mem_cons, List.not_mem_nil, or_false] at hx
    rcases hx with rfl | rfl
    · exact ht.da h4
    · exact hu.da h4) (by simp)).fine (by decide)
  have := (in_tup eqv_S (x := s) (ys := [t, u]) f1 f2).2
  simpa using this
theorem is_greatest_spec (h1 : T "is_within" = some f_is_within) (hT : T "is_greatest" = some f_is_greatest) {n : Nat} (h4 : n ≤ 4) {l : List Pr2} (hl : ∀ p ∈ l, PairOk n p) {p : Pr2} (hp : PairOk n p) (k : Nat) (h : PH) : call T (k + 2) "is_greatest" [eT l, eS p.1, eS p.2] h = .ok (.bl (greatP l p)) h := by
  rw [call_eq hT]
  refine run_ret rfl ?_
  have sz2 : (2 : Nat) ≤ sizeLine := by decide
  have sq : seqV (eT l) = some (l.map eQ) := rfl
  have se : see h (eT l) = eT l := rfl
  simp [f_is_greatest, Ss.den, S.den, E.den, Es.den, Es.denB, bools, R.I.den, R.T.den, startP, wipeP, sq, se, sz2]
  rw [lc_all fun q => PV.bl (decide (q.2 = p.2) && (!decide (q.1 = p.1 ∨ q.1 = p.2) && within p.1 q.1))]
  · simp [greatP]
  · intro q hq
    have hq := hl q hq
    have e1 := eq_S hq.b hp.b h4
    have e2 := nin_2 hq.a hp.a hp.b h4
    have e3 := is_within_spec h1 h4 hp.a hq.a k h
    generalize decide (q.2 = p.2) = b1 at e1 ⊢
    generalize decide (q.1 = p.1 ∨ q.1 = p.2) = b2 at e2 ⊢
    cases b1 <;> cases b2 <;> simp [e1, e2, e3, sz2]
theorem kernel_of_spec (H : HasPairs T) (h1 : T "pairs_in" = some f_pairs_in) (h2 : T "pairs_of" = some f_pairs_of) (h3 : T "is_greatest" = some f_is_greatest) (hT : T "kernel_of" = some f_kernel_of) {n : Nat} (h0 : 0 < n) (h4 : n ≤ 4) {rs : List Rl} (hr : ∀ r ∈ rs, RuleOk n r) (k : Nat) (h : PH) : call T (k + 8) "kernel_of" [.int n, eRs rs] h = .ok (eT (kernP (pairsP n rs))) h := by
  rw [call_eq hT]
  refine run_ret rfl ?_
  have e0 := fun h => pairs_of_spec H h1 h2 h0 h4 hr k h
  have ok : ∀ p ∈ pairsP n rs, PairOk n p := fun p hp => allP_ok h0 h4 (List.mem_filter.mp hp).1
  generalize pairsP n rs = l at e0 ok
  have sq : seqV (eT l) = some (l.map eQ) := rfl
  have se : see h (eT l) = eT l := rfl
  simp [f_kernel_of, Ss.den, S.den, E.den, Es.den, Es.denB, bools, R.I.den, R.T.den, Ts.den, startP, wipeP, sq, se, e0]
  rw [lc_some (fun p => decide (p.1 = p.2) || greatP l p) eQ]
  · simp [kernP, eT]
  · intro p hp
    have hp := ok p hp
    have e1 := eq_S hp.a hp.b h4
    have e2 := is_greatest_spec H.is_within h3 h4 ok hp (k + 5) h
    by_cases c1 : p.1 = p.2
    · rw [c1] at e1
      simp [e1, c1]
    · cases c2 : greatP l p <;> simp [e1, e2, c1, c2]
theorem kernel_spec (R0 : HasRules T) (H : HasPairs T) (h1 : T "pairs_in" = some f_pairs_in) (h2 : T "pairs_of" = some f_pairs_of) (h3 : T "is_greatest" = some f_is_greatest) (h5 : T "kernel_of" = some f_kernel_of) (hT : T "kernel" = some f_kernel) {n : Nat} {rs : List Rl} (hb : BookOk n rs) (k : Nat) (h : PH) : call T (k + 9) "kernel" [eB n rs] h = .ok (eT (kernP (pairsP n rs))) h := by
  rw [call_eq hT]
  refine run_ret rfl ?_
  simp [f_kernel, Ss.den, S.den, E.den, Es.den, startP, need_book_spec R0 hb, kernel_of_spec H h1 h2 h3 h5 hb.n1 hb.n4 hb.ok]
end
end R

set_option Elab.async false
set_option linter.all false
set_option maxRecDepth 100000
set_option maxHeartbeats 1000000
/-! Q: rules put together, twins -/
namespace R
open PySem PySem.Spec L2
/-- what returns -/
theorem wpo_rt {o : Out} {P : Po} (w : o.wp { nx := fun _ _ => False, rt := P.rt }) : o.wp P := by
  cases o <;> first | exact w | exact w.elim
theorem cut_to {α : Type} (xs : List α) (k : Nat) : cutP xs none (some (k : Int)) = xs.take k := by
  unfold cutP
  rw [HT.sIx_nat, HT.sIx_none]
  simp [Nat.min_comm, List.take_eq_take_iff]
theorem cut_from {α : Type} (xs : List α) (k : Nat) : cutP xs (some (k : Int)) none = xs.drop k := by
  unfold cutP
  rw [HT.sIx_nat, HT.sIx_none]
  by_cases c : k ≤ xs.length
  · rw [Nat.min_eq_left c, List.take_of_length_le (by simp)]
  · rw [Nat.min_eq_right (by omega), List.drop_of_length_le (Nat.le_refl _), List.drop_of_length_le (by omega)]
    simp
theorem cut_from1 {α : Type} (xs : List α) (k : Nat) : cutP xs (some ((k : Int) + 1)) none = xs.drop (k + 1) := cut_from xs (k + 1)
def unionP (rs os : List Rl) : List Rl := rs ++ os.filter fun r => !decide (r ∈ rs)
theorem unionP_mem {rs os : List Rl} {r : Rl} : r ∈ unionP rs os ↔ r ∈ rs ∨ r ∈ os := by
  unfold unionP
  rw [List.mem_append, List.mem_filter]
  by_cases h : r ∈ rs <;> simp [h]
theorem unionP_nd {rs os : List Rl} (h1 : rs.Nodup) (h2 : os.Nodup) : (unionP rs os).Nodup := by
  unfold unionP
  rw [List.nodup_append]
  refine ⟨h1, List.Sublist.nodup List.filter_sublist h2, fun a ha b hb => ?_⟩
  rintro rfl
  have := (List.mem_filter.mp hb).2
  simp [ha] at this
theorem unionP_len (rs os : List Rl) : (unionP rs os).length ≤ rs.length + os.length := by
  unfold unionP
  rw [List.length_append]
  have := List.length_filter_le (fun r => !decide (r ∈ rs)) os
  omega
def bodyUnion : Ss := .cons (.ret (.bin .add (.var 0) (.blt .tuple (.cons (.lc false [2] (.name 2) (.seq (.var 1)) (.cmp .nin (.var 2) (.var 0)) (.var 2)) .nil))))
    .nil
def bodyFacts : Ss := .cons (.ret (.blt .tuple (.cons (.lc false [1] (.name 1) (.seq (.var 0)) .yes (.tup (.cons (.var 1) (.cons (.tup .nil) (.cons (.tup .nil) .nil))))) .nil)))
    .nil
def factsP (s : List Nat) : List Rl := s.map fun a => ⟨some a, [], []⟩
theorem factsP_ok {n : Nat} {s : List Nat} (h : SetOk n s) : ∀ r ∈ factsP s, RuleOk n r := by
  intro r hr
  obtain ⟨a, ha, rfl⟩ := List.mem_map.mp hr
  exact ⟨fun b e => by cases e; exact h.lt a ha, .nil, .nil⟩
theorem factsP_nd {n : Nat} {s : List Nat} (h : SetOk n s) : (factsP s).Nodup := by
  refine List.Pairwise.map _ (fun a b hab e => ?_) h.asc
  cases e
  omega
section
variable {T : Tab}
theorem union_run {f : Str} {qu : Bool} (hT : T f = some ⟨2, 3, false, bodyUnion, false, false, qu⟩) {n : Nat} {rs os : List Rl} (hn : n ≤ 4) (h1 : ∀ r ∈ rs, RuleOk n r) (h2 : ∀ r ∈ os, RuleOk n r) (hl : rs.length + os.length ≤ 10000) (k : Nat) (h : PH) :
    call T (k + 1) f [eRs rs, eRs os] h = .ok (eRs (unionP rs os)) h := by
  rw [call_eq hT]
  refine run_ret rfl ?_
  simp [bodyUnion, Ss.den, S.den, E.den, Es.den, R.I.den, R.T.den, startP, wipeP]
  rw [lc_some (fun r => !decide (r ∈ rs)) eR]
  · have sz : rs.length + (os.filter fun r => !decide (r ∈ rs)).length ≤ sizeLine := by
      have := List.length_filter_le (fun r => !decide (r ∈ rs)) os
      rw [sizeLine_eq]; omega
    simp [eRs, binop, unionP, sz]
  · intro r hr
    have e := (nin_Rs hn (h2 r hr) h1).2.1
    by_cases c : r ∈ rs <;> simp [e, c]
theorem joined_spec (hT : T "_law_joined" = some f__law_joined) {n : Nat} {rs os : List Rl} (hn : n ≤ 4) (h1 : ∀ r ∈ rs, RuleOk n r) (h2 : ∀ r ∈ os, RuleOk n r) (hl : rs.length + os.length ≤ 10000) (k : Nat) (h : PH) :
    call T (k + 1) "_law_joined" [eRs rs, eRs os] h = .ok (eRs (unionP rs os)) h := union_run hT hn h1 h2 hl k h
theorem union_of_spec (hT : T "union_of" = some f_union_of) {n : Nat} {rs os : List Rl} (hn : n ≤ 4) (h1 : ∀ r ∈ rs, RuleOk n r) (h2 : ∀ r ∈ os, RuleOk n r) (hl : rs.length + os.length ≤ 10000) (k : Nat) (h : PH) :
    call T (k + 1) "union_of" [eRs rs, eRs os] h = .ok (eRs (unionP rs os)) h := union_run hT hn h1 h2 hl k h
theorem facts_run {f : Str} {qu : Bool} (hT : T f = some ⟨1, 2, false, bodyFacts, false, false, qu⟩) (s : List Nat) (k : Nat) (h : PH) : call T (k + 1) f [eS s] h = .ok (eRs (factsP s)) h := by
  rw [call_eq hT]
  refine run_ret rfl ?_
  have sz : (3 : Nat) ≤ sizeLine := by decide
  simp [bodyFacts, Ss.den, S.den, E.den, Es.den, R.I.den, R.T.den, startP, wipeP]
  rw [lc_all fun a => eR ⟨some a, [], []⟩]
  · simp [eRs, factsP, Function.comp_def]
  · intro a ha
    simp [sz, eR, eH, eS, eN]
theorem law_facts_spec (hT : T "_law_facts" = some f__law_facts) (s : List Nat) (k : Nat) (h : PH) : call T (k + 1) "_law_facts" [eS s] h = .ok (eRs (factsP s)) h := facts_run hT s k h
theorem facts_of_spec (hT : T "facts_of" = some f_facts_of) (s : List Nat) (k : Nat) (h : PH) : call T (k + 1) "facts_of" [eS s] h = .ok (eRs (factsP s)) h := facts_run hT s k h
theorem eRs_1 (r : Rl) : PV.tup [eR r] = eRs [r] := rfl
theorem eRs_2 (r q : Rl) : PV.tup [eR r, eR q] = eRs [r, q] := rfl
theorem eqNil_Rs {n : Nat} {rs : List Rl} (hn : n ≤ 4) (h : ∀ r ∈ rs, RuleOk n r) : cmpop .eq (eRs rs) (.tup []) = some (decide (rs = [])) ∧ cmpop .ne (eRs rs) (.tup []) = some (!decide (rs = [])) :=
  eq_tup (enc := eR) eqv_R (ys := []) ((da_Rs h hn (Nat.le_refl _)).fine (by decide)) rfl
theorem neNil_S {n : Nat} {s : List Nat} (hn : n ≤ 4) (h : SetOk n s) : cmpop .ne (eS s) (.tup []) = some (!decide (s = [])) :=
  (eq_tup (enc := eN) eqv_N (ys := []) ((h.da hn).fine (by decide)) rfl).2
theorem SetOk.sub {n : Nat} {s t : List Nat} (h : SetOk n s) (hs : t.Sublist s) : SetOk n t := ⟨h.asc.sublist hs, fun a ha => h.lt a (hs.subset ha)⟩
theorem eraseAt_ok {n : Nat} {rs : List Rl} (hb : BookOk n rs) (i : Nat) : BookOk n (rs.take i ++ rs.drop (i + 1)) := by
  have sub : (rs.take i ++ rs.drop (i + 1)).Sublist rs := by
    rw [← List.eraseIdx_eq_take_drop_succ]
    exact List.eraseIdx_sublist rs i
  exact ⟨hb.n1, hb.n4, fun r hr => hb.ok r (sub.subset hr), hb.nd.sublist sub, Nat.le_trans sub.length_le hb.few⟩
theorem eraseAt_len (rs : List Rl) (i : Nat) : (rs.take i ++ rs.drop (i + 1)).length ≤ rs.length := by
  rw [← List.eraseIdx_eq_take_drop_succ]
  exact (List.eraseIdx_sublist rs i).length_le
theorem union_ok {n : Nat} {rs os : List Rl} (hb : BookOk n rs) (ho : ∀ r ∈ os, RuleOk n r) (nd : os.Nodup) (few : rs.length + os.length ≤ 76) : BookOk n (unionP rs os) :=
  ⟨hb.n1, hb.n4, fun r hr => (unionP_mem.mp hr).elim (hb.ok r) (ho r), unionP_nd hb.nd nd, Nat.le_trans (unionP_len _ _) few⟩
theorem rev_ok {n : Nat} {rs : List Rl} (hb : BookOk n rs) : BookOk n rs.reverse :=
  ⟨hb.n1, hb.n4, fun r hr => hb.ok r (List.mem_reverse.mp hr), (List.reverse_perm rs).nodup_iff.mpr hb.nd, by rw [List.length_reverse]; exact hb.few⟩
theorem rev_Rs (rs : List Rl) : revV (eRs rs) = some (eRs rs.reverse) := by simp [eRs, revV]
theorem slice_to (rs : List Rl) (k : Nat) : sliceV (eRs rs) none (some (k : Int)) = some (eRs (rs.take k)) := by simp [eRs, sliceV, cut_to]
theorem slice_from1 (rs : List Rl) (k : Nat) : sliceV (eRs rs) (some ((k : Int) + 1)) none = some (eRs (rs.drop (k + 1))) := by simp [eRs, sliceV, cut_from1]
theorem slice_1S (s : List Nat) : sliceV (eS s) (some 1) none = some (eS (s.drop 1)) := by simp [eS, sliceV, cut_1]
theorem add_Rs (rs os : List Rl) (hl : rs.length + os.length ≤ 10000) : binop .add (eRs rs) (eRs os) = some (eRs (rs ++ os)) := by
  have : rs.length + os.length ≤ sizeLine := by rw [sizeLine_eq]; omega
  simp [eRs, binop, this]
theorem add_S {n : Nat} {s t : List Nat} (hn : n ≤ 4) (hs : SetOk n s) (ht : SetOk n t) : binop .add (eS s) (eS t) = some (.tup ((s ++ t).map eN)) ∧ sortedSetV ((s ++ t).map eN) = some (.lst ((upS (s ++ t)).map eN)) ∧ SetOk n (upS (s ++ t)) := by
  have l1 := hs.len
  have l2 := ht.len
  refine ⟨?_, sortedSet_N (by simp; omega), upS_ok fun a ha => ?_⟩
  · have : s.length + t.length ≤ sizeLine := by rw [sizeLine_eq]; omega
    simp [eS, binop, this]
  · rcases List.mem_append.mp ha with z | z
    · exact hs.lt a z
    · exact ht.lt a z
structure HasTwins (T : Tab) : Prop where
  dr : HasDraws0 T
  joined : T "_law_joined" = some f__law_joined
  twin : T "_law_twin" = some f__law_twin
theorem twin_spec (H : HasTwins T) {p n : Nat} {rs : List Rl} {h : PH} (hp : PenAt h p) (hf : Flat h) (hb : BookOk n rs) (few : rs.length ≤ 60) (k : Nat) :
    (call T (k + 5) "_law_twin" [.ref p, .int n, eRs rs] h).wp fun v h' => ∃ os, v = eRs os ∧ BookOk n os ∧ os.length ≤ rs.length + 5 ∧ Pens p h h' := by
  rw [call_eq H.twin]
  refine run_wp (by rfl) ?_
  have n4 := hb.n4
  have n1 := hb.n1
  have fin : ∀ (os : List Rl) (h3 : PH), BookOk n os → os.length ≤ rs.length + 5 → Pens p h h3 → (fixR false h.length (eRs os) h3).wp fun v h' => ∃ os, v = eRs os ∧ BookOk n os ∧ os.length ≤ rs.length + 5 ∧ Pens p h h' := fun os h3 ho hl p3 => fix_same p3.len ⟨os, rfl, ho, hl, p3⟩
  have sz1 : (1 : Nat) ≤ sizeLine := by decide
  have sz2 : (2 : Nat) ≤ sizeLine := by decide
  have sz3 : (3 : Nat) ≤ sizeLine := by decide
  have jn : ∀ (xs os : List Rl) (h3 : PH), BookOk n xs → (∀ r ∈ os, RuleOk n r) → xs.length + os.length ≤ 10000 → call T (k + 4) "_law_joined" [eRs xs, eRs os] h3 = .ok (eRs (unionP xs os)) h3 := fun xs os h3 hx ho hl => joined_spec H.joined n4 hx.ok ho hl (k + 3) h3
  simp only [f__law_twin]
  rw [wp_cons]
  simp [S.den, E.den, Es.den, startP, wp_out, wp_bind]
  refine wp_mono (draw_spec H.dr.draw hp (by decide) (by decide) (k + 3)) ?_
  rintro v h1 ⟨way, rfl, _, p1⟩
  have en := (eqNil_Rs n4 hb.ok).1
  rw [wp_cons]
  by_cases c0 : rs = [] ∨ way = 0
  · have tst : ∀ h2 : PH, (Ts.den (call T (k + 4)) false (Ts.cons (R.T.cmp CmpO.eq (E.var 2) (E.tup Es.nil)) (Ts.cons (R.T.cmp CmpO.eq (E.var 3) (E.con (SC.int 0))) Ts.nil)) [some (PV.ref p), some (PV.int n), some (eRs rs), some (PV.int way), none, none, none, none, none, none] h2) = .ok true h2 := fun h2 => by
      by_cases c : rs = []
      · have en' := en
        rw [c] at en'
        simp [Ts.den, R.T.den, E.den, Es.den, en', c]
      · have : way = 0 := by simpa [c] using c0
        simp [Ts.den, R.T.den, E.den, Es.den, en, c, this]
    simp only [S.den, R.T.den, tst]
    simp
    rw [wp_cons]
    simp [S.den, E.den, Es.den, wp_out, wp_bind, rev_Rs]
    refine wp_mono (rules_spec H.dr (m := 1) (p1.at hp.lt) (p1.flat hf) n1 n4 (by decide) k) ?_
    rintro v h2 ⟨os, rfl, ho, lo, p2⟩
    have hr := rev_ok hb
    have e := jn rs.reverse os h2 hr ho.ok (by simp; omega)
    simp [e]
    refine fin _ _ (union_ok hr ho.ok ho.nd (by simp; omega)) ?_ (p1.trans p2)
    have := unionP_len rs.reverse os
    simp at this
    omega
  have c1 : rs ≠ [] := fun z => c0 (.inl z)
  have c2 : way ≠ 0 := fun z => c0 (.inr z)
  clear c0
  simp [S.den, R.T.den, Ts.den, E.den, Es.den, en, c1, c2]
  rw [wp_cons]
  have l0 : 0 < rs.length := List.length_pos_iff.mpr c1
  simp [S.den, E.den, Es.den, wp_out, wp_bind]
  refine wp_mono (draw_spec H.dr.draw (m := (rs.length : Int)) (p1.at hp.lt) (by omega) (by omega) (k + 3)) ?_
  rintro v h2 ⟨at_, rfl, hat, p2⟩
  have p12 := p1.trans p2
  have hat2 : at_ < rs.length := by omega
  have a1 : atI (rs.map eR) (at_ : Int) = some (eR rs[at_]) := by
    have := atI_nat (xs := rs.map eR) (j := at_) (v := eR rs[at_]) (by simp [hat2])
    exact this
  obtain ⟨r, hr⟩ : ∃ r, r = rs[at_] := ⟨_, rfl⟩
  have hro : RuleOk n r := by rw [hr]; exact hb.ok _ (List.getElem_mem hat2)
  rw [← hr] at a1
  clear hr
  rw [wp_cons]
  have pu : ∀ ρ : Sl, G.put (.tup [5, 6, 7]) (eR r) ρ = putAll [5, 6, 7] [eH r.hd, eS r.ho, eS r.fa] ρ := fun ρ => rfl
  simp [S.den, E.den, idxV, a1, pu, putAll]
  rw [wp_cons]
  by_cases w1 : way = 1
  · simp [S.den, R.T.den, E.den, w1]
    rw [wp_cons]
    simp [S.den, E.den, Es.den, wp_out, wp_bind, rev_Rs]
    refine wp_mono (part_spec H.dr.draw H.dr.part (p12.at hp.lt) n4 (by decide) (by decide) (k + 2)) ?_
    rintro v h3 ⟨s, rfl, hs, p3⟩
    obtain ⟨b1, b2, b3⟩ := add_S n4 hro.ho hs
    have hq : RuleOk n ⟨r.hd, upS (r.ho ++ s), r.fa⟩ := ⟨hro.hd, b3, hro.fa⟩
    have e := jn rs.reverse [⟨r.hd, upS (r.ho ++ s), r.fa⟩] h3 (rev_ok hb) (fun q hq' => by rw [List.mem_singleton.mp hq']; exact hq) (by simp; omega)
    simp only [List.map_append] at b1 b2
    have eR' : PV.tup [PV.tup [eH r.hd, PV.tup ((upS (r.ho ++ s)).map eN), eS r.fa]] = eRs [⟨r.hd, upS (r.ho ++ s), r.fa⟩] := rfl
    simp [b1, b2, tupV, sz1, sz3, eR', e]
    refine fin _ _ (union_ok (rev_ok hb) (fun q hq' => by rw [List.mem_singleton.mp hq']; exact hq) (by simp) (by simp; omega)) ?_ (p12.trans p3)
    have := unionP_len rs.reverse [⟨r.hd, upS (r.ho ++ s), r.fa⟩]
    simp at this
    omega
  have w1i : ¬ ((way : Int) = 1) := by omega
  simp [S.den, R.T.den, E.den, w1i]
  rw [wp_cons]
  by_cases w2 : way = 2
  · simp [S.den, R.T.den, E.den, w2]
    rw [wp_cons]
    simp [S.den, E.den, Es.den, wp_out, wp_bind]
    refine wp_mono (part_spec H.dr.draw H.dr.part (p12.at hp.lt) n4 (by decide) (by decide) (k + 2)) ?_
    rintro v h3 ⟨s, rfl, hs, p3⟩
    obtain ⟨b1, b2, b3⟩ := add_S n4 hro.fa hs
    have hq : RuleOk n ⟨r.hd, r.ho, upS (r.fa ++ s)⟩ := ⟨hro.hd, hro.ho, b3⟩
    have e := jn rs [⟨r.hd, r.ho, upS (r.fa ++ s)⟩] h3 hb (fun q hq' => by rw [List.mem_singleton.mp hq']; exact hq) (by simp; omega)
    simp only [List.map_append] at b1 b2
    have eR' : PV.tup [PV.tup [eH r.hd, eS r.ho, PV.tup ((upS (r.fa ++ s)).map eN)]] = eRs [⟨r.hd, r.ho, upS (r.fa ++ s)⟩] := rfl
    simp [b1, b2, tupV, sz1, sz3, eR', e]
    refine fin _ _ (union_ok hb (fun q hq' => by rw [List.mem_singleton.mp hq']; exact hq) (by simp) (by simp; omega)) ?_ (p12.trans p3)
    have := unionP_len rs [⟨r.hd, r.ho, upS (r.fa ++ s)⟩]
    simp at this
    omega
  have w2i : ¬ ((way : Int) = 2) := by omega
  simp [S.den, R.T.den, E.den, w2i]
  rw [wp_cons]
  have lel := eraseAt_len rs at_
  have cat := add_Rs (rs.take at_) (rs.drop (at_ + 1)) (by rw [List.length_append] at lel; omega)
  by_cases w3 : way = 3
  · simp [S.den, R.T.den, E.den, w3]
    rw [wp_cons]
    simp [S.den, E.den, O.den, slice_to, slice_from1, cat]
    exact fin _ _ (eraseAt_ok hb at_) (by omega) p12
  have w3i : ¬ ((way : Int) = 3) := by omega
  simp [S.den, R.T.den, E.den, w3i]
  rw [wp_cons]
  by_cases w4 : way = 4
  · simp [S.den, R.T.den, E.den, w4]
    rw [wp_cons]
    have rest : ∀ q : Rl, RuleOk n q → (Ss.den (call T (k + 4)) (.cons (.ret (.call "_law_joined" (.cons (.bin .add (.slc (.var 2) .none (.some (.var 4))) (.slc (.var 2) (.some (.bin .add (.var 4) (.con (.int 1)))) .none)) (.cons (.tup (.cons (.var 8) .nil)) .nil))))
    .nil) [some (.ref p), some (.int n), some (eRs rs), some (.int 4), some (.int at_), some (eH r.hd), some (eS r.ho), some (eS r.fa), some (eR q), none] h2).wp { nx := fun ρ h1 => False, rt := fun v h1 => (fixR false h.length v h1).wp fun v h' => ∃ os, v = eRs os ∧ BookOk n os ∧ os.length ≤ rs.length + 5 ∧ Pens p h h' } := by
      intro q hq
      rw [wp_cons]
      have hq1 : ∀ r ∈ [q], RuleOk n r := fun x hx => by rw [List.mem_singleton.mp hx]; exact hq
      have e := jn (rs.take at_ ++ rs.drop (at_ + 1)) [q] h2 (eraseAt_ok hb at_) hq1 (by simp only [List.length_cons, List.length_nil]; omega)
      simp [S.den, E.den, Es.den, O.den, slice_to, slice_from1, cat, sz1, eRs_1, e]
      refine fin _ _ (union_ok (eraseAt_ok hb at_) hq1 (by simp) (by simp only [List.length_cons, List.length_nil]; omega)) ?_ p12
      have := unionP_len (rs.take at_ ++ rs.drop (at_ + 1)) [q]
      simp only [List.length_cons, List.length_nil] at this
      omega
    have ne := neNil_S n4 hro.ho
    by_cases c : r.ho = []
    · have hq := rest ⟨r.hd, r.ho, r.fa.drop 1⟩ ⟨hro.hd, hro.ho, hro.fa.sub (List.drop_sublist _ _)⟩
      have eR' : PV.tup [eH r.hd, eS r.ho, eS (r.fa.drop 1)] = eR ⟨r.hd, r.ho, r.fa.drop 1⟩ := rfl
      rw [c] at ne hq eR'
      simp [S.den, E.den, Es.den, O.den, R.T.den, c, ne, slice_1S, sz3]
      simp at hq eR'
      rw [eR']
      exact wpo_rt hq
    · have hq := rest ⟨r.hd, r.ho.drop 1, r.fa⟩ ⟨hro.hd, hro.ho.sub (List.drop_sublist _ _), hro.fa⟩
      have eR' : PV.tup [eH r.hd, eS (r.ho.drop 1), eS r.fa] = eR ⟨r.hd, r.ho.drop 1, r.fa⟩ := rfl
      simp [S.den, E.den, Es.den, O.den, R.T.den, c, ne, slice_1S, sz3]
      simp at hq eR'
      rw [eR']
      exact wpo_rt hq
  have w4i : ¬ ((way : Int) = 4) := by omega
  simp [S.den, R.T.den, E.den, w4i]
  rw [wp_cons]
  by_cases w5 : way = 5
  · simp [S.den, R.T.den, E.den, w5]
    rw [wp_cons]
    simp [S.den, E.den, Es.den, wp_out, wp_bind]
    refine wp_mono (draw_spec H.dr.draw (p12.at hp.lt) (by omega) (by omega) (k + 3)) ?_
    rintro v h3 ⟨a, rfl, ha, p3⟩
    have han : a < n := by omega
    rw [wp_cons]
    have hq : ∀ q ∈ [(⟨some a, [a], []⟩ : Rl), ⟨none, [a], [a]⟩], RuleOk n q := fun q hq' => by
      simp only [List.mem_cons, List.not_mem_nil, or_false] at hq'
      rcases hq' with rfl | rfl
      · exact ⟨fun b e => by cases e; exact han, .one han, .nil⟩
      · exact ⟨fun b e => (by cases e), .one han, .one han⟩
    have e := jn rs [⟨some a, [a], []⟩, ⟨none, [a], [a]⟩] h3 hb hq (by simp; omega)
    have eR' : PV.tup [PV.tup [PV.int a, PV.tup [PV.int a], PV.tup []], PV.tup [PV.non, PV.tup [PV.int a], PV.tup [PV.int a]]] = eRs [⟨some a, [a], []⟩, ⟨none, [a], [a]⟩] := rfl
    simp [S.den, E.den, Es.den, sz1, sz2, sz3, eR', e]
    refine fin _ _ (union_ok hb hq (by simp) (by simp; omega)) ?_ (p12.trans p3)
    have := unionP_len rs [⟨some a, [a], []⟩, ⟨none, [a], [a]⟩]
    simp at this
    omega
  have w5i : ¬ ((way : Int) = 5) := by omega
  simp [S.den, R.T.den, E.den, w5i]
  rw [wp_cons]
  simp [S.den, E.den, Es.den, wp_out, wp_bind]
  refine wp_mono (rules_spec H.dr (m := 5) (p12.at hp.lt) (p12.flat hf) n1 n4 (by decide) k) ?_
  rintro v h3 ⟨os, rfl, ho, lo, p3⟩
  exact fin _ _ ho (by omega) (p12.trans p3)
theorem two_spec (H : HasTwins T) (hA : T "_law_atoms" = some f__law_atoms) (hT : T "_law_two" = some f__law_two) {p : Nat} {h : PH} (hp : PenAt h p) (hf : Flat h) (k : Nat) :
    (call T (k + 6) "_law_two" [.ref p] h).wp fun v h' => ∃ (n : Nat) (rs os : List Rl), v = .tup [.int n, eRs rs, eRs os] ∧ BookOk n rs ∧ rs.length ≤ 5 ∧ BookOk n os ∧ os.length ≤ 10 ∧ Pens p h h' := by
  rw [call_eq hT]
  refine run_wp (by rfl) ?_
  have sz3 : (3 : Nat) ≤ sizeLine := by decide
  simp only [f__law_two]
  rw [wp_cons]
  simp [S.den, E.den, Es.den, startP, wp_out, wp_bind]
  refine wp_mono (atoms_spec ⟨H.dr, hA⟩ hp (k + 2)) ?_
  rintro v h1 ⟨n, rfl, n0, n4, p1⟩
  rw [wp_cons]
  simp [S.den, E.den, Es.den, wp_out, wp_bind]
  refine wp_mono (rules_spec H.dr (m := 5) (p1.at hp.lt) (p1.flat hf) n0 n4 (by decide) (k + 1)) ?_
  rintro v h2 ⟨rs, rfl, hb, few, p2⟩
  have p12 := p1.trans p2
  rw [wp_cons]
  simp [S.den, E.den, Es.den, wp_out, wp_bind]
  refine wp_mono (twin_spec H (p12.at hp.lt) (p12.flat hf) hb (by omega) k) ?_
  rintro v h3 ⟨os, rfl, ho, lo, p3⟩
  have p13 := p12.trans p3
  simp [sz3]
  exact fix_same p13.len ⟨n, rs, os, rfl, hb, few, ho, by omega, p13⟩
end
end R

set_option Elab.async false
set_option linter.all false
set_option maxRecDepth 100000
set_option maxHeartbeats 1000000
/-! Q: needless rules -/
namespace R
open PySem PySem.Spec L2
/-- a list without the part at a place -/
def wo {α : Type} (l : List α) (i : Nat) : List α := l.take i ++ l.drop (i + 1)
theorem wo_map {α β : Type} (f : α → β) (l : List α) (i : Nat) : wo (l.map f) i = (wo l i).map f := by
  unfold wo
  rw [List.map_append, List.map_take, List.map_drop]
theorem wo_sub {α : Type} (l : List α) (i : Nat) : (wo l i).Sublist l := by
  unfold wo
  rw [← List.eraseIdx_eq_take_drop_succ]
  exact List.eraseIdx_sublist l i
/-- the rule at place i follows from the others -/
def folB (n : Nat) (rs : List Rl) (i : Nat) : Bool := (pairsP n (wo rs i)).all fun p => match rs[i]? with
  | some r => fitsP p r
  | none => true
theorem sublists_and {l m : List Bool} (h : l.length = m.length) : (bits l &&& bits m = bits l) ↔ ∀ (i : Nat), l[i]? = some true → m[i]? = some true := by
  rw [bits_and h]
  constructor
  · intro e i hi
    have e2 := bits_inj (by simp [h]) e
    have := congrArg (fun x => x[i]?) e2
    simp only [List.getElem?_zipWith, hi] at this
    cases hm : m[i]? with
    | none => rw [hm] at this; simp at this
    | some b => rw [hm] at this; simp at this; rw [this]
  · intro hh
    congr 1
    refine List.ext_getElem? fun i => ?_
    rw [List.getElem?_zipWith]
    cases hl : l[i]? with
    | none => rfl
    | some a =>
      cases a with
      | true => simp [hh i hl]
      | false =>
        cases hm : m[i]? with
        | none =>
          have := (List.getElem?_eq_some_iff.mp hl).1
          have := List.getElem?_eq_none_iff.mp hm
          omega
        | some b => simp
theorem marks_le {α : Type} (l : List α) (f g : α → Bool) : (bits (l.map f) &&& bits (l.map g) = bits (l.map f)) ↔ ∀ a ∈ l, f a = true → g a = true := by
  rw [sublists_and (by simp)]
  constructor
  · intro h a ha fa
    obtain ⟨i, hi, rfl⟩ := List.getElem_of_mem ha
    have := h i (by simp [hi, fa])
    simpa [hi] using this
  · intro h i hi
    rw [List.getElem?_map] at hi ⊢
    cases ha : l[i]? with
    | none => rw [ha] at hi; cases hi
    | some a =>
      rw [ha] at hi
      simp only [Option.map_some, Option.some.injEq] at hi ⊢
      exact h a (List.mem_of_getElem? ha) hi
def eM (n : Nat) (r : Rl) : PV := .int (bits (markR n r) : Nat)
structure HasNeed (T : Tab) : Prop where
  pr : HasPairs T
  meet : T "meet" = some f_meet
  without : T "without" = some f_without
  places : T "needless_places" = some f_needless_places
section
variable {T : Tab}
theorem meet_spec (hT : T "meet" = some f_meet) {n : Nat} (qs : List Rl) (k : Nat) (h : PH) : call T (k + 1) "meet" [.int (bits (markRs n []) : Nat), .lst (qs.map (eM n))] h = .ok (.int (bits (markRs n qs) : Nat)) h := by
  have w : (call T (k + 1) "meet" [.int (bits (markRs n []) : Nat), .lst (qs.map (eM n))] h).wp fun v h' => v = .int (bits (markRs n qs) : Nat) ∧ h' = h := by
    rw [call_eq hT]
    refine run_wp (by rfl) ?_
    simp only [f_meet]
    rw [wp_cons]
    simp [S.den, E.den, R.I.den, startP]
    obtain ⟨I, hI⟩ : ∃ I : Nat → Sl → PH → Prop, I = fun i ρ h' => ∃ x3, ρ = [some (.int (bits (markRs n (qs.take i)) : Nat)), some (.lst (qs.map (eM n))), x3] ∧ h' = h := ⟨_, rfl⟩
    refine for_wp I ?_ ?_ ?_
    · rw [hI]; exact ⟨none, rfl, rfl⟩
    · intro i x ρ h' hx hi
      rw [hI] at hi
      obtain ⟨x3, rfl, rfl⟩ := hi
      rw [List.getElem?_map] at hx
      cases hr0 : qs[i]? with
      | none => rw [hr0] at hx; cases hx
      | some r =>
        rw [hr0] at hx
        cases hx
        have len : (markRs n (qs.take i)).length = (markR n r).length := by simp [markRs, markR]
        simp
        rw [wp_cons]
        simp [S.den, E.den, Es.den, eM, and_N, bits_and len, mark_snoc]
        rw [hI]
        refine ⟨some (eM n r), ?_, rfl⟩
        rw [List.take_add_one, hr0]
        rfl
    · intro ρ h' hi
      rw [hI] at hi
      obtain ⟨x3, rfl, rfl⟩ := hi
      rw [List.length_map, List.take_length]
      dsimp only
      rw [wp_cons]
      simp [S.den, E.den]
      exact fix_same rfl ⟨rfl, rfl⟩
  obtain ⟨v, h', e, rfl, rfl⟩ := wp_get w
  exact e
theorem without_lst (hT : T "without" = some f_without) {xs : List PV} {i : Nat} (hl : xs.length ≤ 10000) (k : Nat) (h : PH) : call T (k + 1) "without" [.lst xs, .int i] h = .ok (.lst (wo xs i)) h := by
  rw [call_eq hT]
  refine run_ret rfl ?_
  have sz : (xs.take i).length + (xs.drop (i + 1)).length ≤ sizeLine := by rw [sizeLine_eq]; simp; omega
  simp only [List.length_take, List.length_drop] at sz
  simp [f_without, Ss.den, S.den, E.den, O.den, startP, sliceV, cut_to, cut_from1, binop, sz, wo]
theorem without_Rs (hT : T "without" = some f_without) {rs : List Rl} {i : Nat} (hl : rs.length ≤ 10000) (k : Nat) (h : PH) : call T (k + 1) "without" [eRs rs, .int i] h = .ok (eRs (wo rs i)) h := by
  rw [call_eq hT]
  refine run_ret rfl ?_
  have sz := add_Rs (rs.take i) (rs.drop (i + 1)) (by simp; omega)
  simp [f_without, Ss.den, S.den, E.den, O.den, startP, slice_to, slice_from1, sz, wo]
def placesP (n : Nat) (rs : List Rl) : List Nat := (List.range rs.length).filter (folB n rs)
theorem unders_N {n : Nat} (l : List Nat) : PV.unders n (l.map eN) = true := under_N l
theorem places_spec (H : HasNeed T) {n : Nat} (h0 : 0 < n) (h4 : n ≤ 4) {rs : List Rl} (hr : ∀ r ∈ rs, RuleOk n r) (few : rs.length ≤ 1000) (k : Nat) {h : PH} (hf : Flat h) : call T (k + 7) "needless_places" [.int n, eRs rs] h = .ok (.lst ((placesP n rs).map eN)) h := by
  have w : (call T (k + 7) "needless_places" [.int n, eRs rs] h).wp fun v h' => v = .lst ((placesP n rs).map eN) ∧ h' = h := by
    rw [call_eq H.places]
    refine run_wp (by rfl) ?_
    simp only [f_needless_places]
    have sz0 : (0 : Nat) ≤ sizeLine := Nat.zero_le _
    have e0 := marks_of_all_spec H.pr h0 h4 (rs := []) (fun r hr => by cases hr) k h
    have eE : eRs [] = .tup [] := rfl
    rw [eE] at e0
    rw [wp_cons]
    simp [S.den, E.den, Es.den, R.I.den, R.T.den, startP, wipeP, e0]
    rw [lc_all (eM n)]
    · simp
      rw [wp_cons]
      simp [S.den, E.den, Es.den]
      rw [wp_cons]
      simp [S.den, E.den, R.I.den]
      obtain ⟨I, hI⟩ : ∃ I : Nat → Sl → PH → Prop, I = fun i ρ h' => ∃ (x4 x6 x7 x8 : Option PV), ρ = [some (.int n), some (eRs rs), some (.int (bits (markRs n []) : Nat)), some (.lst (rs.map (eM n))), x4, some (.ref h.length), x6, x7, x8] ∧ h' = h ++ [.lst (((List.range i).filter (folB n rs)).map eN)] := ⟨_, rfl⟩
      have el : (enumL (rs.map (eM n))).length = rs.length := by simp [enumL]
      refine for_wp I ?_ ?_ ?_
      · rw [hI]; exact ⟨_, _, _, _, rfl, rfl⟩
      · intro i x ρ h' hx hi
        rw [hI] at hi
        obtain ⟨x4, x6, x7, x8, rfl, rfl⟩ := hi
        unfold enumL at hx
        rw [List.getElem?_map, List.getElem?_zipIdx, List.getElem?_map] at hx
        cases hr0 : rs[i]? with
        | none => rw [hr0] at hx; cases hx
        | some r =>
          rw [hr0] at hx
          simp at hx
          subst hx
          have ew := without_lst H.without (xs := rs.map (eM n)) (i := i) (by simp; omega) (k + 5) (h ++ [.lst (((List.range i).filter (folB n rs)).map eN)])
          rw [wo_map] at ew
          have em := meet_spec H.meet (n := n) (wo rs i) (k + 5) (h ++ [.lst (((List.range i).filter (folB n rs)).map eN)])
          simp [putAll]
          rw [wp_cons]
          simp [S.den, E.den, Es.den, ew, em]
          rw [wp_cons]
          have key : (bits (markRs n (wo rs i)) &&& bits (markR n r) = bits (markRs n (wo rs i))) ↔ folB n rs i = true := by
            have := marks_le (allP n) (fun p => (wo rs i).all (fitsP p)) (fun p => fitsP p r)
            have e1 : (allP n).map (fun p => (wo rs i).all (fitsP p)) = markRs n (wo rs i) := rfl
            have e2 : (allP n).map (fun p => fitsP p r) = markR n r := rfl
            rw [e1, e2] at this
            rw [this]
            unfold folB pairsP
            rw [hr0, List.all_eq_true]
            simp only [List.mem_filter]
            exact ⟨fun z p hp => z p hp.1 hp.2, fun z p h1 h2 => z p ⟨h1, h2⟩⟩
          have lv := live_last (h := h) (xs := ((List.range i).filter (folB n rs)).map eN) rfl
          have hil : i < rs.length := (List.getElem?_eq_some_iff.mp hr0).1
          have hz : (((List.range i).filter (folB n rs)).map eN).length < sizeLine := by
            have := List.length_filter_le (folB n rs) (List.range i)
            rw [List.length_range] at this
            rw [List.length_map, sizeLine_eq]; omega
          have nx : ∀ b : Bool, folB n rs i = b → (List.range (i + 1)).filter (folB n rs) = (List.range i).filter (folB n rs) ++ (if b then [i] else []) := fun b hb => by
            rw [List.range_succ, List.filter_append]
            cases b <;> simp [hb]
          have ebo : ∀ a b : Nat, decide ((a : Int) = (b : Int)) = decide (a = b) := fun a b => by
            by_cases c : a = b
            · simp [c]
            · have : (a : Int) ≠ b := by omega
              simp [c, this]
          by_cases c : folB n rs i = true
          · have k1 := key.mpr c
            simp [S.den, E.den, R.T.den, eM, and_N, k1]
            rw [wp_cons]
            simp [S.den, E.den, Es.den, isLive_of lv, app_of lv hz, set_last]
            rw [hI]
            refine ⟨_, _, _, _, rfl, ?_⟩
            rw [nx true c]
            simp [eN]
          · have k1 : ¬ (bits (markRs n (wo rs i)) &&& bits (markR n r) = bits (markRs n (wo rs i))) := fun z => c (key.mp z)
            simp [S.den, E.den, R.T.den, eM, and_N]
            have k2 : ¬ (((bits (markRs n (wo rs i)) &&& bits (markR n r) : Nat) : Int) = (bits (markRs n (wo rs i)) : Nat)) := fun z => k1 (by omega)
            first | rw [if_neg k2] | simp only [k1, if_false] | skip
            simp
            rw [hI]
            refine ⟨_, _, _, _, rfl, ?_⟩
            rw [nx false (by simpa using c)]
            simp
      · intro ρ h' hi
        rw [hI] at hi
        obtain ⟨x4, x6, x7, x8, rfl, rfl⟩ := hi
        rw [el]
        dsimp only
        rw [wp_cons]
        simp [S.den, E.den]
        exact fin_lst (p := 0) rfl rfl (hf.all _) (unders_N _) ⟨rfl, rfl⟩
    · intro r hm
      have e := marks_of_spec H.pr h0 h4 (hr r hm) (k + 1) h
      simp [e, eM]
  obtain ⟨v, h', e, rfl, rfl⟩ := wp_get w
  exact e
def needP (n : Nat) (rs : List Rl) : List Rl := (placesP n rs).filterMap fun i => rs[i]?
theorem needless_spec (R0 : HasRules T) (H : HasNeed T) (hT : T "needless" = some f_needless) {n : Nat} {rs : List Rl} (hb : BookOk n rs) (k : Nat) {h : PH} (hf : Flat h) : call T (k + 8) "needless" [eB n rs] h = .ok (eRs (needP n rs)) h := by
  rw [call_eq hT]
  refine run_ret rfl ?_
  have e1 := places_spec H hb.n1 hb.n4 hb.ok (by have := hb.few; omega) k hf
  simp [f_needless, Ss.den, S.den, E.den, Es.den, R.I.den, R.T.den, startP, wipeP, need_book_spec R0 hb, e1]
  have key : ∀ l : List Nat, (∀ i ∈ l, i < rs.length) → (l.map fun i => (match rs[i]? with | some r => eR r | none => .non)) = (l.filterMap fun i => rs[i]?).map eR := by
    intro l
    induction l with
    | nil => intro _; rfl
    | cons i l ih =>
      intro hl
      have hi := hl i List.mem_cons_self
      rw [List.map_cons, List.filterMap_cons, ih fun j hj => hl j (List.mem_cons_of_mem _ hj)]
      simp [hi]
  have lt : ∀ i ∈ placesP n rs, i < rs.length := fun i hi => by
    have := (List.mem_filter.mp hi).1
    simpa using this
  rw [lc_all fun i => (match rs[i]? with | some r => eR r | none => .non)]
  · rw [key _ lt]
    simp [eRs, needP]
  · intro i hi
    have hl := lt i hi
    have a1 : atI (rs.map eR) (i : Int) = some (eR rs[i]) := atI_nat (by simp [hl])
    simp [eN, idxV, a1, hl]
end
end R

set_option Elab.async false
set_option linter.all false
set_option maxRecDepth 100000
set_option maxHeartbeats 1000000
/-! Q: the outer loops of the laws -/
namespace R
open PySem PySem.Spec L2
def outerB (fc fp : Str) (c1 c2 : Int) (inner : Ss) : Ss :=
  .cons (.for_ (.name 1) (.rng (.blt .max (.cons (.con (.int 1)) (.cons (.blt .min (.cons (.blt .len (.cons (.var 0) .nil)) (.cons (.con (.int c1)) .nil))) .nil))))
    (.cons (.asg (.name 2) (.call fp (.cons (.call fc (.cons (.var 0) (.cons (.var 1) .nil))) .nil)))
    (.cons (.for_ (.name 3) (.rng (.con (.int c2))) inner) .nil)))
    (.cons (.ret (.con (.bl true))) .nil)
/-- the slots at a lap: the script, a pen -/
structure Lap (N p : Nat) (ns : List Int) (ρ : Sl) (h : PH) : Prop where
  sl : ∃ (x1 x3 : Option PV) (xs : List (Option PV)), ρ = some (.scr ns) :: x1 :: some (.ref p) :: x3 :: xs ∧ xs.length = N
  fl : Flat h
  pe : PenAt h p
theorem fixT {keep : Bool} {n : Nat} {h : PH} (hf : Flat h) : (fixR keep n (.bl true) h).wp fun v _ => v = .bl true := by
  unfold fixR
  split
  · rfl
  · rw [if_pos (hf.take n |>.all n)]
    simp [PV.under]
section
variable {T : Tab} {k N : Nat} {fc fp : Str} {c1 c2 : Int} {inner : Ss}
theorem law_outer (hT : T "law" = some { np := 1, ns := N + 4, keep := false, body := outerB fc fp c1 c2 inner }) (hc1 : 1 ≤ c1 ∧ c1 ≤ 3) (hc2 : 0 ≤ c2 ∧ c2 ≤ 1000)
    (hcell : ∀ (ns : List Int) (i : Nat) (h : PH), ∃ c : Int, call T k fc [.scr ns, .int i] h = .ok (.int c) h)
    (hpen : ∀ (c : Int) (h : PH), (call T k fp [.int c] h).wp fun v h' => v = .ref h.length ∧ ∃ x y z, h' = h ++ [pen3 x y z] ∧ PenR x y z)
    (H : ∀ (ns : List Int) (p : Nat) (x1 : Option PV) (j : Nat) (xs : List (Option PV)) (h : PH), xs.length = N → Flat h → PenAt h p → j < c2.toNat →
      (inner.den (call T k) (some (.scr ns) :: x1 :: some (.ref p) :: some (eN j) :: xs) h).wp { nx := Lap N p ns, ct := Lap N p ns, rt := fun _ _ => False })
    (ns : List Int) (hl : ns.length ≤ 63) : ∃ h', call T (k + 1) "law" [.scr ns] [] = .ok (.bl true) h' := by
  suffices w : (call T (k + 1) "law" [.scr ns] []).wp fun v _ => v = .bl true by
    obtain ⟨v, h, e, q⟩ := wp_get w
    subst q
    exact ⟨h, e⟩
  rw [call_eq hT]
  refine run_wp (by rfl) ?_
  obtain ⟨m, em, hm⟩ : ∃ m : Nat, (if (1 : Int) < (if c1 < (ns.length : Int) then c1 else (ns.length : Int)) then (if c1 < (ns.length : Int) then c1 else (ns.length : Int)) else 1) = (m : Int) ∧ m ≤ 3 := by
    by_cases c : c1 < (ns.length : Int)
    · refine ⟨c1.toNat, ?_, by omega⟩
      rw [if_pos c]
      split <;> omega
    · rw [if_neg c]
      by_cases c2 : (1 : Int) < (ns.length : Int)
      · exact ⟨ns.length, by rw [if_pos c2], by omega⟩
      · exact ⟨1, by rw [if_neg c2]; rfl, by decide⟩
  have st : startP (N + 4) [.scr ns] = some (.scr ns) :: none :: none :: none :: List.replicate N none := by
    unfold startP
    have : N + 4 - [PV.scr ns].length = N + 3 := by simp
    rw [this]
    simp [List.replicate_succ]
  show (Ss.den (call T k) (outerB fc fp c1 c2 inner) (startP (N + 4) [.scr ns]) []).wp _
  rw [st]
  unfold outerB
  rw [wp_cons]
  simp [S.den, E.den, Es.den, R.I.den, wp_out, see, lenV, itemsV]
  rw [em, rng_N (n := m) (by omega)]
  simp
  obtain ⟨I, hI⟩ : ∃ I : Nat → Sl → PH → Prop, I = fun i ρ h => (∃ (x1 x2 x3 : Option PV) (xs : List (Option PV)), ρ = some (.scr ns) :: x1 :: x2 :: x3 :: xs ∧ xs.length = N) ∧ Flat h := ⟨_, rfl⟩
  refine for_wp I ?_ ?_ ?_
  · rw [hI]; exact ⟨⟨_, _, _, _, rfl, by simp⟩, fun o ho => by cases ho⟩
  · intro i x ρ h hx hi0
    rw [hI] at hi0
    obtain ⟨⟨x1, x2, x3, xs, rfl, hxs⟩, hf⟩ := hi0
    obtain ⟨rfl, hi⟩ := range_get hx
    clear hx
    simp
    rw [wp_cons]
    obtain ⟨c, ec⟩ := hcell ns i h
    simp [S.den, E.den, Es.den, wp_out, eN, ec]
    refine wp_mono (hpen c h) ?_
    rintro v h1 ⟨rfl, a1, a2, a3, rfl, pr⟩
    rw [wp_cons]
    have rc : rngL 0 c2 = some ((List.range c2.toNat).map eN) := by
      have := rng_N (n := c2.toNat) (by omega)
      rwa [show ((c2.toNat : Nat) : Int) = c2 by omega] at this
    simp [S.den, E.den, R.I.den, rc]
    obtain ⟨p, hp⟩ : ∃ p, p = h.length := ⟨_, rfl⟩
    have pa0 : PenAt (h ++ [pen3 a1 a2 a3]) p := by rw [hp]; exact pen_new pr
    have fl0 : Flat (h ++ [pen3 a1 a2 a3]) := hf.snoc flat_pen
    rw [← hp]
    generalize h ++ [pen3 a1 a2 a3] = h1 at pa0 fl0
    clear hp pr hf
    refine for_wp (fun _ ρ h => Lap N p ns ρ h) ⟨⟨_, _, _, rfl, hxs⟩, fl0, pa0⟩ ?_ ?_
    · intro j x ρ h hx hj
      obtain ⟨⟨x1, x3, xs, rfl, hxs⟩, hf, hp⟩ := hj
      obtain ⟨rfl, hj⟩ := range_get hx
      have := H ns p x1 j xs h hxs hf hp hj
      simp
      generalize inner.den (call T k) (some (.scr ns) :: x1 :: some (.ref p) :: some (eN j) :: xs) h = o at this
      cases o <;> first | exact this | exact this.elim
    · intro ρ h hj
      obtain ⟨⟨x1, x3, xs, rfl, hxs⟩, hf, hp⟩ := hj
      simp
      rw [hI]
      exact ⟨⟨_, _, _, _, rfl, hxs⟩, hf⟩
  · intro ρ h hi0
    rw [hI] at hi0
    obtain ⟨⟨x1, x2, x3, xs, rfl, hxs⟩, hf⟩ := hi0
    simp
    rw [wp_cons]
    simp [S.den, E.den]
    exact fixT hf
end
theorem len5 {α : Type} {l : List α} (h : l.length = 5) : ∃ a b c d e, l = [a, b, c, d, e] := by
  match l, h with
  | [a, b, c, d, e], _ => exact ⟨a, b, c, d, e, rfl⟩
theorem len6 {α : Type} {l : List α} (h : l.length = 6) : ∃ a b c d e f, l = [a, b, c, d, e, f] := by
  match l, h with
  | [a, b, c, d, e, f], _ => exact ⟨a, b, c, d, e, f, rfl⟩
theorem len7 {α : Type} {l : List α} (h : l.length = 7) : ∃ a b c d e f g, l = [a, b, c, d, e, f, g] := by
  match l, h with
  | [a, b, c, d, e, f, g], _ => exact ⟨a, b, c, d, e, f, g, rfl⟩
theorem len8 {α : Type} {l : List α} (h : l.length = 8) : ∃ a b c d e f g i, l = [a, b, c, d, e, f, g, i] := by
  match l, h with
  | [a, b, c, d, e, f, g, i], _ => exact ⟨a, b, c, d, e, f, g, i, rfl⟩
theorem len9 {α : Type} {l : List α} (h : l.length = 9) : ∃ a b c d e f g i j, l = [a, b, c, d, e, f, g, i, j] := by
  match l, h with
  | [a, b, c, d, e, f, g, i, j], _ => exact ⟨a, b, c, d, e, f, g, i, j, rfl⟩
theorem len10 {α : Type} {l : List α} (h : l.length = 10) : ∃ a b c d e f g i j k, l = [a, b, c, d, e, f, g, i, j, k] := by
  match l, h with
  | [a, b, c, d, e, f, g, i, j, k], _ => exact ⟨a, b, c, d, e, f, g, i, j, k, rfl⟩
theorem len1 {α : Type} {l : List α} (h : l.length = 1) : ∃ a, l = [a] := by
  match l, h with
  | [a], _ => exact ⟨a, rfl⟩
theorem len2 {α : Type} {l : List α} (h : l.length = 2) : ∃ a b, l = [a, b] := by
  match l, h with
  | [a, b], _ => exact ⟨a, b, rfl⟩
theorem len3 {α : Type} {l : List α} (h : l.length = 3) : ∃ a b c, l = [a, b, c] := by
  match l, h with
  | [a, b, c], _ => exact ⟨a, b, c, rfl⟩
theorem len4 {α : Type} {l : List α} (h : l.length = 4) : ∃ a b c d, l = [a, b, c, d] := by
  match l, h with
  | [a, b, c, d], _ => exact ⟨a, b, c, d, rfl⟩
/-- [x, y, ..] compared by their reprs -/
theorem show_same {d c m : Nat} {xs : List PV} (h : ∀ x ∈ xs, Da d c x) (hn : xs.length ≤ m) (hd : d + 1 ≤ 64) (hc : m * (c + 2) + 3 + 64 ≤ 1000000) : showV (.lst xs) = some (PV.lst xs).dat.shown := by
  have := da_lst h hn
  exact this.show hd (by rw [sizeLine_eq]; omega)
theorem show_one {d c : Nat} {x : PV} (h : Da d c x) (hd : d ≤ 64) (hc : c + 64 ≤ 1000000) : showV x = some x.dat.shown := h.show hd (by rw [sizeLine_eq]; omega)
theorem wp_same {α : Type} {r : Res α} {Q : α → PH → Prop} {a : α} {h : PH} (w : r.wp fun v h' => v = a ∧ h' = h) : r = .ok a h := by
  obtain ⟨v, h', e, rfl, rfl⟩ := wp_get w
  exact e
end R

set_option Elab.async false
set_option linter.all false
set_option maxRecDepth 100000
set_option maxHeartbeats 1000000
/-! Q: comparing rulebooks -/
namespace R
open PySem PySem.Spec L2
theorem PairOk.da {n : Nat} {p : Pr2} (h : PairOk n p) (h4 : n ≤ 4) : Da 2 53 (eQ p) := by
  refine da_tup (d := 1) (c := 23) (n := 2) (fun x hx => ?_) (by simp)
  simp only [List.mem_cons, List.not_mem_nil, or_false] at hx
  rcases hx with rfl | rfl
  · exact h.a.da h4
  · exact h.b.da h4
theorem da_T {n m : Nat} {l : List Pr2} (h4 : n ≤ 4) (hl : ∀ p ∈ l, PairOk n p) (hm : l.length ≤ m) : Da 3 (m * 55 + 3) (eT l) :=
  da_tup (d := 2) (c := 53) (n := m) (fun x hx => by obtain ⟨p, hp, rfl⟩ := List.mem_map.mp hx; exact (hl p hp).da h4) (by simpa using hm)
theorem da_TL {n m : Nat} {l : List Pr2} (h4 : n ≤ 4) (hl : ∀ p ∈ l, PairOk n p) (hm : l.length ≤ m) : Da 3 (m * 55 + 3) (.lst (l.map eQ)) :=
  da_lst (d := 2) (c := 53) (n := m) (fun x hx => by obtain ⟨p, hp, rfl⟩ := List.mem_map.mp hx; exact (hl p hp).da h4) (by simpa using hm)
theorem eq_T {n : Nat} {l m : List Pr2} (h4 : n ≤ 4) (hl : ∀ p ∈ l, PairOk n p) (hm : ∀ p ∈ m, PairOk n p) : cmpop .eq (eT l) (eT m) = some (decide (l = m)) ∧ cmpop .ne (eT l) (eT m) = some (!decide (l = m)) :=
  eq_tup eqv_Q ((da_T h4 hl (Nat.le_refl _)).fine (by decide)) ((da_T h4 hm (Nat.le_refl _)).fine (by decide))
theorem in_T {n : Nat} {p : Pr2} {l : List Pr2} (h4 : n ≤ 4) (hp : PairOk n p) (hl : ∀ p ∈ l, PairOk n p) : cmpop .inn (eQ p) (eT l) = some (decide (p ∈ l)) ∧ cmpop .nin (eQ p) (eT l) = some (!decide (p ∈ l)) := by
  have h := in_tup eqv_Q ((hp.da h4).fine (by decide)) ((da_T h4 hl (Nat.le_refl _)).fine (by decide))
  exact ⟨h.1.trans (by congr), h.2.trans (by congr)⟩
theorem in_TL {n : Nat} {p : Pr2} {l : List Pr2} (h4 : n ≤ 4) (hp : PairOk n p) (hl : ∀ p ∈ l, PairOk n p) : cmpop .inn (eQ p) (.lst (l.map eQ)) = some (decide (p ∈ l)) ∧ cmpop .nin (eQ p) (.lst (l.map eQ)) = some (!decide (p ∈ l)) := by
  have h := in_lst eqv_Q ((hp.da h4).fine (by decide)) ((da_TL h4 hl (Nat.le_refl _)).fine (by decide))
  exact ⟨h.1.trans (by congr), h.2.trans (by congr)⟩
@[simp] theorem ne_bl {a b : Bool} : cmpop .ne (.bl a) (.bl b) = some (!decide (a = b)) := by cases a <;> cases b <;> rfl
@[simp] theorem eq_bl {a b : Bool} : cmpop .eq (.bl a) (.bl b) = some (decide (a = b)) := by cases a <;> cases b <;> rfl
theorem ne_N {a b : Nat} : cmpop .ne (eN a) (eN b) = some (!decide (a = b)) := by
  show cmpop .ne (.int a) (.int b) = _
  rw [ne_i]
  by_cases c : a = b
  · simp [c]
  · have : (a : Int) ≠ b := by omega
    simp [c, this]
@[simp] theorem seq_T {l : List Pr2} : seqV (eT l) = some (l.map eQ) := rfl
@[simp] theorem see_T {l : List Pr2} {h : PH} : see h (eT l) = eT l := rfl
/-! ### contexts -/
def roundP (s : List Nat) : List Rl := s.flatMap fun a => (s.filter fun b => !decide (a = b)).map fun b => ⟨some a, [b], []⟩
def restP (small great : List Nat) : List Nat := great.filter fun a => !decide (a ∈ small)
def ctxP (small great : List Nat) (wide : Bool) : List Rl := if wide then factsP great else factsP small ++ roundP (restP small great)
theorem roundP_ok {n : Nat} {s : List Nat} (h : SetOk n s) : ∀ r ∈ roundP s, RuleOk n r := by
  intro r hr
  obtain ⟨a, ha, hr⟩ := List.mem_flatMap.mp hr
  obtain ⟨b, hb, rfl⟩ := List.mem_map.mp hr
  exact ⟨fun c e => by cases e; exact h.lt a ha, .one (h.lt b (List.mem_filter.mp hb).1), .nil⟩
theorem roundP_len {s : List Nat} (h : s.length ≤ 4) : (roundP s).length ≤ 16 := by
  unfold roundP
  rw [List.length_flatMap]
  have : ∀ l : List Nat, (l.map fun a => ((s.filter fun b => !decide (a = b)).map fun b => (⟨some a, [b], []⟩ : Rl)).length).sum ≤ l.length * 4 := by
    intro l
    induction l with
    | nil => simp
    | cons a l ih =>
      rw [List.map_cons, List.sum_cons, List.length_cons, Nat.succ_mul]
      have := List.length_filter_le (fun b => !decide (a = b)) s
      rw [List.length_map]
      omega
  have := this s
  omega
theorem restP_ok {n : Nat} {s t : List Nat} (h : SetOk n t) : SetOk n (restP s t) := h.sub List.filter_sublist
theorem ctxP_ok {n : Nat} {s t : List Nat} (hs : SetOk n s) (ht : SetOk n t) (w : Bool) : ∀ r ∈ ctxP s t w, RuleOk n r := by
  intro r hr
  unfold ctxP at hr
  cases w with
  | true => exact factsP_ok ht r hr
  | false =>
    rcases List.mem_append.mp hr with z | z
    · exact factsP_ok hs r z
    · exact roundP_ok (restP_ok ht) r z
theorem ctxP_len {n : Nat} {s t : List Nat} (hs : SetOk n s) (ht : SetOk n t) (h4 : n ≤ 4) (w : Bool) : (ctxP s t w).length ≤ 20 := by
  have l1 := hs.len
  have l2 := ht.len
  have l3 := roundP_len (s := restP s t) (Nat.le_trans (restP_ok ht).len h4)
  unfold ctxP factsP
  cases w <;> simp <;> omega
section
variable {T : Tab}
theorem lst_N {s : List Nat} : PV.lst (s.map eN) = .lst (s.map eN) := rfl
theorem round_of_spec (hT : T "round_of" = some f_round_of) {s : List Nat} (hl : s.length ≤ 4) (k : Nat) (h : PH) : call T (k + 1) "round_of" [.lst (s.map eN)] h = .ok (eRs (roundP s)) h := by
  rw [call_eq hT]
  refine run_ret rfl ?_
  have sz1 : (1 : Nat) ≤ sizeLine := by decide
  have sz3 : (3 : Nat) ≤ sizeLine := by decide
  simp [f_round_of, Ss.den, S.den, E.den, Es.den, R.I.den, R.T.den, startP, wipeP]
  rw [lc_flat fun a => ((s.filter fun b => !decide (a = b)).map fun b => eR ⟨some a, [b], []⟩)]
  · have e : (s.flatMap fun a => ((s.filter fun b => !decide (a = b)).map fun b => eR ⟨some a, [b], []⟩)) = (roundP s).map eR := by
      unfold roundP
      rw [List.map_flatMap]
      simp [Function.comp_def]
    have hz : ((roundP s).map eR).length ≤ sizeLine := by rw [List.length_map, sizeLine_eq]; have := roundP_len hl; omega
    rw [e]
    simp only [Res.nox_ok, Res.bind_ok, hz, if_true, Res.out_ok, Out.bind_rt, Es.den, blt_tuple, see_lst, items_lst, Option.map_some, Res.of_some]
    rfl
  · intro a ha
    rw [lc_some (fun b => !decide (a = b)) fun b => eR ⟨some a, [b], []⟩]
    intro b hb
    have e := ne_N (a := a) (b := b)
    by_cases c : a = b
    · subst c
      simp [e]
    · simp [e, c, sz1, sz3]
      rfl
theorem law_round_spec (hT : T "_law_round" = some f__law_round) {s : List Nat} (hl : s.length ≤ 4) (k : Nat) {h : PH} (hf : Flat h) : call T (k + 1) "_law_round" [.lst (s.map eN)] h = .ok (eRs (roundP s)) h := by
  refine wp_same (Q := fun _ _ => True) ?_
  rw [call_eq hT]
  refine run_wp (by rfl) ?_
  simp only [f__law_round]
  have sz1 : (1 : Nat) ≤ sizeLine := by decide
  have sz3 : (3 : Nat) ≤ sizeLine := by decide
  rw [wp_cons]
  simp [S.den, E.den, Es.den, startP]
  rw [wp_cons]
  simp [S.den, E.den, R.I.den]
  obtain ⟨I, hI⟩ : ∃ I : Nat → Sl → PH → Prop, I = fun i ρ h' => ∃ (x2 x3 : Option PV), ρ = [some (.lst (s.map eN)), some (.ref h.length), x2, x3] ∧ h' = h ++ [.lst (((s.take i).flatMap fun a => (s.filter fun b => !decide (a = b)).map fun b => (⟨some a, [b], []⟩ : Rl)).map eR)] := ⟨_, rfl⟩
  have bound : ∀ i, ((s.take i).flatMap fun a => (s.filter fun b => !decide (a = b)).map fun b => (⟨some a, [b], []⟩ : Rl)).length ≤ 16 := fun i => by
    rw [List.length_flatMap]
    have : ∀ l : List Nat, (l.map fun a => ((s.filter fun b => !decide (a = b)).map fun b => (⟨some a, [b], []⟩ : Rl)).length).sum ≤ l.length * 4 := by
      intro l
      induction l with
      | nil => simp
      | cons a l ih =>
        rw [List.map_cons, List.sum_cons, List.length_cons, Nat.succ_mul]
        have := List.length_filter_le (fun b => !decide (a = b)) s
        rw [List.length_map]
        omega
    have := this (s.take i)
    rw [List.length_take] at this
    omega
  refine for_wp I ?_ ?_ ?_
  · rw [hI]; exact ⟨_, _, rfl, rfl⟩
  · intro i x ρ h' hx hi
    rw [hI] at hi
    obtain ⟨x2, x3, rfl, rfl⟩ := hi
    rw [List.getElem?_map] at hx
    cases ha : s[i]? with
    | none => rw [ha] at hx; cases hx
    | some a =>
      rw [ha] at hx
      cases hx
      have lv := live_last (h := h) (xs := ((s.take i).flatMap fun a => (s.filter fun b => !decide (a = b)).map fun b => (⟨some a, [b], []⟩ : Rl)).map eR) rfl
      have bi := bound i
      obtain ⟨acc, hacc⟩ : ∃ acc, acc = ((s.take i).flatMap fun a => (s.filter fun b => !decide (a = b)).map fun b => (⟨some a, [b], []⟩ : Rl)) := ⟨_, rfl⟩
      rw [← hacc] at lv bi ⊢
      simp
      rw [wp_cons]
      simp [S.den, E.den, Es.den, R.I.den, R.T.den, wipeP, isLive_of lv, wp_out, wp_bind, wp_nox]
      rw [lc_some (fun b => !decide (a = b)) fun b => eR ⟨some a, [b], []⟩]
      · have hz : (acc.map eR).length + ((s.filter fun b => !decide (a = b)).map fun b => eR ⟨some a, [b], []⟩).length ≤ sizeLine := by
          have := List.length_filter_le (fun b => !decide (a = b)) s
          rw [List.length_map, List.length_map, sizeLine_eq]
          omega
        simp only [List.length_map] at hz
        simp [mthR, Mth.den, lv, hz, set_last]
        rw [hI]
        refine ⟨_, _, rfl, ?_⟩
        rw [List.take_add_one, ha, List.flatMap_append, ← hacc]
        simp [Function.comp_def]
      · intro b hb
        have e : cmpop .ne (eN b) (eN a) = some (!decide (a = b)) := by rw [ne_N]; simp [eq_comm]
        by_cases c : a = b
        · subst c
          simp [e]
        · simp [e, c, sz1, sz3]
          rfl
  · intro ρ h' hi
    rw [hI] at hi
    obtain ⟨x2, x3, rfl, rfl⟩ := hi
    rw [List.length_map, List.take_length]
    have lv := live_last (h := h) (xs := (roundP s).map eR) rfl
    have er : (s.flatMap fun a => (s.filter fun b => !decide (a = b)).map fun b => (⟨some a, [b], []⟩ : Rl)) = roundP s := rfl
    rw [er]
    dsimp only
    rw [wp_cons]
    simp [S.den, E.den, Es.den, see_live lv]
    exact fin_tup rfl rfl (hf.all _) (unders_R _) ⟨rfl, rfl⟩
theorem context_for_spec (h1 : T "facts_of" = some f_facts_of) (h2 : T "round_of" = some f_round_of) (hT : T "context_for" = some f_context_for) {n : Nat} {s t : List Nat} (h4 : n ≤ 4) (hs : SetOk n s) (ht : SetOk n t) (w : Bool) (k : Nat) (h : PH) :
    call T (k + 2) "context_for" [eS s, eS t, .bl w] h = .ok (eRs (ctxP s t w)) h := by
  rw [call_eq hT]
  refine run_ret rfl ?_
  have e1 := fun s h => facts_of_spec h1 s k h
  have l3 := (restP_ok (s := s) ht).len
  have e2 := fun h => round_of_spec h2 (s := restP s t) (by omega) k h
  cases w with
  | true => simp [f_context_for, Ss.den, S.den, E.den, Es.den, R.T.den, startP, e1, ctxP]
  | false =>
    simp [f_context_for, Ss.den, S.den, E.den, Es.den, R.I.den, R.T.den, startP, wipeP, e1, ctxP]
    rw [lc_some (fun a => !decide (a ∈ s)) eN]
    · have e3 : (t.filter fun a => !decide (a ∈ s)) = restP s t := rfl
      have l1 := hs.len
      have l4 := roundP_len (s := restP s t) (by omega)
      have e4 := add_Rs (factsP s) (roundP (restP s t)) (by simp [factsP]; omega)
      rw [e3]
      simp [e2, e4]
    · intro a ha
      have e := hs.nin (m := 0) (a := a) h4 (by have := ht.lt a ha; omega)
      by_cases c : a ∈ s <;> simp [e, c]
/-! ### compare -/
theorem need_books_spec (R0 : HasRules0 T) (hT : T "need_books" = some f_need_books) {n : Nat} {bs : List (List Rl)} (hb : ∀ rs ∈ bs, BookOk n rs) (h0 : bs ≠ []) (hl : bs.length ≤ 1000) (k : Nat) (h : PH) :
    call T (k + 6) "need_books" (bs.map (eB n)) h = .ok .non h := by
  rw [call_eq hT]
  have hn : 0 < f_need_books.np ∧ f_need_books.np ≤ (bs.map (eB n)).length + 1 ∧ (bs.map (eB n)).length ≤ sizeLine := ⟨by decide, by show 1 ≤ _; omega, by rw [List.length_map, sizeLine_eq]; omega⟩
  rw [run_star rfl hn]
  refine wp_same (Q := fun _ _ => True) ?_
  refine runB_wp ?_
  have e0 : (bs.map (eB n)).take (f_need_books.np - 1) ++ [.tup ((bs.map (eB n)).drop (f_need_books.np - 1))] = [.tup (bs.map (eB n))] := rfl
  rw [e0]
  have e1 : idxV (.tup (bs.map (eB n))) (.int 0) h = some (eB n (bs.head h0)) := by
    cases bs with
    | nil => exact absurd rfl h0
    | cons b bs => exact atI_nat (xs := (b :: bs).map (eB n)) (j := 0) (by simp)
  simp only [f_need_books]
  rw [wp_cons]
  simp [S.den, E.den, Es.den, R.I.den, R.T.den, startP, wipeP]
  rw [lc_all fun rs => PV.bl true]
  · simp
    rw [wp_cons]
    simp [S.den, E.den, Es.den, R.I.den, R.T.den, wipeP]
    rw [lc_all fun rs => PV.bl false]
    · simp
      exact fix_same rfl ⟨rfl, rfl⟩
    · intro rs hrs
      simp [e1]
  · intro rs hrs
    have e := is_rulebook_spec R0 (hb rs hrs) k h
    simp [e]
def unlikeP (n : Nat) (rs os : List Rl) : List Pr2 := (allP n).filter fun p => !decide (rs.all (fitsP p) = os.all (fitsP p))
def compV (n : Nat) (rs os : List Rl) : PV :=
  if pairsP n rs = pairsP n os then .tup [.str "same", eT (pairsP n rs)]
  else match unlikeP n rs os with
    | [] => .non
    | p :: _ => .tup [.str "differ", eB n (ctxP p.1 p.2 (decide ((p.2, p.2) ∈ unlikeP n rs os))), eS p.2]
theorem unlike_comm (n : Nat) (rs os : List Rl) : unlikeP n rs os = unlikeP n os rs := by
  unfold unlikeP
  refine List.filter_congr fun p _ => ?_
  simp [eq_comm]
theorem pairs_eq_iff {n : Nat} {rs os : List Rl} : pairsP n rs = pairsP n os ↔ ∀ p ∈ allP n, rs.all (fitsP p) = os.all (fitsP p) := by
  unfold pairsP
  constructor
  · intro h p hp
    have := congrArg (fun l => decide (p ∈ l)) h
    simp only [List.mem_filter, hp, true_and] at this
    rw [Bool.eq_iff_iff]
    simpa using this
  · intro h
    exact List.filter_congr h
theorem unlike_nil {n : Nat} {rs os : List Rl} : unlikeP n rs os = [] ↔ pairsP n rs = pairsP n os := by
  rw [pairs_eq_iff]
  unfold unlikeP
  rw [List.filter_eq_nil_iff]
  simp
theorem compV_comm (n : Nat) (rs os : List Rl) : compV n rs os = compV n os rs := by
  unfold compV
  rw [unlike_comm n rs os]
  by_cases c : pairsP n rs = pairsP n os
  · rw [if_pos c, if_pos c.symm, c]
  · rw [if_neg c, if_neg fun z => c z.symm]
theorem compV_ne {n : Nat} {rs os : List Rl} {p : Pr2} {l : List Pr2} (c : ¬ pairsP n rs = pairsP n os) (hu : unlikeP n rs os = p :: l) : compV n rs os = .tup [.str "differ", eB n (ctxP p.1 p.2 (decide ((p.2, p.2) ∈ p :: l))), eS p.2] := by
  unfold compV
  rw [if_neg c, hu]
theorem marks_eq_iff {n : Nat} {rs os : List Rl} : bits (markRs n rs) = bits (markRs n os) ↔ pairsP n rs = pairsP n os := by
  constructor
  · intro h
    have := bits_inj (by simp [markRs]) h
    unfold markRs at this
    rw [pairs_eq_iff]
    exact fun p hp => List.map_inj_left.mp this p hp
  · intro h
    congr 1
    unfold markRs
    exact List.map_congr_left (pairs_eq_iff.mp h)
structure HasComp (T : Tab) : Prop where
  ru : HasRules0 T
  pr : HasPairs T
  pairs_in : T "pairs_in" = some f_pairs_in
  need_books : T "need_books" = some f_need_books
  facts_of : T "facts_of" = some f_facts_of
  round_of : T "round_of" = some f_round_of
  context_for : T "context_for" = some f_context_for
  compare : T "compare" = some f_compare
theorem bit_at {n : Nat} {P : Pr2 → Bool} {p : Pr2 × Nat} (hp : p ∈ (allP n).zipIdx) : ∃ d : Nat, binop .shr (.int (bits ((allP n).map P) : Nat)) (.int p.2) = some (.int d) ∧ binop .band (.int d) (.int 1) = some (.int (if P p.1 = true then 1 else 0)) := by
  obtain ⟨i, hi, e⟩ := List.getElem_of_mem hp
  rw [List.length_zipIdx] at hi
  rw [List.getElem_zipIdx] at e
  subst e
  have t1 := bits_test ((allP n).map P) i
  have t2 : (((allP n).map P)[i]?).getD false = P (allP n)[i] := by simp [hi]
  rw [t2] at t1
  have b := bit_of (bits ((allP n).map P)) i
  rw [t1] at b
  refine ⟨bits ((allP n).map P) / 2 ^ i, ?_, ?_⟩
  · simp only [Nat.zero_add]
    exact shr_N _ _
  · have := and_N (bits ((allP n).map P) / 2 ^ i) 1
    rw [b] at this
    exact this
theorem unlike_ok {n : Nat} (h0 : 0 < n) (h4 : n ≤ 4) {rs os : List Rl} : ∀ p ∈ unlikeP n rs os, PairOk n p := fun p hp => allP_ok h0 h4 (List.mem_filter.mp hp).1
theorem compare_spec (H : HasComp T) {n : Nat} {rs os : List Rl} (hb : BookOk n rs) (ho : BookOk n os) (k : Nat) (h : PH) : call T (k + 7) "compare" [eB n rs, eB n os] h = .ok (compV n rs os) h := by
  have n0 := hb.n1
  have n4 := hb.n4
  refine wp_same (Q := fun _ _ => True) ?_
  rw [call_eq H.compare]
  refine run_wp (by rfl) ?_
  simp only [f_compare]
  have e0 := need_books_spec H.ru H.need_books (bs := [rs, os]) (n := n) (fun q hq => by
    simp only [List.mem_cons, List.not_mem_nil, or_false] at hq
    rcases hq with rfl | rfl <;> assumption) (by simp) (by simp) k h
  simp only [List.map_cons, List.map_nil] at e0
  have e1 := marks_of_all_spec H.pr n0 n4 hb.ok k h
  have e2 := marks_of_all_spec H.pr n0 n4 ho.ok k h
  have e3 := pairs_in_spec H.pr H.pairs_in n0 n4 (fun p => rs.all (fitsP p)) (k + 3) h
  have e3' : (allP n).map (fun p => rs.all (fitsP p)) = markRs n rs := rfl
  rw [e3'] at e3
  have e4 := all_pairs_spec H.pr n0 n4 (k + 4) h
  have sz2 : (2 : Nat) ≤ sizeLine := by decide
  have sz3 : (3 : Nat) ≤ sizeLine := by decide
  rw [wp_cons]
  simp [S.den, E.den, Es.den, startP, e0]
  rw [wp_cons]
  simp [S.den, E.den]
  rw [wp_cons]
  simp [S.den, E.den, Es.den, e1, e2, sz2, putAll]
  rw [wp_cons]
  by_cases c : pairsP n rs = pairsP n os
  · have cb := marks_eq_iff.mpr c
    simp [S.den, E.den, R.T.den, cb]
    rw [wp_cons]
    rw [cb] at e3
    simp [S.den, E.den, Es.den, sz2, e3]
    refine fix_same rfl ⟨?_, rfl⟩
    unfold compV
    rw [if_pos c]
    rfl
  · have cb : ¬ ((bits (markRs n rs) : Nat) : Int) = (bits (markRs n os) : Nat) := fun z => c (marks_eq_iff.mp (by omega))
    simp [S.den, E.den, R.T.den, cb]
    rw [wp_cons]
    simp [S.den, E.den, Es.den, R.I.den, R.T.den, wipeP, e4, enum_Q]
    rw [lc_some (fun p => !decide (rs.all (fitsP p.1) = os.all (fitsP p.1))) fun p => eQ p.1]
    · have eu : (((allP n).zipIdx.filter fun p => !decide (rs.all (fitsP p.1) = os.all (fitsP p.1))).map fun p => eQ p.1) = (unlikeP n rs os).map eQ := by
        have : ∀ (P : Pr2 → Bool) (l : List Pr2) (k : Nat), ((l.zipIdx k).filter fun p => P p.1).map (fun p => eQ p.1) = (l.filter P).map eQ := by
          intro P l
          induction l with
          | nil => intro k; rfl
          | cons a l ih =>
            intro k
            rw [List.zipIdx_cons]
            cases c : P a <;> simp [c, ih]
        exact this (fun p => !decide (rs.all (fitsP p) = os.all (fitsP p))) _ 0
      rw [eu]
      have un : unlikeP n rs os ≠ [] := fun z => c (unlike_nil.mp z)
      have uok := unlike_ok (rs := rs) (os := os) n0 n4
      have ev : compV n rs os = match unlikeP n rs os with
        | [] => .non
        | p :: _ => .tup [.str "differ", eB n (ctxP p.1 p.2 (decide ((p.2, p.2) ∈ unlikeP n rs os))), eS p.2] := by
        unfold compV
        rw [if_neg c]
      rw [ev]
      cases hu : unlikeP n rs os with
      | nil => exact absurd hu un
      | cons p l =>
        rw [hu] at uok
        have hp := uok p List.mem_cons_self
        have a0 : atI ((p :: l).map eQ) (0 : Int) = some (eQ p) := atI_nat (j := 0) (by simp)
        simp only [List.map_cons] at a0
        have ei := (in_TL (p := (p.2, p.2)) n4 ⟨hp.b, hp.b, by simp [within_iff]⟩ uok).1
        simp only [List.map_cons] at ei
        have e5 := context_for_spec H.facts_of H.round_of H.context_for n4 hp.a hp.b (decide ((p.2, p.2) ∈ p :: l)) (k + 4) h
        have eq2 : PV.tup [eS p.2, eS p.2] = eQ (p.2, p.2) := rfl
        simp only
        generalize decide ((p.2, p.2) ∈ p :: l) = b at ei e5 ⊢
        simp
        rw [wp_cons]
        simp [S.den, E.den, idxV, a0]
        rw [wp_cons]
        simp [S.den, E.den, Es.den, sz2, sz3, eq2, ei, e5]
        exact fix_same rfl ⟨rfl, rfl⟩
    · intro p hp
      obtain ⟨d, s1, s2⟩ := bit_at (n := n) (P := fun p => rs.all (fitsP p)) hp
      obtain ⟨d', s1', s2'⟩ := bit_at (n := n) (P := fun p => os.all (fitsP p)) hp
      have m1 : (allP n).map (fun p => rs.all (fitsP p)) = markRs n rs := rfl
      have m2 : (allP n).map (fun p => os.all (fitsP p)) = markRs n os := rfl
      rw [m1] at s1
      rw [m2] at s1'
      generalize rs.all (fitsP p.1) = b1 at s2 ⊢
      generalize os.all (fitsP p.1) = b2 at s2' ⊢
      cases b1 <;> cases b2 <;> simp at s2 s2' <;> simp [s1, s1', s2, s2']
end
end R

set_option Elab.async false
set_option linter.all false
set_option maxRecDepth 100000
set_option maxHeartbeats 1000000
/-! Q: settled sets -/
namespace R
open PySem PySem.Spec L2
/-- the least set -/
noncomputable def leastF (n : Nat) (rs : List Rl) : List Nat := open Classical in if h : ∃ s, Least n rs s then h.choose else []
theorem leastF_eq {n : Nat} {rs : List Rl} {s : List Nat} (h : Least n rs s) : leastF n rs = s := by
  have ex : ∃ s, Least n rs s := ⟨s, h⟩
  unfold leastF
  rw [dif_pos ex]
  exact ex.choose_spec.uniq h
/-- y is settled -/
noncomputable def setB (n : Nat) (rs : List Rl) (y : List Nat) : Bool := decide (leastF n (someP rs y) = y) && rs.all fun r => !violatesP y r
theorem da_RsL {n m : Nat} {rs : List Rl} (h : ∀ r ∈ rs, RuleOk n r) (hn : n ≤ 4) (hm : rs.length ≤ m) : Da 3 (m * 80 + 3) (.lst (rs.map eR)) :=
  da_lst (d := 2) (c := 78) (n := m) (fun x hx => by obtain ⟨a, ha, rfl⟩ := List.mem_map.mp hx; exact (h a ha).da hn) (by simpa using hm)
theorem eqNil_RsL {n : Nat} {rs : List Rl} (hn : n ≤ 4) (h : ∀ r ∈ rs, RuleOk n r) : cmpop .eq (.lst (rs.map eR)) (.lst []) = some (decide (rs = [])) ∧ cmpop .ne (.lst (rs.map eR)) (.lst []) = some (!decide (rs = [])) :=
  eq_lst (enc := eR) eqv_R (ys := []) ((da_RsL h hn (Nat.le_refl _)).fine (by decide)) rfl
structure HasVio (T : Tab) : Prop where
  le : HasLeast T
  violates : T "violates" = some f_violates
  violated_in : T "violated_in" = some f_violated_in
structure HasSet (T : Tab) : Prop extends HasVio T where
  is_settled_in : T "is_settled_in" = some f_is_settled_in
section
variable {T : Tab}
theorem violated_in_spec (H : HasVio T) {n : Nat} {rs : List Rl} {y : List Nat} (hn : n ≤ 4) (hr : ∀ r ∈ rs, RuleOk n r) (hy : SetOk n y) (k : Nat) (h : PH) : call T (k + 4) "violated_in" [eRs rs, eS y] h = .ok (.lst ((rs.filter fun r => violatesP y r).map eR)) h := by
  rw [call_eq H.violated_in]
  refine run_ret rfl ?_
  simp [f_violated_in, Ss.den, S.den, E.den, Es.den, R.I.den, R.T.den, startP, wipeP]
  rw [lc_some (fun r => violatesP y r) eR]
  · simp
  · intro r hm
    have e := violates_spec H.le.is_within H.le.obeys H.le.remains H.violates hn (hr r hm) hy k h
    cases c : violatesP y r <;> simp [e, c]
theorem least_of_eq (H : HasLeast T) {n : Nat} {rs : List Rl} {y : List Nat} (hn : n ≤ 4) (hr : ∀ r ∈ rs, RuleOk n r) (few : rs.length ≤ 50) (hy : SetOk n y) (k : Nat) (h : PH) :
    call T (k + 3) "least_of" [eRs rs, eS y] h = .ok (eS (leastF n (someP rs y))) h ∧ Least n (someP rs y) (leastF n (someP rs y)) := by
  obtain ⟨v, h', e, rfl, s, rfl, hs⟩ := wp_get (least_of_spec H hn hr few hy k h)
  rw [leastF_eq hs]
  exact ⟨e, hs⟩
theorem is_settled_in_spec (H : HasSet T) {n : Nat} {rs : List Rl} {y : List Nat} (hn : n ≤ 4) (hr : ∀ r ∈ rs, RuleOk n r) (few : rs.length ≤ 50) (hy : SetOk n y) (k : Nat) (h : PH) : call T (k + 5) "is_settled_in" [eRs rs, eS y] h = .ok (.bl (setB n rs y)) h := by
  rw [call_eq H.is_settled_in]
  refine run_ret rfl ?_
  obtain ⟨e1, ls⟩ := least_of_eq H.le hn hr few hy (k + 1) h
  have e2 := violated_in_spec H.toHasVio hn hr hy k h
  have e3 := eq_S ls.ok hy hn
  have e4 := (eqNil_RsL (rs := rs.filter fun r => violatesP y r) hn fun r hm => hr r (List.mem_filter.mp hm).1).1
  rw [filter_nil] at e4
  unfold setB
  generalize leastF n (someP rs y) = s at e1 e3
  generalize (rs.all fun r => !violatesP y r) = b at e4
  simp [f_is_settled_in, Ss.den, S.den, E.den, Es.den, Es.denB, bools, startP, e1]
  by_cases c : s = y
  · subst c
    simp [e3, e2, e4]
  · simp [e3, c]
theorem settled_sets_spec (H : HasSet T) (h1 : T "sets_of" = some f_sets_of) (hT : T "settled_sets" = some f_settled_sets) {n : Nat} {rs : List Rl} (h0 : 0 < n) (hn : n ≤ 4) (hr : ∀ r ∈ rs, RuleOk n r) (few : rs.length ≤ 50) (k : Nat) (h : PH) :
    call T (k + 6) "settled_sets" [.int n, eRs rs] h = .ok (.lst (((sets n).filter fun y => setB n rs y).map eS)) h := by
  rw [call_eq hT]
  refine run_ret rfl ?_
  have e0 := sets_of_spec h1 h0 hn (k + 4) h
  simp [f_settled_sets, Ss.den, S.den, E.den, Es.den, R.I.den, R.T.den, startP, wipeP, e0]
  rw [lc_some (fun y => setB n rs y) eS]
  · simp
  · intro y hy
    have e := is_settled_in_spec H hn hr few (sets_ok h0 hn y hy) k h
    cases c : setB n rs y <;> simp [e, c]
end
/-! ### sets of sets -/
noncomputable def setsP (n : Nat) (rs : List Rl) : List (List Nat) := (sets n).filter fun y => setB n rs y
theorem setsP_ok {n : Nat} (h0 : 0 < n) (h4 : n ≤ 4) {rs : List Rl} : ∀ y ∈ setsP n rs, SetOk n y := fun y hy => sets_ok h0 h4 y (List.mem_filter.mp hy).1
theorem sets_len {n : Nat} (h0 : 0 < n) (h4 : n ≤ 4) : (sets n).length ≤ 16 := by
  have : n = 1 ∨ n = 2 ∨ n = 3 ∨ n = 4 := by omega
  rcases this with rfl | rfl | rfl | rfl <;> decide +kernel
theorem setsP_len {n : Nat} (h0 : 0 < n) (h4 : n ≤ 4) {rs : List Rl} : (setsP n rs).length ≤ 16 := Nat.le_trans (List.length_filter_le _ _) (sets_len h0 h4)
def eSs (l : List (List Nat)) : PV := .tup (l.map eS)
theorem da_Ss {n m : Nat} {l : List (List Nat)} (h4 : n ≤ 4) (hl : ∀ s ∈ l, SetOk n s) (hm : l.length ≤ m) : Da 2 (m * 25 + 3) (eSs l) :=
  da_tup (d := 1) (c := 23) (n := m) (fun x hx => by obtain ⟨p, hp, rfl⟩ := List.mem_map.mp hx; exact (hl p hp).da h4) (by simpa using hm)
theorem da_SsL {n m : Nat} {l : List (List Nat)} (h4 : n ≤ 4) (hl : ∀ s ∈ l, SetOk n s) (hm : l.length ≤ m) : Da 2 (m * 25 + 3) (.lst (l.map eS)) :=
  da_lst (d := 1) (c := 23) (n := m) (fun x hx => by obtain ⟨p, hp, rfl⟩ := List.mem_map.mp hx; exact (hl p hp).da h4) (by simpa using hm)
theorem in_SsL {n : Nat} {s : List Nat} {l : List (List Nat)} (h4 : n ≤ 4) (hs : SetOk n s) (hl : ∀ s ∈ l, SetOk n s) : cmpop .inn (eS s) (.lst (l.map eS)) = some (decide (s ∈ l)) ∧ cmpop .nin (eS s) (.lst (l.map eS)) = some (!decide (s ∈ l)) := by
  have h := in_lst eqv_S ((hs.da h4).fine (by decide)) ((da_SsL h4 hl (Nat.le_refl _)).fine (by decide))
  exact ⟨h.1.trans (by congr), h.2.trans (by congr)⟩
theorem in_Ss {n : Nat} {s : List Nat} {l : List (List Nat)} (h4 : n ≤ 4) (hs : SetOk n s) (hl : ∀ s ∈ l, SetOk n s) : cmpop .inn (eS s) (eSs l) = some (decide (s ∈ l)) ∧ cmpop .nin (eS s) (eSs l) = some (!decide (s ∈ l)) := by
  have h := in_tup eqv_S ((hs.da h4).fine (by decide)) ((da_Ss h4 hl (Nat.le_refl _)).fine (by decide))
  exact ⟨h.1.trans (by congr), h.2.trans (by congr)⟩
/-! ### growing step by step -/
def grow1 (f : List Nat) (r : Rl) : List Nat := match r.hd with
  | some a => if decide (a ∈ f) = false ∧ within r.ho f = true then f ++ [a] else f
  | none => f
def growL (act : List Rl) (f : List Nat) : List Nat := act.foldl grow1 f
theorem grow1_pre (f : List Nat) (r : Rl) : ∃ l, grow1 f r = f ++ l := by
  unfold grow1
  split
  · split
    · exact ⟨_, rfl⟩
    · exact ⟨[], by simp⟩
  · exact ⟨[], by simp⟩
theorem growL_pre (act : List Rl) : ∀ f, ∃ l, growL act f = f ++ l := by
  unfold growL
  induction act with
  | nil => intro f; exact ⟨[], by simp⟩
  | cons r act ih =>
    intro f
    obtain ⟨l, e⟩ := grow1_pre f r
    obtain ⟨m, e2⟩ := ih (grow1 f r)
    refine ⟨l ++ m, ?_⟩
    rw [List.foldl_cons, e2, e, List.append_assoc]
structure GrowOk (n : Nat) (act : List Rl) (f : List Nat) : Prop where
  nd : f.Nodup
  lt : ∀ a ∈ f, a < n
  low : ∀ t, SetOk n t → (∀ r ∈ act, obeysP t r = true) → ∀ a ∈ f, a ∈ t
theorem grow1_ok {n : Nat} {act : List Rl} {f : List Nat} {r : Rl} (h : GrowOk n act f) (hr : RuleOk n r) (hm : r ∈ act) : GrowOk n act (grow1 f r) := by
  unfold grow1
  cases hh : r.hd with
  | none => exact h
  | some a =>
    simp only
    split
    · rename_i c
      refine ⟨?_, fun b hb => ?_, fun t ht hall b hb => ?_⟩
      · rw [List.nodup_append]
        refine ⟨h.nd, by simp, fun x hx y hy => ?_⟩
        rw [List.mem_singleton.mp hy]
        rintro rfl
        simp [hx] at c
      · rcases List.mem_append.mp hb with z | z
        · exact h.lt b z
        · rw [List.mem_singleton.mp z]; exact hr.hd a hh
      · rcases List.mem_append.mp hb with z | z
        · exact h.low t ht hall b z
        · rw [List.mem_singleton.mp z]
          rcases obeys_iff.mp (hall r hm) with ⟨b, eb, hb⟩ | ⟨b, hb, nb⟩
          · rw [hh] at eb; cases eb; exact hb
          · exact absurd (h.low t ht hall b (within_iff.mp c.2 b hb)) nb
    · exact h
theorem growL_ok {n : Nat} {act : List Rl} (ha : ∀ r ∈ act, RuleOk n r) {f : List Nat} (h : GrowOk n act f) : GrowOk n act (growL act f) := by
  have key : ∀ (l : List Rl) (f : List Nat), (∀ r ∈ l, r ∈ act) → GrowOk n act f → GrowOk n act (l.foldl grow1 f) := by
    intro l
    induction l with
    | nil => intro f _ h; exact h
    | cons r l ih => intro f hl h; exact ih _ (fun q hq => hl q (List.mem_cons_of_mem _ hq)) (grow1_ok h (ha r (hl r List.mem_cons_self)) (hl r List.mem_cons_self))
  exact key act f (fun r hr => hr) h
/-- a lap that adds nothing: all obey -/
theorem growL_fix {n : Nat} {act : List Rl} (hs : ∀ r ∈ act, r.hd.isSome = true) {f : List Nat} (e : (growL act f).length = f.length) : ∀ r ∈ act, obeysP f r = true := by
  have key : ∀ (l : List Rl) (f : List Nat), (∀ r ∈ l, r.hd.isSome = true) → (l.foldl grow1 f).length = f.length → l.foldl grow1 f = f ∧ ∀ r ∈ l, obeysP f r = true := by
    intro l
    induction l with
    | nil => intro f _ _; exact ⟨rfl, fun r hr => by cases hr⟩
    | cons r l ih =>
      intro f hs e
      rw [List.foldl_cons] at e ⊢
      obtain ⟨m, e1⟩ := grow1_pre f r
      obtain ⟨m2, e2⟩ := growL_pre l (grow1 f r)
      unfold growL at e2
      have e3 := e
      rw [e2, e1] at e3
      simp only [List.length_append] at e3
      have m0 : m = [] := List.length_eq_zero_iff.mp (by omega)
      have g0 : grow1 f r = f := by rw [e1, m0, List.append_nil]
      rw [g0] at e ⊢
      obtain ⟨q1, q2⟩ := ih f (fun q hq => hs q (List.mem_cons_of_mem _ hq)) e
      refine ⟨q1, fun q hq => ?_⟩
      rcases List.mem_cons.mp hq with rfl | hq
      · have hh := hs q List.mem_cons_self
        unfold grow1 at g0
        cases hd : q.hd with
        | none => rw [hd] at hh; cases hh
        | some a =>
          rw [hd] at g0
          simp only at g0
          split at g0
          · have := congrArg List.length g0
            simp at this
          · rename_i c
            rw [obeys_iff]
            by_cases ca : a ∈ f
            · exact .inl ⟨a, hd, ca⟩
            · right
              have : ¬ within q.ho f = true := fun z => c ⟨by simp [ca], z⟩
              rw [within_iff] at this
              exact Classical.byContradiction fun z => this fun b hb => Classical.byContradiction fun y => z ⟨b, hb, y⟩
      · exact q2 q hq
  exact (key act f hs e).2
def growN (act : List Rl) : Nat → List Nat
  | 0 => []
  | i + 1 => growL act (growN act i)
theorem growN_ok {n : Nat} {act : List Rl} (ha : ∀ r ∈ act, RuleOk n r) : ∀ i, GrowOk n act (growN act i)
  | 0 => ⟨List.nodup_nil, fun a h => (by cases h), fun t _ _ a h => (by cases h)⟩
  | i + 1 => growL_ok ha (growN_ok ha i)
theorem growN_len {n : Nat} {act : List Rl} (hs : ∀ r ∈ act, r.hd.isSome = true) : ∀ i, (∀ r ∈ act, obeysP (growN act i) r = true) ∨ i ≤ (growN act i).length
  | 0 => .inr (Nat.zero_le _)
  | i + 1 => by
    obtain ⟨l, e⟩ := growL_pre act (growN act i)
    rcases Nat.lt_or_ge (growN act i).length (growL act (growN act i)).length with c | c
    · rcases growN_len (n := n) hs i with h | h
      · left
        intro r hr
        have := h r hr
        show obeysP (growL act (growN act i)) r = true
        -- all obey already: nothing was added
        exfalso
        have key : ∀ (l : List Rl) (f : List Nat), (∀ r ∈ l, obeysP f r = true) → l.foldl grow1 f = f := by
          intro l
          induction l with
          | nil => intro f _; rfl
          | cons r l ih =>
            intro f hf
            rw [List.foldl_cons]
            have g0 : grow1 f r = f := by
              unfold grow1
              cases hd : r.hd with
              | none => rfl
              | some a =>
                simp only
                rcases obeys_iff.mp (hf r List.mem_cons_self) with ⟨b, eb, hb⟩ | ⟨b, hb, nb⟩
                · rw [hd] at eb; cases eb
                  rw [if_neg (by simp [hb])]
                · rw [if_neg]
                  rintro ⟨_, z⟩
                  exact nb (within_iff.mp z b hb)
            rw [g0]
            exact ih f fun q hq => hf q (List.mem_cons_of_mem _ hq)
        have := key act (growN act i) h
        unfold growL at c
        rw [this] at c
        omega
      · right
        show i + 1 ≤ (growL act (growN act i)).length
        omega
    · left
      have el : (growL act (growN act i)).length = (growN act i).length := by
        have : (growL act (growN act i)).length = (growN act i).length + l.length := by rw [e, List.length_append]
        omega
      have := growL_fix (n := n) hs el
      have l0 : l = [] := by
        have : (growL act (growN act i)).length = (growN act i).length + l.length := by rw [e, List.length_append]
        exact List.length_eq_zero_iff.mp (by omega)
      intro r hr
      show obeysP (growL act (growN act i)) r = true
      rw [e, l0, List.append_nil]
      exact this r hr
theorem grow_least {n : Nat} (hn : n ≤ 4) {act : List Rl} (ha : ∀ r ∈ act, RuleOk n r) (hs : ∀ r ∈ act, r.hd.isSome = true) : Least n act (upS (growN act 4)) := by
  have g := growN_ok ha 4
  refine ⟨upS_ok g.lt, fun r hr => ?_, fun t ht hall a h => g.low t ht hall a (upS_mem.mp h)⟩
  have tr : ∀ r, obeysP (growN act 4) r = true → obeysP (upS (growN act 4)) r = true := fun r h => by
    rw [obeys_iff] at h ⊢
    rcases h with ⟨a, e, h⟩ | ⟨a, e, h⟩
    · exact .inl ⟨a, e, upS_mem.mpr h⟩
    · exact .inr ⟨a, e, fun z => h (upS_mem.mp z)⟩
  rcases growN_len (n := n) hs 4 with h | h
  · exact tr r (h r hr)
  · obtain ⟨a, ea⟩ := Option.isSome_iff_exists.mp (hs r hr)
    refine obeys_iff.mpr (.inl ⟨a, ea, upS_mem.mpr ?_⟩)
    have han := (ha r hr).hd a ea
    refine Classical.byContradiction fun z => ?_
    have := nat_nodup_len (a :: growN act 4) (List.range n) (List.nodup_cons.mpr ⟨z, g.nd⟩) fun b hb => by
      rw [List.mem_range]
      rcases List.mem_cons.mp hb with rfl | hb
      · exact han
      · exact g.lt b hb
    rw [List.length_cons, List.length_range] at this
    omega
/-! ### sorted lists of numbers -/
theorem sort_N {l : List Nat} (h : ∀ a ∈ l, a < 1000) (nd : l.Nodup) : sortV (l.map eN) = some ((upS l).map eN) := by
  have le : ∀ a b : Nat, PySem.W.dataLe false PV.dat (eN a) (eN b) = decide (a ≤ b) := fun a b => by
    have := congrFun (congrFun (PySem.W.dataLe_int (fun x : Nat => (x : Int))) a) b
    have e : PySem.W.dataLe false PV.dat (eN a) (eN b) = PySem.W.dataLe false (fun b : Nat => PyData.int (b : Int)) a b := rfl
    rw [e, this]
    simp
  rw [sortV_eq, if_pos]
  · congr 1
    have e1 : (l.map eN).mergeSort (PySem.W.dataLe false PV.dat) = (l.mergeSort fun a b => decide (a ≤ b)).map eN := by
      rw [List.map_mergeSort (s := PySem.W.dataLe false PV.dat)]
      intro a _ b _
      exact (le a b).symm
    rw [e1]
    congr 1
    have p : (l.mergeSort fun a b => decide (a ≤ b)).Perm (upS l) := by
      refine (List.perm_ext_iff_of_nodup ((List.mergeSort_perm _ _).nodup_iff.mpr nd) ((upS_asc l).imp fun h => by omega)).mpr fun a => ?_
      rw [(List.mergeSort_perm _ _).mem_iff, upS_mem]
    refine p.eq_of_pairwise (le := fun x y => x ≤ y) (fun x y _ _ h1 h2 => by omega) ?_ ((upS_asc l).imp fun h => by omega)
    have := List.pairwise_mergeSort (le := fun a b : Nat => decide (a ≤ b)) (fun a b c h1 h2 => by simp only [decide_eq_true_eq] at *; omega) (fun a b => by simp only [Bool.or_eq_true, decide_eq_true_eq]; omega) l
    exact this.imp fun h => of_decide_eq_true h
  · rw [Bool.and_eq_true, Bool.and_eq_true]
    refine ⟨⟨?_, ?_⟩, ?_⟩
    · rw [List.all_map, List.all_eq_true]
      exact fun a ha => (da_nat (d := 0) a (h a ha)).fine (by decide)
    · unfold allAlikeB
      rw [List.map_map, List.all_map, List.all_eq_true]
      intro a _
      show ((l.map (PV.dat ∘ eN)).all fun e => PySem.W.alike ((PV.dat ∘ eN) a) e) = true
      rw [List.all_map, List.all_eq_true]
      intro b _
      rfl
    · unfold sortableB
      rw [Bool.or_eq_true, Bool.or_eq_true]
      left; right
      rw [List.map_map, List.all_map, List.all_eq_true]
      intro a _
      rfl
end R

set_option Elab.async false
set_option linter.all false
set_option maxRecDepth 100000
set_option maxHeartbeats 1000000
/-! Q: settled sets, as the laws of the second part find them -/
namespace R
open PySem PySem.Spec L2
theorem da_NL {l : List Nat} (h : ∀ a ∈ l, a < 1000) : (PV.lst (l.map eN)).fine = true :=
  (da_lst (d := 0) (c := 3) (n := l.length) (xs := l.map eN) (fun x hx => by obtain ⟨a, ha, rfl⟩ := List.mem_map.mp hx; exact da_nat a (h a ha)) (by simp)).fine (by decide)
theorem in_NL {a : Nat} {l : List Nat} (ha : a < 1000) (h : ∀ a ∈ l, a < 1000) : cmpop .inn (eN a) (.lst (l.map eN)) = some (decide (a ∈ l)) ∧ cmpop .nin (eN a) (.lst (l.map eN)) = some (!decide (a ∈ l)) :=
  in_lst (enc := eN) eqv_N ((da_nat (d := 0) a ha).fine (by decide)) (da_NL h)
structure HasGrown (T : Tab) : Prop where
  within : T "_law_within" = some f__law_within
  stays : T "_law_stays" = some f__law_stays
  keeps : T "_law_keeps" = some f__law_keeps
  grown : T "_law_grown" = some f__law_grown
  is_settled : T "_law_is_settled" = some f__law_is_settled_v2
section
variable {T : Tab}
theorem law_within_live (hT : T "_law_within" = some f__law_within) {n p : Nat} {s t : List Nat} (hn : n ≤ 4) (hs : SetOk n s) (ht : ∀ a ∈ t, a < n) (k : Nat) {h : PH} (lv : liveL h p = some (t.map eN)) : call T (k + 1) "_law_within" [eS s, .ref p] h = .ok (.bl (within s t)) h := by
  rw [call_eq hT]
  refine run_ret rfl ?_
  simp [f__law_within, Ss.den, S.den, E.den, Es.den, I.den, R.T.den, startP, wipeP]
  rw [lc_some (fun a => !decide (a ∈ t)) eN]
  · obtain ⟨f1, f2⟩ := filter_small hs hn fun a => !decide (a ∈ t)
    simp only [Res.nox_ok, Res.bind_ok, see_lst, (eqNil_N f1 f2).1, filter_nil]
    simp [within]
  · intro a ha
    have e := (in_NL (a := a) (l := t) (by have := hs.lt a ha; omega) fun b hb => by have := ht b hb; omega).2
    by_cases c : a ∈ t <;> simp [see_live lv, e, c]
theorem grown_spec (H : HasGrown T) {n : Nat} {rs : List Rl} {y : List Nat} (hn : n ≤ 4) (hr : ∀ r ∈ rs, RuleOk n r) (few : rs.length ≤ 10000) (hy : SetOk n y) (k : Nat) {h : PH} (hf : Flat h) : call T (k + 2) "_law_grown" [eRs rs, eS y] h = .ok (eS (leastF n (someP rs y))) h := by
  have sok : ∀ r ∈ someP rs y, RuleOk n r ∧ r.hd.isSome = true := fun r hm => by
    obtain ⟨m1, m2⟩ := List.mem_filter.mp hm
    rw [Bool.and_eq_true] at m2
    exact ⟨hr r m1, m2.1⟩
  have fin := leastF_eq (grow_least hn (fun r hm => (sok r hm).1) fun r hm => (sok r hm).2)
  rw [fin]
  refine wp_same (Q := fun _ _ => True) ?_
  rw [call_eq H.grown]
  refine run_wp (by rfl) ?_
  simp only [f__law_grown]
  have e0 : (rs.filter fun r => r.hd.isSome && remainsP r y) = someP rs y := rfl
  rw [wp_cons]
  simp [S.den, E.den, Es.den, R.I.den, R.T.den, Ts.den, startP, wipeP, wp_out, wp_bind, wp_nox]
  rw [lc_some (fun r => r.hd.isSome && remainsP r y) eR]
  · rw [e0]
    clear e0 fin
    generalize someP rs y = act at sok
    have g := growN_ok fun r hm => (sok r hm).1
    have lt4 : rngL 0 4 = some ((List.range 4).map eN) := rng_N (n := 4) (by decide)
    simp
    rw [wp_cons]
    simp [S.den, E.den, R.I.den, lt4]
    obtain ⟨I, hI⟩ : ∃ I : Nat → Sl → PH → Prop, I = fun i ρ h' => ∃ (x4 x5 : Option PV), ρ = [some (eRs rs), some (eS y), some (.ref h.length), some (.lst (act.map eR)), x4, x5] ∧ h' = h ++ [.lst ((growN act i).map eN)] := ⟨_, rfl⟩
    refine for_wp I ?_ ?_ ?_
    · rw [hI]; exact ⟨_, _, rfl, rfl⟩
    · intro i x ρ h' hx hi
      rw [hI] at hi
      obtain ⟨x4, x5, rfl, rfl⟩ := hi
      obtain ⟨rfl, hi⟩ := range_get hx
      simp
      rw [wp_cons]
      simp [S.den, E.den, R.I.den]
      obtain ⟨J, hJ⟩ : ∃ J : Nat → Sl → PH → Prop, J = fun j ρ h' => ∃ (x4 x5 : Option PV), ρ = [some (eRs rs), some (eS y), some (.ref h.length), some (.lst (act.map eR)), x4, x5] ∧ h' = h ++ [.lst (((act.take j).foldl grow1 (growN act i)).map eN)] := ⟨_, rfl⟩
      refine for_wp J ?_ ?_ ?_
      · rw [hJ]; exact ⟨_, _, rfl, rfl⟩
      · intro j x ρ h' hx hj
        rw [hJ] at hj
        obtain ⟨x4, x5, rfl, rfl⟩ := hj
        rw [List.getElem?_map] at hx
        cases ha : act[j]? with
        | none => rw [ha] at hx; cases hx
        | some r =>
          rw [ha] at hx
          cases hx
          obtain ⟨hro, hrs⟩ := sok r (List.mem_of_getElem? ha)
          have gj : GrowOk n act ((act.take j).foldl grow1 (growN act i)) := by
            have key : ∀ (l : List Rl) (f : List Nat), (∀ r ∈ l, r ∈ act) → GrowOk n act f → GrowOk n act (l.foldl grow1 f) := by
              intro l
              induction l with
              | nil => intro f _ h; exact h
              | cons r l ih => intro f hl h; exact ih _ (fun q hq => hl q (List.mem_cons_of_mem _ hq)) (grow1_ok h (sok r (hl r List.mem_cons_self)).1 (hl r List.mem_cons_self))
            exact key _ _ (fun r hr => List.mem_of_mem_take hr) (g i)
          have nx : (act.take (j + 1)).foldl grow1 (growN act i) = grow1 ((act.take j).foldl grow1 (growN act i)) r := by
            rw [List.take_add_one, ha, List.foldl_append]
            rfl
          generalize (act.take j).foldl grow1 (growN act i) = f at gj nx
          have lv := live_last (h := h) (xs := f.map eN) rfl
          have ew := law_within_live H.within hn hro.ho gj.lt k (h := h ++ [PO.lst (f.map eN)]) lv
          have fl : f.length ≤ n := by
            have := nat_nodup_len f (List.range n) gj.nd fun b hb => List.mem_range.mpr (gj.lt b hb)
            rwa [List.length_range] at this
          have hz : (f.map eN).length < sizeLine := by rw [List.length_map, sizeLine_eq]; omega
          obtain ⟨a, ea⟩ := Option.isSome_iff_exists.mp hrs
          have han := hro.hd a ea
          have en := (in_NL (a := a) (l := f) (by omega) fun b hb => by have := gj.lt b hb; omega).2
          have eh : eH r.hd = eN a := by rw [ea]; rfl
          have g1 : grow1 f r = if decide (a ∈ f) = false ∧ within r.ho f = true then f ++ [a] else f := by
            unfold grow1; rw [ea]
          simp
          rw [wp_cons]
          by_cases c1 : a ∈ f
          · simp [S.den, E.den, Es.den, R.T.den, Ts.den, see_live lv, eh, en, c1]
            rw [hJ]
            refine ⟨_, _, rfl, ?_⟩
            rw [nx, g1]
            simp [c1]
          · by_cases c2 : within r.ho f = true
            · simp [S.den, E.den, Es.den, R.T.den, Ts.den, see_live lv, eh, en, c1, ew, c2]
              rw [wp_cons]
              simp [S.den, E.den, Es.den, isLive_of lv, app_of lv hz, set_last, eh]
              rw [hJ]
              refine ⟨_, _, rfl, ?_⟩
              rw [nx, g1]
              simp [c1, c2]
            · have c3 : within r.ho f = false := by simpa using c2
              simp [S.den, E.den, Es.den, R.T.den, Ts.den, see_live lv, eh, en, c1, ew, c3]
              rw [hJ]
              refine ⟨_, _, rfl, ?_⟩
              rw [nx, g1]
              simp [c1, c3]
      · intro ρ h' hj
        rw [hJ] at hj
        obtain ⟨x4, x5, rfl, rfl⟩ := hj
        rw [List.length_map, List.take_length]
        simp
        rw [hI]
        exact ⟨_, _, rfl, rfl⟩
    · intro ρ h' hi
      rw [hI] at hi
      obtain ⟨x4, x5, rfl, rfl⟩ := hi
      have el : ((List.range 4).map eN).length = 4 := rfl
      rw [el]
      have lv := live_last (h := h) (xs := (growN act 4).map eN) rfl
      have so := sort_N (l := growN act 4) (fun a ha => by have := (g 4).lt a ha; omega) (g 4).nd
      dsimp only
      rw [wp_cons]
      have bs : Blt.den .sorted [.ref h.length] (h ++ [PO.lst ((growN act 4).map eN)]) = some (.lst ((upS (growN act 4)).map eN)) := by
        show Blt.den0 .sorted [see _ (.ref h.length)] _ = _
        rw [see_live lv]
        show (sortV ((growN act 4).map eN)).map PV.lst = _
        rw [so]
        rfl
      simp [S.den, E.den, Es.den, bs]
      exact fin_tup rfl rfl (hf.all _) (under_N _) ⟨rfl, rfl⟩
  · intro r hm
    have e := fun h => stays_spec H.stays hn (hr r hm) hy k h
    cases hh : r.hd with
    | none => simp [hh]
    | some a => cases ho : remainsP r y <;> simp [Es.den, E.den, hh, e, ho]
theorem law_is_settled2_spec (H : HasGrown T) {n : Nat} {rs : List Rl} {y : List Nat} (hn : n ≤ 4) (hr : ∀ r ∈ rs, RuleOk n r) (few : rs.length ≤ 10000) (hy : SetOk n y) (k : Nat) {h : PH} (hf : Flat h) : call T (k + 3) "_law_is_settled" [eRs rs, eS y] h = .ok (.bl (setB n rs y)) h := by
  rw [call_eq H.is_settled]
  refine run_ret rfl ?_
  have e1 := grown_spec H hn hr few hy k hf
  have ls : SetOk n (leastF n (someP rs y)) := by
    have sok : ∀ r ∈ someP rs y, RuleOk n r ∧ r.hd.isSome = true := fun r hm => by
      obtain ⟨m1, m2⟩ := List.mem_filter.mp hm
      rw [Bool.and_eq_true] at m2
      exact ⟨hr r m1, m2.1⟩
    have g := grow_least hn (fun r hm => (sok r hm).1) fun r hm => (sok r hm).2
    rw [leastF_eq g]
    exact g.ok
  have e3 := eq_S ls hy hn
  have e4 := (eqNil_RsL (rs := rs.filter fun r => violatesP y r) hn fun r hm => hr r (List.mem_filter.mp hm).1).1
  rw [filter_nil] at e4
  simp [f__law_is_settled_v2, Ss.den, S.den, E.den, Es.den, Es.denB, bools, R.I.den, R.T.den, Ts.den, startP, wipeP]
  rw [lc_some (fun r => violatesP y r) eR]
  · unfold setB
    generalize leastF n (someP rs y) = s at e1 e3
    generalize (rs.all fun r => !violatesP y r) = b at e4
    by_cases c : s = y
    · subst c
      cases b <;> simp [e1, e3, e4]
    · cases b <;> simp [e1, e3, e4, c]
  · intro r hm
    have e1 := fun h => stays_spec H.stays hn (hr r hm) hy (k + 1) h
    have e2 := fun h => keeps_spec H.within H.keeps hn (hr r hm) hy k h
    unfold violatesP
    cases c1 : remainsP r y <;> cases c2 : obeysP y r <;> simp [Es.den, E.den, e1, e2, c1, c2]
theorem law_settled2_spec (H : HasGrown T) (h1 : T "_law_sets" = some f__law_sets) (hT : T "_law_settled" = some f__law_settled_v2) {n : Nat} {rs : List Rl} (h0 : 0 < n) (hn : n ≤ 4) (hr : ∀ r ∈ rs, RuleOk n r) (few : rs.length ≤ 10000) (k : Nat) {h : PH} (hf : Flat h) :
    call T (k + 4) "_law_settled" [.int n, eRs rs] h = .ok (.lst ((setsP n rs).map eS)) h := by
  rw [call_eq hT]
  refine run_ret rfl ?_
  have e0 := law_sets_spec h1 h0 hn (k + 2) h
  simp [f__law_settled_v2, Ss.den, S.den, E.den, Es.den, R.I.den, R.T.den, startP, wipeP, e0]
  rw [lc_some (fun y => setB n rs y) eS]
  · simp [setsP]
  · intro y hy
    have e := law_is_settled2_spec H hn hr few (sets_ok h0 hn y hy) k hf
    cases c : setB n rs y <;> simp [e, c]
/-! ### apart -/
noncomputable def apartV (n : Nat) (rs os : List Rl) : PV := .tup [eSs ((setsP n rs).filter fun y => !decide (y ∈ setsP n os)), eSs ((setsP n os).filter fun y => !decide (y ∈ setsP n rs))]
/-- the two tuples of apart, from two lists of sets -/
theorem lcSets {n : Nat} {Φ : Fns} {l m : List (List Nat)} {h : PH} (h4 : n ≤ 4) (hl : ∀ s ∈ l, SetOk n s) (hm : ∀ s ∈ m, SetOk n s) {f : PV → PH → Res (List PV)} (ef : ∀ s ∈ l, f (eS s) h = .ok (if (!decide (s ∈ m)) = true then [eS s] else []) h) :
    lcL f (l.map eS) h = .ok ((l.filter fun y => !decide (y ∈ m)).map eS) h := lc_some _ _ ef
theorem apart_spec (R0 : HasRules0 T) (H : HasSet T) (h1 : T "sets_of" = some f_sets_of) (h2 : T "settled_sets" = some f_settled_sets) (h3 : T "need_books" = some f_need_books) (h5 : T "union_of" = some f_union_of) (hT : T "apart" = some f_apart) {n : Nat} {rs os cs : List Rl} (hb : BookOk n rs) (ho : BookOk n os) (hc : BookOk n cs)
    (l1 : rs.length + cs.length ≤ 50) (l2 : os.length + cs.length ≤ 50) (k : Nat) (h : PH) : call T (k + 7) "apart" [eB n rs, eB n os, eB n cs] h = .ok (apartV n (unionP rs cs) (unionP os cs)) h := by
  have n0 := hb.n1
  have n4 := hb.n4
  refine wp_same (Q := fun _ _ => True) ?_
  rw [call_eq hT]
  refine run_wp (by rfl) ?_
  simp only [f_apart]
  have e0 := need_books_spec R0 h3 (bs := [rs, os, cs]) (n := n) (fun q hq => by
    simp only [List.mem_cons, List.not_mem_nil, or_false] at hq
    rcases hq with rfl | rfl | rfl <;> assumption) (by simp) (by simp) k h
  simp only [List.map_cons, List.map_nil] at e0
  have e1 := union_of_spec h5 n4 hb.ok hc.ok (by omega) (k + 5) h
  have e2 := union_of_spec h5 n4 ho.ok hc.ok (by omega) (k + 5) h
  have u1 : ∀ r ∈ unionP rs cs, RuleOk n r := fun r hr => (unionP_mem.mp hr).elim (hb.ok r) (hc.ok r)
  have u2 : ∀ r ∈ unionP os cs, RuleOk n r := fun r hr => (unionP_mem.mp hr).elim (ho.ok r) (hc.ok r)
  have e3 := settled_sets_spec H h1 h2 n0 n4 u1 (Nat.le_trans (unionP_len _ _) l1) k h
  have e4 := settled_sets_spec H h1 h2 n0 n4 u2 (Nat.le_trans (unionP_len _ _) l2) k h
  have s1 := setsP_ok (rs := unionP rs cs) n0 n4
  have s2 := setsP_ok (rs := unionP os cs) n0 n4
  unfold apartV
  have d1 : ((sets n).filter fun y => setB n (unionP rs cs) y) = setsP n (unionP rs cs) := rfl
  have d2 : ((sets n).filter fun y => setB n (unionP os cs) y) = setsP n (unionP os cs) := rfl
  rw [d1] at e3
  rw [d2] at e4
  generalize setsP n (unionP rs cs) = l at e3 s1
  generalize setsP n (unionP os cs) = m at e4 s2
  have sz2 : (2 : Nat) ≤ sizeLine := by decide
  rw [wp_cons]
  simp [S.den, E.den, Es.den, startP, e0]
  rw [wp_cons]
  simp [S.den, E.den, Es.den, e1, e3]
  rw [wp_cons]
  simp [S.den, E.den, Es.den, e2, e4]
  rw [wp_cons]
  simp [S.den, E.den, Es.den, R.I.den, R.T.den, wipeP]
  rw [lc_some (fun y => !decide (y ∈ m)) eS]
  · simp
    rw [wp_cons]
    simp [S.den, E.den, Es.den, R.I.den, R.T.den, wipeP]
    rw [lc_some (fun y => !decide (y ∈ l)) eS]
    · simp [sz2]
      exact fix_same rfl ⟨rfl, rfl⟩
    · intro y hy
      have e := (in_SsL n4 (s2 y hy) s1).2
      by_cases c : y ∈ l <;> simp [e, c]
  · intro y hy
    have e := (in_SsL n4 (s1 y hy) s2).2
    by_cases c : y ∈ m <;> simp [e, c]
end
end R

set_option Elab.async false
set_option linter.all false
set_option maxRecDepth 100000
set_option maxHeartbeats 1000000
/-! Q: settled sets by pairs; facts alone; contexts -/
namespace R
open PySem PySem.Spec L2
theorem eqNil_S {n : Nat} {l : List (List Nat)} (h4 : n ≤ 4) (hl : ∀ s ∈ l, SetOk n s) : cmpop .eq (.lst (l.map eS)) (.lst []) = some (decide (l = [])) := by
  have f1 : (PV.lst (l.map eS)).fine = true := (da_lst (d := 1) (c := 23) (n := l.length) (xs := l.map eS) (fun x hx => by obtain ⟨a, ha, rfl⟩ := List.mem_map.mp hx; exact (hl a ha).da h4) (by simp)).fine (by decide)
  exact (eq_lst (enc := eS) eqv_S (ys := []) f1 rfl).1
theorem great_eq (l : List Pr2) (p : Pr2) : decide ((((l.filter fun q => decide (q.2 = p.2) && !decide (q.1 = p.1 ∨ q.1 = p.2)).map Prod.fst).filter fun x => within p.1 x) = []) = greatP l p := by
  rw [filter_nil, greatP, List.all_map, List.all_filter, Bool.eq_iff_iff]
  simp [List.any_eq_false]
  grind
theorem law_kernel_spec {T : Tab} (H : HasLawPairs T) (hT : T "_law_kernel" = some f__law_kernel_v2) {n : Nat} (h0 : 0 < n) (h4 : n ≤ 4) {rs : List Rl} (hr : ∀ r ∈ rs, RuleOk n r) (k : Nat) {h : PH} (hf : Flat h) : call T (k + 6) "_law_kernel" [.int n, eRs rs] h = .ok (eT (kernP (pairsP n rs))) h := by
  have w : (call T (k + 6) "_law_kernel" [.int n, eRs rs] h).wp fun v h' => v = eT (kernP (pairsP n rs)) ∧ h' = h := by
    rw [call_eq hT]
    refine run_wp (by rfl) ?_
    simp only [f__law_kernel_v2]
    have hf1 : Flat (h ++ [.lst []]) := hf.snoc fun n => rfl
    have st := law_pairs_spec H h0 h4 hr (k + 1) hf1
    have ok : ∀ p ∈ pairsP n rs, PairOk n p := fun p hp => allP_ok h0 h4 (List.mem_filter.mp hp).1
    have len : (pairsP n rs).length ≤ 81 := Nat.le_trans (List.length_filter_le _ _) (allP_len h0 h4)
    generalize pairsP n rs = l at st ok len
    have sq : seqV (eT l) = some (l.map eQ) := rfl
    have se : ∀ h, see h (eT l) = eT l := fun h => rfl
    have sz2 : (2 : Nat) ≤ sizeLine := by decide
    rw [wp_cons]
    simp [S.den, E.den, Es.den, startP, st]
    rw [wp_cons]
    simp [S.den, E.den, R.I.den, sq, se]
    obtain ⟨I, hI⟩ : ∃ I : Nat → Sl → PH → Prop, I = fun i ρ h' => ∃ (x4 x5 x6 x7 x8 : Option PV), ρ = [some (.int n), some (eRs rs), some (.ref h.length), some (eT l), x4, x5, x6, x7, x8] ∧ h' = h ++ [.lst (((l.take i).filter fun p => decide (p.1 = p.2) || greatP l p).map eQ)] := ⟨_, rfl⟩
    refine for_wp I ?_ ?_ ?_
    · rw [hI]; exact ⟨none, none, none, none, none, rfl, rfl⟩
    · intro i x ρ h' hx hi0
      rw [hI] at hi0
      obtain ⟨x4, x5, x6, x7, x8, rfl, rfl⟩ := hi0
      rw [List.getElem?_map] at hx
      cases hs0 : l[i]? with
      | none => rw [hs0] at hx; cases hx
      | some p =>
        rw [hs0] at hx
        cases hx
        have hp := ok p (List.mem_of_getElem? hs0)
        obtain ⟨acc, ha⟩ : ∃ acc, acc = (l.take i).filter fun p => decide (p.1 = p.2) || greatP l p := ⟨_, rfl⟩
        have ha2 : (l.take (i + 1)).filter (fun p => decide (p.1 = p.2) || greatP l p) = acc ++ if (decide (p.1 = p.2) || greatP l p) = true then [p] else [] := by
          rw [ha, List.take_add_one, hs0, List.filter_append]
          simp [List.filter_cons]
        have hla : acc.length ≤ 81 := by
          rw [ha]
          exact Nat.le_trans (List.length_filter_le _ _) (Nat.le_trans (List.length_take_le' _ _) len)
        rw [← ha]
        have lv := live_last (h := h) (xs := acc.map eQ) rfl
        have hz : (acc.map eQ).length < sizeLine := by rw [List.length_map, sizeLine_eq]; omega
        simp
        rw [wp_cons]
        simp [S.den, E.den, Es.den, Es.denB, bools, R.I.den, R.T.den, Ts.den, wipeP, wp_out, wp_bind, wp_nox, sq, se, sz2]
        rw [lc_some (fun q => decide (q.2 = p.2) && !decide (q.1 = p.1 ∨ q.1 = p.2)) fun q => eS q.1]
        · obtain ⟨ab, hab⟩ : ∃ ab, ab = (l.filter fun q => decide (q.2 = p.2) && !decide (q.1 = p.1 ∨ q.1 = p.2)).map Prod.fst := ⟨_, rfl⟩
          have e0 : ((l.filter fun q => decide (q.2 = p.2) && !decide (q.1 = p.1 ∨ q.1 = p.2)).map fun q => eS q.1) = ab.map eS := by rw [hab, List.map_map]; rfl
          have abok : ∀ s ∈ ab, SetOk n s := fun s hs => by
            rw [hab] at hs
            obtain ⟨q, hq, rfl⟩ := List.mem_map.mp hs
            exact (ok q (List.mem_filter.mp hq).1).a
          have gr := great_eq l p
          rw [← hab] at gr
          rw [e0]
          simp
          rw [wp_cons]
          have e1 := eq_S hp.a hp.b h4
          have lc : ∀ f : PV → PH → Res (List PV), (∀ s ∈ ab, f (eS s) (h ++ [.lst (acc.map eQ)]) = .ok (if within p.1 s = true then [eS s] else []) (h ++ [.lst (acc.map eQ)])) → lcL f (ab.map eS) (h ++ [.lst (acc.map eQ)]) = .ok ((ab.filter fun s => within p.1 s).map eS) (h ++ [.lst (acc.map eQ)]) := fun f hf => lc_some _ _ hf
          by_cases c1 : p.1 = p.2
          · have e1' := e1
            simp only [c1, decide_true] at e1'
            simp [S.den, E.den, Es.den, R.T.den, Ts.den, wp_out, e1, c1, e1']
            rw [wp_cons]
            have q1 : PV.tup [eS p.2, eS p.2] = eQ p := by rw [eQ, c1]
            simp [S.den, E.den, Es.den, isLive_of lv, app_of lv hz, sz2, q1]
            rw [hI]
            refine ⟨_, _, _, _, _, rfl, ?_⟩
            rw [ha2]
            simp [c1]
          · simp [S.den, E.den, Es.den, R.I.den, R.T.den, Ts.den, wipeP, wp_out, wp_bind, wp_nox, e1, c1]
            rw [lc]
            · have en := eqNil_S h4 (l := ab.filter fun s => within p.1 s) fun s hs => abok s (List.mem_filter.mp hs).1
              rw [gr] at en
              cases c2 : greatP l p with
              | true =>
                rw [c2] at en
                simp [en]
                rw [wp_cons]
                have q1 : PV.tup [eS p.1, eS p.2] = eQ p := rfl
                simp [S.den, E.den, Es.den, isLive_of lv, app_of lv hz, sz2, q1]
                rw [hI]
                refine ⟨_, _, _, _, _, rfl, ?_⟩
                rw [ha2]
                simp [c2]
              | false =>
                rw [c2] at en
                simp [en]
                rw [hI]
                refine ⟨_, _, _, _, _, rfl, ?_⟩
                rw [ha2]
                simp [c1, c2]
            · intro s hs
              have e := law_within_spec H.within h4 hp.a (abok s hs) (k + 4) (h ++ [.lst (acc.map eQ)])
              cases c : within p.1 s <;> simp [e, c]
        · intro q hq
          have hq := ok q hq
          have e1 := eq_S hq.b hp.b h4
          have e2 := nin_2 hq.a hp.a hp.b h4
          generalize decide (q.2 = p.2) = b1 at e1 ⊢
          generalize decide (q.1 = p.1 ∨ q.1 = p.2) = b2 at e2 ⊢
          cases b1 <;> cases b2 <;> simp [e1, e2, sz2]
    · intro ρ h' hi0
      rw [hI] at hi0
      obtain ⟨x4, x5, x6, x7, x8, rfl, rfl⟩ := hi0
      rw [List.length_map, List.take_length]
      have lv := live_last (h := h) (xs := (l.filter fun p => decide (p.1 = p.2) || greatP l p).map eQ) rfl
      dsimp only
      rw [wp_cons]
      simp [S.den, E.den, Es.den, see_live lv]
      exact fin_tup rfl rfl (hf.all _) (unders_Q _) ⟨rfl, rfl⟩
  obtain ⟨v, h', e, rfl, rfl⟩ := wp_get w
  exact e
/-! ### settled by pairs -/
def fitB (rs : List Rl) (x y : List Nat) : Bool := rs.all (fitsP (x, y))
theorem least_ex {n : Nat} (hn : n ≤ 4) {rs : List Rl} (hr : ∀ r ∈ rs, RuleOk n r) (y : List Nat) : Least n (someP rs y) (leastF n (someP rs y)) := by
  have sok : ∀ r ∈ someP rs y, RuleOk n r ∧ r.hd.isSome = true := fun r hm => by
    obtain ⟨m1, m2⟩ := List.mem_filter.mp hm
    rw [Bool.and_eq_true] at m2
    exact ⟨hr r m1, m2.1⟩
  have g := grow_least hn (fun r hm => (sok r hm).1) fun r hm => (sok r hm).2
  rw [leastF_eq g]
  exact g
theorem fitB_iff {rs : List Rl} {x y : List Nat} : fitB rs x y = true ↔ ∀ r ∈ rs, remainsP r y = true → obeysP y r = true ∧ obeysP x r = true := by
  unfold fitB
  rw [List.all_eq_true]
  constructor
  · intro h r hr c
    have := h r hr
    rw [fits_eq] at this
    simpa [c] using this
  · intro h r hr
    rw [fits_eq]
    cases c : remainsP r y with
    | false => rfl
    | true =>
      obtain ⟨h1, h2⟩ := h r hr c
      simp [h1, h2]
theorem setB_iff {n : Nat} (hn : n ≤ 4) {rs : List Rl} (hr : ∀ r ∈ rs, RuleOk n r) {y : List Nat} (hy : SetOk n y) :
    setB n rs y = true ↔ fitB rs y y = true ∧ ∀ x, SetOk n x → (∀ a ∈ x, a ∈ y) → x ≠ y → fitB rs x y = false := by
  have ls := least_ex hn hr y
  unfold setB
  rw [Bool.and_eq_true, decide_eq_true_eq]
  constructor
  · rintro ⟨h1, h2⟩
    rw [h1] at ls
    have nv : ∀ r ∈ rs, remainsP r y = true → obeysP y r = true := fun r hm c => by
      have := List.all_eq_true.mp h2 r hm
      unfold violatesP at this
      rw [c] at this
      simpa using this
    refine ⟨fitB_iff.mpr fun r hm c => ⟨nv r hm c, nv r hm c⟩, fun x hx sub ne => ?_⟩
    cases c : fitB rs x y with
    | false => rfl
    | true =>
      exfalso
      rw [fitB_iff] at c
      have low := ls.low x hx fun r hm => by
        obtain ⟨m1, m2⟩ := List.mem_filter.mp hm
        rw [Bool.and_eq_true] at m2
        exact (c r m1 m2.2).2
      exact ne (hx.eq hy fun a => ⟨sub a, low a⟩)
  · rintro ⟨h1, h2⟩
    rw [fitB_iff] at h1
    have nv : (rs.all fun r => !violatesP y r) = true := by
      rw [List.all_eq_true]
      intro r hm
      unfold violatesP
      cases c : remainsP r y with
      | false => rfl
      | true => simp [(h1 r hm c).1]
    refine ⟨?_, nv⟩
    refine Classical.byContradiction fun ne => ?_
    have sub := ls.low y hy fun r hm => by
      obtain ⟨m1, m2⟩ := List.mem_filter.mp hm
      rw [Bool.and_eq_true] at m2
      exact (h1 r m1 m2.2).1
    have bad := h2 _ ls.ok sub ne
    have good : fitB rs (leastF n (someP rs y)) y = true := by
      rw [fitB_iff]
      intro r hm c
      refine ⟨(h1 r hm c).1, ?_⟩
      cases hd : r.hd with
      | some a => exact ls.all r (List.mem_filter.mpr ⟨hm, by rw [hd, c]; rfl⟩)
      | none =>
        rcases obeys_iff.mp (h1 r hm c).1 with ⟨a, ea, _⟩ | ⟨a, ha, na⟩
        · rw [hd] at ea; cases ea
        · exact obeys_iff.mpr (.inr ⟨a, ha, fun z => na (sub a z)⟩)
    rw [good] at bad
    cases bad
theorem fitB_app (rs os : List Rl) (x y : List Nat) : fitB (rs ++ os) x y = (fitB rs x y && fitB os x y) := by
  unfold fitB
  rw [List.all_append]
theorem fitB_union (rs os : List Rl) (x y : List Nat) : fitB (unionP rs os) x y = (fitB rs x y && fitB os x y) := by
  rw [Bool.eq_iff_iff, Bool.and_eq_true, fitB_iff, fitB_iff, fitB_iff]
  exact ⟨fun h => ⟨fun r hr => h r (unionP_mem.mpr (.inl hr)), fun r hr => h r (unionP_mem.mpr (.inr hr))⟩, fun h r hr => (unionP_mem.mp hr).elim (h.1 r) (h.2 r)⟩
theorem fitB_facts {f x y : List Nat} : fitB (factsP f) x y = true ↔ (∀ a ∈ f, a ∈ y) ∧ ∀ a ∈ f, a ∈ x := by
  rw [fitB_iff]
  constructor
  · intro h
    have key : ∀ a ∈ f, a ∈ y ∧ a ∈ x := fun a ha => by
      obtain ⟨h1, h2⟩ := h ⟨some a, [], []⟩ (List.mem_map.mpr ⟨a, ha, rfl⟩) rfl
      rw [obeys_iff] at h1 h2
      refine ⟨?_, ?_⟩
      · rcases h1 with ⟨b, e, hb⟩ | ⟨b, hb, _⟩
        · cases e; exact hb
        · cases hb
      · rcases h2 with ⟨b, e, hb⟩ | ⟨b, hb, _⟩
        · cases e; exact hb
        · cases hb
    exact ⟨fun a ha => (key a ha).1, fun a ha => (key a ha).2⟩
  · rintro ⟨h1, h2⟩ r hr _
    obtain ⟨a, ha, rfl⟩ := List.mem_map.mp hr
    exact ⟨obeys_iff.mpr (.inl ⟨a, rfl, h1 a ha⟩), obeys_iff.mpr (.inl ⟨a, rfl, h2 a ha⟩)⟩
theorem fitB_round {s x y : List Nat} : fitB (roundP s) x y = true ↔ (∀ a ∈ s, ∀ b ∈ s, a ≠ b → (b ∈ y → a ∈ y) ∧ (b ∈ x → a ∈ x)) := by
  rw [fitB_iff]
  constructor
  · intro h a ha b hb ne
    obtain ⟨h1, h2⟩ := h ⟨some a, [b], []⟩ (List.mem_flatMap.mpr ⟨a, ha, List.mem_map.mpr ⟨b, List.mem_filter.mpr ⟨hb, by simp [ne]⟩, rfl⟩⟩) rfl
    rw [obeys_iff] at h1 h2
    refine ⟨fun z => ?_, fun z => ?_⟩
    · rcases h1 with ⟨c, e, hc⟩ | ⟨c, hc, nc⟩
      · cases e; exact hc
      · rw [List.mem_singleton.mp hc] at nc; exact absurd z nc
    · rcases h2 with ⟨c, e, hc⟩ | ⟨c, hc, nc⟩
      · cases e; exact hc
      · rw [List.mem_singleton.mp hc] at nc; exact absurd z nc
  · intro h r hr _
    obtain ⟨a, ha, hr⟩ := List.mem_flatMap.mp hr
    obtain ⟨b, hb, rfl⟩ := List.mem_map.mp hr
    obtain ⟨hb1, hb2⟩ := List.mem_filter.mp hb
    obtain ⟨q1, q2⟩ := h a ha b hb1 (by simpa using hb2)
    constructor
    · rw [obeys_iff]
      by_cases c : b ∈ y
      · exact .inl ⟨a, rfl, q1 c⟩
      · exact .inr ⟨b, List.mem_singleton.mpr rfl, c⟩
    · rw [obeys_iff]
      by_cases c : b ∈ x
      · exact .inl ⟨a, rfl, q2 c⟩
      · exact .inr ⟨b, List.mem_singleton.mpr rfl, c⟩
theorem fitB_down {rs : List Rl} {x y : List Nat} (h : fitB rs x y = true) : fitB rs y y = true := by
  rw [fitB_iff] at h ⊢
  exact fun r hr c => ⟨(h r hr c).1, (h r hr c).1⟩
/-! ### facts that tell apart -/
noncomputable def toldB (n : Nat) (rs os : List Rl) (f c : List Nat) : Bool := !decide (setB n (rs ++ factsP f) c = setB n (os ++ factsP f) c)
theorem told_comm (n : Nat) (rs os : List Rl) (f c : List Nat) : toldB n rs os f c = toldB n os rs f c := by
  unfold toldB
  simp [eq_comm]
theorem app_ok {n : Nat} {rs : List Rl} (hr : ∀ r ∈ rs, RuleOk n r) {f : List Nat} (hf : SetOk n f) : ∀ r ∈ rs ++ factsP f, RuleOk n r := fun r hm => (List.mem_append.mp hm).elim (hr r) (factsP_ok hf r)
theorem set_facts {n : Nat} (hn : n ≤ 4) {rs : List Rl} (hr : ∀ r ∈ rs, RuleOk n r) {f y : List Nat} (hf : SetOk n f) (hy : SetOk n y) :
    setB n (rs ++ factsP f) y = true ↔ fitB rs y y = true ∧ (∀ a ∈ f, a ∈ y) ∧ ∀ x, SetOk n x → (∀ a ∈ x, a ∈ y) → (∀ a ∈ f, a ∈ x) → x ≠ y → fitB rs x y = false := by
  rw [setB_iff hn (app_ok hr hf) hy, fitB_app, Bool.and_eq_true, fitB_facts]
  constructor
  · rintro ⟨⟨h1, h2, _⟩, h3⟩
    refine ⟨h1, h2, fun x hx sub fx ne => ?_⟩
    have := h3 x hx sub ne
    rw [fitB_app] at this
    have e : fitB (factsP f) x y = true := fitB_facts.mpr ⟨h2, fx⟩
    rw [e, Bool.and_true] at this
    exact this
  · rintro ⟨h1, h2, h3⟩
    refine ⟨⟨h1, h2, h2⟩, fun x hx sub ne => ?_⟩
    rw [fitB_app]
    cases c : fitB (factsP f) x y with
    | false => simp
    | true =>
      rw [fitB_facts] at c
      rw [h3 x hx sub c.2 ne]
      rfl
theorem allP_mem {n : Nat} (h0 : 0 < n) (h4 : n ≤ 4) {p : Pr2} (h : PairOk n p) : p ∈ allP n := by
  unfold allP
  refine List.mem_flatMap.mpr ⟨p.1, sets_all h0 h4 h.a, List.mem_map.mpr ⟨p.2, List.mem_filter.mpr ⟨sets_all h0 h4 h.b, h.w⟩, rfl⟩⟩
/-- in the kernel -/
def kerP (n : Nat) (rs : List Rl) (p : Pr2) : Bool := rs.all (fitsP p) && (decide (p.1 = p.2) || greatP (pairsP n rs) p)
theorem kern_eq (n : Nat) (rs : List Rl) : kernP (pairsP n rs) = (allP n).filter (kerP n rs) := by
  unfold kernP kerP
  show ((allP n).filter fun p => rs.all (fitsP p)).filter _ = _
  rw [List.filter_filter]
  refine List.filter_congr fun p _ => ?_
  rw [Bool.and_comm]
theorem great_iff {n : Nat} (h0 : 0 < n) (h4 : n ≤ 4) {rs : List Rl} {p : Pr2} (hp : PairOk n p) : greatP (pairsP n rs) p = true ↔ ∀ z, SetOk n z → (∀ a ∈ z, a ∈ p.2) → (∀ a ∈ p.1, a ∈ z) → z ≠ p.1 → z ≠ p.2 → fitB rs z p.2 = false := by
  unfold greatP
  rw [Bool.not_eq_true', List.any_eq_false]
  constructor
  · intro h z hz sub up n1 n2
    cases c : fitB rs z p.2 with
    | false => rfl
    | true =>
      exfalso
      have hm : (z, p.2) ∈ pairsP n rs := List.mem_filter.mpr ⟨allP_mem h0 h4 ⟨hz, hp.b, within_iff.mpr sub⟩, c⟩
      have := h _ hm
      simp [n1, n2, within_iff.mpr up] at this
  · intro h q hq
    obtain ⟨q1, q2⟩ := List.mem_filter.mp hq
    have qo := allP_ok h0 h4 q1
    simp only [Bool.and_eq_true, decide_eq_true_eq, Bool.not_eq_true', decide_eq_false_iff_not, not_and, Bool.not_eq_true]
    intro e ne
    cases c : within p.1 q.1 with
    | false => rfl
    | true =>
      exfalso
      have sub := within_iff.mp qo.w
      rw [e] at sub
      have := h q.1 qo.a sub (within_iff.mp c) (fun z => ne (.inl z)) (fun z => ne (.inr z))
      unfold fitB at this
      rw [← e] at this
      have e2 : (q.1, q.2) = q := rfl
      rw [e2, q2] at this
      cases this
theorem told_of {n : Nat} (h0 : 0 < n) (h4 : n ≤ 4) {rs os : List Rl} (hr : ∀ r ∈ rs, RuleOk n r) (ho : ∀ r ∈ os, RuleOk n r) {p : Pr2} (hp : PairOk n p) (k1 : kerP n rs p = true) (k2 : kerP n os p = false) : ∃ f, SetOk n f ∧ toldB n rs os f p.2 = true := by
  have tell : ∀ f, SetOk n f → setB n (rs ++ factsP f) p.2 = true → setB n (os ++ factsP f) p.2 = false → toldB n rs os f p.2 = true := fun f _ e1 e2 => by unfold toldB; rw [e1, e2]; rfl
  have tell2 : ∀ f, SetOk n f → setB n (rs ++ factsP f) p.2 = false → setB n (os ++ factsP f) p.2 = true → toldB n rs os f p.2 = true := fun f _ e1 e2 => by unfold toldB; rw [e1, e2]; rfl
  unfold kerP at k1 k2
  rw [Bool.and_eq_true] at k1
  have f1 : fitB rs p.1 p.2 = true := k1.1
  have d1 := fitB_down f1
  have subp := within_iff.mp hp.w
  by_cases cy : fitB os p.2 p.2 = true
  · by_cases e12 : p.1 = p.2
    · exfalso
      have : os.all (fitsP p) = true := by
        have e2 : (p.1, p.2) = p := rfl
        unfold fitB at cy
        rw [← e2, e12]
        exact cy
      rw [this, e12] at k2
      simp at k2
    · have gr : greatP (pairsP n rs) p = true := by simpa [e12] using k1.2
      rw [great_iff h0 h4 hp] at gr
      by_cases ex : ∃ z, SetOk n z ∧ (∀ a ∈ z, a ∈ p.2) ∧ (∀ a ∈ p.1, a ∈ z) ∧ z ≠ p.1 ∧ z ≠ p.2 ∧ fitB os z p.2 = true
      · obtain ⟨z, hz, sub, up, n1, n2, fz⟩ := ex
        refine ⟨z, hz, tell z hz ((set_facts h4 hr hz hp.b).mpr ⟨d1, sub, fun x hx xs zx ne => ?_⟩) ?_⟩
        · refine gr x hx xs (fun a ha => zx a (up a ha)) (fun e => ?_) ne
          exact n1 (hz.eq hp.a fun a => ⟨fun q => by rw [← e]; exact zx a q, up a⟩)
        · cases c : setB n (os ++ factsP z) p.2 with
          | false => rfl
          | true =>
            have := ((set_facts h4 ho hz hp.b).mp c).2.2 z hz sub (fun a ha => ha) n2
            rw [fz] at this
            cases this
      · have nof : fitB os p.1 p.2 = false := by
          cases c : fitB os p.1 p.2 with
          | false => rfl
          | true =>
            exfalso
            have g2 : greatP (pairsP n os) p = true := by
              rw [great_iff h0 h4 hp]
              intro z hz sub up n1 n2
              cases c2 : fitB os z p.2 with
              | false => rfl
              | true => exact absurd ⟨z, hz, sub, up, n1, n2, c2⟩ ex
            have : os.all (fitsP p) = true := c
            rw [this, g2] at k2
            simp at k2
        refine ⟨p.1, hp.a, tell2 p.1 hp.a ?_ ((set_facts h4 ho hp.a hp.b).mpr ⟨cy, subp, fun x hx xs px ne => ?_⟩)⟩
        · cases c : setB n (rs ++ factsP p.1) p.2 with
          | false => rfl
          | true =>
            have := ((set_facts h4 hr hp.a hp.b).mp c).2.2 p.1 hp.a subp (fun a ha => ha) e12
            rw [f1] at this
            cases this
        · by_cases xe : x = p.1
          · rw [xe]; exact nof
          · cases c2 : fitB os x p.2 with
            | false => rfl
            | true => exact absurd ⟨x, hx, xs, px, xe, ne, c2⟩ ex
  · refine ⟨p.2, hp.b, tell p.2 hp.b ((set_facts h4 hr hp.b hp.b).mpr ⟨d1, fun a ha => ha, fun x hx xs yx ne => ?_⟩) ?_⟩
    · exact absurd (hx.eq hp.b fun a => ⟨xs a, yx a⟩) ne
    · cases c : setB n (os ++ factsP p.2) p.2 with
      | false => rfl
      | true => exact absurd ((set_facts h4 ho hp.b hp.b).mp c).1 cy
theorem told_ex {n : Nat} (h0 : 0 < n) (h4 : n ≤ 4) {rs os : List Rl} (hr : ∀ r ∈ rs, RuleOk n r) (ho : ∀ r ∈ os, RuleOk n r) (ne : kernP (pairsP n rs) ≠ kernP (pairsP n os)) : ∃ c ∈ sets n, ∃ f ∈ sets n, toldB n rs os f c = true := by
  rw [kern_eq, kern_eq] at ne
  obtain ⟨p, hp, hk⟩ : ∃ p ∈ allP n, kerP n rs p ≠ kerP n os p := by
    refine Classical.byContradiction fun z => ne (List.filter_congr fun p hp => ?_)
    exact Classical.byContradiction fun y => z ⟨p, hp, y⟩
  have po := allP_ok h0 h4 hp
  refine ⟨p.2, sets_all h0 h4 po.b, ?_⟩
  cases k1 : kerP n rs p with
  | true =>
    have k2 : kerP n os p = false := by
      cases k2 : kerP n os p with
      | false => rfl
      | true => rw [k1, k2] at hk; exact absurd rfl hk
    obtain ⟨f, hf, t⟩ := told_of h0 h4 hr ho po k1 k2
    exact ⟨f, sets_all h0 h4 hf, t⟩
  | false =>
    have k2 : kerP n os p = true := by
      cases k2 : kerP n os p with
      | true => rfl
      | false => rw [k1, k2] at hk; exact absurd rfl hk
    obtain ⟨f, hf, t⟩ := told_of h0 h4 ho hr po k2 k1
    rw [told_comm] at t
    exact ⟨f, sets_all h0 h4 hf, t⟩
end R

set_option Elab.async false
set_option linter.all false
set_option maxRecDepth 100000
set_option maxHeartbeats 1000000
/-! Q: orders of rules, reasons -/
namespace R
open PySem PySem.Spec L2
def hdOf (r : Rl) : Nat := r.hd.getD 0
def ableB (heads : List Nat) (r : Rl) : Bool := !decide (hdOf r ∈ heads) && within r.ho heads
def ordN (act : List Rl) : Nat → List Rl × List Nat
  | 0 => ([], [])
  | i + 1 => match act.find? (ableB (ordN act i).2) with
    | some r => ((ordN act i).1 ++ [r], (ordN act i).2 ++ [hdOf r])
    | none => ordN act i
structure OrdOk (n : Nat) (act : List Rl) (s heads : List Nat) : Prop where
  nd : heads.Nodup
  sub : ∀ a ∈ heads, a ∈ s
theorem ord_able {n : Nat} (hn : n ≤ 4) {act : List Rl} (ha : ∀ r ∈ act, RuleOk n r ∧ r.hd.isSome = true) {s heads : List Nat} (ls : Least n act s) (o : OrdOk n act s heads) (lt : heads.length < s.length) : ∃ r, act.find? (ableB heads) = some r := by
  refine Classical.byContradiction fun z => ?_
  have none_ : act.find? (ableB heads) = none := by
    cases h : act.find? (ableB heads) with
    | none => rfl
    | some r => exact absurd ⟨r, h⟩ z
  rw [List.find?_eq_none] at none_
  have ok : SetOk n (upS heads) := upS_ok fun a h => ls.ok.lt a (o.sub a h)
  have low := ls.low (upS heads) ok fun r hr => by
    have nb := none_ r hr
    obtain ⟨a, ea⟩ := Option.isSome_iff_exists.mp (ha r hr).2
    rw [obeys_iff]
    by_cases c : a ∈ heads
    · exact .inl ⟨a, ea, upS_mem.mpr c⟩
    · right
      have hd : hdOf r = a := by unfold hdOf; rw [ea]; rfl
      unfold ableB at nb
      rw [hd] at nb
      have : ¬ within r.ho heads = true := by simpa [c] using nb
      rw [within_iff] at this
      have : ∃ b ∈ r.ho, b ∉ heads := Classical.byContradiction fun y => this fun b hb => Classical.byContradiction fun x => y ⟨b, hb, x⟩
      obtain ⟨b, hb, nb⟩ := this
      exact ⟨b, hb, fun q => nb (upS_mem.mp q)⟩
  have := nat_nodup_len s heads (ls.ok.asc.imp fun h => by omega) fun b hb => upS_mem.mp (low b hb)
  omega
theorem ord_step {n : Nat} {act : List Rl} (ha : ∀ r ∈ act, RuleOk n r ∧ r.hd.isSome = true) {s heads : List Nat} (ls : Least n act s) (o : OrdOk n act s heads) {r : Rl} (hr : act.find? (ableB heads) = some r) : OrdOk n act s (heads ++ [hdOf r]) := by
  have hm := List.mem_of_find?_eq_some hr
  have hb := List.find?_some hr
  unfold ableB at hb
  rw [Bool.and_eq_true] at hb
  have h1 : hdOf r ∉ heads := by simpa using hb.1
  obtain ⟨a, ea⟩ := Option.isSome_iff_exists.mp (ha r hm).2
  have hd : hdOf r = a := by unfold hdOf; rw [ea]; rfl
  refine ⟨?_, fun b hb' => ?_⟩
  · rw [List.nodup_append]
    refine ⟨o.nd, by simp, fun x hx y hy => ?_⟩
    rw [List.mem_singleton.mp hy]
    rintro rfl
    exact h1 hx
  · rcases List.mem_append.mp hb' with z | z
    · exact o.sub b z
    · rw [List.mem_singleton.mp z, hd]
      rcases obeys_iff.mp (ls.all r hm) with ⟨c, ec, hc⟩ | ⟨c, hc, nc⟩
      · rw [ea] at ec; cases ec; exact hc
      · exact absurd (o.sub c (within_iff.mp hb.2 c hc)) nc
theorem ordN_ok {n : Nat} (hn : n ≤ 4) {act : List Rl} (ha : ∀ r ∈ act, RuleOk n r ∧ r.hd.isSome = true) {s : List Nat} (ls : Least n act s) : ∀ i, i ≤ s.length → OrdOk n act s (ordN act i).2 ∧ (ordN act i).2.length = i ∧ (ordN act i).1.length = i ∧ ∀ r ∈ (ordN act i).1, r ∈ act
  | 0, _ => ⟨⟨List.nodup_nil, fun a h => (by cases h)⟩, rfl, rfl, fun r h => (by cases h)⟩
  | i + 1, hi => by
    obtain ⟨o, l1, l2, m⟩ := ordN_ok hn ha ls i (by omega)
    obtain ⟨r, hr⟩ := ord_able hn ha ls o (by omega)
    have e : ordN act (i + 1) = ((ordN act i).1 ++ [r], (ordN act i).2 ++ [hdOf r]) := by
      show (match act.find? (ableB (ordN act i).2) with | some r => ((ordN act i).1 ++ [r], (ordN act i).2 ++ [hdOf r]) | none => ordN act i) = _
      rw [hr]
    rw [e]
    refine ⟨ord_step ha ls o hr, by simp [l1], by simp [l2], fun q hq => ?_⟩
    rcases List.mem_append.mp hq with z | z
    · exact m q z
    · rw [List.mem_singleton.mp z]; exact List.mem_of_find?_eq_some hr
theorem ordN_succ {n : Nat} (hn : n ≤ 4) {act : List Rl} (ha : ∀ r ∈ act, RuleOk n r ∧ r.hd.isSome = true) {s : List Nat} (ls : Least n act s) {i : Nat} (hi : i < s.length) : ∃ r, act.find? (ableB (ordN act i).2) = some r ∧ ordN act (i + 1) = ((ordN act i).1 ++ [r], (ordN act i).2 ++ [hdOf r]) := by
  obtain ⟨o, l1, l2, m⟩ := ordN_ok hn ha ls i (by omega)
  obtain ⟨r, hr⟩ := ord_able hn ha ls o (by omega)
  refine ⟨r, hr, ?_⟩
  show (match act.find? (ableB (ordN act i).2) with | some r => ((ordN act i).1 ++ [r], (ordN act i).2 ++ [hdOf r]) | none => ordN act i) = _
  rw [hr]
theorem ord_full {n : Nat} {act : List Rl} {s heads : List Nat} (ls : SetOk n s) (o : OrdOk n act s heads) : upS heads = s ↔ heads.length = s.length := by
  constructor
  · intro e
    have p : (upS heads).Perm heads := by
      refine (List.perm_ext_iff_of_nodup ((upS_asc heads).imp fun h => by omega) o.nd).mpr fun a => upS_mem
    rw [← e]
    exact p.length_eq.symm
  · intro e
    have := nat_nodup_len s heads
    refine asc_eq (upS_asc heads) ls.asc fun a => ?_
    rw [upS_mem]
    refine ⟨o.sub a, fun ha => Classical.byContradiction fun z => ?_⟩
    have := nat_nodup_len (a :: heads) s (List.nodup_cons.mpr ⟨z, o.nd⟩) fun b hb => by
      rcases List.mem_cons.mp hb with rfl | hb
      · exact ha
      · exact o.sub b hb
    rw [List.length_cons] at this
    omega
theorem some_ok {n : Nat} {rs : List Rl} (hr : ∀ r ∈ rs, RuleOk n r) (y : List Nat) : ∀ r ∈ someP rs y, RuleOk n r ∧ r.hd.isSome = true := fun r hm => by
  obtain ⟨m1, m2⟩ := List.mem_filter.mp hm
  rw [Bool.and_eq_true] at m2
  exact ⟨hr r m1, m2.1⟩
def orderP (act : List Rl) (s : List Nat) : List Rl := (ordN act s.length).1
theorem hd_N {r : Rl} (h : r.hd.isSome = true) : eH r.hd = eN (hdOf r) := by
  obtain ⟨a, ea⟩ := Option.isSome_iff_exists.mp h
  unfold hdOf
  rw [ea]
  rfl
theorem da_NT {l : List Nat} (h : ∀ a ∈ l, a < 1000) : (eS l).fine = true :=
  (da_tup (d := 0) (c := 3) (n := l.length) (xs := l.map eN) (fun x hx => by obtain ⟨a, ha, rfl⟩ := List.mem_map.mp hx; exact da_nat a (h a ha)) (by simp)).fine (by decide)
theorem in_NT {a : Nat} {l : List Nat} (ha : a < 1000) (h : ∀ a ∈ l, a < 1000) : cmpop .inn (eN a) (eS l) = some (decide (a ∈ l)) ∧ cmpop .nin (eN a) (eS l) = some (!decide (a ∈ l)) :=
  in_tup (enc := eN) eqv_N ((da_nat (d := 0) a ha).fine (by decide)) (da_NT h)
section
variable {T : Tab}
theorem is_within_any (hT : T "is_within" = some f_is_within) {n : Nat} {s t : List Nat} (hn : n ≤ 4) (hs : SetOk n s) (ht : ∀ a ∈ t, a < n) (k : Nat) (h : PH) : call T (k + 1) "is_within" [eS s, eS t] h = .ok (.bl (within s t)) h := by
  rw [call_eq hT]
  refine run_ret rfl ?_
  simp [f_is_within, Ss.den, S.den, E.den, Es.den, R.I.den, R.T.den, startP, wipeP]
  rw [lc_all fun a => PV.bl (decide (a ∈ t))]
  · simp [within]
  · intro a ha
    have e := (in_NT (a := a) (l := t) (by have := hs.lt a ha; omega) fun b hb => by have := ht b hb; omega).1
    simp [e]
structure HasOrder (T : Tab) : Prop where
  is_within : T "is_within" = some f_is_within
  remains : T "remains" = some f_remains
  order_of : T "order_of" = some f_order_of
theorem order_of_spec (H : HasOrder T) {n : Nat} {rs : List Rl} {y : List Nat} (hn : n ≤ 4) (hr : ∀ r ∈ rs, RuleOk n r) (hy : SetOk n y) (ls : Least n (someP rs y) y) (k : Nat) (h : PH) : call T (k + 2) "order_of" [eRs rs, eS y] h = .ok (eRs (orderP (someP rs y) y)) h := by
  refine wp_same (Q := fun _ _ => True) ?_
  rw [call_eq H.order_of]
  refine run_wp (by rfl) ?_
  simp only [f_order_of]
  have sok := some_ok hr y
  have sz2 : (2 : Nat) ≤ sizeLine := by decide
  have e0 : (rs.filter fun r => r.hd.isSome && remainsP r y) = someP rs y := rfl
  rw [wp_cons]
  simp [S.den, E.den, Es.den, R.I.den, R.T.den, Ts.den, startP, wipeP]
  rw [lc_some (fun r => r.hd.isSome && remainsP r y) eR]
  · rw [e0]
    clear e0
    have yl := hy.len
    generalize someP rs y = act at sok ls
    simp
    rw [wp_cons]
    simp [S.den, E.den, Es.den, sz2, putAll]
    rw [wp_cons]
    simp only [S.den]
    obtain ⟨I, hI⟩ : ∃ I : Nat → Sl → PH → Prop, I = fun m ρ h' => ∃ (i : Nat) (x3 x6 : Option PV), ρ = [some (eRs rs), some (eS y), some (.lst (act.map eR)), x3, some (eRs (ordN act i).1), some (eS (ordN act i).2), x6] ∧ h' = h ∧ i ≤ y.length ∧ m = y.length - i := ⟨_, rfl⟩
    refine while_wp I ?_ y.length wMost _ h (by unfold wMost; omega) ?_
    · intro m ρ h' hi
      rw [hI] at hi
      obtain ⟨i, x3, x6, rfl, rfl, hil, hm⟩ := hi
      obtain ⟨o, l1, l2, mm⟩ := ordN_ok hn sok ls i hil
      have lt : ∀ a ∈ (ordN act i).2, a < n := fun a ha => hy.lt a (o.sub a ha)
      simp [E.den, Es.den, R.T.den, l1]
      by_cases c : i < y.length
      · obtain ⟨r, hf, es⟩ := ordN_succ hn sok ls c
        simp [c]
        refine ⟨m - 1, by omega, ?_⟩
        rw [wp_cons]
        simp [S.den, E.den, Es.den, R.I.den, R.T.den, Ts.den, wipeP]
        rw [lc_some (ableB (ordN act i).2) eR]
        · have hh : ∃ t, act.filter (ableB (ordN act i).2) = r :: t := by
            have := List.head?_filter (p := ableB (ordN act i).2) (l := act)
            rw [hf] at this
            cases hx : act.filter (ableB (ordN act i).2) with
            | nil => rw [hx] at this; cases this
            | cons a t => rw [hx] at this; cases this; exact ⟨t, rfl⟩
          obtain ⟨t, et⟩ := hh
          rw [et]
          have a0 : atI ((r :: t).map eR) (0 : Int) = some (eR r) := atI_nat (j := 0) (by simp)
          simp only [List.map_cons] at a0
          have hrs := (sok r (List.mem_of_find?_eq_some hf)).2
          have hN := hd_N hrs
          have z1 : (ordN act i).1.length + 1 ≤ sizeLine := by rw [sizeLine_eq]; omega
          have z2 : (ordN act i).2.length + 1 ≤ sizeLine := by rw [sizeLine_eq]; omega
          rw [l2] at z1
          rw [l1] at z2
          simp
          rw [wp_cons]
          have ia : ∀ h, idxV (.lst (eR r :: t.map eR)) (.int 0) h = some (eR r) := fun h => a0
          have n1 : PV.tup ((ordN act i).1.map eR ++ [eR r]) = eRs ((ordN act i).1 ++ [r]) := by simp [eRs]
          have n2 : PV.tup ((ordN act i).2.map eN ++ [eN (hdOf r)]) = eS ((ordN act i).2 ++ [hdOf r]) := by simp [eS]
          simp [S.den, E.den, Es.den, ia, hN, l1, l2, z1, z2, n1, n2, sz2, putAll]
          have s1 : (ordN act (i + 1)).1 = (ordN act i).1 ++ [r] := by rw [es]
          have s2 : (ordN act (i + 1)).2 = (ordN act i).2 ++ [hdOf r] := by rw [es]
          rw [← s1, ← s2, hI]
          exact ⟨i + 1, _, _, rfl, rfl, by omega, by omega⟩
        · intro r hm
          obtain ⟨ro, rs'⟩ := sok r hm
          have hN := hd_N rs'
          have han : hdOf r < n := by
            obtain ⟨a, ea⟩ := Option.isSome_iff_exists.mp rs'
            unfold hdOf
            rw [ea]
            exact ro.hd a ea
          have e1 := (in_NT (a := hdOf r) (l := (ordN act i).2) (by omega) fun b hb => by have := lt b hb; omega).2
          have e2 := is_within_any H.is_within hn ro.ho lt k h'
          unfold ableB
          by_cases c1 : hdOf r ∈ (ordN act i).2
          · simp [hN, e1, c1]
          · cases c2 : within r.ho (ordN act i).2 <;> simp [Es.den, E.den, hN, e1, c1, e2, c2]
      · have ei : i = y.length := by omega
        subst ei
        simp
        rw [wp_cons]
        simp [S.den, E.den]
        exact fix_same rfl ⟨rfl, rfl⟩
    · rw [hI]
      exact ⟨0, _, _, rfl, rfl, Nat.zero_le _, by simp⟩
  · intro r hm
    have e := fun h => remains_spec H.remains hn (hr r hm) hy k h
    cases hh : r.hd with
    | none => simp [hh]
    | some a => cases ho : remainsP r y <;> simp [Es.den, E.den, hh, e, ho]
/-! ### reasons -/
noncomputable def reasonV (n : Nat) (rs : List Rl) (y : List Nat) : PV :=
  match rs.find? (violatesP y) with
  | some r => .tup [.str "violated", eR r]
  | none => if leastF n (someP rs y) = y then .tup [.str "settled", eRs (orderP (someP rs y) y)] else .tup [.str "smaller", eS (leastF n (someP rs y))]
structure HasReason (T : Tab) : Prop where
  ru : HasRules T
  need_set : T "need_set" = some f_need_set
  se : HasVio T
  ord : HasOrder T
  reason : T "reason" = some f_reason
theorem reason_spec (H : HasReason T) {n : Nat} {rs : List Rl} (hb : BookOk n rs) (few : rs.length ≤ 50) {y : List Nat} (hy : SetOk n y) (k : Nat) (h : PH) : call T (k + 7) "reason" [eB n rs, eS y] h = .ok (reasonV n rs y) h := by
  have n4 := hb.n4
  refine wp_same (Q := fun _ _ => True) ?_
  rw [call_eq H.reason]
  refine run_wp (by rfl) ?_
  simp only [f_reason]
  have sz2 : (2 : Nat) ≤ sizeLine := by decide
  have e1 := need_book_spec H.ru hb k h
  have e2 := need_set_spec H.ru H.need_set (rs := rs) hy (k + 2) h
  have e3 := violated_in_spec H.se n4 hb.ok hy (k + 2) h
  have e4 := (eqNil_RsL (rs := rs.filter fun r => violatesP y r) n4 fun r hm => hb.ok r (List.mem_filter.mp hm).1).2
  obtain ⟨e5, ls⟩ := least_of_eq H.se.le n4 hb.ok few hy (k + 3) h
  have e6 := eq_S ls.ok hy n4
  rw [wp_cons]
  simp [S.den, E.den, Es.den, startP, e1]
  rw [wp_cons]
  simp [S.den, E.den, Es.den, e2]
  rw [wp_cons]
  simp [S.den, E.den, Es.den, e3]
  rw [wp_cons]
  unfold reasonV
  cases hf : rs.find? (violatesP y) with
  | some r =>
    have hh : ∃ t, (rs.filter fun r => violatesP y r) = r :: t := by
      have := List.head?_filter (p := violatesP y) (l := rs)
      rw [hf] at this
      have e0 : (rs.filter fun r => violatesP y r) = rs.filter (violatesP y) := rfl
      rw [e0]
      cases hx : rs.filter (violatesP y) with
      | nil => rw [hx] at this; cases this
      | cons a t => rw [hx] at this; cases this; exact ⟨t, rfl⟩
    obtain ⟨t, et⟩ := hh
    rw [et] at e4 ⊢
    have ia : ∀ h, idxV (.lst (eR r :: t.map eR)) (.int 0) h = some (eR r) := fun h => atI_nat (xs := eR r :: t.map eR) (j := 0) (by simp)
    simp at e4
    simp [S.den, E.den, Es.den, R.T.den, e4]
    rw [wp_cons]
    simp [S.den, E.den, Es.den, ia, sz2]
    exact fix_same rfl ⟨rfl, rfl⟩
  | none =>
    have hn0 : (rs.filter fun r => violatesP y r) = [] := by
      rw [List.filter_eq_nil_iff]
      exact fun r hm => List.find?_eq_none.mp hf r hm
    rw [hn0] at e4 ⊢
    simp at e4
    simp [S.den, E.den, Es.den, R.T.den, e4]
    rw [wp_cons]
    simp [S.den, E.den, Es.den, e5]
    rw [wp_cons]
    by_cases c : leastF n (someP rs y) = y
    · rw [if_pos c]
      rw [c] at e6 ls ⊢
      have e7 := order_of_spec H.ord n4 hb.ok hy ls (k + 4) h
      simp at e6
      simp [S.den, E.den, Es.den, R.T.den, e6]
      rw [wp_cons]
      simp [S.den, E.den, Es.den, e7, sz2]
      exact fix_same rfl ⟨rfl, rfl⟩
    · rw [if_neg c]
      simp [S.den, E.den, Es.den, R.T.den, e6, c]
      rw [wp_cons]
      simp [S.den, E.den, Es.den, sz2]
      exact fix_same rfl ⟨rfl, rfl⟩
end
end R

set_option Elab.async false
set_option linter.all false
set_option maxRecDepth 100000
set_option maxHeartbeats 1000000
/-! Q: reasons shown -/
namespace R
open PySem PySem.Spec L2
theorem fitB_self (rs : List Rl) (y : List Nat) : fitB rs y y = rs.all fun r => !violatesP y r := by
  unfold fitB
  congr 1
  funext r
  rw [fits_eq]
  unfold violatesP
  cases remainsP r y <;> cases obeysP y r <;> rfl
theorem find_none_fit {rs : List Rl} {y : List Nat} (h : rs.find? (violatesP y) = none) : fitB rs y y = true := by
  rw [fitB_self, List.all_eq_true]
  intro r hr
  have := List.find?_eq_none.mp h r hr
  simpa using this
theorem find_some_fit {rs : List Rl} {y : List Nat} {r : Rl} (h : rs.find? (violatesP y) = some r) : fitB rs y y = false := by
  have hv := List.find?_some h
  have hm := List.mem_of_find?_eq_some h
  cases c : fitB rs y y with
  | false => rfl
  | true =>
    rw [fitB_self, List.all_eq_true] at c
    have := c r hm
    rw [hv] at this
    cases this
theorem least_fit {n : Nat} (hn : n ≤ 4) {rs : List Rl} (hr : ∀ r ∈ rs, RuleOk n r) {y : List Nat} (hy : SetOk n y) (h1 : fitB rs y y = true) : within (leastF n (someP rs y)) y = true ∧ fitB rs (leastF n (someP rs y)) y = true := by
  have ls := least_ex hn hr y
  rw [fitB_iff] at h1
  have sub := ls.low y hy fun r hm => by
    obtain ⟨m1, m2⟩ := List.mem_filter.mp hm
    rw [Bool.and_eq_true] at m2
    exact (h1 r m1 m2.2).1
  refine ⟨within_iff.mpr sub, ?_⟩
  rw [fitB_iff]
  intro r hm c
  refine ⟨(h1 r hm c).1, ?_⟩
  cases hd : r.hd with
  | some a => exact ls.all r (List.mem_filter.mpr ⟨hm, by rw [hd, c]; rfl⟩)
  | none =>
    rcases obeys_iff.mp (h1 r hm c).1 with ⟨a, ea, _⟩ | ⟨a, ha, na⟩
    · rw [hd] at ea; cases ea
    · exact obeys_iff.mpr (.inr ⟨a, ha, fun z => na (sub a z)⟩)
theorem set_own {n : Nat} (hn : n ≤ 4) {rs : List Rl} (hr : ∀ r ∈ rs, RuleOk n r) {y : List Nat} (hy : SetOk n y) : setB n (unionP rs (factsP y)) y = fitB rs y y := by
  have ok : ∀ r ∈ unionP rs (factsP y), RuleOk n r := fun r hm => (unionP_mem.mp hm).elim (hr r) (factsP_ok hy r)
  rw [Bool.eq_iff_iff, setB_iff hn ok hy, fitB_union, Bool.and_eq_true]
  constructor
  · exact fun h => h.1.1
  · intro h
    refine ⟨⟨h, fitB_facts.mpr ⟨fun a ha => ha, fun a ha => ha⟩⟩, fun x hx sub ne => ?_⟩
    rw [fitB_union]
    cases c : fitB (factsP y) x y with
    | false => simp
    | true =>
      rw [fitB_facts] at c
      exact absurd (hx.eq hy fun a => ⟨sub a, c.2 a⟩) ne
theorem ordN_get {n : Nat} (hn : n ≤ 4) {act : List Rl} (ha : ∀ r ∈ act, RuleOk n r ∧ r.hd.isSome = true) {s : List Nat} (ls : Least n act s) : ∀ m i, m ≤ s.length → i < m → (ordN act m).1[i]? = act.find? (ableB (ordN act i).2)
  | 0, i, _, h => by omega
  | m + 1, i, hm, hi => by
    obtain ⟨r, hf, es⟩ := ordN_succ hn ha ls (i := m) (by omega)
    obtain ⟨o, l1, l2, mm⟩ := ordN_ok hn ha ls m (by omega)
    rw [es]
    dsimp only
    by_cases c : i < m
    · rw [List.getElem?_append_left (by omega)]
      exact ordN_get hn ha ls m i (by omega) c
    · have : i = m := by omega
      subst this
      rw [hf, List.getElem?_append_right (by omega), l2]
      simp
section
variable {T : Tab}
theorem fits_rule_spec' (V : HasViol T) (hT : T "fits_rule" = some f_fits_rule) {n : Nat} (h4 : n ≤ 4) {p : Pr2} {r : Rl} (hp : PairOk n p) (hr : RuleOk n r) (k : Nat) (h : PH) : call T (k + 4) "fits_rule" [eQ p, eR r] h = .ok (.bl (fitsP p r)) h := by
  rw [call_eq hT]
  refine run_ret rfl ?_
  have e1 := fun h => violates_spec V.is_within V.obeys V.remains V.violates h4 hr hp.b k h
  have e2 := fun h => remains_spec V.remains h4 hr hp.b (k + 2) h
  have e3 := fun h => obeys_spec V.is_within V.obeys h4 hr hp.a (k + 1) h
  simp [f_fits_rule, Ss.den, S.den, E.den, Es.den, Es.denB, bools, startP, e1, e2, fitsP]
  cases violatesP p.2 r <;> cases remainsP r p.2 <;> simp [e3]
theorem is_known_spec (H : HasRules0 T) (hT : T "is_known" = some f_is_known) {n : Nat} {rs : List Rl} (h4 : n ≤ 4) (hr : ∀ r ∈ rs, RuleOk n r) {r : Rl} (ho : RuleOk n r) (k : Nat) (h : PH) : call T (k + 5) "is_known" [eB n rs, eR r] h = .ok (.bl (decide (r ∈ rs))) h := by
  rw [call_eq hT]
  refine run_ret rfl ?_
  have e1 := are_rule_parts_spec H.is_integer H.is_atom H.is_set H.are_rule_parts ho k h
  have e2 := (nin_Rs h4 ho hr).2.2.2
  generalize decide (r ∈ rs) = b at e2
  simp [f_is_known, Ss.den, S.den, E.den, Es.den, Es.denB, bools, startP, e1, e2]
structure HasShows (T : Tab) : Prop where
  ru : HasRules T
  need_set : T "need_set" = some f_need_set
  se : HasVio T
  vi : HasViol T
  fits_rule : T "fits_rule" = some f_fits_rule
  is_known : T "is_known" = some f_is_known
  is_order : T "is_order" = some f_is_order
  shows_ : T "shows" = some f_shows
theorem is_order_spec (H : HasShows T) {n : Nat} {rs : List Rl} {y : List Nat} (hn : n ≤ 4) (hr : ∀ r ∈ rs, RuleOk n r) (hy : SetOk n y) (ls : Least n (someP rs y) y) (k : Nat) (h : PH) : call T (k + 6) "is_order" [eB n rs, eS y, eRs (orderP (someP rs y) y)] h = .ok (.bl true) h := by
  refine wp_same (Q := fun _ _ => True) ?_
  rw [call_eq H.is_order]
  refine run_wp (by rfl) ?_
  simp only [f_is_order]
  have sok := some_ok hr y
  have sm : ∀ r ∈ someP rs y, r ∈ rs ∧ remainsP r y = true := fun r hm => by
    obtain ⟨m1, m2⟩ := List.mem_filter.mp hm
    rw [Bool.and_eq_true] at m2
    exact ⟨m1, m2.2⟩
  have yl := hy.len
  obtain ⟨oF, lF1, lF2, mF⟩ := ordN_ok hn sok ls y.length (Nat.le_refl _)
  have get := ordN_get hn sok ls y.length
  have eo : orderP (someP rs y) y = (ordN (someP rs y) y.length).1 := rfl
  rw [eo]
  generalize ho : (ordN (someP rs y) y.length).1 = od at mF lF2 get
  rw [wp_cons]
  have al : lcL (fun x h => (call T (k + 5) "is_known" [eB n rs, x] h).bind fun v h => Res.ok [v] h) (od.map eR) h = .ok (od.map fun _ => PV.bl true) h := by
    refine lc_all (fun _ => PV.bl true) fun r hm => ?_
    obtain ⟨m1, m2⟩ := sm r (mF r hm)
    have e := is_known_spec H.ru.toHasRules0 H.is_known hn hr (hr r m1) k h
    rw [decide_eq_true m1] at e
    rw [e]; rfl
  simp [S.den, E.den, Es.den, Es.denB, bools, R.I.den, R.T.den, Ts.den, startP, wipeP, isiTab]
  rw [lc_all fun _ => PV.bl true]
  · simp
    rw [wp_cons]
    simp [S.den, E.den, Es.den]
    rw [wp_cons]
    simp [S.den, E.den, R.I.den]
    obtain ⟨J, hJ⟩ : ∃ J : Nat → Sl → PH → Prop, J = fun j ρ h'' => ∃ (x3 : Option PV), ρ = [some (eB n rs), some (eS y), some (eRs od), x3, some (eS (ordN (someP rs y) j).2)] ∧ h'' = h := ⟨_, rfl⟩
    refine for_wp J ?_ ?_ ?_
    · rw [hJ]; exact ⟨_, rfl, rfl⟩
    · intro j x ρ h'' hx hj
      rw [hJ] at hj
      obtain ⟨x3, rfl, rfl⟩ := hj
      rw [List.getElem?_map] at hx
      cases hq : od[j]? with
      | none => rw [hq] at hx; cases hx
      | some q =>
        rw [hq] at hx
        cases hx
        have hjl : j < y.length := by
          have := (List.getElem?_eq_some_iff.mp hq).1
          omega
        have hf := get j (Nat.le_refl _) hjl
        rw [hq] at hf
        have hf := hf.symm
        obtain ⟨r', hf', es⟩ := ordN_succ hn sok ls hjl
        rw [hf] at hf'
        cases hf'
        have s2 : (ordN (someP rs y) (j + 1)).2 = (ordN (someP rs y) j).2 ++ [hdOf q] := by rw [es]
        obtain ⟨o, l1, l2, mm⟩ := ordN_ok hn sok ls j (by omega)
        have lt : ∀ a ∈ (ordN (someP rs y) j).2, a < n := fun a ha => hy.lt a (o.sub a ha)
        have hm := List.mem_of_find?_eq_some hf
        have hb := List.find?_some hf
        unfold ableB at hb
        rw [Bool.and_eq_true] at hb
        obtain ⟨b1, b2⟩ := hb
        obtain ⟨qo, qs⟩ := sok q hm
        obtain ⟨_, qr⟩ := sm q hm
        have hN := hd_N qs
        have han : hdOf q < n := by
          obtain ⟨a, ea⟩ := Option.isSome_iff_exists.mp qs
          unfold hdOf
          rw [ea]
          exact qo.hd a ea
        have e1 := (in_NT (a := hdOf q) (l := (ordN (someP rs y) j).2) (by omega) fun b hb => by have := lt b hb; omega).1
        have e2 := is_within_any H.vi.is_within hn qo.ho lt (k + 4) h''
        have e3 := remains_spec H.vi.remains hn qo hy (k + 4) h''
        have b1' : decide (hdOf q ∈ (ordN (someP rs y) j).2) = false := by simpa using b1
        rw [b1'] at e1
        rw [b2] at e2
        rw [qr] at e3
        have nn : cmpop .isN (eN (hdOf q)) .non = some false := rfl
        have z2 : (ordN (someP rs y) j).2.length + 1 ≤ sizeLine := by rw [sizeLine_eq]; omega
        generalize (ordN (someP rs y) j).2 = hs at *
        have n2 : PV.tup (hs.map eN ++ [eN (hdOf q)]) = eS (ordN (someP rs y) (j + 1)).2 := by rw [s2]; simp [eS]
        simp
        rw [wp_cons]
        simp [S.den, E.den, Es.den, R.T.den, Ts.den, hN, nn, e1, e2, e3]
        rw [wp_cons]
        simp [S.den, E.den, Es.den, hN, z2, n2]
        rw [hJ]; exact ⟨_, rfl, rfl⟩
    · intro ρ h'' hj
      rw [hJ] at hj
      obtain ⟨x3, rfl, rfl⟩ := hj
      rw [List.length_map, lF2]
      have so := sort_N (l := (ordN (someP rs y) y.length).2) (fun a ha => by have := hy.lt a (oF.sub a ha); omega) oF.nd
      have full := (ord_full (act := someP rs y) hy oF).mpr lF1
      rw [full] at so
      have e := eq_S hy hy hn
      simp at e
      generalize (ordN (someP rs y) y.length).2 = hs at *
      dsimp only
      rw [wp_cons]
      have et : PV.tup (y.map eN) = eS y := rfl
      simp [S.den, E.den, Es.den, so, et, e]
      exact fix_same rfl ⟨rfl, rfl⟩
  · intro r hm
    obtain ⟨m1, m2⟩ := sm r (mF r hm)
    have e := is_known_spec H.ru.toHasRules0 H.is_known hn hr (hr r m1) k h
    rw [decide_eq_true m1] at e
    simp [e]
theorem sn1 : ¬ ((Str.ofString "smaller") = Str.ofString "violated") := by decide
theorem sn2 : ¬ ((Str.ofString "smaller") = Str.ofString "settled") := by decide
theorem sn3 : ¬ ((Str.ofString "settled") = Str.ofString "violated") := by decide
theorem sx0 {x y : PV} {h : PH} : idxV (.tup [x, y]) (.int 0) h = some x := atI_nat (xs := [x, y]) (j := 0) (by simp)
theorem sx1 {x y : PV} {h : PH} : idxV (.tup [x, y]) (.int 1) h = some y := atI_nat (xs := [x, y]) (j := 1) (by simp)
theorem shows_smaller (H : HasShows T) {n : Nat} {rs : List Rl} (hb : BookOk n rs) {x y : List Nat} (hx : SetOk n x) (hy : SetOk n y) (k : Nat) (h : PH) : call T (k + 8) "shows" [eB n rs, eS y, .tup [.str "smaller", eS x]] h = .ok (.bl (!decide (x = y) && within x y && fitB rs x y)) h := by
  have n4 := hb.n4
  refine wp_same (Q := fun _ _ => True) ?_
  rw [call_eq H.shows_]
  refine run_wp (by rfl) ?_
  simp only [f_shows]
  have sz2 : (2 : Nat) ≤ sizeLine := by decide
  have e1 := need_book_spec H.ru hb (k + 1) h
  have e2 := need_set_spec H.ru H.need_set (rs := rs) hy (k + 3) h
  have e3 := is_set_spec H.ru.is_integer H.ru.is_atom H.ru.is_set hx (k + 4) h
  have e4 := eq_S hx hy n4
  have e5 := is_within_spec H.vi.is_within n4 hx hy (k + 6) h
  have is0 : ∀ h, isiV (.str "smaller") "str" h = some (.bl true) := fun h => rfl
  rw [wp_cons]
  simp [S.den, E.den, Es.den, startP, e1]
  rw [wp_cons]
  simp [S.den, E.den, Es.den, e2]
  rw [wp_cons]
  simp [S.den, E.den, Es.den, R.T.den, Ts.den, sx0, is0, isiTab]
  rw [wp_cons]
  simp [S.den, E.den, Es.den, putAll]
  rw [wp_cons]
  simp [S.den, E.den, Es.den, Cs.den, sn1, sn2, sn3]
  rw [wp_cons]
  by_cases c1 : x = y
  · rw [decide_eq_true c1] at e4 ⊢
    simp [S.den, E.den, Es.den, R.T.den, Ts.den, e3, e4]
    rw [wp_cons]
    simp [S.den, E.den]
    exact fix_same rfl ⟨rfl, rfl⟩
  · rw [decide_eq_false c1] at e4 ⊢
    cases c2 : within x y with
    | false =>
      rw [c2] at e5
      simp [S.den, E.den, Es.den, R.T.den, Ts.den, e3, e4, e5]
      rw [wp_cons]
      simp [S.den, E.den]
      exact fix_same rfl ⟨rfl, rfl⟩
    | true =>
      rw [c2] at e5
      simp [S.den, E.den, Es.den, R.T.den, Ts.den, e3, e4, e5]
      rw [wp_cons]
      simp [S.den, E.den, Es.den, R.I.den, R.T.den, wipeP, sz2]
      rw [lc_all fun r => PV.bl (fitsP (x, y) r)]
      · simp
        refine fix_same rfl ⟨?_, rfl⟩
        unfold fitB
        rfl
      · intro r hm
        have e := fits_rule_spec' H.vi H.fits_rule n4 (p := (x, y)) ⟨hx, hy, c2⟩ (hb.ok r hm) (k + 3) h
        have eq : eQ (x, y) = .tup [eS x, eS y] := rfl
        rw [eq] at e
        simp [e]
theorem shows_reason (H : HasShows T) {n : Nat} {rs : List Rl} (hb : BookOk n rs) {y : List Nat} (hy : SetOk n y) (k : Nat) (h : PH) : call T (k + 8) "shows" [eB n rs, eS y, reasonV n rs y] h = .ok (.bl true) h := by
  have n4 := hb.n4
  have ls := least_ex n4 hb.ok y
  unfold reasonV
  cases hf : rs.find? (violatesP y) with
  | none =>
    by_cases c : leastF n (someP rs y) = y
    · rw [if_pos c]
      rw [c] at ls
      refine wp_same (Q := fun _ _ => True) ?_
      rw [call_eq H.shows_]
      refine run_wp (by rfl) ?_
      simp only [f_shows]
      have e1 := need_book_spec H.ru hb (k + 1) h
      have e2 := need_set_spec H.ru H.need_set (rs := rs) hy (k + 3) h
      have e3 := violated_in_spec H.se n4 hb.ok hy (k + 3) h
      have e4 := (eqNil_RsL (rs := rs.filter fun r => violatesP y r) n4 fun r hm => hb.ok r (List.mem_filter.mp hm).1).1
      have hn0 : (rs.filter fun r => violatesP y r) = [] := by
        rw [List.filter_eq_nil_iff]
        exact fun r hm => List.find?_eq_none.mp hf r hm
      rw [hn0] at e3 e4
      simp at e3 e4
      have e5 := is_order_spec H n4 hb.ok hy ls (k + 1) h
      generalize orderP (someP rs y) y = od at e5
      have is0 : ∀ h, isiV (.str "settled") "str" h = some (.bl true) := fun h => rfl
      rw [wp_cons]
      simp [S.den, E.den, Es.den, startP, e1]
      rw [wp_cons]
      simp [S.den, E.den, Es.den, e2]
      rw [wp_cons]
      simp [S.den, E.den, Es.den, R.T.den, Ts.den, sx0, is0, isiTab]
      rw [wp_cons]
      simp [S.den, E.den, Es.den, putAll]
      rw [wp_cons]
      simp [S.den, E.den, Es.den, Cs.den, sn1, sn2, sn3]
      rw [wp_cons]
      simp [S.den, E.den, Es.den, Es.denB, bools, e3, e4, e5]
      exact fix_same rfl ⟨rfl, rfl⟩
    · rw [if_neg c]
      have := shows_smaller H hb ls.ok hy k h
      obtain ⟨w, f⟩ := least_fit n4 hb.ok hy (find_none_fit hf)
      rw [w, f, decide_eq_false c] at this
      exact this
  | some r =>
    have hm := List.mem_of_find?_eq_some hf
    have hv := List.find?_some hf
    refine wp_same (Q := fun _ _ => True) ?_
    rw [call_eq H.shows_]
    refine run_wp (by rfl) ?_
    simp only [f_shows]
    have e1 := need_book_spec H.ru hb (k + 1) h
    have e2 := need_set_spec H.ru H.need_set (rs := rs) hy (k + 3) h
    have e3 := is_known_spec H.ru.toHasRules0 H.is_known n4 hb.ok (hb.ok r hm) (k + 2) h
    rw [decide_eq_true hm] at e3
    have e4 := violates_spec H.vi.is_within H.vi.obeys H.vi.remains H.vi.violates n4 (hb.ok r hm) hy (k + 4) h
    rw [hv] at e4
    have is0 : ∀ h, isiV (.str "violated") "str" h = some (.bl true) := fun h => rfl
    rw [wp_cons]
    simp [S.den, E.den, Es.den, startP, e1]
    rw [wp_cons]
    simp [S.den, E.den, Es.den, e2]
    rw [wp_cons]
    simp [S.den, E.den, Es.den, R.T.den, Ts.den, sx0, is0, isiTab]
    rw [wp_cons]
    simp [S.den, E.den, Es.den, putAll]
    rw [wp_cons]
    simp [S.den, E.den, Es.den, Cs.den, sn1, sn2, sn3]
    rw [wp_cons]
    simp [S.den, E.den, Es.den, Es.denB, bools, e3, e4]
    exact fix_same rfl ⟨rfl, rfl⟩
theorem is_settled_spec (H : HasRules T) (h1 : T "need_set" = some f_need_set) (Se : HasSet T) (hT : T "is_settled" = some f_is_settled) {n : Nat} {rs : List Rl} (hb : BookOk n rs) (few : rs.length ≤ 50) {y : List Nat} (hy : SetOk n y) (k : Nat) (h : PH) : call T (k + 7) "is_settled" [eB n rs, eS y] h = .ok (.bl (setB n rs y)) h := by
  rw [call_eq hT]
  refine run_ret rfl ?_
  have e1 := need_book_spec H hb k h
  have e2 := need_set_spec H h1 (rs := rs) hy (k + 2) h
  have e3 := is_settled_in_spec Se hb.n4 hb.ok few hy (k + 1) h
  simp [f_is_settled, Ss.den, S.den, E.den, Es.den, startP, e1, e2, e3]
theorem fits_spec (H : HasShows T) (h1 : T "is_pair" = some f_is_pair) (hT : T "fits" = some f_fits) {n : Nat} {rs : List Rl} (hb : BookOk n rs) {p : Pr2} (hp : PairOk n p) (k : Nat) (h : PH) : call T (k + 7) "fits" [eB n rs, eQ p] h = .ok (.bl (fitB rs p.1 p.2)) h := by
  rw [call_eq hT]
  refine run_ret rfl ?_
  have e1 := need_book_spec H.ru hb k h
  have e2 : call T (k + 6) "is_pair" [.int n, eQ p] h = .ok (.bl true) h := by
    rw [call_eq h1]
    refine run_ret rfl ?_
    have a1 := is_set_spec H.ru.is_integer H.ru.is_atom H.ru.is_set hp.a (k + 2) h
    have a2 := is_set_spec H.ru.is_integer H.ru.is_atom H.ru.is_set hp.b (k + 2) h
    have a3 := is_within_spec H.vi.is_within hb.n4 hp.a hp.b (k + 4) h
    rw [hp.w] at a3
    unfold eQ
    simp [f_is_pair, Ss.den, S.den, E.den, Es.den, Es.denB, bools, R.T.den, Ts.den, startP, isiTab, sx0, sx1, a1, a2, a3]
  simp [f_fits, Ss.den, S.den, E.den, Es.den, Es.denB, bools, R.I.den, R.T.den, startP, wipeP, e1, e2]
  rw [lc_all fun r => PV.bl (fitsP p r)]
  · simp [fitB]
  · intro r hm
    have e := fits_rule_spec' H.vi H.fits_rule hb.n4 hp (hb.ok r hm) (k + 2) h
    simp [e]
end
end R

set_option Elab.async false
set_option linter.all false
set_option maxRecDepth 100000
set_option maxHeartbeats 1000000
/-! Q: sorted lists of pairs of sets -/
namespace R
open PySem PySem.Spec L2
abbrev leV (a b : PV) : Bool := PySem.W.dataLe false PV.dat a b
theorem leV_tr (a b c : PV) (h1 : leV a b = true) (h2 : leV b c = true) : leV a c = true := leT.trans a b c h1 h2
theorem leV_to (a b : PV) : (leV a b || leV b a) = true := by rw [Bool.or_eq_true]; exact leT.total a b
theorem leV_not (a b : PV) : leV a b = !PySem.W.dataLt b.dat a.dat := rfl
theorem leV_ns {a b : PV} (h : leV b a = false) : leV a b = true := by
  have := leV_to a b
  rw [h, Bool.or_false] at this
  exact this
def chB : List PV → Bool
  | [] => true
  | [_] => true
  | a :: b :: l => !leV b a && chB (b :: l)
/-- a chain is an order -/
theorem ch_pw : ∀ {L : List PV}, chB L = true → L.Pairwise fun a b => leV b a = false
  | [], _ => .nil
  | [a], _ => List.pairwise_singleton _ _
  | a :: b :: l, h => by
    rw [chB, Bool.and_eq_true, Bool.not_eq_true'] at h
    have ih := ch_pw h.2
    refine List.pairwise_cons.mpr ⟨fun c hc => ?_, ih⟩
    rcases List.mem_cons.mp hc with rfl | hc
    · exact h.1
    · have h2 := (List.pairwise_cons.mp ih).1 c hc
      cases h3 : leV c a with
      | false => rfl
      | true => rw [leV_tr b c a (leV_ns h2) h3] at h; exact h.1
theorem sort_in {α : Type} {enc : α → PV} {L l : List α} (hL : (L.map enc).Pairwise fun a b => leV b a = false) (nd : l.Nodup) {P : α → Bool} (sub : ∀ a ∈ l, a ∈ L) (hP : ∀ a ∈ L, P a = true ↔ a ∈ l) : (l.map enc).mergeSort (PySem.W.dataLe false PV.dat) = (L.filter P).map enc := by
  have ndL : L.Nodup := by
    have : (L.map enc).Pairwise (· ≠ ·) := hL.imp fun {a b} h e => by
      subst e
      have := leV_to a a
      rw [h] at this
      cases this
    exact List.Pairwise.of_map enc (fun a b h e => h (by rw [e])) this
  have p0 : l.Perm (L.filter P) := by
    rw [List.perm_ext_iff_of_nodup nd (ndL.filter _)]
    intro a
    rw [List.mem_filter]
    exact ⟨fun h => ⟨sub a h, (hP a (sub a h)).mpr h⟩, fun h => (hP a h.1).mp h.2⟩
  have p1 := (List.mergeSort_perm (l.map enc) (PySem.W.dataLe false PV.dat)).trans (p0.map enc)
  have pw : ((L.filter P).map enc).Pairwise fun a b => leV b a = false := hL.sublist (List.filter_sublist.map enc)
  refine p1.eq_of_pairwise (le := fun a b => leV a b = true) (fun a b ha hb h1 h2 => ?_) (List.pairwise_mergeSort leV_tr leV_to _) (pw.imp fun h => leV_ns h)
  have ha' := p1.mem_iff.mp ha
  obtain ⟨i, hi, rfl⟩ := List.getElem_of_mem ha'
  obtain ⟨j, hj, rfl⟩ := List.getElem_of_mem hb
  rw [List.pairwise_iff_getElem] at pw
  rcases Nat.lt_trichotomy i j with c | c | c
  · have := pw i j hi hj c
    rw [h2] at this
    cases this
  · subst c; rfl
  · have := pw j i hj hi c
    rw [h1] at this
    cases this
theorem alike_S (s t : List Nat) : PySem.W.alike (eS s).dat (eS t).dat = true := by
  have key : ∀ s t : List Nat, PySem.W.alikeAll (PV.dats (s.map eN)) (PV.dats (t.map eN)) = true := by
    intro s
    induction s with
    | nil => intro t; simp [PV.dats, PySem.W.alikeAll]
    | cons a s ih =>
      intro t
      cases t with
      | nil => simp [PV.dats, PySem.W.alikeAll]
      | cons b t => simp [PV.dats, PySem.W.alikeAll, ih t, eN, PV.dat, PySem.W.alike]
  unfold eS
  simp only [PV.dat, PySem.W.alike]
  exact key s t
theorem alike_Q (p q : Pr2) : PySem.W.alike (eQ p).dat (eQ q).dat = true := by
  unfold eQ
  simp only [PV.dat, PV.dats, PySem.W.alike, PySem.W.alikeAll, alike_S, Bool.and_self]
theorem fine_Q {n : Nat} (h4 : n ≤ 4) {p : Pr2} (h1 : SetOk n p.1) (h2 : SetOk n p.2) : (eQ p).fine = true :=
  (da_tup (d := 1) (c := 23) (n := 2) (xs := [eS p.1, eS p.2]) (fun x hx => by
    simp only [List.mem_cons, List.not_mem_nil, or_false] at hx
    rcases hx with rfl | rfl
    · exact h1.da h4
    · exact h2.da h4) (by simp)).fine (by decide)
theorem sortV_Q {n : Nat} (h4 : n ≤ 4) {l : List Pr2} (hl : ∀ p ∈ l, SetOk n p.1 ∧ SetOk n p.2) : sortV (l.map eQ) = some ((l.map eQ).mergeSort (PySem.W.dataLe false PV.dat)) := by
  rw [sortV_eq, if_pos]
  rw [Bool.and_eq_true, Bool.and_eq_true]
  refine ⟨⟨?_, ?_⟩, ?_⟩
  · rw [List.all_eq_true]
    intro x hx
    obtain ⟨p, hp, rfl⟩ := List.mem_map.mp hx
    exact fine_Q h4 (hl p hp).1 (hl p hp).2
  · unfold allAlikeB
    rw [List.all_eq_true]
    intro x hx
    rw [List.all_eq_true]
    intro y hy
    obtain ⟨x', hx', rfl⟩ := List.mem_map.mp hx
    obtain ⟨y', hy', rfl⟩ := List.mem_map.mp hy
    obtain ⟨p, _, rfl⟩ := List.mem_map.mp hx'
    obtain ⟨q, _, rfl⟩ := List.mem_map.mp hy'
    exact alike_Q p q
  · unfold sortableB
    rw [Bool.or_eq_true, Bool.or_eq_true]
    refine .inl (.inl ?_)
    rw [List.all_eq_true]
    intro x hx
    obtain ⟨x', hx', rfl⟩ := List.mem_map.mp hx
    obtain ⟨p, _, rfl⟩ := List.mem_map.mp hx'
    simp [eQ, PV.dat, PV.dats, isTupD, emptyT]
/-- all pairs of sets, in their order -/
def prods (n : Nat) : List Pr2 := (sets n).flatMap fun c => (sets n).map fun f => (c, f)
theorem prods_mem {n : Nat} {p : Pr2} : p ∈ prods n ↔ p.1 ∈ sets n ∧ p.2 ∈ sets n := by
  unfold prods
  rw [List.mem_flatMap]
  constructor
  · rintro ⟨c, hc, hp⟩
    obtain ⟨f, hf, rfl⟩ := List.mem_map.mp hp
    exact ⟨hc, hf⟩
  · rintro ⟨h1, h2⟩
    exact ⟨p.1, h1, List.mem_map.mpr ⟨p.2, h2, rfl⟩⟩
theorem prods_ch {n : Nat} (h0 : 0 < n) (h4 : n ≤ 4) : ((prods n).map eQ).Pairwise fun a b => leV b a = false := by
  have : n = 1 ∨ n = 2 ∨ n = 3 ∨ n = 4 := by omega
  refine ch_pw ?_
  rcases this with rfl | rfl | rfl | rfl <;> decide +kernel
theorem allP_ch {n : Nat} (h0 : 0 < n) (h4 : n ≤ 4) : ((allP n).map eQ).Pairwise fun a b => leV b a = false := by
  refine (prods_ch h0 h4).sublist (List.Sublist.map _ ?_)
  unfold allP prods
  have key : ∀ l : List (List Nat), (l.flatMap fun x => ((sets n).filter fun y => within x y).map fun y => (x, y)).Sublist (l.flatMap fun c => (sets n).map fun f => (c, f)) := by
    intro l
    induction l with
    | nil => exact List.Sublist.refl _
    | cons a l ih =>
      rw [List.flatMap_cons, List.flatMap_cons]
      exact (List.filter_sublist.map _).append ih
  exact key _
/-! ### facts alone: kernels that are equal -/
theorem sub_len {n : Nat} (h0 : 0 < n) (h4 : n ≤ 4) {x z : List Nat} (hx : SetOk n x) (hz : SetOk n z) (sub : ∀ a ∈ x, a ∈ z) (ne : z ≠ x) : x.length < z.length := by
  have key : ∀ n, (n = 1 ∨ n = 2 ∨ n = 3 ∨ n = 4) → ((sets n).all fun x => (sets n).all fun z => !within x z || decide (z = x) || decide (x.length < z.length)) = true := by
    intro n hn
    rcases hn with rfl | rfl | rfl | rfl <;> decide +kernel
  have := List.all_eq_true.mp (List.all_eq_true.mp (key n (by omega)) x (sets_all h0 h4 hx)) z (sets_all h0 h4 hz)
  rw [within_iff.mpr sub] at this
  simpa [ne] using this
theorem ker_up {n : Nat} (h0 : 0 < n) (h4 : n ≤ 4) {rs : List Rl} {y : List Nat} (hy : SetOk n y) : ∀ (m : Nat) (x : List Nat), SetOk n x → (∀ a ∈ x, a ∈ y) → x ≠ y → fitB rs x y = true → y.length - x.length ≤ m →
    ∃ z, SetOk n z ∧ (∀ a ∈ z, a ∈ y) ∧ (∀ a ∈ x, a ∈ z) ∧ z ≠ y ∧ kerP n rs (z, y) = true
  | 0, x, hx, sub, ne, ft, hm => by
    have := sub_len h0 h4 hx hy sub (fun e => ne e.symm)
    omega
  | m + 1, x, hx, sub, ne, ft, hm => by
    have po : PairOk n (x, y) := ⟨hx, hy, within_iff.mpr sub⟩
    cases g : greatP (pairsP n rs) (x, y) with
    | true =>
      refine ⟨x, hx, sub, fun a ha => ha, ne, ?_⟩
      unfold kerP
      unfold fitB at ft
      rw [ft, g]
      simp
    | false =>
      have ng : ¬ greatP (pairsP n rs) (x, y) = true := by rw [g]; decide
      rw [great_iff h0 h4 po] at ng
      obtain ⟨z, hz⟩ := Classical.not_forall.mp ng
      simp only [Classical.not_imp] at hz
      obtain ⟨z1, z2, z3, z4, z5, z6⟩ := hz
      have z6 : fitB rs z y = true := by simpa using z6
      have := sub_len h0 h4 hx z1 z3 z4
      obtain ⟨u, u1, u2, u3, u4, u5⟩ := ker_up h0 h4 hy m z z1 z2 z5 z6 (by
        have := sub_len h0 h4 z1 hy z2 (fun e => z5 e.symm)
        omega)
      exact ⟨u, u1, u2, fun a ha => u3 a (z3 a ha), u4, u5⟩
theorem set_ker {n : Nat} (h0 : 0 < n) (h4 : n ≤ 4) {rs : List Rl} (hr : ∀ r ∈ rs, RuleOk n r) {f y : List Nat} (hf : SetOk n f) (hy : SetOk n y) :
    setB n (rs ++ factsP f) y = true ↔ kerP n rs (y, y) = true ∧ (∀ a ∈ f, a ∈ y) ∧ ∀ x, SetOk n x → (∀ a ∈ x, a ∈ y) → (∀ a ∈ f, a ∈ x) → x ≠ y → kerP n rs (x, y) = false := by
  rw [set_facts h4 hr hf hy]
  have e : kerP n rs (y, y) = fitB rs y y := by unfold kerP fitB; simp
  rw [e]
  constructor
  · rintro ⟨h1, h2, h3⟩
    refine ⟨h1, h2, fun x hx sub fx ne => ?_⟩
    have := h3 x hx sub fx ne
    unfold fitB at this
    unfold kerP
    rw [this]
    rfl
  · rintro ⟨h1, h2, h3⟩
    refine ⟨h1, h2, fun x hx sub fx ne => ?_⟩
    cases c : fitB rs x y with
    | false => rfl
    | true =>
      obtain ⟨z, z1, z2, z3, z4, z5⟩ := ker_up h0 h4 hy _ x hx sub ne c (Nat.le_refl _)
      rw [h3 z z1 z2 (fun a ha => z3 a (fx a ha)) z4] at z5
      cases z5
theorem told_no {n : Nat} (h0 : 0 < n) (h4 : n ≤ 4) {rs os : List Rl} (hr : ∀ r ∈ rs, RuleOk n r) (ho : ∀ r ∈ os, RuleOk n r) (e : kernP (pairsP n rs) = kernP (pairsP n os)) {f c : List Nat} (hf : SetOk n f) (hc : SetOk n c) : toldB n rs os f c = false := by
  rw [kern_eq, kern_eq] at e
  have ke : ∀ p, PairOk n p → kerP n rs p = kerP n os p := fun p hp => by
    have m := allP_mem h0 h4 hp
    rw [Bool.eq_iff_iff]
    constructor
    · intro h
      have : p ∈ (allP n).filter (kerP n rs) := List.mem_filter.mpr ⟨m, h⟩
      rw [e] at this
      exact (List.mem_filter.mp this).2
    · intro h
      have : p ∈ (allP n).filter (kerP n os) := List.mem_filter.mpr ⟨m, h⟩
      rw [← e] at this
      exact (List.mem_filter.mp this).2
  have key : ∀ {rs os : List Rl}, (∀ r ∈ rs, RuleOk n r) → (∀ r ∈ os, RuleOk n r) → (∀ p, PairOk n p → kerP n rs p = kerP n os p) → setB n (rs ++ factsP f) c = true → setB n (os ++ factsP f) c = true := fun {rs os} hr ho ke h => by
    rw [set_ker h0 h4 ho hf hc]
    obtain ⟨h1, h2, h3⟩ := (set_ker h0 h4 hr hf hc).mp h
    refine ⟨by rw [← ke _ ⟨hc, hc, within_iff.mpr fun a ha => ha⟩]; exact h1, h2, fun x hx sub fx ne => ?_⟩
    rw [← ke _ ⟨hx, hc, within_iff.mpr sub⟩]
    exact h3 x hx sub fx ne
  unfold toldB
  have : setB n (rs ++ factsP f) c = setB n (os ++ factsP f) c := Bool.eq_iff_iff.mpr ⟨key hr ho ke, key ho hr fun p hp => (ke p hp).symm⟩
  rw [this]
  simp
end R

set_option Elab.async false
set_option linter.all false
set_option maxRecDepth 100000
set_option maxHeartbeats 0
namespace HD
open PySem PySem.Spec PyProof.Rows L2 R
abbrev Pr : Program := PySem.Challenge.pw_defaultswaps_k37_whole_facts_alone
def n_is_integer : List Str := ["thing"]
def n_is_atoms : List Str := ["thing"]
def n_is_atom : List Str := ["atoms", "thing"]
def n_is_set : List Str := ["atoms", "thing", "one", "other"]
def n_are_rule_parts : List Str := ["atoms", "thing"]
def n_is_rulebook : List Str := ["thing", "rule"]
def n_need_book : List Str := ["book"]
def n_need_set : List Str := ["book", "chosen"]
def n_is_within : List Str := ["some", "others", "one"]
def n_sets_of : List Str := ["atoms", "found", "atom", "old"]
def n_remains : List Str := ["rule", "chosen", "atom"]
def n_obeys : List Str := ["chosen", "rule"]
def n_violates : List Str := ["chosen", "rule"]
def n_least_of : List Str := ["rules", "chosen", "some", "rule", "found", "more"]
def n_all_pairs : List Str := ["atoms", "some", "small", "great"]
def n_fits_rule : List Str := ["pair", "rule", "small", "great"]
def n_marks_of : List Str := ["atoms", "rule", "place", "pair"]
def n_marks_of_all : List Str := ["atoms", "rules", "found", "rule"]
def n_pairs_in : List Str := ["atoms", "marks", "place", "pair"]
def n_pairs_of : List Str := ["atoms", "rules"]
def n_is_pair : List Str := ["atoms", "thing"]
def n_violated_in : List Str := ["rules", "chosen", "rule"]
def n_is_settled_in : List Str := ["rules", "chosen"]
def n_settled_sets : List Str := ["atoms", "rules", "chosen"]
def n_need_books : List Str := ["books", "book"]
def n_facts_of : List Str := ["members", "atom"]
def n_is_greatest : List Str := ["found", "small", "great", "other", "wide"]
def n_kernel_of : List Str := ["atoms", "rules", "found", "pair"]
def n_is_told : List Str := ["one", "other", "facts", "chosen", "some"]
def n_compare_by_facts : List Str := ["one", "other", "first", "second", "some", "found", "chosen", "facts"]
def n_shows_by_facts : List Str := ["one", "other", "thing", "atoms", "known", "pair"]
def n_settled_with : List Str := ["book", "facts"]
def n__law_cell : List Str := ["_law_script", "_law_index"]
def n__law_source : List Str := ["_law_cell_here"]
def n__law_draw : List Str := ["_law_supply", "_law_many", "_law_found", "_law_mixed"]
def n__law_choose : List Str := ["_law_supply", "_law_values"]
def n__law_is_equal : List Str := ["_law_actual", "_law_due"]
def n__law_sets : List Str := ["_law_atoms_here", "_law_found", "_law_atom", "_law_chosen"]
def n__law_joined : List Str := ["_law_rules_here", "_law_others", "_law_rule_here"]
def n__law_part : List Str := ["_law_supply", "_law_atoms_here", "_law_rate", "_law_atom"]
def n__law_rule : List Str := ["_law_supply", "_law_atoms_here", "_law_head"]
def n__law_rules : List Str := ["_law_supply", "_law_atoms_here", "_law_most", "_law_found", "_law_lap", "_law_rule_here"]
def n__law_atoms : List Str := ["_law_supply"]
def n__law_twin : List Str := ["_law_supply", "_law_atoms_here", "_law_rules_here", "_law_way", "_law_at", "_law_head", "_law_holds", "_law_fails", "_law_short", "_law_atom"]
def n__law_two : List Str := ["_law_supply", "_law_atoms_here", "_law_rules_here"]
def n__law_told : List Str := ["_law_one", "_law_other", "_law_found", "_law_members", "_law_first", "_law_second", "_law_chosen"]
def f__law_told : Fn := { np := 2, ns := 7, keep := false, body :=
    (.cons (.asg (.name 2) (.lst true .nil))
    (.cons (.for_ (.name 3) (.seq (.call "_law_sets" (.cons (.idx (.var 0) (.con (.int 0))) .nil)))
    (.cons (.asg (.tup [4, 5]) (.tup (.cons (.call "settled_with" (.cons (.var 0) (.cons (.var 3) .nil))) (.cons (.call "settled_with" (.cons (.var 1) (.cons (.var 3) .nil))) .nil))))
    (.cons (.ex (.mth .extend (.var 2) (.cons (.lc false [6] (.name 6) (.seq (.bin .add (.var 4) (.var 5))) (.cmp .ne (.cmp .inn (.var 6) (.var 4)) (.cmp .inn (.var 6) (.var 5))) (.tup (.cons (.var 6) (.cons (.var 3) .nil)))) .nil)))
    .nil)))
    (.cons (.ret (.blt .sorted (.cons (.var 2) .nil)))
    .nil))) }
def n__law_right : List Str := ["_law_one", "_law_other", "_law_told_here", "_law_found"]
def f__law_right_v4 : Fn := { np := 2, ns := 4, keep := false, body :=
    (.cons (.par 2 3 (.call "compare_by_facts" (.cons (.var 0) (.cons (.var 1) .nil))) (.call "_law_told" (.cons (.var 0) (.cons (.var 1) .nil))))
    (.cons (.ite (.or (.cons (.cmp .ne (.cmp .eq (.idx (.var 2) (.con (.int 0))) (.con (.str "same"))) (.cmp .eq (.var 3) (.lst false .nil))) (.cons (.cmp .notN (.call "shows_by_facts" (.cons (.var 0) (.cons (.var 1) (.cons (.var 2) .nil)))) (.con (.bl true))) .nil)))
    (.cons (.ret (.con (.bl false)))
    .nil)
    .nil)
    (.cons (.ite (.cmp .eq (.var 3) (.lst false .nil))
    (.cons (.ret (.con (.bl true)))
    .nil)
    .nil)
    (.cons (.ret (.call "_law_is_equal" (.cons (.var 2) (.cons (.tup (.cons (.con (.str "differ")) (.cons (.idx (.idx (.var 3) (.con (.int 0))) (.con (.int 1))) (.cons (.idx (.idx (.var 3) (.con (.int 0))) (.con (.int 0))) .nil)))) .nil))))
    .nil)))) }
def n_law : List Str := ["_law_script", "_law_k", "_law_supply", "_law_lap", "_law_atoms_here", "_law_one", "_law_other"]
def f_law : Fn := { np := 1, ns := 7, keep := false, body :=
    (.cons (.for_ (.name 1) (.rng (.blt .max (.cons (.con (.int 1)) (.cons (.blt .min (.cons (.blt .len (.cons (.var 0) .nil)) (.cons (.con (.int 3)) .nil))) .nil))))
    (.cons (.asg (.name 2) (.call "_law_source" (.cons (.call "_law_cell" (.cons (.var 0) (.cons (.var 1) .nil))) .nil)))
    (.cons (.for_ (.name 3) (.rng (.con (.int 5)))
    (.cons (.asg (.tup [4, 5, 6]) (.call "_law_two" (.cons (.var 2) .nil)))
    (.cons (.ite (.not (.val (.call "_law_right" (.cons (.tup (.cons (.var 4) (.cons (.var 5) .nil))) (.cons (.tup (.cons (.var 4) (.cons (.var 6) .nil))) .nil)))))
    (.cons (.ret (.con (.bl false)))
    .nil)
    .nil)
    .nil)))
    .nil)))
    (.cons (.ret (.con (.bl true)))
    .nil)) }
def rows0 : List R.Row := [⟨"is_integer", n_is_integer, f_is_integer⟩, ⟨"is_atoms", n_is_atoms, f_is_atoms⟩, ⟨"is_atom", n_is_atom, f_is_atom⟩, ⟨"is_set", n_is_set, f_is_set⟩, ⟨"are_rule_parts", n_are_rule_parts, f_are_rule_parts⟩, ⟨"is_rulebook", n_is_rulebook, f_is_rulebook⟩, ⟨"need_book", n_need_book, f_need_book⟩, ⟨"need_set", n_need_set, f_need_set⟩, ⟨"is_within", n_is_within, f_is_within⟩, ⟨"sets_of", n_sets_of, f_sets_of⟩, ⟨"remains", n_remains, f_remains⟩, ⟨"obeys", n_obeys, f_obeys⟩, ⟨"violates", n_violates, f_violates⟩, ⟨"least_of", n_least_of, f_least_of⟩, ⟨"all_pairs", n_all_pairs, f_all_pairs⟩, ⟨"fits_rule", n_fits_rule, f_fits_rule⟩, ⟨"marks_of", n_marks_of, f_marks_of⟩, ⟨"marks_of_all", n_marks_of_all, f_marks_of_all⟩, ⟨"pairs_in", n_pairs_in, f_pairs_in⟩, ⟨"pairs_of", n_pairs_of, f_pairs_of⟩]
def rows1 : List R.Row := [⟨"is_pair", n_is_pair, f_is_pair⟩, ⟨"violated_in", n_violated_in, f_violated_in⟩, ⟨"is_settled_in", n_is_settled_in, f_is_settled_in⟩, ⟨"settled_sets", n_settled_sets, f_settled_sets⟩, ⟨"need_books", n_need_books, f_need_books⟩, ⟨"facts_of", n_facts_of, f_facts_of⟩, ⟨"is_greatest", n_is_greatest, f_is_greatest⟩, ⟨"kernel_of", n_kernel_of, f_kernel_of⟩, ⟨"is_told", n_is_told, f_is_told_v2⟩, ⟨"compare_by_facts", n_compare_by_facts, f_compare_by_facts⟩, ⟨"shows_by_facts", n_shows_by_facts, f_shows_by_facts⟩, ⟨"settled_with", n_settled_with, f_settled_with⟩, ⟨"_law_cell", n__law_cell, f__law_cell⟩, ⟨"_law_source", n__law_source, f__law_source⟩, ⟨"_law_draw", n__law_draw, f__law_draw⟩, ⟨"_law_choose", n__law_choose, f__law_choose⟩, ⟨"_law_is_equal", n__law_is_equal, f__law_is_equal⟩, ⟨"_law_sets", n__law_sets, f__law_sets⟩, ⟨"_law_joined", n__law_joined, f__law_joined⟩, ⟨"_law_part", n__law_part, f__law_part⟩]
def rows2 : List R.Row := [⟨"_law_rule", n__law_rule, f__law_rule_v2⟩, ⟨"_law_rules", n__law_rules, f__law_rules⟩, ⟨"_law_atoms", n__law_atoms, f__law_atoms⟩, ⟨"_law_twin", n__law_twin, f__law_twin⟩, ⟨"_law_two", n__law_two, f__law_two⟩, ⟨"_law_told", n__law_told, f__law_told⟩, ⟨"_law_right", n__law_right, f__law_right_v4⟩, ⟨"law", n_law, f_law⟩]
def rows : List R.Row := rows0 ++ rows1 ++ rows2
def blts : List Str := ["all", "any", "bool", "enumerate", "int", "isinstance", "len", "max", "min", "range", "repr", "set", "sorted", "str", "sum", "tuple", "zip"]
def cons : List (Str × SC) := [("MOST_ATOMS", (.int 4)), ("MOST_RULES", (.int 100)), ("SAME", (.str "same")), ("DIFFER", (.str "differ"))]
def mkD (st : Stmt) : Option He.DefD := match st with
  | .FunctionDef name args body _ _ _ scope _ _ _ => if rows.any (fun r => r.f == name) then some ⟨(name, none), name, name, args, body, scope, [], []⟩ else none
  | _ => none
def fn : List He.DefD := Pr.main.body.filterMap mkD
def fa0 : List He.Fa := [.glo "is_integer", .glo "is_atoms", .glo "is_atom", .glo "is_set", .glo "are_rule_parts", .glo "is_rulebook", .glo "need_book", .glo "need_set", .glo "is_within", .glo "sets_of", .glo "remains", .glo "obeys", .glo "violates", .glo "least_of", .glo "all_pairs", .glo "fits_rule", .glo "marks_of", .glo "marks_of_all", .glo "pairs_in", .glo "pairs_of"]
def fa1 : List He.Fa := [.glo "is_pair", .glo "violated_in", .glo "is_settled_in", .glo "settled_sets", .glo "need_books", .glo "facts_of", .glo "is_greatest", .glo "kernel_of", .glo "is_told", .glo "compare_by_facts", .glo "shows_by_facts", .glo "settled_with", .glo "_law_cell", .glo "_law_source", .glo "_law_draw", .glo "_law_choose", .glo "_law_is_equal", .glo "_law_sets", .glo "_law_joined", .glo "_law_part"]
def fa2 : List He.Fa := [.glo "_law_rule", .glo "_law_rules", .glo "_law_atoms", .glo "_law_twin", .glo "_law_two", .glo "_law_told", .glo "_law_right", .glo "law", .free "all", .free "any", .free "bool", .free "enumerate", .free "int", .free "isinstance", .free "len", .free "max", .free "min", .free "range", .free "repr", .free "set"]
def fa3 : List He.Fa := [.free "sorted", .free "str", .free "sum", .free "tuple", .free "zip", .int "MOST_ATOMS" 4, .int "MOST_RULES" 100, .str "SAME" "same", .str "DIFFER" "differ"]
def fa : List He.Fa := fa0 ++ fa1 ++ fa2 ++ fa3
abbrev Rw : PySem.W.OpenRow := PySem.W.OpenLaw.row PySem.Challenge.rw_defaultswaps_k37_whole_facts_alone
abbrev hk : PySem.W.Hook := He.hookD 4 fa fn
def ob (s : PySem.W.SharedT) : He.AlD := He.obsDG 4 fa fn (HandSHeadRun.getT s)
theorem ob_eq (s : PySem.W.SharedT) : ob s = hk.obs s.abs := He.obsDG_eq (HandSHeadRun.getT_eq s)
def lo0 : List Str := ["SwapError", "BookError", "SetError", "MatchError", "MOST_ATOMS", "MOST_RULES", "is_integer", "is_atoms", "is_atom", "is_set", "are_rule_parts", "is_rulebook", "need_book", "need_set", "is_within", "sets_of", "remains", "obeys", "violates", "least_of", "all_pairs", "fits_rule", "marks_of", "marks_of_all", "pairs_in", "pairs_of", "is_pair", "violated_in", "is_settled_in", "settled_sets"]
def lo1 : List Str := ["SAME", "DIFFER", "need_books", "facts_of", "is_greatest", "kernel_of", "is_told", "compare_by_facts", "shows_by_facts", "settled_with", "_law_cell", "_law_source", "_law_draw", "_law_choose", "_law_is_equal", "_law_sets", "_law_joined", "_law_part", "_law_rule", "_law_rules", "_law_atoms", "_law_twin", "_law_two", "_law_told", "_law_right"]
def loose : List Str := lo0 ++ lo1
theorem run (w : World) : HandSHeadRun.RunEq Rw (PySem.W.view Rw.prog [62]) hk ob 6000 loose w := by
  intro os
  kernel_rfl
theorem rows_ok : rowsB (ccOf rows blts cons) fa fn rows = true := by decide +kernel
theorem blt_ok : bltB (ccOf rows blts cons) fa = true := by decide +kernel
end HD
set_option Elab.async false
set_option linter.all false
set_option maxRecDepth 100000
set_option maxHeartbeats 1000000
namespace LW
open PySem PySem.Spec L2 R HD
abbrev Tb : Tab := tabOf rows
theorem hR : HasRules Tb := ⟨⟨rfl, rfl, rfl, rfl, rfl, rfl⟩, rfl⟩
theorem hD : HasDraws2 Tb := ⟨⟨rfl, rfl, rfl, rfl, rfl⟩, rfl⟩
theorem hT : HasTwins Tb := ⟨hD.toHasDraws0, rfl, rfl⟩
theorem hP : HasPairs Tb := ⟨rfl, rfl, rfl, rfl, rfl, rfl, rfl, rfl, rfl⟩
theorem hL : HasLeast Tb := ⟨rfl, rfl, rfl, rfl⟩
theorem hS : HasSet Tb := ⟨⟨hL, rfl, rfl⟩, rfl⟩
theorem head_flat {α β : Type} {g : α → List β} {l : List α} {i : Nat} {a : α} (hi : l[i]? = some a) (h0 : (l.take i).flatMap g = []) {b : β} {t : List β} (hg : g a = b :: t) : (l.flatMap g).head? = some b := by
  obtain ⟨h1, h2⟩ := List.getElem?_eq_some_iff.mp hi
  have e : l = l.take i ++ a :: l.drop (i + 1) := by
    conv => lhs; rw [← List.take_append_drop i l]
    rw [List.drop_eq_getElem_cons h1, h2]
  rw [e, List.flatMap_append, h0, List.flatMap_cons, hg]
  rfl
theorem head_filter {α : Type} {P : α → Bool} {l : List α} {i : Nat} {a : α} (hi : l[i]? = some a) (h0 : (l.take i).filter P = []) (hP : P a = true) : ∃ t, l.filter P = a :: t := by
  obtain ⟨h1, h2⟩ := List.getElem?_eq_some_iff.mp hi
  have e : l = l.take i ++ a :: l.drop (i + 1) := by
    conv => lhs; rw [← List.take_append_drop i l]
    rw [List.drop_eq_getElem_cons h1, h2]
  refine ⟨(l.drop (i + 1)).filter P, ?_⟩
  conv => lhs; rw [e]
  rw [List.filter_append, h0, List.filter_cons_of_pos hP]
  rfl
noncomputable def foundL (n : Nat) (rs os : List Rl) : List Pr2 := (sets n).flatMap fun c => ((sets n).filter fun f => toldB n rs os f c).map fun f => (f, c)
noncomputable def byV (n : Nat) (rs os : List Rl) : PV :=
  if kernP (pairsP n rs) = kernP (pairsP n os) then .tup [.str "same", eT (kernP (pairsP n rs))]
  else match (foundL n rs os).head? with
    | none => .non
    | some p => .tup [.str "differ", eS p.1, eS p.2]
theorem byV_eq {n : Nat} {rs os : List Rl} (c : kernP (pairsP n rs) = kernP (pairsP n os)) : byV n rs os = .tup [.str "same", eT (kernP (pairsP n rs))] := by unfold byV; rw [if_pos c]
theorem byV_ne {n : Nat} {rs os : List Rl} (c : ¬ kernP (pairsP n rs) = kernP (pairsP n os)) {p : Pr2} (hp : (foundL n rs os).head? = some p) : byV n rs os = .tup [.str "differ", eS p.1, eS p.2] := by unfold byV; rw [if_neg c, hp]
theorem byV_comm (n : Nat) (rs os : List Rl) : byV n rs os = byV n os rs := by
  have e : foundL n rs os = foundL n os rs := by
    unfold foundL
    congr 1
    funext c
    congr 2
    funext f
    exact told_comm n rs os f c
  unfold byV
  rw [e]
  by_cases c : kernP (pairsP n rs) = kernP (pairsP n os)
  · rw [if_pos c, if_pos c.symm, c]
  · rw [if_neg c, if_neg fun z => c z.symm]
theorem kern_ok {n : Nat} (h0 : 0 < n) (h4 : n ≤ 4) {rs : List Rl} : ∀ p ∈ kernP (pairsP n rs), PairOk n p := fun p hp => allP_ok h0 h4 (List.mem_filter.mp (List.mem_filter.mp hp).1).1
theorem kern_len {n : Nat} (h0 : 0 < n) (h4 : n ≤ 4) {rs : List Rl} : (kernP (pairsP n rs)).length ≤ 81 := Nat.le_trans (List.length_filter_le _ _) (Nat.le_trans (List.length_filter_le _ _) (allP_len h0 h4))
theorem found_ok {n : Nat} (h0 : 0 < n) (h4 : n ≤ 4) {rs os : List Rl} {p : Pr2} (hp : p ∈ foundL n rs os) : SetOk n p.1 ∧ SetOk n p.2 := by
  obtain ⟨c, hc, hm⟩ := List.mem_flatMap.mp hp
  obtain ⟨f, hf, rfl⟩ := List.mem_map.mp hm
  exact ⟨sets_ok h0 h4 f (List.mem_filter.mp hf).1, sets_ok h0 h4 c hc⟩
theorem is_told_spec {n : Nat} {rs os : List Rl} (hb : BookOk n rs) (ho : BookOk n os) (l1 : rs.length ≤ 40) (l2 : os.length ≤ 40) {f c : List Nat} (hf : SetOk n f) (hc : SetOk n c) (k : Nat) (h : PH) : call Tb (k + 6) "is_told" [eB n rs, eB n os, eS f, eS c] h = .ok (.bl (toldB n rs os f c)) h := by
  rw [call_eq (fn := f_is_told_v2) rfl]
  refine run_ret rfl ?_
  have n4 := hb.n4
  have lf := hf.len
  have e1 := facts_of_spec (T := Tb) rfl f (k + 4) h
  have e2 := add_Rs rs (factsP f) (by simp [factsP]; omega)
  have e3 := add_Rs os (factsP f) (by simp [factsP]; omega)
  have e4 := is_settled_in_spec hS n4 (app_ok hb.ok hf) (by simp [factsP]; omega) hc k h
  have e5 := is_settled_in_spec hS n4 (app_ok ho.ok hf) (by simp [factsP]; omega) hc k h
  simp [f_is_told_v2, Ss.den, S.den, E.den, Es.den, startP, e1, e2, e3, e4, e5, toldB]
theorem by_facts_spec {n : Nat} {rs os : List Rl} (hb : BookOk n rs) (ho : BookOk n os) (l1 : rs.length ≤ 40) (l2 : os.length ≤ 40) (k : Nat) (h : PH) : call Tb (k + 9) "compare_by_facts" [eB n rs, eB n os] h = .ok (byV n rs os) h := by
  have n0 := hb.n1
  have n4 := hb.n4
  refine wp_same (Q := fun _ _ => True) ?_
  rw [call_eq (fn := f_compare_by_facts) rfl]
  refine run_wp (by rfl) ?_
  simp only [f_compare_by_facts]
  have sz2 : (2 : Nat) ≤ sizeLine := by decide
  have sz3 : (3 : Nat) ≤ sizeLine := by decide
  have e0 := need_books_spec hR.toHasRules0 (T := Tb) rfl (bs := [rs, os]) (n := n) (fun q hq => by
    simp only [List.mem_cons, List.not_mem_nil, or_false] at hq
    rcases hq with rfl | rfl <;> assumption) (by simp) (by simp) (k + 2) h
  simp only [List.map_cons, List.map_nil] at e0
  have e1 := kernel_of_spec hP (T := Tb) rfl rfl rfl rfl n0 n4 hb.ok k h
  have e2 := kernel_of_spec hP (T := Tb) rfl rfl rfl rfl n0 n4 ho.ok k h
  have ee := (eq_T n4 (kern_ok (rs := rs) n0 n4) (kern_ok (rs := os) n0 n4)).1
  have e3 := sets_of_spec (T := Tb) rfl n0 n4 (k + 7) h
  rw [wp_cons]
  simp [S.den, E.den, Es.den, startP, e0]
  rw [wp_cons]
  simp [S.den, E.den, Es.den, e1, e2]
  rw [wp_cons]
  by_cases c : kernP (pairsP n rs) = kernP (pairsP n os)
  · rw [byV_eq c]
    rw [c] at ee
    simp [S.den, E.den, R.T.den, ee, c]
    rw [wp_cons]
    simp [S.den, E.den, Es.den, sz2]
    exact fix_same rfl ⟨rfl, rfl⟩
  · simp [S.den, E.den, R.T.den, ee, c]
    rw [wp_cons]
    simp [S.den, E.den, Es.den, e3]
    rw [wp_cons]
    simp [S.den, E.den, Es.den, R.I.den, R.T.den, wipeP]
    rw [lc_flat fun x => ((sets n).filter fun f => toldB n rs os f x).map fun f => eQ (f, x)]
    · have e : ((sets n).flatMap fun x => ((sets n).filter fun f => toldB n rs os f x).map fun f => eQ (f, x)) = (foundL n rs os).map eQ := by
        unfold foundL
        rw [List.map_flatMap]
        simp [Function.comp_def]
      have hz : ((foundL n rs os).map eQ).length ≤ sizeLine := by
        have key : ∀ l : List (List Nat), (l.flatMap fun c => ((sets n).filter fun f => toldB n rs os f c).map fun f => (f, c)).length ≤ l.length * 16 := by
          intro l
          induction l with
          | nil => simp
          | cons a l ih =>
            rw [List.flatMap_cons, List.length_append, List.length_cons, Nat.succ_mul, List.length_map]
            have := List.length_filter_le (fun f => toldB n rs os f a) (sets n)
            have := sets_len n0 n4
            omega
        have := key (sets n)
        have := sets_len n0 n4
        rw [List.length_map, sizeLine_eq]
        unfold foundL
        omega
      obtain ⟨cc, hcc, f, hf, tt⟩ := told_ex n0 n4 hb.ok ho.ok c
      have ne : foundL n rs os ≠ [] := fun z => by
        have : (f, cc) ∈ foundL n rs os := List.mem_flatMap.mpr ⟨cc, hcc, List.mem_map.mpr ⟨f, List.mem_filter.mpr ⟨hf, tt⟩, rfl⟩⟩
        rw [z] at this
        cases this
      rw [e]
      simp only [Res.nox_ok, Res.bind_ok, hz, if_true, Res.out_ok]
      cases hl : foundL n rs os with
      | nil => exact absurd hl ne
      | cons p l =>
        rw [byV_ne c (p := p) (by rw [hl]; rfl)]
        have a0 : atI ((p :: l).map eQ) (0 : Int) = some (eQ p) := atI_nat (j := 0) (by simp)
        simp only [List.map_cons] at a0
        have sq : seqV (eQ p) = some [eS p.1, eS p.2] := rfl
        simp
        rw [wp_cons]
        simp [S.den, E.den, Es.den, idxV, a0, sq, sz3]
        exact fix_same rfl ⟨rfl, rfl⟩
    · intro x hx
      rw [lc_some (fun f => toldB n rs os f x) fun f => eQ (f, x)]
      intro f hf
      have e := is_told_spec hb ho l1 l2 (sets_ok n0 n4 f hf) (sets_ok n0 n4 x hx) (k + 2) h
      cases c : toldB n rs os f x <;> simp [e, c, sz2, eQ]
theorem da_str {d : Nat} {x : Str} (h1 : (PyData.str x).canLay0 = true) (h2 : (PyData.str x).showable = true) {c : Nat} (h3 : (PyData.str x).shown.length ≤ c) : Da d c (.str x) := ⟨rfl, h1, Nat.zero_le _, h2, h3⟩
theorem da_by {n : Nat} {rs os : List Rl} (h0 : 0 < n) (h4 : n ≤ 4) : Da 5 20000 (byV n rs os) := by
  have s1 : Da 4 5000 (.str "same") := da_str (by decide +kernel) (by decide +kernel) (by decide +kernel)
  have s2 : Da 4 5000 (.str "differ") := da_str (by decide +kernel) (by decide +kernel) (by decide +kernel)
  unfold byV
  split
  · have := da_tup (d := 4) (c := 5000) (n := 2) (xs := [.str "same", eT (kernP (pairsP n rs))]) (fun x hx => by
      simp only [List.mem_cons, List.not_mem_nil, or_false] at hx
      rcases hx with rfl | rfl
      · exact s1
      · exact (da_T h4 (kern_ok h0 h4) (kern_len h0 h4)).mono (by decide) (by decide)) (by simp)
    exact this.mono (by decide) (by decide)
  · split
    · exact (da_non (d := 0)).mono (by decide) (by decide)
    · rename_i p hp
      have po := found_ok h0 h4 (List.mem_of_mem_head? hp)
      have := da_tup (d := 4) (c := 5000) (n := 3) (xs := [.str "differ", eS p.1, eS p.2]) (fun x hx => by
        simp only [List.mem_cons, List.not_mem_nil, or_false] at hx
        rcases hx with rfl | rfl | rfl
        · exact s2
        · exact (po.1.da h4).mono (by decide) (by decide)
        · exact (po.2.da h4).mono (by decide) (by decide)) (by simp)
      exact this.mono (by decide) (by decide)

theorem is_pair_spec {n : Nat} (h4 : n ≤ 4) {p : Pr2} (hp : PairOk n p) (k : Nat) (h : PH) : call Tb (k + 4) "is_pair" [.int n, eQ p] h = .ok (.bl true) h := by
  rw [call_eq (fn := f_is_pair) rfl]
  refine run_ret rfl ?_
  have e1 := is_set_spec (T := Tb) rfl rfl rfl hp.a k h
  have e2 := is_set_spec (T := Tb) rfl rfl rfl hp.b k h
  have e3 := is_within_spec (T := Tb) rfl h4 hp.a hp.b (k + 2) h
  have q0 : idxV (eQ p) (.int 0) h = some (eS p.1) := atI_nat (xs := [eS p.1, eS p.2]) (j := 0) (by simp)
  have q1 : idxV (eQ p) (.int 1) h = some (eS p.2) := atI_nat (xs := [eS p.1, eS p.2]) (j := 1) (by simp)
  have ti : tyName (eQ p) h = some "tuple" := rfl
  have tl : lenV (eQ p) h = some (.int 2) := rfl
  have w : within p.1 p.2 = true := hp.w
  simp [f_is_pair, Ss.den, S.den, E.den, Es.den, Es.denB, bools, R.T.den, Ts.den, startP, isiV, ti, tl, isiTab, q0, q1, e1, e2, e3, w]
theorem settled_with_spec {n : Nat} {rs : List Rl} (hb : BookOk n rs) (l1 : rs.length ≤ 40) {f : List Nat} (hf : SetOk n f) (k : Nat) (h : PH) : call Tb (k + 7) "settled_with" [eB n rs, eS f] h = .ok (eSs (setsP n (rs ++ factsP f))) h := by
  rw [call_eq (fn := f_settled_with) rfl]
  refine run_ret rfl ?_
  have n4 := hb.n4
  have n0 := hb.n1
  have lf := hf.len
  have e0 := need_book_spec hR hb k h
  have e9 := need_set_spec hR (T := Tb) rfl (rs := rs) hf (k + 2) h
  have e1 := facts_of_spec (T := Tb) rfl f (k + 5) h
  have e2 := add_Rs rs (factsP f) (by simp [factsP]; omega)
  have e4 := settled_sets_spec hS (T := Tb) rfl rfl n0 n4 (app_ok hb.ok hf) (by simp [factsP]; omega) k h
  simp [f_settled_with, Ss.den, S.den, E.den, Es.den, startP, e0, e9, e1, e2, e4]
  rfl
/-- what _law_told finds -/
noncomputable def toldL (n : Nat) (rs os : List Rl) : List Pr2 := (prods n).filter fun p => toldB n rs os p.2 p.1
theorem toldL_swap (n : Nat) (rs os : List Rl) : (toldL n rs os).map (fun p => (p.2, p.1)) = foundL n rs os := by
  unfold toldL foundL prods
  rw [List.filter_flatMap, List.map_flatMap]
  congr 1
  funext c
  rw [List.filter_map, List.map_map]
  congr 1
noncomputable def rowL (n : Nat) (rs os : List Rl) (f : List Nat) : List Pr2 := ((setsP n (rs ++ factsP f) ++ setsP n (os ++ factsP f)).filter fun c => !decide (decide (c ∈ setsP n (rs ++ factsP f)) = decide (c ∈ setsP n (os ++ factsP f)))).map fun c => (c, f)
theorem sets_nd {n : Nat} (h0 : 0 < n) (h4 : n ≤ 4) : (sets n).Nodup := by
  have : n = 1 ∨ n = 2 ∨ n = 3 ∨ n = 4 := by omega
  rcases this with rfl | rfl | rfl | rfl <;> decide +kernel
theorem mem_setsP {n : Nat} {rs : List Rl} {c : List Nat} : c ∈ setsP n rs ↔ c ∈ sets n ∧ setB n rs c = true := List.mem_filter
theorem dmem {n : Nat} {rs : List Rl} {c : List Nat} (hc : c ∈ sets n) : decide (c ∈ setsP n rs) = setB n rs c := by
  rw [Bool.eq_iff_iff, decide_eq_true_eq]
  exact ⟨fun h => (mem_setsP.mp h).2, fun h => mem_setsP.mpr ⟨hc, h⟩⟩
theorem rowL_mem {n : Nat} (h0 : 0 < n) (h4 : n ≤ 4) {rs os : List Rl} {f : List Nat} {p : Pr2} : p ∈ rowL n rs os f ↔ p.2 = f ∧ p.1 ∈ sets n ∧ toldB n rs os f p.1 = true := by
  unfold rowL toldB
  rw [List.mem_map]
  constructor
  · rintro ⟨c, hc, rfl⟩
    rw [List.mem_filter, List.mem_append] at hc
    obtain ⟨h1, h2⟩ := hc
    have hs : c ∈ sets n := h1.elim (fun h => (mem_setsP.mp h).1) fun h => (mem_setsP.mp h).1
    refine ⟨rfl, hs, ?_⟩
    rw [dmem hs, dmem hs] at h2
    exact h2
  · rintro ⟨rfl, hs, h2⟩
    refine ⟨p.1, ?_, rfl⟩
    rw [List.mem_filter, List.mem_append]
    refine ⟨?_, by rw [dmem hs, dmem hs]; exact h2⟩
    cases c1 : setB n (rs ++ factsP p.2) p.1 with
    | true => exact .inl (mem_setsP.mpr ⟨hs, c1⟩)
    | false =>
      cases c2 : setB n (os ++ factsP p.2) p.1 with
      | true => exact .inr (mem_setsP.mpr ⟨hs, c2⟩)
      | false => rw [c1, c2] at h2; cases h2
theorem rowL_nd {n : Nat} (h0 : 0 < n) (h4 : n ≤ 4) {rs os : List Rl} {f : List Nat} : (rowL n rs os f).Nodup := by
  unfold rowL
  have nd : ∀ rs, (setsP n rs).Nodup := fun rs => (sets_nd h0 h4).filter _
  refine List.Pairwise.map _ (S := (· ≠ ·)) (R := (· ≠ ·)) (fun a b h e => h (by cases e; rfl)) ?_
  rw [List.filter_append]
  refine List.nodup_append.mpr ⟨(nd _).filter _, (nd _).filter _, fun a ha b hb e => ?_⟩
  subst e
  obtain ⟨a1, a2⟩ := List.mem_filter.mp ha
  obtain ⟨b1, _⟩ := List.mem_filter.mp hb
  rw [decide_eq_true a1, decide_eq_true b1] at a2
  cases a2
theorem found_nd {n : Nat} (h0 : 0 < n) (h4 : n ≤ 4) {rs os : List Rl} : ∀ l : List (List Nat), l.Nodup → (l.flatMap (rowL n rs os)).Nodup
  | [], _ => by simp
  | f :: l, h => by
    rw [List.flatMap_cons, List.nodup_append]
    have h2 := List.nodup_cons.mp h
    refine ⟨rowL_nd h0 h4, found_nd h0 h4 l h2.2, fun a ha b hb e => ?_⟩
    subst e
    obtain ⟨g, hg, hb⟩ := List.mem_flatMap.mp hb
    have e1 := ((rowL_mem h0 h4).mp ha).1
    have e2 := ((rowL_mem h0 h4).mp hb).1
    rw [e1] at e2
    subst e2
    exact h2.1 hg
theorem sort_told {n : Nat} (h0 : 0 < n) (h4 : n ≤ 4) {rs os : List Rl} : sortV (((sets n).flatMap (rowL n rs os)).map eQ) = some ((toldL n rs os).map eQ) := by
  have mem : ∀ p, p ∈ (sets n).flatMap (rowL n rs os) ↔ p ∈ prods n ∧ toldB n rs os p.2 p.1 = true := fun p => by
    rw [List.mem_flatMap, prods_mem]
    constructor
    · rintro ⟨f, hf, hp⟩
      obtain ⟨rfl, h1, h2⟩ := (rowL_mem h0 h4).mp hp
      exact ⟨⟨h1, hf⟩, h2⟩
    · rintro ⟨⟨h1, h2⟩, h3⟩
      exact ⟨p.2, h2, (rowL_mem h0 h4).mpr ⟨rfl, h1, h3⟩⟩
  rw [sortV_Q h4 (fun p hp => by
    have := (prods_mem.mp ((mem p).mp hp).1)
    exact ⟨sets_ok h0 h4 _ this.1, sets_ok h0 h4 _ this.2⟩), sort_in (P := fun p => toldB n rs os p.2 p.1) (prods_ch h0 h4) (found_nd h0 h4 _ (sets_nd h0 h4)) (fun p hp => ((mem p).mp hp).1) (fun p hp => ⟨fun h => (mem p).mpr ⟨hp, h⟩, fun h => ((mem p).mp h).2⟩)]
  rfl
theorem rowL_len {n : Nat} (h0 : 0 < n) (h4 : n ≤ 4) {rs os : List Rl} {f : List Nat} : (rowL n rs os f).length ≤ 32 := by
  unfold rowL
  rw [List.length_map]
  refine Nat.le_trans (List.length_filter_le _ _) ?_
  rw [List.length_append]
  have := setsP_len h0 h4 (rs := rs ++ factsP f)
  have := setsP_len h0 h4 (rs := os ++ factsP f)
  omega
theorem flat_len {n : Nat} (h0 : 0 < n) (h4 : n ≤ 4) {rs os : List Rl} : ∀ l : List (List Nat), (l.flatMap (rowL n rs os)).length ≤ l.length * 32
  | [] => by simp
  | f :: l => by
    rw [List.flatMap_cons, List.length_append, List.length_cons, Nat.succ_mul]
    have := flat_len h0 h4 (rs := rs) (os := os) l
    have := rowL_len h0 h4 (rs := rs) (os := os) (f := f)
    omega
theorem ext_of {h : PH} {n : Nat} {xs ys : List PV} (e : liveL h n = some xs) (l : xs.length + ys.length ≤ sizeLine) : mthR .extend (.ref n) [.lst ys] h = .ok .non (h.set n (.lst (xs ++ ys))) := by
  have s : see h (.lst ys) = .lst ys := rfl
  simp [mthR, Mth.den, e, l, s]
theorem fin_lst {n : Nat} {ys : List PV} {h h0 t : PH} {Q : PV → PH → Prop} (e : h = h0 ++ t) (l : h0.length = n) (u : h0.all (PO.under n) = true) (ux : PV.unders n ys = true) (q : Q (.lst ys) h0) : (fixR false n (.lst ys) h).wp Q := by
  have et : h.take n = h0 := by rw [e, ← l, List.take_left]
  unfold fixR
  split
  · rename_i c
    rw [Bool.false_or, beq_iff_eq] at c
    have : h = h0 := by rw [← et, ← c, List.take_length]
    rw [this]
    exact q
  · rw [et, if_pos u]
    have u2 : (PV.lst ys).under n = true := by rw [PV.under]; exact ux
    simp only [u2, if_true]
    exact q
theorem told_spec {n : Nat} {rs os : List Rl} (hb : BookOk n rs) (ho : BookOk n os) (l1 : rs.length ≤ 40) (l2 : os.length ≤ 40) (k : Nat) {h : PH} (hf : Flat h) : call Tb (k + 8) "_law_told" [eB n rs, eB n os] h = .ok (.lst ((toldL n rs os).map eQ)) h := by
  have n0 := hb.n1
  have n4 := hb.n4
  refine wp_same (Q := fun _ _ => True) ?_
  rw [call_eq (fn := f__law_told) rfl]
  refine run_wp (by rfl) ?_
  simp only [f__law_told]
  have sz2 : (2 : Nat) ≤ sizeLine := by decide
  have e3 := law_sets_spec (T := Tb) rfl n0 n4 (k + 6) h
  rw [wp_cons]
  simp [S.den, E.den, Es.den, startP, newLst]
  rw [wp_cons]
  have e3' := law_sets_spec (T := Tb) rfl n0 n4 (k + 6) (h ++ [.lst []])
  simp [S.den, E.den, Es.den, R.I.den, e3']
  obtain ⟨I, hI⟩ : ∃ I : Nat → Sl → PH → Prop, I = fun i ρ h' => ∃ (x3 x4 x5 x6 : Option PV), ρ = [some (eB n rs), some (eB n os), some (.ref h.length), x3, x4, x5, x6] ∧ h' = h ++ [.lst (((((sets n).take i)).flatMap (rowL n rs os)).map eQ)] := ⟨_, rfl⟩
  refine for_wp I ?_ ?_ ?_
  · rw [hI]; exact ⟨_, _, _, _, rfl, by simp⟩
  · intro i x ρ h' hx hi
    rw [hI] at hi
    obtain ⟨x3, x4, x5, x6, rfl, rfl⟩ := hi
    rw [List.getElem?_map] at hx
    cases hc : (sets n)[i]? with
    | none => rw [hc] at hx; cases hx
    | some f =>
      rw [hc] at hx
      cases hx
      have fo := sets_ok n0 n4 f (List.mem_of_getElem? hc)
      obtain ⟨h2, eh2⟩ : ∃ h2, h2 = h ++ [PO.lst (((((sets n).take i)).flatMap (rowL n rs os)).map eQ)] := ⟨_, rfl⟩
      have lv : liveL h2 h.length = some (((((sets n).take i)).flatMap (rowL n rs os)).map eQ) := by rw [eh2]; exact live_last rfl
      have g1 := settled_with_spec hb l1 fo k h2
      have g2 := settled_with_spec ho l2 fo k h2
      have o1 := setsP_ok n0 n4 (rs := rs ++ factsP f)
      have o2 := setsP_ok n0 n4 (rs := os ++ factsP f)
      have z1 := setsP_len n0 n4 (rs := rs ++ factsP f)
      have z2 := setsP_len n0 n4 (rs := os ++ factsP f)
      have ad : binop .add (eSs (setsP n (rs ++ factsP f))) (eSs (setsP n (os ++ factsP f))) = some (eSs (setsP n (rs ++ factsP f) ++ setsP n (os ++ factsP f))) := by
        unfold eSs
        simp only [binop, List.length_map, List.map_append]
        rw [if_pos (by rw [sizeLine_eq]; omega)]
      have sq : ∀ l, seqV (eSs l) = some (l.map eS) := fun l => rfl
      have se : ∀ l, see h2 (eSs l) = eSs l := fun l => rfl
      have sv : ∀ s, see h2 (eS s) = eS s := fun s => rfl
      rw [← eh2]
      simp
      rw [wp_cons]
      simp [S.den, E.den, Es.den, g1, g2, sz2, putAll]
      rw [wp_cons]
      have hl : (((((sets n).take i)).flatMap (rowL n rs os)).map eQ).length + ((rowL n rs os f).map eQ).length ≤ sizeLine := by
        rw [List.length_map, List.length_map, sizeLine_eq]
        have a1 := flat_len n0 n4 (rs := rs) (os := os) ((sets n).take i)
        have a2 := rowL_len n0 n4 (rs := rs) (os := os) (f := f)
        have a3 := sets_len n0 n4
        rw [List.length_take] at a1
        have : min i (sets n).length * 32 ≤ 16 * 32 := Nat.mul_le_mul_right _ (by omega)
        omega
      have er : (rowL n rs os f).map eQ = (((setsP n (rs ++ factsP f) ++ setsP n (os ++ factsP f)).filter fun c => !decide (decide (c ∈ setsP n (rs ++ factsP f)) = decide (c ∈ setsP n (os ++ factsP f))))).map fun c => eQ (c, f) := by
        unfold rowL
        rw [List.map_map]
        rfl
      have ex := ext_of (ys := (rowL n rs os f).map eQ) lv hl
      simp only [S.den, E.den, Es.den, R.I.den, R.T.den]
      simp [isLive_of lv, ad, se, sq, wipeP, -List.map_append]
      rw [lc_some (fun c => !decide (decide (c ∈ setsP n (rs ++ factsP f)) = decide (c ∈ setsP n (os ++ factsP f)))) fun c => eQ (c, f)]
      · rw [← er]
        simp [ex, newLst]
        rw [hI]
        refine ⟨_, _, _, _, rfl, ?_⟩
        rw [eh2, set_last rfl, List.take_add_one, hc, List.flatMap_append, List.map_append]
        simp
      · intro c hc
        have co : SetOk n c := (List.mem_append.mp hc).elim (o1 c) (o2 c)
        have i1 := (in_Ss n4 co o1).1
        have i2 := (in_Ss n4 co o2).1
        generalize decide (c ∈ setsP n (rs ++ factsP f)) = b1 at i1 ⊢
        generalize decide (c ∈ setsP n (os ++ factsP f)) = b2 at i2 ⊢
        simp [sv, se, i1, i2, sz2]
        cases b1 <;> cases b2 <;> simp [eQ]
  · intro ρ h' hi
    rw [hI] at hi
    obtain ⟨x3, x4, x5, x6, rfl, rfl⟩ := hi
    have lv : liveL (h ++ [PO.lst (((sets n).flatMap (rowL n rs os)).map eQ)]) h.length = some (((sets n).flatMap (rowL n rs os)).map eQ) := live_last rfl
    rw [List.length_map, List.take_length]
    dsimp only
    rw [wp_cons]
    have so := sort_told n0 n4 (rs := rs) (os := os)
    have bs : Blt.den .sorted [.ref h.length] (h ++ [PO.lst (((sets n).flatMap (rowL n rs os)).map eQ)]) = some (.lst ((toldL n rs os).map eQ)) := by
      unfold Blt.den
      simp only [List.map_cons, List.map_nil, see, lv, Blt.den0, so, Option.map_some]
    simp [S.den, E.den, Es.den, bs]
    refine fin_lst (h0 := h) rfl rfl (hf.all _) (unders_Q _) ⟨rfl, rfl⟩
theorem found_told {n : Nat} {rs os : List Rl} {p : Pr2} (hp : p ∈ foundL n rs os) : toldB n rs os p.1 p.2 = true := by
  obtain ⟨c, hc, hm⟩ := List.mem_flatMap.mp hp
  obtain ⟨f, hf, rfl⟩ := List.mem_map.mp hm
  exact (List.mem_filter.mp hf).2
theorem idx_of {xs : List PV} {i : Nat} {x : PV} {h : PH} (e : xs[i]? = some x) : idxV (.tup xs) (.int (i : Nat)) h = some x := atI_nat (xs := xs) (j := i) e
theorem i0 {x : PV} {xs : List PV} {h : PH} : idxV (.tup (x :: xs)) (.int 0) h = some x := atI_nat (xs := x :: xs) (j := 0) (by simp)
theorem i1 {x y : PV} {xs : List PV} {h : PH} : idxV (.tup (x :: y :: xs)) (.int 1) h = some y := atI_nat (xs := x :: y :: xs) (j := 1) (by simp)
theorem i2 {x y z : PV} {xs : List PV} {h : PH} : idxV (.tup (x :: y :: z :: xs)) (.int 2) h = some z := atI_nat (xs := x :: y :: z :: xs) (j := 2) (by simp)
theorem shows_by_spec {n : Nat} {rs os : List Rl} (hb : BookOk n rs) (ho : BookOk n os) (l1 : rs.length ≤ 40) (l2 : os.length ≤ 40) (k : Nat) (h : PH) : call Tb (k + 9) "shows_by_facts" [eB n rs, eB n os, byV n rs os] h = .ok (.bl true) h := by
  have n0 := hb.n1
  have n4 := hb.n4
  rw [call_eq (fn := f_shows_by_facts) rfl]
  refine run_ret rfl ?_
  have e0 := need_books_spec hR.toHasRules0 (T := Tb) rfl (bs := [rs, os]) (n := n) (fun q hq => by
    simp only [List.mem_cons, List.not_mem_nil, or_false] at hq
    rcases hq with rfl | rfl <;> assumption) (by simp) (by simp) (k + 2) h
  simp only [List.map_cons, List.map_nil] at e0
  by_cases c : kernP (pairsP n rs) = kernP (pairsP n os)
  · rw [byV_eq c]
    have e1 := kernel_of_spec hP (T := Tb) rfl rfl rfl rfl n0 n4 hb.ok k h
    have e2 := kernel_of_spec hP (T := Tb) rfl rfl rfl rfl n0 n4 ho.ok k h
    have ee := (eq_T n4 (kern_ok (rs := rs) n0 n4) (kern_ok (rs := rs) n0 n4)).1
    have kk := kern_ok (rs := rs) n0 n4
    rw [← c] at e2
    generalize kernP (pairsP n rs) = K at e1 e2 ee kk
    have tT : tyName (eT K) h = some "tuple" := rfl
    have t1 : tyName (.tup [.str "same", eT K]) h = some "tuple" := rfl
    have t2 : tyName (.str "same") h = some "str" := rfl
    have t3 : lenV (.tup [.str "same", eT K]) h = some (.int 2) := rfl
    have s1 : cmpop .eq (.str "same") (.str "same") = some true := rfl
    simp only [f_shows_by_facts, Ss.den, S.den, E.den, Es.den, Es.denB, bools, R.T.den, Ts.den, R.I.den, startP, wipeP]
    simp [e0, isiV, isiTab, t1, t2, t3, tT, i0, i1, s1]
    rw [lc_all (fun _ => .bl true)]
    · simp [e1, e2, ee, i1]
    · intro x hx
      have := is_pair_spec n4 (kk x hx) (k + 4) h
      simp [this]
  · obtain ⟨cc, hcc, f, hf, tt⟩ := told_ex n0 n4 hb.ok ho.ok c
    have ne : foundL n rs os ≠ [] := fun z => by
      have : (f, cc) ∈ foundL n rs os := List.mem_flatMap.mpr ⟨cc, hcc, List.mem_map.mpr ⟨f, List.mem_filter.mpr ⟨hf, tt⟩, rfl⟩⟩
      rw [z] at this
      cases this
    cases hl : foundL n rs os with
    | nil => exact absurd hl ne
    | cons p l =>
      rw [byV_ne c (p := p) (by rw [hl]; rfl)]
      have hp : p ∈ foundL n rs os := by rw [hl]; exact List.mem_cons_self
      obtain ⟨o1, o2⟩ := found_ok n0 n4 hp
      have td := found_told hp
      have e1 := is_set_spec (T := Tb) rfl rfl rfl o1 (k + 5) h
      have e2 := is_set_spec (T := Tb) rfl rfl rfl o2 (k + 5) h
      have e3 := is_told_spec hb ho l1 l2 o1 o2 (k + 2) h
      rw [td] at e3
      have t1 : tyName (.tup [.str "differ", eS p.1, eS p.2]) h = some "tuple" := rfl
      have t2 : tyName (.str "differ") h = some "str" := rfl
      have t3 : lenV (.tup [.str "differ", eS p.1, eS p.2]) h = some (.int 3) := rfl
      have s1 : cmpop .eq (.str "differ") (.str "same") = some false := rfl
      have s2 : cmpop .ne (.str "differ") (.str "differ") = some false := rfl
      simp only [f_shows_by_facts, Ss.den, S.den, E.den, Es.den, Es.denB, bools, R.T.den, Ts.den, R.I.den, startP, wipeP]
      simp [e0, isiV, isiTab, t1, t2, t3, i0, i1, i2, s1, s2, e1, e2, e3]
theorem told_nil {n : Nat} {rs os : List Rl} (hb : BookOk n rs) (ho : BookOk n os) : toldL n rs os = [] ↔ kernP (pairsP n rs) = kernP (pairsP n os) := by
  have n0 := hb.n1
  have n4 := hb.n4
  constructor
  · intro h
    refine Classical.byContradiction fun ne => ?_
    obtain ⟨c, hc, f, hf, t⟩ := told_ex n0 n4 hb.ok ho.ok ne
    have : (c, f) ∈ toldL n rs os := List.mem_filter.mpr ⟨prods_mem.mpr ⟨hc, hf⟩, t⟩
    rw [h] at this
    cases this
  · intro e
    unfold toldL
    rw [List.filter_eq_nil_iff]
    intro p hp
    have pm := prods_mem.mp hp
    rw [told_no n0 n4 hb.ok ho.ok e (sets_ok n0 n4 _ pm.2) (sets_ok n0 n4 _ pm.1)]
    decide
theorem right_spec {n : Nat} {rs os : List Rl} (hb : BookOk n rs) (ho : BookOk n os) (l1 : rs.length ≤ 40) (l2 : os.length ≤ 40) (k : Nat) {h : PH} (hf : Flat h) : call Tb (k + 10) "_law_right" [eB n rs, eB n os] h = .ok (.bl true) h := by
  have n0 := hb.n1
  have n4 := hb.n4
  rw [call_eq (fn := f__law_right_v4) rfl]
  refine run_ret rfl ?_
  have e1 := by_facts_spec hb ho l1 l2 k h
  have e2 := told_spec hb ho l1 l2 (k + 1) hf
  have e3 := shows_by_spec hb ho l1 l2 k h
  have sz3 : (3 : Nat) ≤ sizeLine := by decide
  have hnil := told_nil hb ho
  by_cases c : kernP (pairsP n rs) = kernP (pairsP n os)
  · rw [byV_eq c] at e1 e3
    rw [hnil.mpr c] at e2
    have s1 : cmpop .eq (.str "same") (.str "same") = some true := rfl
    have s2 : cmpop .eq (.lst []) (.lst []) = some true := rfl
    have s3 : cmpop .notN (.bl true) (.bl true) = some false := rfl
    simp only [f__law_right_v4, Ss.den, S.den, E.den, Es.den, R.T.den, Ts.den, startP]
    simp [e1, e2, e3, i0, s1, s2, s3]
  · cases hl : toldL n rs os with
    | nil => exact absurd (hnil.mp hl) c
    | cons p l =>
      have hh : foundL n rs os = (p.2, p.1) :: l.map fun p => (p.2, p.1) := by rw [← toldL_swap, hl]; rfl
      have eb := byV_ne c (p := (p.2, p.1)) (by rw [hh]; rfl)
      rw [eb] at e1 e3
      rw [hl] at e2
      have dc := da_by (rs := rs) (os := os) n0 n4
      rw [eb] at dc
      have sh := show_one dc (by decide) (by decide)
      have sm := is_equal_spec (T := Tb) rfl (p := .tup [.str "differ", eS p.2, eS p.1]) (q := .tup [.str "differ", eS p.2, eS p.1]) (h := h) sh sh (k + 8)
      have s1 : cmpop .eq (.str "differ") (.str "same") = some false := rfl
      have s2 : cmpop .eq (.lst ((p :: l).map eQ)) (.lst []) = some false := by
        have pm : ∀ q ∈ p :: l, SetOk n q.1 ∧ SetOk n q.2 := fun q hq => by
          rw [← hl] at hq
          have := prods_mem.mp (List.mem_filter.mp hq).1
          exact ⟨sets_ok n0 n4 _ this.1, sets_ok n0 n4 _ this.2⟩
        have fn : (PV.lst ((p :: l).map eQ)).fine = true := (da_lst (d := 2) (c := 53) (n := (p :: l).length) (fun x hx => by
          obtain ⟨q, hq, rfl⟩ := List.mem_map.mp hx
          exact da_tup (d := 1) (c := 23) (n := 2) (xs := [eS q.1, eS q.2]) (fun x hx => by
            simp only [List.mem_cons, List.not_mem_nil, or_false] at hx
            rcases hx with rfl | rfl
            · exact (pm q hq).1.da n4
            · exact (pm q hq).2.da n4) (by simp)) (by simp)).fine (by decide)
        have := (eq_lst (xs := p :: l) (ys := []) eqv_Q fn rfl).1
        simpa using this
      have s3 : cmpop .notN (.bl true) (.bl true) = some false := rfl
      have j0 : idxV (.lst ((p :: l).map eQ)) (.int 0) h = some (eQ p) := atI_nat (xs := (p :: l).map eQ) (j := 0) (by simp)
      have q0 : idxV (eQ p) (.int 0) h = some (eS p.1) := atI_nat (xs := [eS p.1, eS p.2]) (j := 0) (by simp)
      have q1 : idxV (eQ p) (.int 1) h = some (eS p.2) := atI_nat (xs := [eS p.1, eS p.2]) (j := 1) (by simp)
      generalize (p :: l).map eQ = L at e2 s2 j0
      simp only [f__law_right_v4, Ss.den, S.den, E.den, Es.den, R.T.den, Ts.den, startP]
      simp [e1, e2, e3, i0, s1, s2, s3, j0, q0, q1, sz3, sm]
theorem law_true (ns : List Int) (hl : ns.length ≤ 63) : ∃ h', call Tb 13 "law" [.scr ns] [] = .ok (.bl true) h' := by
  refine law_outer (T := Tb) (k := 12) (N := 3) (fc := "_law_cell") (fp := "_law_source") (c1 := 3) (c2 := 5) rfl (by decide) (by decide) (fun ns i h => cell_spec (T := Tb) rfl ns i 11 h) (fun c h => source_spec (T := Tb) rfl c 11 h) ?_ ns hl
  intro ns p x1 j xs h hxs hf hp _
  obtain ⟨x4, x5, x6, rfl⟩ := len3 hxs
  rw [wp_cons]
  simp [S.den, E.den, Es.den, wp_out]
  refine wp_mono (two_spec hT (T := Tb) rfl rfl hp hf 6) ?_
  rintro v h2 ⟨n, rs, os, rfl, hb, few, ho, lo, ps⟩
  have hf2 := ps.flat hf
  have hp2 := ps.at hp.lt
  clear ps hf hp
  simp [putAll]
  have sz2 : (2 : Nat) ≤ sizeLine := by decide
  have eb : ∀ rs, PV.tup [PV.int n, eRs rs] = eB n rs := fun rs => rfl
  have er := right_spec hb ho (by omega) (by omega) 2 hf2
  rw [wp_cons]
  simp [S.den, E.den, Es.den, R.T.den, sz2, eb, er]
  exact ⟨⟨_, _, _, rfl, rfl⟩, hf2, hp2⟩
end LW

open PySem PySem.W PySem.Calls PyProof.Rows
theorem PySem.Challenge.cw_defaultswaps_k37_whole_facts_alone_holds : PySem.Challenge.rw_defaultswaps_k37_whole_facts_alone.Holds := by
  w_on; o_law
  refine HandSHeadRun.head_any (r := OpenLaw.row PySem.Challenge.rw_defaultswaps_k37_whole_facts_alone) (q := view (OpenLaw.row PySem.Challenge.rw_defaultswaps_k37_whole_facts_alone).prog [62]) (H := HD.hk) (ob := HD.ob) (M := 6000) (loose := HD.loose) (d := HandSHeadRun.topDef (OpenLaw.row PySem.Challenge.rw_defaultswaps_k37_whole_facts_alone).prog 62) (kwd := []) HD.ob_eq
    (by kernel_rfl) (fun s => by kernel_rfl) HD.run (by kernel_rfl) (by kernel_rfl) (by kernel_rfl) (by rfl) (by first | assumption | decide +kernel) (by decide +kernel) ⟨rfl, rfl, rfl, rfl, rfl, by decide +kernel⟩ ?hw ?hc
  case hw => w_witness2
  case hc =>
    exact R.walkG (l := PySem.Challenge.rw_defaultswaps_k37_whole_facts_alone) (n := 63) (k := 13) (rs := HD.rows) (blts := HD.blts) (cons := HD.cons) (fa := HD.fa) (fns := HD.fn) rfl (by decide) (by kernel_rfl) ⟨rfl, by decide, by decide⟩ (by kernel_rfl) (fun w h Y => Y) HD.rows_ok HD.blt_ok (by decide +kernel) LW.law_true
